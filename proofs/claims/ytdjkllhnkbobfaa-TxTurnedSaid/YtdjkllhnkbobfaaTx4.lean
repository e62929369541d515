/- A trade that the laws make up. -/
import Derived.Test.YtdjkllhnkbobfaaTx3
namespace Go.Proofs.Ytdjkllhnkbobfaa
open Go Go.Proofs
set_option maxRecDepth 100000
theorem band_range (a b : Int) : 0 ≤ band .u64 a b ∧ band .u64 a b < 18446744073709551616 := by
  unfold band; rw [IntKind.wrap_u64]; omega
theorem TxD.val_mk (k a to : Int) (b : Bool) (p q i : Int) : Value.agg #[.int .i64 k, .int .i64 a, .int .i64 to, .bool b, .int .u64 p, .int .u64 q, .int .i64 i] = (TxD.mk k a to b p q i).val := rfl
theorem zero_u64 : (0 : Int) ≤ 0 ∧ (0 : Int) < 18446744073709551616 := by omega
theorem zero_I64 : I64 0 := by unfold I64; omega

theorem law_Tx {W : World} {F : List HProp} [Abs F] (x y : Int) (hx : 0 ≤ x ∧ x < 18446744073709551616) (hy : 0 ≤ y ∧ y < 18446744073709551616) :
    CallsK W Try.prog 34 #[.int .u64 x, .int .u64 y] (F) (fun v L => ∃ t : TxD, v = t.val ∧ t.Wf ∧ Lands L F) := by
  refine CallsK_enter (n := 71) Try.func34 rfl rfl rfl ?_
  refine SC_seq ?_
  refine SC_region ?_
  refine SR_ox (OX_alloc Try.zeroValue54 rfl) rfl ?_
  rintro _ _ ⟨b4, rfl, rfl⟩
  refine SR_nil ?_
  refine SN.le (l := [(0, _), (1, _), (4, _)]) ?_ (.cons rfl (.cons rfl (.cons rfl (.nil))))
  refine SN_seq ?_
  refine SC_seq ?_
  refine SC_region ?_
  refine SR_pu (RD_move rfl) rfl ?_
  refine SR_pu (RD_and rfl rfl) rfl ?_
  first
    | refine SR_pu (RD_convi64 Try.runUnderlying23 Try.runUnderlying3 rfl (by omega) (by omega)) rfl ?_
    | refine SR_pu (RD_convI Try.runUnderlying23 Try.runUnderlying3 rfl) rfl ?_
  refine SR_pu (RD_build (.cons rfl (.nil)) built54_0) rfl ?_
  refine SR_ox (OX_alloc Try.zeroValue54 rfl) rfl ?_
  rintro _ _ ⟨b5, rfl, rfl⟩
  refine SR_ox0 (OX_stA Try.sizeOf54 rfl rfl rfl rfl) ?_
  rintro _ _ rfl
  refine SR_nil ?_
  refine SN.le (l := [(0, _), (1, _), (4, _), (5, _)]) ?_ (.cons rfl (.cons rfl (.cons rfl (.cons rfl (.nil)))))
  refine SN_seq ?_
  refine SC_seq ?_
  refine SC_seq ?_
  refine SC_region ?_
  first
    | refine SR_pu (RD_fieldAddr0 Try.runUnderlying54 rfl rfl Try.sizeOf3 rfl) rfl ?_
    | refine SR_rd (RD_fieldAddrO 0 Try.runUnderlying54 rfl rfl Try.sizeOf3 rfl (by simp <;> omega)) Has.ro rfl ?_
  refine SR_rd (RD_load Try.isAgg3 rfl) (Has.ce rfl) rfl ?_
  refine SR_nil ?_
  refine SN.le (l := [(0, _), (1, _), (4, _), (5, _), (11, _)]) ?_ (.cons rfl (.cons rfl (.cons rfl (.cons rfl (.cons rfl (.nil))))))
  refine SN_seq ?_
  refine SC_block ?_
  refine SC_seq ?_
  refine SC_seq ?_
  refine SC_region ?_
  refine SR_pu (RD_eql rfl rfl) rfl ?_
  refine SR_pu (RD_assign rfl) rfl ?_
  refine SR_nil ?_
  refine SN.le (l := [(0, _), (1, _), (4, _), (5, _), (11, _), (12, _)]) ?_ (.cons rfl (.cons rfl (.cons rfl (.cons rfl (.cons rfl (.cons rfl (.nil)))))))
  refine SN_seq ?_
  refine SC_cond rfl (fun hA12 => ?_) (fun hA12 => ?_)
  · refine SC_skip ?_
    refine SN_seq ?_
    refine SC_cond_true rfl (hA12) ?_
    refine SC_region ?_
    refine SR_pu (RD_move rfl) rfl ?_
    refine SR_pu (RD_shr rfl rfl (by omega)) rfl ?_
    refine SR_pu (RD_and rfl rfl) rfl ?_
    first
      | refine SR_pu (RD_convi64 Try.runUnderlying23 Try.runUnderlying3 rfl (by omega) (by omega)) rfl ?_
      | refine SR_pu (RD_convI Try.runUnderlying23 Try.runUnderlying3 rfl) rfl ?_
    refine SR_pu (RD_move rfl) rfl ?_
    refine SR_pu (RD_and rfl rfl) rfl ?_
    first
      | refine SR_pu (RD_fieldAddr 1 Try.runUnderlying54 rfl rfl Try.sizeOf3 rfl) rfl ?_
      | refine SR_rd (RD_fieldAddrO 1 Try.runUnderlying54 rfl rfl Try.sizeOf3 rfl (by simp <;> omega)) Has.ro rfl ?_
    refine SR_ox0 (OX_st Try.sizeOf3 rfl rfl) ?_
    rintro _ _ rfl
    first
      | refine SR_pu (RD_fieldAddr 5 Try.runUnderlying54 rfl rfl Try.sizeOf23 rfl) rfl ?_
      | refine SR_rd (RD_fieldAddrO 5 Try.runUnderlying54 rfl rfl Try.sizeOf23 rfl (by simp <;> omega)) Has.ro rfl ?_
    refine SR_ox0 (OX_st Try.sizeOf23 rfl rfl) ?_
    rintro _ _ rfl
    refine SR_nil ?_
    refine SN.le (l := [(0, _), (1, _), (4, _), (5, _)]) ?_ (.cons rfl (.cons rfl (.cons rfl (.cons rfl (.nil)))))
    refine SN_block ?_
    refine SN_seq ?_
    refine SC_seq ?_
    refine SC_seq ?_
    refine SC_region ?_
    refine SR_pu (RD_move rfl) rfl ?_
    refine SR_pu (RD_shr rfl rfl (by omega)) rfl ?_
    refine SR_pu (RD_and rfl rfl) rfl ?_
    refine SR_pu (RD_eql rfl rfl) rfl ?_
    refine SR_nil ?_
    refine SN.le (l := [(1, _), (4, _), (5, _), (63, _)]) ?_ (.cons rfl (.cons rfl (.cons rfl (.cons rfl (.nil)))))
    refine SN_seq ?_
    refine SC_cond rfl (fun hc63 => ?_) (fun hc63 => ?_)
    · refine SC_region ?_
      refine SR_pu (RD_move rfl) rfl ?_
      refine SR_pu (RD_move rfl) rfl ?_
      refine SR_pu (RD_shr rfl rfl (by omega)) rfl ?_
      first
        | refine SR_pu (RD_convi64 Try.runUnderlying23 Try.runUnderlying3 rfl (by omega) (by omega)) rfl ?_
        | refine SR_pu (RD_convI Try.runUnderlying23 Try.runUnderlying3 rfl) rfl ?_
      first
        | refine SR_pu (RD_fieldAddr 5 Try.runUnderlying54 rfl rfl Try.sizeOf23 rfl) rfl ?_
        | refine SR_rd (RD_fieldAddrO 5 Try.runUnderlying54 rfl rfl Try.sizeOf23 rfl (by simp <;> omega)) Has.ro rfl ?_
      refine SR_ox0 (OX_st Try.sizeOf23 rfl rfl) ?_
      rintro _ _ rfl
      first
        | refine SR_pu (RD_fieldAddr 6 Try.runUnderlying54 rfl rfl Try.sizeOf3 rfl) rfl ?_
        | refine SR_rd (RD_fieldAddrO 6 Try.runUnderlying54 rfl rfl Try.sizeOf3 rfl (by simp <;> omega)) Has.ro rfl ?_
      refine SR_ox0 (OX_st Try.sizeOf3 rfl rfl) ?_
      rintro _ _ rfl
      refine SR_nil ?_
      refine SN.le (l := [(4, _), (5, _)]) ?_ (.cons rfl (.cons rfl (.nil)))
      refine SN_seq ?_
      refine SC_seq ?_
      refine SC_region ?_
      refine SR_rd (RD_loadA Try.isAgg54 Try.sizeOf54 rfl rfl) Has.wh rfl ?_
      refine SR_ox0 (OX_stA Try.sizeOf54 rfl rfl rfl rfl) ?_
      rintro _ _ rfl
      refine SR_nil ?_
      refine SN.le (l := [(4, _)]) ?_ (.cons rfl (.nil))
      refine SN_seq ?_
      refine SC_retC rfl Try.isAgg54 Try.sizeOf54 rfl rfl Has.wh ?_
      refine ⟨_, TxD.val_mk _ _ _ _ _ _ _, ?_, .fin⟩
      refine ⟨?_, ?_, ?_, ?_, ?_, ?_⟩ <;> first | exact wrap_I64 _ | exact band_range _ _ | exact hy | exact zero_I64 | exact zero_u64
    · refine SC_skip ?_
      refine SN_seq ?_
      refine SC_seq ?_
      refine SC_region ?_
      refine SR_rd (RD_loadA Try.isAgg54 Try.sizeOf54 rfl rfl) Has.wh rfl ?_
      refine SR_ox0 (OX_stA Try.sizeOf54 rfl rfl rfl rfl) ?_
      rintro _ _ rfl
      refine SR_nil ?_
      refine SN.le (l := [(4, _)]) ?_ (.cons rfl (.nil))
      refine SN_seq ?_
      refine SC_retC rfl Try.isAgg54 Try.sizeOf54 rfl rfl Has.wh ?_
      refine ⟨_, TxD.val_mk _ _ _ _ _ _ _, ?_, .fin⟩
      refine ⟨?_, ?_, ?_, ?_, ?_, ?_⟩ <;> first | exact wrap_I64 _ | exact band_range _ _ | exact hy | exact zero_I64 | exact zero_u64
  · refine SC_region ?_
    refine SR_pu (RD_eql rfl rfl) rfl ?_
    refine SR_pu (RD_assign rfl) rfl ?_
    refine SR_nil ?_
    refine SN.le (l := [(0, _), (1, _), (4, _), (5, _), (11, _), (12, _)]) ?_ (.cons rfl (.cons rfl (.cons rfl (.cons rfl (.cons rfl (.cons rfl (.nil)))))))
    refine SN_seq ?_
    refine SC_cond rfl (fun hB12 => ?_) (fun hB12 => ?_)
    · refine SC_region ?_
      refine SR_pu (RD_move rfl) rfl ?_
      refine SR_pu (RD_shr rfl rfl (by omega)) rfl ?_
      refine SR_pu (RD_and rfl rfl) rfl ?_
      first
        | refine SR_pu (RD_convi64 Try.runUnderlying23 Try.runUnderlying3 rfl (by omega) (by omega)) rfl ?_
        | refine SR_pu (RD_convI Try.runUnderlying23 Try.runUnderlying3 rfl) rfl ?_
      refine SR_pu (RD_move rfl) rfl ?_
      refine SR_pu (RD_and rfl rfl) rfl ?_
      first
        | refine SR_pu (RD_fieldAddr 1 Try.runUnderlying54 rfl rfl Try.sizeOf3 rfl) rfl ?_
        | refine SR_rd (RD_fieldAddrO 1 Try.runUnderlying54 rfl rfl Try.sizeOf3 rfl (by simp <;> omega)) Has.ro rfl ?_
      refine SR_ox0 (OX_st Try.sizeOf3 rfl rfl) ?_
      rintro _ _ rfl
      first
        | refine SR_pu (RD_fieldAddr 5 Try.runUnderlying54 rfl rfl Try.sizeOf23 rfl) rfl ?_
        | refine SR_rd (RD_fieldAddrO 5 Try.runUnderlying54 rfl rfl Try.sizeOf23 rfl (by simp <;> omega)) Has.ro rfl ?_
      refine SR_ox0 (OX_st Try.sizeOf23 rfl rfl) ?_
      rintro _ _ rfl
      refine SR_nil ?_
      refine SN.le (l := [(0, _), (1, _), (4, _), (5, _)]) ?_ (.cons rfl (.cons rfl (.cons rfl (.cons rfl (.nil)))))
      refine SN_block ?_
      refine SN_seq ?_
      refine SC_seq ?_
      refine SC_seq ?_
      refine SC_region ?_
      refine SR_pu (RD_move rfl) rfl ?_
      refine SR_pu (RD_shr rfl rfl (by omega)) rfl ?_
      refine SR_pu (RD_and rfl rfl) rfl ?_
      refine SR_pu (RD_eql rfl rfl) rfl ?_
      refine SR_nil ?_
      refine SN.le (l := [(1, _), (4, _), (5, _), (63, _)]) ?_ (.cons rfl (.cons rfl (.cons rfl (.cons rfl (.nil)))))
      refine SN_seq ?_
      refine SC_cond rfl (fun hc63 => ?_) (fun hc63 => ?_)
      · refine SC_region ?_
        refine SR_pu (RD_move rfl) rfl ?_
        refine SR_pu (RD_move rfl) rfl ?_
        refine SR_pu (RD_shr rfl rfl (by omega)) rfl ?_
        first
          | refine SR_pu (RD_convi64 Try.runUnderlying23 Try.runUnderlying3 rfl (by omega) (by omega)) rfl ?_
          | refine SR_pu (RD_convI Try.runUnderlying23 Try.runUnderlying3 rfl) rfl ?_
        first
          | refine SR_pu (RD_fieldAddr 5 Try.runUnderlying54 rfl rfl Try.sizeOf23 rfl) rfl ?_
          | refine SR_rd (RD_fieldAddrO 5 Try.runUnderlying54 rfl rfl Try.sizeOf23 rfl (by simp <;> omega)) Has.ro rfl ?_
        refine SR_ox0 (OX_st Try.sizeOf23 rfl rfl) ?_
        rintro _ _ rfl
        first
          | refine SR_pu (RD_fieldAddr 6 Try.runUnderlying54 rfl rfl Try.sizeOf3 rfl) rfl ?_
          | refine SR_rd (RD_fieldAddrO 6 Try.runUnderlying54 rfl rfl Try.sizeOf3 rfl (by simp <;> omega)) Has.ro rfl ?_
        refine SR_ox0 (OX_st Try.sizeOf3 rfl rfl) ?_
        rintro _ _ rfl
        refine SR_nil ?_
        refine SN.le (l := [(4, _), (5, _)]) ?_ (.cons rfl (.cons rfl (.nil)))
        refine SN_seq ?_
        refine SC_seq ?_
        refine SC_region ?_
        refine SR_rd (RD_loadA Try.isAgg54 Try.sizeOf54 rfl rfl) Has.wh rfl ?_
        refine SR_ox0 (OX_stA Try.sizeOf54 rfl rfl rfl rfl) ?_
        rintro _ _ rfl
        refine SR_nil ?_
        refine SN.le (l := [(4, _)]) ?_ (.cons rfl (.nil))
        refine SN_seq ?_
        refine SC_retC rfl Try.isAgg54 Try.sizeOf54 rfl rfl Has.wh ?_
        refine ⟨_, TxD.val_mk _ _ _ _ _ _ _, ?_, .fin⟩
        refine ⟨?_, ?_, ?_, ?_, ?_, ?_⟩ <;> first | exact wrap_I64 _ | exact band_range _ _ | exact hy | exact zero_I64 | exact zero_u64
      · refine SC_skip ?_
        refine SN_seq ?_
        refine SC_seq ?_
        refine SC_region ?_
        refine SR_rd (RD_loadA Try.isAgg54 Try.sizeOf54 rfl rfl) Has.wh rfl ?_
        refine SR_ox0 (OX_stA Try.sizeOf54 rfl rfl rfl rfl) ?_
        rintro _ _ rfl
        refine SR_nil ?_
        refine SN.le (l := [(4, _)]) ?_ (.cons rfl (.nil))
        refine SN_seq ?_
        refine SC_retC rfl Try.isAgg54 Try.sizeOf54 rfl rfl Has.wh ?_
        refine ⟨_, TxD.val_mk _ _ _ _ _ _ _, ?_, .fin⟩
        refine ⟨?_, ?_, ?_, ?_, ?_, ?_⟩ <;> first | exact wrap_I64 _ | exact band_range _ _ | exact hy | exact zero_I64 | exact zero_u64
    · refine SC_seq ?_
      refine SC_region ?_
      refine SR_pu (RD_eql rfl rfl) rfl ?_
      refine SR_pu (RD_assign rfl) rfl ?_
      refine SR_nil ?_
      refine SN.le (l := [(0, _), (1, _), (4, _), (5, _), (11, _), (23, _)]) ?_ (.cons rfl (.cons rfl (.cons rfl (.cons rfl (.cons rfl (.cons rfl (.nil)))))))
      refine SN_seq ?_
      refine SC_cond rfl (fun hc23 => ?_) (fun hc23 => ?_)
      · refine SC_region ?_
        refine SR_pu (RD_move rfl) rfl ?_
        refine SR_pu (RD_shr rfl rfl (by omega)) rfl ?_
        refine SR_pu (RD_and rfl rfl) rfl ?_
        first
          | refine SR_pu (RD_convi64 Try.runUnderlying23 Try.runUnderlying3 rfl (by omega) (by omega)) rfl ?_
          | refine SR_pu (RD_convI Try.runUnderlying23 Try.runUnderlying3 rfl) rfl ?_
        refine SR_pu (RD_move rfl) rfl ?_
        refine SR_pu (RD_shr rfl rfl (by omega)) rfl ?_
        refine SR_pu (RD_and rfl rfl) rfl ?_
        first
          | refine SR_pu (RD_convi64 Try.runUnderlying23 Try.runUnderlying3 rfl (by omega) (by omega)) rfl ?_
          | refine SR_pu (RD_convI Try.runUnderlying23 Try.runUnderlying3 rfl) rfl ?_
        refine SR_pu (RD_move rfl) rfl ?_
        refine SR_pu (RD_and rfl rfl) rfl ?_
        first
          | refine SR_pu (RD_fieldAddr 2 Try.runUnderlying54 rfl rfl Try.sizeOf3 rfl) rfl ?_
          | refine SR_rd (RD_fieldAddrO 2 Try.runUnderlying54 rfl rfl Try.sizeOf3 rfl (by simp <;> omega)) Has.ro rfl ?_
        refine SR_ox0 (OX_st Try.sizeOf3 rfl rfl) ?_
        rintro _ _ rfl
        first
          | refine SR_pu (RD_fieldAddr 1 Try.runUnderlying54 rfl rfl Try.sizeOf3 rfl) rfl ?_
          | refine SR_rd (RD_fieldAddrO 1 Try.runUnderlying54 rfl rfl Try.sizeOf3 rfl (by simp <;> omega)) Has.ro rfl ?_
        refine SR_ox0 (OX_st Try.sizeOf3 rfl rfl) ?_
        rintro _ _ rfl
        first
          | refine SR_pu (RD_fieldAddr 5 Try.runUnderlying54 rfl rfl Try.sizeOf23 rfl) rfl ?_
          | refine SR_rd (RD_fieldAddrO 5 Try.runUnderlying54 rfl rfl Try.sizeOf23 rfl (by simp <;> omega)) Has.ro rfl ?_
        refine SR_ox0 (OX_st Try.sizeOf23 rfl rfl) ?_
        rintro _ _ rfl
        refine SR_nil ?_
        refine SN.le (l := [(0, _), (1, _), (4, _), (5, _)]) ?_ (.cons rfl (.cons rfl (.cons rfl (.cons rfl (.nil)))))
        refine SN_block ?_
        refine SN_seq ?_
        refine SC_seq ?_
        refine SC_seq ?_
        refine SC_region ?_
        refine SR_pu (RD_move rfl) rfl ?_
        refine SR_pu (RD_shr rfl rfl (by omega)) rfl ?_
        refine SR_pu (RD_and rfl rfl) rfl ?_
        refine SR_pu (RD_eql rfl rfl) rfl ?_
        refine SR_nil ?_
        refine SN.le (l := [(1, _), (4, _), (5, _), (63, _)]) ?_ (.cons rfl (.cons rfl (.cons rfl (.cons rfl (.nil)))))
        refine SN_seq ?_
        refine SC_cond rfl (fun hc63 => ?_) (fun hc63 => ?_)
        · refine SC_region ?_
          refine SR_pu (RD_move rfl) rfl ?_
          refine SR_pu (RD_move rfl) rfl ?_
          refine SR_pu (RD_shr rfl rfl (by omega)) rfl ?_
          first
            | refine SR_pu (RD_convi64 Try.runUnderlying23 Try.runUnderlying3 rfl (by omega) (by omega)) rfl ?_
            | refine SR_pu (RD_convI Try.runUnderlying23 Try.runUnderlying3 rfl) rfl ?_
          first
            | refine SR_pu (RD_fieldAddr 5 Try.runUnderlying54 rfl rfl Try.sizeOf23 rfl) rfl ?_
            | refine SR_rd (RD_fieldAddrO 5 Try.runUnderlying54 rfl rfl Try.sizeOf23 rfl (by simp <;> omega)) Has.ro rfl ?_
          refine SR_ox0 (OX_st Try.sizeOf23 rfl rfl) ?_
          rintro _ _ rfl
          first
            | refine SR_pu (RD_fieldAddr 6 Try.runUnderlying54 rfl rfl Try.sizeOf3 rfl) rfl ?_
            | refine SR_rd (RD_fieldAddrO 6 Try.runUnderlying54 rfl rfl Try.sizeOf3 rfl (by simp <;> omega)) Has.ro rfl ?_
          refine SR_ox0 (OX_st Try.sizeOf3 rfl rfl) ?_
          rintro _ _ rfl
          refine SR_nil ?_
          refine SN.le (l := [(4, _), (5, _)]) ?_ (.cons rfl (.cons rfl (.nil)))
          refine SN_seq ?_
          refine SC_seq ?_
          refine SC_region ?_
          refine SR_rd (RD_loadA Try.isAgg54 Try.sizeOf54 rfl rfl) Has.wh rfl ?_
          refine SR_ox0 (OX_stA Try.sizeOf54 rfl rfl rfl rfl) ?_
          rintro _ _ rfl
          refine SR_nil ?_
          refine SN.le (l := [(4, _)]) ?_ (.cons rfl (.nil))
          refine SN_seq ?_
          refine SC_retC rfl Try.isAgg54 Try.sizeOf54 rfl rfl Has.wh ?_
          refine ⟨_, TxD.val_mk _ _ _ _ _ _ _, ?_, .fin⟩
          refine ⟨?_, ?_, ?_, ?_, ?_, ?_⟩ <;> first | exact wrap_I64 _ | exact band_range _ _ | exact hy | exact zero_I64 | exact zero_u64
        · refine SC_skip ?_
          refine SN_seq ?_
          refine SC_seq ?_
          refine SC_region ?_
          refine SR_rd (RD_loadA Try.isAgg54 Try.sizeOf54 rfl rfl) Has.wh rfl ?_
          refine SR_ox0 (OX_stA Try.sizeOf54 rfl rfl rfl rfl) ?_
          rintro _ _ rfl
          refine SR_nil ?_
          refine SN.le (l := [(4, _)]) ?_ (.cons rfl (.nil))
          refine SN_seq ?_
          refine SC_retC rfl Try.isAgg54 Try.sizeOf54 rfl rfl Has.wh ?_
          refine ⟨_, TxD.val_mk _ _ _ _ _ _ _, ?_, .fin⟩
          refine ⟨?_, ?_, ?_, ?_, ?_, ?_⟩ <;> first | exact wrap_I64 _ | exact band_range _ _ | exact hy | exact zero_I64 | exact zero_u64
      · refine SC_seq ?_
        refine SC_seq ?_
        refine SC_region ?_
        refine SR_pu (RD_eql rfl rfl) rfl ?_
        refine SR_pu (RD_assign rfl) rfl ?_
        refine SR_nil ?_
        refine SN.le (l := [(0, _), (1, _), (4, _), (5, _), (11, _), (38, _)]) ?_ (.cons rfl (.cons rfl (.cons rfl (.cons rfl (.cons rfl (.cons rfl (.nil)))))))
        refine SN_seq ?_
        refine SC_cond rfl (fun hA38 => ?_) (fun hA38 => ?_)
        · refine SC_skip ?_
          refine SN_seq ?_
          refine SC_cond_true rfl (hA38) ?_
          refine SC_region ?_
          refine SR_pu (RD_move rfl) rfl ?_
          refine SR_pu (RD_shr rfl rfl (by omega)) rfl ?_
          refine SR_pu (RD_and rfl rfl) rfl ?_
          refine SR_pu (RD_eql rfl rfl) rfl ?_
          refine SR_pu (RD_move rfl) rfl ?_
          refine SR_pu (RD_shr rfl rfl (by omega)) rfl ?_
          refine SR_pu (RD_and rfl rfl) rfl ?_
          refine SR_pu (RD_move rfl) rfl ?_
          refine SR_pu (RD_and rfl rfl) rfl ?_
          first
            | refine SR_pu (RD_fieldAddr 3 Try.runUnderlying54 rfl rfl Try.sizeOf4 rfl) rfl ?_
            | refine SR_rd (RD_fieldAddrO 3 Try.runUnderlying54 rfl rfl Try.sizeOf4 rfl (by simp <;> omega)) Has.ro rfl ?_
          refine SR_ox0 (OX_st Try.sizeOf4 rfl rfl) ?_
          rintro _ _ rfl
          first
            | refine SR_pu (RD_fieldAddr 4 Try.runUnderlying54 rfl rfl Try.sizeOf23 rfl) rfl ?_
            | refine SR_rd (RD_fieldAddrO 4 Try.runUnderlying54 rfl rfl Try.sizeOf23 rfl (by simp <;> omega)) Has.ro rfl ?_
          refine SR_ox0 (OX_st Try.sizeOf23 rfl rfl) ?_
          rintro _ _ rfl
          first
            | refine SR_pu (RD_fieldAddr 5 Try.runUnderlying54 rfl rfl Try.sizeOf23 rfl) rfl ?_
            | refine SR_rd (RD_fieldAddrO 5 Try.runUnderlying54 rfl rfl Try.sizeOf23 rfl (by simp <;> omega)) Has.ro rfl ?_
          refine SR_ox0 (OX_st Try.sizeOf23 rfl rfl) ?_
          rintro _ _ rfl
          refine SR_nil ?_
          refine SN.le (l := [(0, _), (1, _), (4, _), (5, _)]) ?_ (.cons rfl (.cons rfl (.cons rfl (.cons rfl (.nil)))))
          refine SN_block ?_
          refine SN_seq ?_
          refine SC_seq ?_
          refine SC_seq ?_
          refine SC_region ?_
          refine SR_pu (RD_move rfl) rfl ?_
          refine SR_pu (RD_shr rfl rfl (by omega)) rfl ?_
          refine SR_pu (RD_and rfl rfl) rfl ?_
          refine SR_pu (RD_eql rfl rfl) rfl ?_
          refine SR_nil ?_
          refine SN.le (l := [(1, _), (4, _), (5, _), (63, _)]) ?_ (.cons rfl (.cons rfl (.cons rfl (.cons rfl (.nil)))))
          refine SN_seq ?_
          refine SC_cond rfl (fun hc63 => ?_) (fun hc63 => ?_)
          · refine SC_region ?_
            refine SR_pu (RD_move rfl) rfl ?_
            refine SR_pu (RD_move rfl) rfl ?_
            refine SR_pu (RD_shr rfl rfl (by omega)) rfl ?_
            first
              | refine SR_pu (RD_convi64 Try.runUnderlying23 Try.runUnderlying3 rfl (by omega) (by omega)) rfl ?_
              | refine SR_pu (RD_convI Try.runUnderlying23 Try.runUnderlying3 rfl) rfl ?_
            first
              | refine SR_pu (RD_fieldAddr 5 Try.runUnderlying54 rfl rfl Try.sizeOf23 rfl) rfl ?_
              | refine SR_rd (RD_fieldAddrO 5 Try.runUnderlying54 rfl rfl Try.sizeOf23 rfl (by simp <;> omega)) Has.ro rfl ?_
            refine SR_ox0 (OX_st Try.sizeOf23 rfl rfl) ?_
            rintro _ _ rfl
            first
              | refine SR_pu (RD_fieldAddr 6 Try.runUnderlying54 rfl rfl Try.sizeOf3 rfl) rfl ?_
              | refine SR_rd (RD_fieldAddrO 6 Try.runUnderlying54 rfl rfl Try.sizeOf3 rfl (by simp <;> omega)) Has.ro rfl ?_
            refine SR_ox0 (OX_st Try.sizeOf3 rfl rfl) ?_
            rintro _ _ rfl
            refine SR_nil ?_
            refine SN.le (l := [(4, _), (5, _)]) ?_ (.cons rfl (.cons rfl (.nil)))
            refine SN_seq ?_
            refine SC_seq ?_
            refine SC_region ?_
            refine SR_rd (RD_loadA Try.isAgg54 Try.sizeOf54 rfl rfl) Has.wh rfl ?_
            refine SR_ox0 (OX_stA Try.sizeOf54 rfl rfl rfl rfl) ?_
            rintro _ _ rfl
            refine SR_nil ?_
            refine SN.le (l := [(4, _)]) ?_ (.cons rfl (.nil))
            refine SN_seq ?_
            refine SC_retC rfl Try.isAgg54 Try.sizeOf54 rfl rfl Has.wh ?_
            refine ⟨_, TxD.val_mk _ _ _ _ _ _ _, ?_, .fin⟩
            refine ⟨?_, ?_, ?_, ?_, ?_, ?_⟩ <;> first | exact wrap_I64 _ | exact band_range _ _ | exact hy | exact zero_I64 | exact zero_u64
          · refine SC_skip ?_
            refine SN_seq ?_
            refine SC_seq ?_
            refine SC_region ?_
            refine SR_rd (RD_loadA Try.isAgg54 Try.sizeOf54 rfl rfl) Has.wh rfl ?_
            refine SR_ox0 (OX_stA Try.sizeOf54 rfl rfl rfl rfl) ?_
            rintro _ _ rfl
            refine SR_nil ?_
            refine SN.le (l := [(4, _)]) ?_ (.cons rfl (.nil))
            refine SN_seq ?_
            refine SC_retC rfl Try.isAgg54 Try.sizeOf54 rfl rfl Has.wh ?_
            refine ⟨_, TxD.val_mk _ _ _ _ _ _ _, ?_, .fin⟩
            refine ⟨?_, ?_, ?_, ?_, ?_, ?_⟩ <;> first | exact wrap_I64 _ | exact band_range _ _ | exact hy | exact zero_I64 | exact zero_u64
        · refine SC_region ?_
          refine SR_pu (RD_eql rfl rfl) rfl ?_
          refine SR_pu (RD_assign rfl) rfl ?_
          refine SR_nil ?_
          refine SN.le (l := [(0, _), (1, _), (4, _), (5, _), (11, _), (38, _)]) ?_ (.cons rfl (.cons rfl (.cons rfl (.cons rfl (.cons rfl (.cons rfl (.nil)))))))
          refine SN_seq ?_
          refine SC_cond rfl (fun hB38 => ?_) (fun hB38 => ?_)
          · refine SC_region ?_
            refine SR_pu (RD_move rfl) rfl ?_
            refine SR_pu (RD_shr rfl rfl (by omega)) rfl ?_
            refine SR_pu (RD_and rfl rfl) rfl ?_
            refine SR_pu (RD_eql rfl rfl) rfl ?_
            refine SR_pu (RD_move rfl) rfl ?_
            refine SR_pu (RD_shr rfl rfl (by omega)) rfl ?_
            refine SR_pu (RD_and rfl rfl) rfl ?_
            refine SR_pu (RD_move rfl) rfl ?_
            refine SR_pu (RD_and rfl rfl) rfl ?_
            first
              | refine SR_pu (RD_fieldAddr 3 Try.runUnderlying54 rfl rfl Try.sizeOf4 rfl) rfl ?_
              | refine SR_rd (RD_fieldAddrO 3 Try.runUnderlying54 rfl rfl Try.sizeOf4 rfl (by simp <;> omega)) Has.ro rfl ?_
            refine SR_ox0 (OX_st Try.sizeOf4 rfl rfl) ?_
            rintro _ _ rfl
            first
              | refine SR_pu (RD_fieldAddr 4 Try.runUnderlying54 rfl rfl Try.sizeOf23 rfl) rfl ?_
              | refine SR_rd (RD_fieldAddrO 4 Try.runUnderlying54 rfl rfl Try.sizeOf23 rfl (by simp <;> omega)) Has.ro rfl ?_
            refine SR_ox0 (OX_st Try.sizeOf23 rfl rfl) ?_
            rintro _ _ rfl
            first
              | refine SR_pu (RD_fieldAddr 5 Try.runUnderlying54 rfl rfl Try.sizeOf23 rfl) rfl ?_
              | refine SR_rd (RD_fieldAddrO 5 Try.runUnderlying54 rfl rfl Try.sizeOf23 rfl (by simp <;> omega)) Has.ro rfl ?_
            refine SR_ox0 (OX_st Try.sizeOf23 rfl rfl) ?_
            rintro _ _ rfl
            refine SR_nil ?_
            refine SN.le (l := [(0, _), (1, _), (4, _), (5, _)]) ?_ (.cons rfl (.cons rfl (.cons rfl (.cons rfl (.nil)))))
            refine SN_block ?_
            refine SN_seq ?_
            refine SC_seq ?_
            refine SC_seq ?_
            refine SC_region ?_
            refine SR_pu (RD_move rfl) rfl ?_
            refine SR_pu (RD_shr rfl rfl (by omega)) rfl ?_
            refine SR_pu (RD_and rfl rfl) rfl ?_
            refine SR_pu (RD_eql rfl rfl) rfl ?_
            refine SR_nil ?_
            refine SN.le (l := [(1, _), (4, _), (5, _), (63, _)]) ?_ (.cons rfl (.cons rfl (.cons rfl (.cons rfl (.nil)))))
            refine SN_seq ?_
            refine SC_cond rfl (fun hc63 => ?_) (fun hc63 => ?_)
            · refine SC_region ?_
              refine SR_pu (RD_move rfl) rfl ?_
              refine SR_pu (RD_move rfl) rfl ?_
              refine SR_pu (RD_shr rfl rfl (by omega)) rfl ?_
              first
                | refine SR_pu (RD_convi64 Try.runUnderlying23 Try.runUnderlying3 rfl (by omega) (by omega)) rfl ?_
                | refine SR_pu (RD_convI Try.runUnderlying23 Try.runUnderlying3 rfl) rfl ?_
              first
                | refine SR_pu (RD_fieldAddr 5 Try.runUnderlying54 rfl rfl Try.sizeOf23 rfl) rfl ?_
                | refine SR_rd (RD_fieldAddrO 5 Try.runUnderlying54 rfl rfl Try.sizeOf23 rfl (by simp <;> omega)) Has.ro rfl ?_
              refine SR_ox0 (OX_st Try.sizeOf23 rfl rfl) ?_
              rintro _ _ rfl
              first
                | refine SR_pu (RD_fieldAddr 6 Try.runUnderlying54 rfl rfl Try.sizeOf3 rfl) rfl ?_
                | refine SR_rd (RD_fieldAddrO 6 Try.runUnderlying54 rfl rfl Try.sizeOf3 rfl (by simp <;> omega)) Has.ro rfl ?_
              refine SR_ox0 (OX_st Try.sizeOf3 rfl rfl) ?_
              rintro _ _ rfl
              refine SR_nil ?_
              refine SN.le (l := [(4, _), (5, _)]) ?_ (.cons rfl (.cons rfl (.nil)))
              refine SN_seq ?_
              refine SC_seq ?_
              refine SC_region ?_
              refine SR_rd (RD_loadA Try.isAgg54 Try.sizeOf54 rfl rfl) Has.wh rfl ?_
              refine SR_ox0 (OX_stA Try.sizeOf54 rfl rfl rfl rfl) ?_
              rintro _ _ rfl
              refine SR_nil ?_
              refine SN.le (l := [(4, _)]) ?_ (.cons rfl (.nil))
              refine SN_seq ?_
              refine SC_retC rfl Try.isAgg54 Try.sizeOf54 rfl rfl Has.wh ?_
              refine ⟨_, TxD.val_mk _ _ _ _ _ _ _, ?_, .fin⟩
              refine ⟨?_, ?_, ?_, ?_, ?_, ?_⟩ <;> first | exact wrap_I64 _ | exact band_range _ _ | exact hy | exact zero_I64 | exact zero_u64
            · refine SC_skip ?_
              refine SN_seq ?_
              refine SC_seq ?_
              refine SC_region ?_
              refine SR_rd (RD_loadA Try.isAgg54 Try.sizeOf54 rfl rfl) Has.wh rfl ?_
              refine SR_ox0 (OX_stA Try.sizeOf54 rfl rfl rfl rfl) ?_
              rintro _ _ rfl
              refine SR_nil ?_
              refine SN.le (l := [(4, _)]) ?_ (.cons rfl (.nil))
              refine SN_seq ?_
              refine SC_retC rfl Try.isAgg54 Try.sizeOf54 rfl rfl Has.wh ?_
              refine ⟨_, TxD.val_mk _ _ _ _ _ _ _, ?_, .fin⟩
              refine ⟨?_, ?_, ?_, ?_, ?_, ?_⟩ <;> first | exact wrap_I64 _ | exact band_range _ _ | exact hy | exact zero_I64 | exact zero_u64
          · refine SC_seq ?_
            refine SC_region ?_
            refine SR_pu (RD_eql rfl rfl) rfl ?_
            refine SR_pu (RD_assign rfl) rfl ?_
            refine SR_nil ?_
            refine SN.le (l := [(0, _), (1, _), (4, _), (5, _), (53, _)]) ?_ (.cons rfl (.cons rfl (.cons rfl (.cons rfl (.cons rfl (.nil))))))
            refine SN_seq ?_
            refine SC_cond rfl (fun hc53 => ?_) (fun hc53 => ?_)
            · refine SC_region ?_
              refine SR_pu (RD_move rfl) rfl ?_
              refine SR_pu (RD_shr rfl rfl (by omega)) rfl ?_
              refine SR_pu (RD_and rfl rfl) rfl ?_
              first
                | refine SR_pu (RD_convi64 Try.runUnderlying23 Try.runUnderlying3 rfl (by omega) (by omega)) rfl ?_
                | refine SR_pu (RD_convI Try.runUnderlying23 Try.runUnderlying3 rfl) rfl ?_
              first
                | refine SR_pu (RD_fieldAddr 6 Try.runUnderlying54 rfl rfl Try.sizeOf3 rfl) rfl ?_
                | refine SR_rd (RD_fieldAddrO 6 Try.runUnderlying54 rfl rfl Try.sizeOf3 rfl (by simp <;> omega)) Has.ro rfl ?_
              refine SR_ox0 (OX_st Try.sizeOf3 rfl rfl) ?_
              rintro _ _ rfl
              refine SR_nil ?_
              refine SN.le (l := [(0, _), (1, _), (4, _), (5, _)]) ?_ (.cons rfl (.cons rfl (.cons rfl (.cons rfl (.nil)))))
              refine SN_block ?_
              refine SN_seq ?_
              refine SC_seq ?_
              refine SC_seq ?_
              refine SC_region ?_
              refine SR_pu (RD_move rfl) rfl ?_
              refine SR_pu (RD_shr rfl rfl (by omega)) rfl ?_
              refine SR_pu (RD_and rfl rfl) rfl ?_
              refine SR_pu (RD_eql rfl rfl) rfl ?_
              refine SR_nil ?_
              refine SN.le (l := [(1, _), (4, _), (5, _), (63, _)]) ?_ (.cons rfl (.cons rfl (.cons rfl (.cons rfl (.nil)))))
              refine SN_seq ?_
              refine SC_cond rfl (fun hc63 => ?_) (fun hc63 => ?_)
              · refine SC_region ?_
                refine SR_pu (RD_move rfl) rfl ?_
                refine SR_pu (RD_move rfl) rfl ?_
                refine SR_pu (RD_shr rfl rfl (by omega)) rfl ?_
                first
                  | refine SR_pu (RD_convi64 Try.runUnderlying23 Try.runUnderlying3 rfl (by omega) (by omega)) rfl ?_
                  | refine SR_pu (RD_convI Try.runUnderlying23 Try.runUnderlying3 rfl) rfl ?_
                first
                  | refine SR_pu (RD_fieldAddr 5 Try.runUnderlying54 rfl rfl Try.sizeOf23 rfl) rfl ?_
                  | refine SR_rd (RD_fieldAddrO 5 Try.runUnderlying54 rfl rfl Try.sizeOf23 rfl (by simp <;> omega)) Has.ro rfl ?_
                refine SR_ox0 (OX_st Try.sizeOf23 rfl rfl) ?_
                rintro _ _ rfl
                first
                  | refine SR_pu (RD_fieldAddr 6 Try.runUnderlying54 rfl rfl Try.sizeOf3 rfl) rfl ?_
                  | refine SR_rd (RD_fieldAddrO 6 Try.runUnderlying54 rfl rfl Try.sizeOf3 rfl (by simp <;> omega)) Has.ro rfl ?_
                refine SR_ox0 (OX_st Try.sizeOf3 rfl rfl) ?_
                rintro _ _ rfl
                refine SR_nil ?_
                refine SN.le (l := [(4, _), (5, _)]) ?_ (.cons rfl (.cons rfl (.nil)))
                refine SN_seq ?_
                refine SC_seq ?_
                refine SC_region ?_
                refine SR_rd (RD_loadA Try.isAgg54 Try.sizeOf54 rfl rfl) Has.wh rfl ?_
                refine SR_ox0 (OX_stA Try.sizeOf54 rfl rfl rfl rfl) ?_
                rintro _ _ rfl
                refine SR_nil ?_
                refine SN.le (l := [(4, _)]) ?_ (.cons rfl (.nil))
                refine SN_seq ?_
                refine SC_retC rfl Try.isAgg54 Try.sizeOf54 rfl rfl Has.wh ?_
                refine ⟨_, TxD.val_mk _ _ _ _ _ _ _, ?_, .fin⟩
                refine ⟨?_, ?_, ?_, ?_, ?_, ?_⟩ <;> first | exact wrap_I64 _ | exact band_range _ _ | exact hy | exact zero_I64 | exact zero_u64
              · refine SC_skip ?_
                refine SN_seq ?_
                refine SC_seq ?_
                refine SC_region ?_
                refine SR_rd (RD_loadA Try.isAgg54 Try.sizeOf54 rfl rfl) Has.wh rfl ?_
                refine SR_ox0 (OX_stA Try.sizeOf54 rfl rfl rfl rfl) ?_
                rintro _ _ rfl
                refine SR_nil ?_
                refine SN.le (l := [(4, _)]) ?_ (.cons rfl (.nil))
                refine SN_seq ?_
                refine SC_retC rfl Try.isAgg54 Try.sizeOf54 rfl rfl Has.wh ?_
                refine ⟨_, TxD.val_mk _ _ _ _ _ _ _, ?_, .fin⟩
                refine ⟨?_, ?_, ?_, ?_, ?_, ?_⟩ <;> first | exact wrap_I64 _ | exact band_range _ _ | exact hy | exact zero_I64 | exact zero_u64
            · refine SC_skip ?_
              refine SN_block ?_
              refine SN_seq ?_
              refine SC_seq ?_
              refine SC_seq ?_
              refine SC_region ?_
              refine SR_pu (RD_move rfl) rfl ?_
              refine SR_pu (RD_shr rfl rfl (by omega)) rfl ?_
              refine SR_pu (RD_and rfl rfl) rfl ?_
              refine SR_pu (RD_eql rfl rfl) rfl ?_
              refine SR_nil ?_
              refine SN.le (l := [(1, _), (4, _), (5, _), (63, _)]) ?_ (.cons rfl (.cons rfl (.cons rfl (.cons rfl (.nil)))))
              refine SN_seq ?_
              refine SC_cond rfl (fun hc63 => ?_) (fun hc63 => ?_)
              · refine SC_region ?_
                refine SR_pu (RD_move rfl) rfl ?_
                refine SR_pu (RD_move rfl) rfl ?_
                refine SR_pu (RD_shr rfl rfl (by omega)) rfl ?_
                first
                  | refine SR_pu (RD_convi64 Try.runUnderlying23 Try.runUnderlying3 rfl (by omega) (by omega)) rfl ?_
                  | refine SR_pu (RD_convI Try.runUnderlying23 Try.runUnderlying3 rfl) rfl ?_
                first
                  | refine SR_pu (RD_fieldAddr 5 Try.runUnderlying54 rfl rfl Try.sizeOf23 rfl) rfl ?_
                  | refine SR_rd (RD_fieldAddrO 5 Try.runUnderlying54 rfl rfl Try.sizeOf23 rfl (by simp <;> omega)) Has.ro rfl ?_
                refine SR_ox0 (OX_st Try.sizeOf23 rfl rfl) ?_
                rintro _ _ rfl
                first
                  | refine SR_pu (RD_fieldAddr 6 Try.runUnderlying54 rfl rfl Try.sizeOf3 rfl) rfl ?_
                  | refine SR_rd (RD_fieldAddrO 6 Try.runUnderlying54 rfl rfl Try.sizeOf3 rfl (by simp <;> omega)) Has.ro rfl ?_
                refine SR_ox0 (OX_st Try.sizeOf3 rfl rfl) ?_
                rintro _ _ rfl
                refine SR_nil ?_
                refine SN.le (l := [(4, _), (5, _)]) ?_ (.cons rfl (.cons rfl (.nil)))
                refine SN_seq ?_
                refine SC_seq ?_
                refine SC_region ?_
                refine SR_rd (RD_loadA Try.isAgg54 Try.sizeOf54 rfl rfl) Has.wh rfl ?_
                refine SR_ox0 (OX_stA Try.sizeOf54 rfl rfl rfl rfl) ?_
                rintro _ _ rfl
                refine SR_nil ?_
                refine SN.le (l := [(4, _)]) ?_ (.cons rfl (.nil))
                refine SN_seq ?_
                refine SC_retC rfl Try.isAgg54 Try.sizeOf54 rfl rfl Has.wh ?_
                refine ⟨_, TxD.val_mk _ _ _ _ _ _ _, ?_, .fin⟩
                refine ⟨?_, ?_, ?_, ?_, ?_, ?_⟩ <;> first | exact wrap_I64 _ | exact band_range _ _ | exact hy | exact zero_I64 | exact zero_u64
              · refine SC_skip ?_
                refine SN_seq ?_
                refine SC_seq ?_
                refine SC_region ?_
                refine SR_rd (RD_loadA Try.isAgg54 Try.sizeOf54 rfl rfl) Has.wh rfl ?_
                refine SR_ox0 (OX_stA Try.sizeOf54 rfl rfl rfl rfl) ?_
                rintro _ _ rfl
                refine SR_nil ?_
                refine SN.le (l := [(4, _)]) ?_ (.cons rfl (.nil))
                refine SN_seq ?_
                refine SC_retC rfl Try.isAgg54 Try.sizeOf54 rfl rfl Has.wh ?_
                refine ⟨_, TxD.val_mk _ _ _ _ _ _ _, ?_, .fin⟩
                refine ⟨?_, ?_, ?_, ?_, ?_, ?_⟩ <;> first | exact wrap_I64 _ | exact band_range _ _ | exact hy | exact zero_I64 | exact zero_u64

theorem code_inj {t u : TxD} (ht : t.Wf) (hu : u.Wf) : t.code = u.code ↔ t = u := by
  constructor
  · intro h
    have := congrArg rdTx h
    rwa [rdTx_code t ht, rdTx_code u hu] at this
  · rintro rfl; rfl
theorem parse_short {bs : List UInt8} (h : bs.length ≠ 56) : parseTx bs = none := by
  cases e : parseTx bs with
  | none => rfl
  | some t =>
    have := (parseTx_len e).2
    have h2 := t.code_len
    rw [this] at h2; exact absurd h2 h
theorem code_same {t u : TxD} (ht : t.Wf) (hu : u.Wf) : (decide (bstr t.code = bstr u.code) == t.same u) = true := by
  have h : decide (bstr t.code = bstr u.code) = t.same u := by rw [Bool.eq_iff_iff, decide_eq_true_eq, bstr_inj, code_inj ht hu, TxD.same_iff]
  rw [h]; simp
theorem tx_Parse_take {W : World} {F : List HProp} [Abs F] (bs : List UInt8) (k : Nat) (a : Option Addr) (c : Nat) [HasRow F a (bs.map byteV)] (hk : k ≤ bs.length) (hb : k ≤ 1000000000000) :
    CallsK W Try.prog 31 #[.slice a k c] (F) (fun v L => v = .tuple #[((parseTx (bs.take k)).getD txZero).val, .bool (parseTx (bs.take k)).isSome] ∧ Lands L F) :=
  haveI := hasRow_take (L := F) (a := a) (cs := bs.map byteV) (ds := (bs.take k).map byteV) k (by simp [List.map_take])
  tx_Parse (bs.take k) a k c rfl (by simp; omega) hb

theorem law_TxBack {W : World} {F : List HProp} [Abs F] (x y x2 y2 : Int) (hx : 0 ≤ x ∧ x < 18446744073709551616) (hy : 0 ≤ y ∧ y < 18446744073709551616) (hx2 : 0 ≤ x2 ∧ x2 < 18446744073709551616) (hy2 : 0 ≤ y2 ∧ y2 < 18446744073709551616) :
    CallsK W Try.prog 10 #[.int .u64 x, .int .u64 y, .int .u64 x2, .int .u64 y2] (F) (fun v L => v = .bool true ∧ Lands L F) := by
  refine CallsK_enter (n := 118) Try.func10 rfl rfl rfl ?_
  refine SC_seq ?_
  refine SC_region ?_
  refine SR_pu (RD_assign rfl) rfl ?_
  refine SR_nil ?_
  refine SN.le (l := [(0, _), (1, _), (2, _), (3, _)]) ?_ (.cons rfl (.cons rfl (.cons rfl (.cons rfl (.nil)))))
  refine SN_seq ?_
  refine SC_seq ?_
  refine SC_region ?_
  refine SR_pu (RD_move rfl) rfl ?_
  refine SR_pu (RD_move rfl) rfl ?_
  refine SR_call Try.call34 (.cons rfl (.cons rfl (.nil))) (law_Tx x y hx hy) (lts rfl) ?_
  rintro _ La ⟨t, rfl, hwt, hLa⟩
  refine SR.lands hLa ?_
  refine SR_pu (RD_move rfl) rfl ?_
  refine SR_pu (RD_move rfl) rfl ?_
  refine SR_call Try.call34 (.cons rfl (.cons rfl (.nil))) (law_Tx x2 y2 hx2 hy2) (lts rfl) ?_
  rintro _ Lb ⟨u, rfl, hwu, hLb⟩
  refine SR.lands hLb ?_
  refine SR_ox (OX_alloc Try.zeroValue54 rfl) rfl ?_
  rintro _ _ ⟨b9, rfl, rfl⟩
  refine SR_ox (OX_alloc Try.zeroValue54 rfl) rfl ?_
  rintro _ _ ⟨b10, rfl, rfl⟩
  refine SR_ox0 (OX_stA Try.sizeOf54 rfl rfl rfl rfl) ?_
  rintro _ _ rfl
  refine SR_ox0 (OX_stA Try.sizeOf54 rfl rfl rfl rfl) ?_
  rintro _ _ rfl
  refine SR_nil ?_
  refine SN.le (l := [(9, _), (10, _)]) ?_ (.cons rfl (.cons rfl (.nil)))
  refine SN_seq ?_
  refine SC_seq ?_
  by_cases hokt : t.ok = true
  · refine SC_region ?_
    refine SR_rd (RD_loadA Try.isAgg54 Try.sizeOf54 rfl rfl) Has.wh rfl ?_
    refine SR_call Try.call30 (.cons rfl (.nil)) (tx_Code_ok t hwt hokt) (lts rfl) ?_
    rintro _ L1 ⟨a1, c1, rfl, hL1⟩
    refine SR.lands hL1 ?_
    refine SR_pu (RD_move rfl) rfl ?_
    refine SR_pu (RD_extract rfl rfl) rfl ?_
    refine SR_pu (RD_extract rfl rfl) rfl ?_
    refine SR_pu (RD_assign rfl) rfl ?_
    refine SR_pu (RD_assign rfl) rfl ?_
    refine SR_nil ?_
    refine SN.le (l := [(9, _), (10, _), (11, _), (12, _)]) ?_ (.cons rfl (.cons rfl (.cons rfl (.cons rfl (.nil)))))
    refine SN_seq ?_
    refine SC_seq ?_
    by_cases hoku : u.ok = true
    · refine SC_region ?_
      refine SR_rd (RD_loadA Try.isAgg54 Try.sizeOf54 rfl rfl) Has.wh rfl ?_
      refine SR_call Try.call30 (.cons rfl (.nil)) (tx_Code_ok u hwu hoku) (lts rfl) ?_
      rintro _ L2 ⟨a2, c2, rfl, hL2⟩
      refine SR.lands hL2 ?_
      refine SR_pu (RD_move rfl) rfl ?_
      refine SR_pu (RD_extract rfl rfl) rfl ?_
      refine SR_pu (RD_extract rfl rfl) rfl ?_
      refine SR_pu (RD_assign rfl) rfl ?_
      refine SR_pu (RD_assign rfl) rfl ?_
      refine SR_nil ?_
      refine SN.le (l := [(9, _), (10, _), (11, _), (12, _), (13, _), (14, _)]) ?_ (.cons rfl (.cons rfl (.cons rfl (.cons rfl (.cons rfl (.cons rfl (.nil)))))))
      refine SN_seq ?_
      refine SC_seq ?_
      refine SC_seq ?_
      refine SC_region ?_
      refine SR_pu (RD_move rfl) rfl ?_
      refine SR_pu (RD_not rfl) rfl ?_
      refine SR_pu (RD_move rfl) rfl ?_
      refine SR_yes rfl rfl (rfl) ?_
      refine SR_pu (RD_move rfl) rfl ?_
      refine SR_yes rfl rfl (rfl) ?_
      refine SR_pu (RD_not rfl) rfl ?_
      refine SR_pu (RD_pick_f rfl (rfl) rfl) rfl ?_
      refine SR_nil ?_
      refine SN.le (l := [(9, _), (10, _), (11, _), (12, _), (13, _), (14, _), (42, _)]) ?_ (.cons rfl (.cons rfl (.cons rfl (.cons rfl (.cons rfl (.cons rfl (.cons rfl (.nil))))))))
      refine SN_seq ?_
      refine SC_cond_false rfl (rfl) ?_
      refine SC_skip ?_
      refine SN_seq ?_
      refine SC_seq ?_
      refine SC_region ?_
      refine SR_pu (RD_move rfl) rfl ?_
      refine SR_call Try.call31 (.cons rfl (.nil)) (tx_Parse t.code a1 56 c1 rfl t.code_len (by decide)) (lts rfl) ?_
      rintro _ L4 ⟨rfl, hL4⟩
      rw [parseTx_code hwt hokt]
      refine SR.lands hL4 ?_
      refine SR_pu (RD_move rfl) rfl ?_
      refine SR_pu (RD_extract rfl rfl) rfl ?_
      refine SR_pu (RD_extract rfl rfl) rfl ?_
      refine SR_ox (OX_alloc Try.zeroValue54 rfl) rfl ?_
      rintro _ _ ⟨b15, rfl, rfl⟩
      refine SR_ox0 (OX_stA Try.sizeOf54 rfl rfl rfl rfl) ?_
      rintro _ _ rfl
      refine SR_pu (RD_assign rfl) rfl ?_
      refine SR_nil ?_
      refine SN.le (l := [(9, _), (10, _), (11, _), (13, _), (15, _), (16, _)]) ?_ (.cons rfl (.cons rfl (.cons rfl (.cons rfl (.cons rfl (.cons rfl (.nil)))))))
      refine SN_seq ?_
      refine SC_seq ?_
      refine SC.row_len (a := a1) fun _ hcap => ?_
      refine SC_region ?_
      refine SR_pu (RD_move rfl) rfl ?_
      refine SR_pu (RD_move rfl) rfl ?_
      refine SR_pu (RD_len Try.runUnderlying25 rfl) rfl ?_
      refine SR_pu (RD_subi rfl rfl (by omega) (by omega)) rfl ?_
      refine SR_pu (RD_max rfl rfl) rfl ?_
      refine SR_pu (RD_cutH Try.runUnderlying25 Try.sizeOf5 rfl rfl (by omega) (by omega)) rfl ?_
      refine SR_call Try.call31 (.cons rfl (.nil)) (tx_Parse_take t.code 55 a1 c1 (by rw [t.code_len]; decide) (by decide)) (lts rfl) ?_
      rintro _ L5 ⟨rfl, hL5⟩
      rw [parse_short (by simp [TxD.code_len])]
      refine SR.lands hL5 ?_
      refine SR_pu (RD_move rfl) rfl ?_
      refine SR_pu (RD_extract rfl rfl) rfl ?_
      refine SR_pu (RD_extract rfl rfl) rfl ?_
      refine SR_ox (OX_alloc Try.zeroValue54 rfl) rfl ?_
      rintro _ _ ⟨b17, rfl, rfl⟩
      refine SR_ox0 (OX_stA Try.sizeOf54 rfl rfl rfl rfl) ?_
      rintro _ _ rfl
      refine SR_pu (RD_assign rfl) rfl ?_
      refine SR_nil ?_
      refine SN.le (l := [(9, _), (10, _), (11, _), (13, _), (15, _), (16, _), (18, _)]) ?_ (.cons rfl (.cons rfl (.cons rfl (.cons rfl (.cons rfl (.cons rfl (.cons rfl (.nil))))))))
      refine SN_seq ?_
      refine SC_seq ?_
      refine SC_region ?_
      refine SR_ox (OX_buildSlice0 Try.runUnderlying25 Try.sizeOf5) rfl ?_
      rintro _ _ ⟨b72, rfl, rfl⟩
      refine SR_pu (RD_move rfl) rfl ?_
      refine SR_ox (OX_app0 1 Try.underlying25 Try.underlying25 Try.type5 rfl rfl rfl rfl rfl (by simp [TxD.code_len]) 1 rfl (by omega) (by omega)) rfl ?_
      rintro _ _ ⟨a74, c74, rfl, rfl⟩
      refine SR_ox (OX_lit1 Try.underlying25 Try.type5 rfl rfl rfl rfl (.cons rfl (.nil)) (.cons rfl (.nil))) rfl ?_
      rintro _ _ ⟨b75, rfl, rfl⟩
      refine SR_ox (OX_app 1 Try.underlying25 Try.underlying25 Try.type5 rfl rfl rfl rfl rfl (by first | rfl | simp; done | (simp; omega)) 1 rfl (by omega) (by omega)) rfl ?_
      rintro _ _ ⟨a76, c76, rfl, rfl⟩
      refine SR_call Try.call31 (.cons rfl (.nil)) (tx_Parse (t.code ++ [0]) a76 57 c76 (by simp [byteV]) (by simp [TxD.code_len]) (by decide)) (lts rfl) ?_
      rintro _ L6 ⟨rfl, hL6⟩
      rw [parse_short (by simp [TxD.code_len])]
      refine SR.lands hL6 ?_
      refine SR_pu (RD_move rfl) rfl ?_
      refine SR_pu (RD_extract rfl rfl) rfl ?_
      refine SR_pu (RD_extract rfl rfl) rfl ?_
      refine SR_ox (OX_alloc Try.zeroValue54 rfl) rfl ?_
      rintro _ _ ⟨b19, rfl, rfl⟩
      refine SR_ox0 (OX_stA Try.sizeOf54 rfl rfl rfl rfl) ?_
      rintro _ _ rfl
      refine SR_pu (RD_assign rfl) rfl ?_
      refine SR_nil ?_
      refine SN.le (l := [(9, _), (10, _), (11, _), (13, _), (15, _), (16, _), (18, _), (20, _)]) ?_ (.cons rfl (.cons rfl (.cons rfl (.cons rfl (.cons rfl (.cons rfl (.cons rfl (.cons rfl (.nil)))))))))
      refine SN_seq ?_
      refine SC_seq ?_
      refine SC_drawn (.cons 0 true (.cons 1 true (.cons 2 true (.cons 3 true (.cons 4 true (.cons 5 true (.cons 6 true (.cons 7 true (.cons 8 true (.cons 9 true (.cons 10 true (.cons 11 true (.cons 12 true (.cons 13 true (.cons 14 true (.cons 15 true (.cons 16 true (.cons 17 true (.cons 18 true (.cons 19 true (.cons 20 true (.cons 21 true (.cons 22 true (.cons 23 true (.cons 24 true (.cons 25 true (.cons 26 true (.cons 27 true (.cons 28 true (.cons 29 true (.cons 30 true (.cons 31 true (.cons 32 true (.cons 33 true (.cons 34 true (.cons 35 true (.cons 36 false (.cons 37 true (.cons 38 true (.nil)))))))))))))))))))))))))))))))))))))))) (by kernel_rfl) (by kernel_rfl) ?_
      refine SQ_pu rfl (RD_move rfl) rfl ?_
      refine SQ_pu rfl (RD_move rfl) rfl ?_
      refine SQ_yes rfl rfl rfl (rfl) (RD_loadA Try.isAgg54 Try.sizeOf54 rfl rfl) Has.wh rfl ?_
      refine SQ_yes rfl rfl rfl (rfl) (RD_loadA Try.isAgg54 Try.sizeOf54 rfl rfl) Has.wh rfl ?_
      refine SQ_pyes rfl rfl rfl (rfl) (RD_eqlTx t t rfl rfl rfl) rfl ?_
      refine SQ_pu rfl (RD_pick_t rfl (rfl) rfl) rfl ?_
      refine SQ_pu rfl (RD_move rfl) rfl ?_
      refine SQ_pyes rfl rfl rfl (TxD.same_iff.2 rfl) (RD_move rfl) rfl ?_
      refine SQ_pyes rfl rfl rfl (TxD.same_iff.2 rfl) (RD_len Try.runUnderlying25 rfl) rfl ?_
      refine SQ_pyes rfl rfl rfl (TxD.same_iff.2 rfl) (RD_eql rfl rfl) rfl ?_
      refine SQ_pu rfl (RD_pick_t rfl (TxD.same_iff.2 rfl) rfl) rfl ?_
      refine SQ_pu rfl (RD_move rfl) rfl ?_
      refine SQ_pyes rfl rfl rfl (rfl) (RD_move rfl) rfl ?_
      refine SQ_pyes rfl rfl rfl (rfl) (RD_len Try.runUnderlying25 rfl) rfl ?_
      refine SQ_pyes rfl rfl rfl (rfl) (RD_eql rfl rfl) rfl ?_
      refine SQ_pu rfl (RD_pick_t rfl (rfl) rfl) rfl ?_
      refine SQ_pu rfl (RD_move rfl) rfl ?_
      refine SQ_pyes rfl rfl rfl (rfl) (RD_move rfl) rfl ?_
      refine SQ_yes rfl rfl rfl (rfl) (RD_b2s (bs := t.code) Try.underlying25 Try.underlying9 Try.underlying5 rfl t.code_len) Has.ro rfl ?_
      refine SQ_pyes rfl rfl rfl (rfl) (RD_move rfl) rfl ?_
      refine SQ_yes rfl rfl rfl (rfl) (RD_b2s (bs := u.code) Try.underlying25 Try.underlying9 Try.underlying5 rfl u.code_len) Has.ro rfl ?_
      refine SQ_pyes rfl rfl rfl (rfl) (RD_eqlS rfl rfl) rfl ?_
      refine SQ_yes rfl rfl rfl (rfl) (RD_loadA Try.isAgg54 Try.sizeOf54 rfl rfl) Has.wh rfl ?_
      refine SQ_yes rfl rfl rfl (rfl) (RD_loadA Try.isAgg54 Try.sizeOf54 rfl rfl) Has.wh rfl ?_
      refine SQ_pyes rfl rfl rfl (rfl) (RD_eqlTx t u rfl rfl rfl) rfl ?_
      refine SQ_pyes rfl rfl rfl (rfl) (RD_eqlB Try.underlying4 rfl rfl) rfl ?_
      refine SQ_pu rfl (RD_pick_t rfl (rfl) rfl) rfl ?_
      refine SQ_pu rfl (RD_move rfl) rfl ?_
      refine SQ_pyes rfl rfl rfl (code_same hwt hwu) (RD_move rfl) rfl ?_
      refine SQ_pyes rfl rfl rfl (code_same hwt hwu) (RD_not rfl) rfl ?_
      refine SQ_pu rfl (RD_pick_t rfl (code_same hwt hwu) rfl) rfl ?_
      refine SQ_pu rfl (RD_move rfl) rfl ?_
      refine SQ_pyes rfl rfl rfl (rfl) (RD_move rfl) rfl ?_
      refine SQ_pyes rfl rfl rfl (rfl) (RD_not rfl) rfl ?_
      refine SQ_pu rfl (RD_pick_t rfl (rfl) rfl) rfl ?_
      refine SQ_pu rfl (RD_move rfl) rfl ?_
      refine SQ_one (SA_call rfl (.mk rfl rfl (rfl)) Try.call33 (.nil) (tx_awake) (lts rfl) ?_)
      rintro _ L9 ⟨rfl, hL9⟩
      refine ⟨.lands hL9 (.h Has.wh (.h Has.wh (.h Has.ro (.h Has.ro (.h Has.wh (.h Has.wh (.nil))))))), ?_⟩
      refine SQ.lands hL9 ?_
      refine SQ_pu rfl (RD_pick_t rfl (rfl) rfl) rfl ?_
      refine SQ_pu rfl (RD_assign rfl) rfl ?_
      refine SQ_nil ?_
      refine SN.le (l := [(8, _)]) ?_ (.cons rfl (.nil))
      refine SN_seq ?_
      refine SC_ret1 rfl rfl ?_
      exact ⟨rfl, .fin⟩
    · have hoku : u.ok = false := by simpa using hoku
      refine SC_region ?_
      refine SR_rd (RD_loadA Try.isAgg54 Try.sizeOf54 rfl rfl) Has.wh rfl ?_
      refine SR_call Try.call30 (.cons rfl (.nil)) (tx_Code_no u hoku) (lts rfl) ?_
      rintro _ L2 ⟨rfl, hL2⟩
      refine SR.lands hL2 ?_
      refine SR_pu (RD_move rfl) rfl ?_
      refine SR_pu (RD_extract rfl rfl) rfl ?_
      refine SR_pu (RD_extract rfl rfl) rfl ?_
      refine SR_pu (RD_assign rfl) rfl ?_
      refine SR_pu (RD_assign rfl) rfl ?_
      refine SR_nil ?_
      refine SN.le (l := [(9, _), (10, _), (11, _), (12, _), (13, _), (14, _)]) ?_ (.cons rfl (.cons rfl (.cons rfl (.cons rfl (.cons rfl (.cons rfl (.nil)))))))
      refine SN_seq ?_
      refine SC_seq ?_
      refine SC_seq ?_
      refine SC_region ?_
      refine SR_pu (RD_move rfl) rfl ?_
      refine SR_pu (RD_not rfl) rfl ?_
      refine SR_pu (RD_move rfl) rfl ?_
      refine SR_yes rfl rfl (rfl) ?_
      refine SR_pu (RD_move rfl) rfl ?_
      refine SR_yes rfl rfl (rfl) ?_
      refine SR_pu (RD_not rfl) rfl ?_
      refine SR_pu (RD_pick_f rfl (rfl) rfl) rfl ?_
      refine SR_nil ?_
      refine SN.le (l := [(9, _), (10, _), (11, _), (12, _), (13, _), (14, _), (42, _)]) ?_ (.cons rfl (.cons rfl (.cons rfl (.cons rfl (.cons rfl (.cons rfl (.cons rfl (.nil))))))))
      refine SN_seq ?_
      refine SC_cond_true rfl (rfl) ?_
      refine SC_seq ?_
      refine SC_region ?_
      refine SR_rd (RD_loadA Try.isAgg54 Try.sizeOf54 rfl rfl) Has.wh rfl ?_
      refine SR_call Try.call32 (.cons rfl (.nil)) (tx_Ok t) (lts rfl) ?_
      rintro _ L3 ⟨rfl, hL3⟩
      rw [hokt]
      refine SR.lands hL3 ?_
      refine SR_pu (RD_move rfl) rfl ?_
      refine SR_pu (RD_eqlB Try.underlying4 rfl rfl) rfl ?_
      refine SR_pu (RD_move rfl) rfl ?_
      refine SR_yes rfl rfl (rfl) ?_
      refine SR_rd (RD_loadA Try.isAgg54 Try.sizeOf54 rfl rfl) Has.wh rfl ?_
      refine SR_yes rfl rfl (rfl) ?_
      refine SR_call Try.call32 (.cons rfl (.nil)) (tx_Ok u) (lts rfl) ?_
      rintro _ L3 ⟨rfl, hL3⟩
      rw [hoku]
      refine SR.lands hL3 ?_
      refine SR_yes rfl rfl (rfl) ?_
      refine SR_pu (RD_move rfl) rfl ?_
      refine SR_yes rfl rfl (rfl) ?_
      refine SR_pu (RD_eqlB Try.underlying4 rfl rfl) rfl ?_
      refine SR_pu (RD_pick_t rfl (rfl) rfl) rfl ?_
      refine SR_pu (RD_move rfl) rfl ?_
      refine SR_yes rfl rfl (rfl) ?_
      refine SR_call Try.call33 (.nil) (tx_awake) (lts rfl) ?_
      rintro _ L9 ⟨rfl, hL9⟩
      refine SR.lands hL9 ?_
      refine SR_pu (RD_pick_t rfl (rfl) rfl) rfl ?_
      refine SR_pu (RD_assign rfl) rfl ?_
      refine SR_nil ?_
      refine SN.le (l := [(8, _)]) ?_ (.cons rfl (.nil))
      refine SN_seq ?_
      refine SC_ret1 rfl rfl ?_
      exact ⟨rfl, .fin⟩
  · have hokt : t.ok = false := by simpa using hokt
    refine SC_region ?_
    refine SR_rd (RD_loadA Try.isAgg54 Try.sizeOf54 rfl rfl) Has.wh rfl ?_
    refine SR_call Try.call30 (.cons rfl (.nil)) (tx_Code_no t hokt) (lts rfl) ?_
    rintro _ L1 ⟨rfl, hL1⟩
    refine SR.lands hL1 ?_
    refine SR_pu (RD_move rfl) rfl ?_
    refine SR_pu (RD_extract rfl rfl) rfl ?_
    refine SR_pu (RD_extract rfl rfl) rfl ?_
    refine SR_pu (RD_assign rfl) rfl ?_
    refine SR_pu (RD_assign rfl) rfl ?_
    refine SR_nil ?_
    refine SN.le (l := [(9, _), (10, _), (11, _), (12, _)]) ?_ (.cons rfl (.cons rfl (.cons rfl (.cons rfl (.nil)))))
    refine SN_seq ?_
    refine SC_seq ?_
    by_cases hoku : u.ok = true
    · refine SC_region ?_
      refine SR_rd (RD_loadA Try.isAgg54 Try.sizeOf54 rfl rfl) Has.wh rfl ?_
      refine SR_call Try.call30 (.cons rfl (.nil)) (tx_Code_ok u hwu hoku) (lts rfl) ?_
      rintro _ L2 ⟨a2, c2, rfl, hL2⟩
      refine SR.lands hL2 ?_
      refine SR_pu (RD_move rfl) rfl ?_
      refine SR_pu (RD_extract rfl rfl) rfl ?_
      refine SR_pu (RD_extract rfl rfl) rfl ?_
      refine SR_pu (RD_assign rfl) rfl ?_
      refine SR_pu (RD_assign rfl) rfl ?_
      refine SR_nil ?_
      refine SN.le (l := [(9, _), (10, _), (11, _), (12, _), (13, _), (14, _)]) ?_ (.cons rfl (.cons rfl (.cons rfl (.cons rfl (.cons rfl (.cons rfl (.nil)))))))
      refine SN_seq ?_
      refine SC_seq ?_
      refine SC_seq ?_
      refine SC_region ?_
      refine SR_pu (RD_move rfl) rfl ?_
      refine SR_pu (RD_not rfl) rfl ?_
      refine SR_pu (RD_move rfl) rfl ?_
      refine SR_no rfl rfl (rfl) (lts rfl) ?_
      refine SR_no rfl rfl (rfl) (lts rfl) ?_
      refine SR_pu (RD_pick_t rfl (rfl) rfl) rfl ?_
      refine SR_nil ?_
      refine SN.le (l := [(9, _), (10, _), (11, _), (12, _), (13, _), (14, _), (42, _)]) ?_ (.cons rfl (.cons rfl (.cons rfl (.cons rfl (.cons rfl (.cons rfl (.cons rfl (.nil))))))))
      refine SN_seq ?_
      refine SC_cond_true rfl (rfl) ?_
      refine SC_seq ?_
      refine SC_region ?_
      refine SR_rd (RD_loadA Try.isAgg54 Try.sizeOf54 rfl rfl) Has.wh rfl ?_
      refine SR_call Try.call32 (.cons rfl (.nil)) (tx_Ok t) (lts rfl) ?_
      rintro _ L3 ⟨rfl, hL3⟩
      rw [hokt]
      refine SR.lands hL3 ?_
      refine SR_pu (RD_move rfl) rfl ?_
      refine SR_pu (RD_eqlB Try.underlying4 rfl rfl) rfl ?_
      refine SR_pu (RD_move rfl) rfl ?_
      refine SR_yes rfl rfl (rfl) ?_
      refine SR_rd (RD_loadA Try.isAgg54 Try.sizeOf54 rfl rfl) Has.wh rfl ?_
      refine SR_yes rfl rfl (rfl) ?_
      refine SR_call Try.call32 (.cons rfl (.nil)) (tx_Ok u) (lts rfl) ?_
      rintro _ L3 ⟨rfl, hL3⟩
      rw [hoku]
      refine SR.lands hL3 ?_
      refine SR_yes rfl rfl (rfl) ?_
      refine SR_pu (RD_move rfl) rfl ?_
      refine SR_yes rfl rfl (rfl) ?_
      refine SR_pu (RD_eqlB Try.underlying4 rfl rfl) rfl ?_
      refine SR_pu (RD_pick_t rfl (rfl) rfl) rfl ?_
      refine SR_pu (RD_move rfl) rfl ?_
      refine SR_yes rfl rfl (rfl) ?_
      refine SR_call Try.call33 (.nil) (tx_awake) (lts rfl) ?_
      rintro _ L9 ⟨rfl, hL9⟩
      refine SR.lands hL9 ?_
      refine SR_pu (RD_pick_t rfl (rfl) rfl) rfl ?_
      refine SR_pu (RD_assign rfl) rfl ?_
      refine SR_nil ?_
      refine SN.le (l := [(8, _)]) ?_ (.cons rfl (.nil))
      refine SN_seq ?_
      refine SC_ret1 rfl rfl ?_
      exact ⟨rfl, .fin⟩
    · have hoku : u.ok = false := by simpa using hoku
      refine SC_region ?_
      refine SR_rd (RD_loadA Try.isAgg54 Try.sizeOf54 rfl rfl) Has.wh rfl ?_
      refine SR_call Try.call30 (.cons rfl (.nil)) (tx_Code_no u hoku) (lts rfl) ?_
      rintro _ L2 ⟨rfl, hL2⟩
      refine SR.lands hL2 ?_
      refine SR_pu (RD_move rfl) rfl ?_
      refine SR_pu (RD_extract rfl rfl) rfl ?_
      refine SR_pu (RD_extract rfl rfl) rfl ?_
      refine SR_pu (RD_assign rfl) rfl ?_
      refine SR_pu (RD_assign rfl) rfl ?_
      refine SR_nil ?_
      refine SN.le (l := [(9, _), (10, _), (11, _), (12, _), (13, _), (14, _)]) ?_ (.cons rfl (.cons rfl (.cons rfl (.cons rfl (.cons rfl (.cons rfl (.nil)))))))
      refine SN_seq ?_
      refine SC_seq ?_
      refine SC_seq ?_
      refine SC_region ?_
      refine SR_pu (RD_move rfl) rfl ?_
      refine SR_pu (RD_not rfl) rfl ?_
      refine SR_pu (RD_move rfl) rfl ?_
      refine SR_no rfl rfl (rfl) (lts rfl) ?_
      refine SR_no rfl rfl (rfl) (lts rfl) ?_
      refine SR_pu (RD_pick_t rfl (rfl) rfl) rfl ?_
      refine SR_nil ?_
      refine SN.le (l := [(9, _), (10, _), (11, _), (12, _), (13, _), (14, _), (42, _)]) ?_ (.cons rfl (.cons rfl (.cons rfl (.cons rfl (.cons rfl (.cons rfl (.cons rfl (.nil))))))))
      refine SN_seq ?_
      refine SC_cond_true rfl (rfl) ?_
      refine SC_seq ?_
      refine SC_region ?_
      refine SR_rd (RD_loadA Try.isAgg54 Try.sizeOf54 rfl rfl) Has.wh rfl ?_
      refine SR_call Try.call32 (.cons rfl (.nil)) (tx_Ok t) (lts rfl) ?_
      rintro _ L3 ⟨rfl, hL3⟩
      rw [hokt]
      refine SR.lands hL3 ?_
      refine SR_pu (RD_move rfl) rfl ?_
      refine SR_pu (RD_eqlB Try.underlying4 rfl rfl) rfl ?_
      refine SR_pu (RD_move rfl) rfl ?_
      refine SR_yes rfl rfl (rfl) ?_
      refine SR_rd (RD_loadA Try.isAgg54 Try.sizeOf54 rfl rfl) Has.wh rfl ?_
      refine SR_yes rfl rfl (rfl) ?_
      refine SR_call Try.call32 (.cons rfl (.nil)) (tx_Ok u) (lts rfl) ?_
      rintro _ L3 ⟨rfl, hL3⟩
      rw [hoku]
      refine SR.lands hL3 ?_
      refine SR_yes rfl rfl (rfl) ?_
      refine SR_pu (RD_move rfl) rfl ?_
      refine SR_yes rfl rfl (rfl) ?_
      refine SR_pu (RD_eqlB Try.underlying4 rfl rfl) rfl ?_
      refine SR_pu (RD_pick_t rfl (rfl) rfl) rfl ?_
      refine SR_pu (RD_move rfl) rfl ?_
      refine SR_yes rfl rfl (rfl) ?_
      refine SR_call Try.call33 (.nil) (tx_awake) (lts rfl) ?_
      rintro _ L9 ⟨rfl, hL9⟩
      refine SR.lands hL9 ?_
      refine SR_pu (RD_pick_t rfl (rfl) rfl) rfl ?_
      refine SR_pu (RD_assign rfl) rfl ?_
      refine SR_nil ?_
      refine SN.le (l := [(8, _)]) ?_ (.cons rfl (.nil))
      refine SN_seq ?_
      refine SC_ret1 rfl rfl ?_
      exact ⟨rfl, .fin⟩

end Go.Proofs.Ytdjkllhnkbobfaa
