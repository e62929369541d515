/- Two quorums meet. -/
import Derived.Test.YtdmmaammpjdmbaaCe6
namespace Go.Proofs.Ytdmmaammpjdmbaa
open Go Go.Proofs
set_option maxRecDepth 100000

theorem law_CertMeet {W : World} {F : List HProp} [Abs F] (f a b : Int) (ha : 0 ≤ a ∧ a < 18446744073709551616) (hb : 0 ≤ b ∧ b < 18446744073709551616) :
    CallsK W Try.prog 5 #[.int .i64 f, .int .u64 a, .int .u64 b] (F) (fun v L => v = .bool true ∧ Lands L F) := by
  refine CallsK_enter (n := 95) Try.func5 rfl rfl rfl ?_
  obtain ⟨f0, hf0⟩ : ∃ f0 : Int, f % 256 % 11 = f0 := ⟨_, rfl⟩
  have hf1 : 0 ≤ f0 ∧ f0 ≤ 10 := by omega
  obtain ⟨cfg, hcfg⟩ : ∃ c : CfgD, c = ⟨f0, 3 * f0 + 1, 0, 0, 0, 0, 0, 0⟩ := ⟨_, rfl⟩
  refine SC_seq ?_
  refine SC_region ?_
  refine SR_pu (RD_assign rfl) rfl ?_
  refine SR_nil ?_
  refine SN.le (l := [(0, _), (1, _), (2, _)]) ?_ (.cons rfl (.cons rfl (.cons rfl (.nil))))
  refine SN_seq ?_
  refine SC_seq ?_
  refine SC_region ?_
  refine SR_pu (RD_move rfl) rfl ?_
  refine SR_pu (RD_mask 8 rfl rfl rfl (by decide) 256 rfl) rfl ?_
  refine SR_pu (RD_remi rfl rfl (by omega) (by omega)) rfl ?_
  refine SR_pu (RD_assign rfl) rfl ?_
  refine SR_nil ?_
  refine SN.le (l := [(0, _), (1, _), (2, _)]) ?_ (.cons rfl (.cons rfl (.cons rfl (.nil))))
  rw [hf0]
  refine SN_seq ?_
  refine SC_seq ?_
  refine SC_region ?_
  refine SR_pu (RD_move rfl) rfl ?_
  refine SR_pu (RD_move rfl) rfl ?_
  refine SR_pu (RD_muli rfl rfl (by omega) (by omega)) rfl ?_
  refine SR_pu (RD_addi rfl rfl (by omega) (by omega)) rfl ?_
  refine SR_pu (RD_build (.cons rfl (.cons rfl (.nil))) built24_0_1) rfl ?_
  refine SR_ox (OX_alloc Try.zeroValue24 rfl) rfl ?_
  rintro _ _ ⟨b7, rfl, rfl⟩
  refine SR_ox0 (OX_stA Try.sizeOf24 rfl rfl rfl rfl) ?_
  rintro _ _ rfl
  refine SR_nil ?_
  refine SN.le (l := [(0, _), (1, _), (2, _), (7, _)]) ?_ (.cons rfl (.cons rfl (.cons rfl (.cons rfl (.nil)))))
  refine SN_seq ?_
  refine SC_seq ?_
  refine SC_region ?_
  refine SR_rd (RD_loadA Try.isAgg24 Try.sizeOf24 rfl rfl) Has.wh rfl ?_
  refine SR_call Try.call24 (.cons rfl (.nil)) (cert_Quorum ⟨f0, 3 * f0 + 1, 0, 0, 0, 0, 0, 0⟩) (lts rfl) ?_
  rintro _ L1 ⟨rfl, hL1⟩
  refine SR.lands hL1 ?_
  have hq : IntKind.i64.wrap ((3 * f0 + 1) - f0) = 2 * f0 + 1 := by rw [IntKind.wrap_i64]; omega
  refine SR_pu (RD_assign rfl) rfl ?_
  refine SR_nil ?_
  refine SN.le (l := [(0, _), (1, _), (2, _), (7, _), (8, _)]) ?_ (.cons rfl (.cons rfl (.cons rfl (.cons rfl (.cons rfl (.nil))))))
  refine SN_seq ?_
  refine SC_seq ?_
  refine SC_drawn (.cons 0 true (.cons 1 true (.cons 2 true (.cons 3 true (.cons 4 true (.cons 5 true (.nil))))))) (by kernel_rfl) (by kernel_rfl) ?_
  first
    | refine SQ_pu rfl (RD_fieldAddr 1 Try.runUnderlying24 rfl rfl Try.sizeOf3 rfl) rfl ?_
    | refine SQ_rd rfl (RD_fieldAddrO 1 Try.runUnderlying24 rfl rfl Try.sizeOf3 rfl (by simp <;> omega)) Has.ro rfl ?_
  refine SQ_rd rfl (RD_load Try.isAgg3 rfl) (Has.ce rfl) rfl ?_
  first
    | refine SQ_pu rfl (RD_fieldAddr 1 Try.runUnderlying24 rfl rfl Try.sizeOf3 rfl) rfl ?_
    | refine SQ_rd rfl (RD_fieldAddrO 1 Try.runUnderlying24 rfl rfl Try.sizeOf3 rfl (by simp <;> omega)) Has.ro rfl ?_
  refine SQ_rd rfl (RD_load Try.isAgg3 rfl) (Has.ce rfl) rfl ?_
  refine SQ_pu rfl (RD_assign rfl) rfl ?_
  refine SQ_pu rfl (RD_assign rfl) rfl ?_
  refine SQ_nil ?_
  refine SN.le (l := [(0, _), (1, _), (2, _), (7, _), (8, _), (9, _), (10, _)]) ?_ (.cons rfl (.cons rfl (.cons rfl (.cons rfl (.cons rfl (.cons rfl (.cons rfl (.nil))))))))
  refine SN_seq ?_
  refine SC_seq ?_
  refine SC_region ?_
  refine SR_pu (RD_assign rfl) rfl ?_
  refine SR_nil ?_
  refine SN.le (l := [(0, _), (1, _), (2, _), (7, _), (8, _), (9, _), (10, _), (11, _)]) ?_ (.cons rfl (.cons rfl (.cons rfl (.cons rfl (.cons rfl (.cons rfl (.cons rfl (.cons rfl (.nil)))))))))
  refine SN_seq ?_
  refine SC_seq ?_
  refine SC_seq ?_
  refine SC_region ?_
  refine SR_pu (RD_assign rfl) rfl ?_
  refine SR_nil ?_
  refine SN.le (l := [(0, _), (1, _), (2, _), (7, _), (8, _), (9, _), (10, _), (11, _), (12, _)]) ?_ (.cons rfl (.cons rfl (.cons rfl (.cons rfl (.cons rfl (.cons rfl (.cons rfl (.cons rfl (.cons rfl (.nil))))))))))
  refine SN_seq ?_
  refine SC_block ?_
  refine SC_ind (X := Int × Int × Int × Nat) (fun s => 2 * f0 + 1 ≤ s.1 ∧ 2 * f0 + 1 ≤ s.2.1 ∧ s.1 ≤ 3 * f0 + 1 ∧ s.2.1 ≤ 3 * f0 + 1 ∧ (s.2.2.2 : Int) - (3 * f0 + 1 - s.1) - (3 * f0 + 1 - s.2.1) ≤ s.2.2.1 ∧ 0 ≤ s.2.2.1 ∧ s.2.2.1 ≤ s.2.2.2 ∧ (s.2.2.2 : Int) ≤ 3 * f0 + 1) (fun s => (3 * f0 + 1).toNat - s.2.2.2) (fun s => [(0, .int .i64 f0), (1, .int .u64 a), (2, .int .u64 b), (7, .pointer (some ⟨b7, 0, none⟩)), (8, .int .i64 (2 * f0 + 1)), (9, .int .i64 s.1), (10, .int .i64 s.2.1), (11, .int .i64 s.2.2.1), (12, .int .i64 (s.2.2.2 : Nat))]) (fun s => pt b7 (.cells [.int .i64 f0, .int .i64 (3 * f0 + 1), .int .i64 0, .int .i64 0, .int .i64 0, .int .i64 0, .int .i64 0, .int .i64 0].toArray 24) :: F) ((3 * f0 + 1, 3 * f0 + 1, 0, 0)) (by dsimp only; omega) (.cons rfl (.cons rfl (.cons rfl (.cons rfl (.cons' rfl (congrArg (Value.int .i64) hq) (.cons rfl (.cons rfl (.cons rfl (.cons rfl (.nil)))))))))) (.fin) ?_
  intro ⟨x, y, z, i⟩ hi ih
  dsimp only at hi ih ⊢
  refine SC_seq ?_
  refine SC_seq ?_
  refine SC_region ?_
  refine SR_pu (RD_move rfl) rfl ?_
  first
    | refine SR_pu (RD_fieldAddr 1 Try.runUnderlying24 rfl rfl Try.sizeOf3 rfl) rfl ?_
    | refine SR_rd (RD_fieldAddrO 1 Try.runUnderlying24 rfl rfl Try.sizeOf3 rfl (by simp <;> omega)) Has.ro rfl ?_
  refine SR_rd (RD_load Try.isAgg3 rfl) (Has.ce rfl) rfl ?_
  refine SR_pu (RD_lss rfl rfl) rfl ?_
  refine SR_nil ?_
  refine SN.le (l := [(0, _), (1, _), (2, _), (7, _), (8, _), (9, _), (10, _), (11, _), (12, _), (32, _)]) ?_ (.cons rfl (.cons rfl (.cons rfl (.cons rfl (.cons rfl (.cons rfl (.cons rfl (.cons rfl (.cons rfl (.cons rfl (.nil)))))))))))
  refine SN_seq ?_
  refine SC_cond rfl (fun hc32 => ?_) (fun hc32 => ?_)
  · have hin : (i : Int) < 3 * f0 + 1 := by simpa using hc32
    refine SC_skip ?_
    refine SN_seq ?_
    refine SC_seq ?_
    refine SC_block ?_
    refine SC_seq ?_
    refine SC_join (X := {pr : Bool × Bool // (pr.1 = false → 2 * f0 + 1 < x) ∧ (pr.2 = false → 2 * f0 + 1 < y)}) (fun w => [(0, .int .i64 f0), (1, .int .u64 a), (2, .int .u64 b), (7, .pointer (some ⟨b7, 0, none⟩)), (8, .int .i64 (2 * f0 + 1)), (9, .int .i64 x), (10, .int .i64 y), (11, .int .i64 z), (12, .int .i64 (i : Nat)), (13, .bool w.1.1), (14, .bool w.1.2)]) (fun w => pt b7 (.cells [.int .i64 f0, .int .i64 (3 * f0 + 1), .int .i64 0, .int .i64 0, .int .i64 0, .int .i64 0, .int .i64 0, .int .i64 0].toArray 24) :: F) (fun ⟨⟨p, r⟩, hpr⟩ => ?_) (fun J0 => ?_)
    · obtain ⟨hp, hr⟩ := hpr
      dsimp only
      refine SN_seq ?_
      refine SC_seq ?_
      refine SC_seq ?_
      refine SC_region ?_
      refine SR_pu (RD_move rfl) rfl ?_
      refine SR_pu (RD_not rfl) rfl ?_
      refine SR_nil ?_
      refine SN.le (l := [(0, _), (1, _), (2, _), (7, _), (8, _), (9, _), (10, _), (11, _), (12, _), (13, _), (14, _), (58, _)]) ?_ (.cons rfl (.cons rfl (.cons rfl (.cons rfl (.cons rfl (.cons rfl (.cons rfl (.cons rfl (.cons rfl (.cons rfl (.cons rfl (.cons rfl (.nil)))))))))))))
      refine SN_seq ?_
      refine SC_cond rfl (fun hc58 => ?_) (fun hc58 => ?_)
      · refine SC_region ?_
        refine SR_pu (RD_move rfl) rfl ?_
        refine SR_pu (RD_subi rfl rfl (by omega) (by omega)) rfl ?_
        refine SR_pu (RD_assign rfl) rfl ?_
        refine SR_nil ?_
        refine SN.le (l := [(0, _), (1, _), (2, _), (7, _), (8, _), (9, _), (10, _), (11, _), (12, _), (13, _), (14, _)]) ?_ (.cons rfl (.cons rfl (.cons rfl (.cons rfl (.cons rfl (.cons rfl (.cons rfl (.cons rfl (.cons rfl (.cons rfl (.cons rfl (.nil))))))))))))
        refine SN_seq ?_
        refine SC_seq ?_
        refine SC_seq ?_
        refine SC_region ?_
        refine SR_pu (RD_move rfl) rfl ?_
        refine SR_pu (RD_not rfl) rfl ?_
        refine SR_nil ?_
        refine SN.le (l := [(0, _), (1, _), (2, _), (7, _), (8, _), (9, _), (10, _), (11, _), (12, _), (13, _), (14, _), (62, _)]) ?_ (.cons rfl (.cons rfl (.cons rfl (.cons rfl (.cons rfl (.cons rfl (.cons rfl (.cons rfl (.cons rfl (.cons rfl (.cons rfl (.cons rfl (.nil)))))))))))))
        refine SN_seq ?_
        refine SC_cond rfl (fun hc62 => ?_) (fun hc62 => ?_)
        · refine SC_region ?_
          refine SR_pu (RD_move rfl) rfl ?_
          refine SR_pu (RD_subi rfl rfl (by omega) (by omega)) rfl ?_
          refine SR_pu (RD_assign rfl) rfl ?_
          refine SR_nil ?_
          refine SN.le (l := [(0, _), (1, _), (2, _), (7, _), (8, _), (9, _), (10, _), (11, _), (12, _), (13, _), (14, _)]) ?_ (.cons rfl (.cons rfl (.cons rfl (.cons rfl (.cons rfl (.cons rfl (.cons rfl (.cons rfl (.cons rfl (.cons rfl (.cons rfl (.nil))))))))))))
          refine SN_seq ?_
          refine SC_seq ?_
          refine SC_region ?_
          refine SR_pu (RD_move rfl) rfl ?_
          refine SR_pu (RD_move rfl) rfl ?_
          refine SR_guard rfl rfl (fun hg14_1 => ?_) (fun hg14_1 => ?_)
          · refine SR_yes rfl rfl (hg14_1) ?_
            refine SR_pu (RD_move rfl) rfl ?_
            refine SR_pu (RD_pick_t rfl (hg14_1) rfl) rfl ?_
            refine SR_nil ?_
            refine SN.le (l := [(0, _), (1, _), (2, _), (7, _), (8, _), (9, _), (10, _), (11, _), (12, _), (68, _)]) ?_ (.cons rfl (.cons rfl (.cons rfl (.cons rfl (.cons rfl (.cons rfl (.cons rfl (.cons rfl (.cons rfl (.cons rfl (.nil)))))))))))
            refine SN_seq ?_
            refine SC_cond rfl (fun hc68 => ?_) (fun hc68 => ?_)
            · refine SC_region ?_
              refine SR_pu (RD_move rfl) rfl ?_
              refine SR_pu (RD_addi rfl rfl (by omega) (by omega)) rfl ?_
              refine SR_pu (RD_assign rfl) rfl ?_
              refine SR_nil ?_
              refine SN.le (l := [(0, _), (1, _), (2, _), (7, _), (8, _), (9, _), (10, _), (11, _), (12, _)]) ?_ (.cons rfl (.cons rfl (.cons rfl (.cons rfl (.cons rfl (.cons rfl (.cons rfl (.cons rfl (.cons rfl (.nil))))))))))
              refine SN_block ?_
              refine SN_seq ?_
              refine SC_region ?_
              refine SR_pu (RD_move rfl) rfl ?_
              refine SR_pu (RD_addi rfl rfl (by omega) (by omega)) rfl ?_
              refine SR_pu (RD_assign rfl) rfl ?_
              refine SR_nil ?_
              refine SN.le (l := [(0, _), (1, _), (2, _), (7, _), (8, _), (9, _), (10, _), (11, _), (12, _)]) ?_ (.cons rfl (.cons rfl (.cons rfl (.cons rfl (.cons rfl (.cons rfl (.cons rfl (.cons rfl (.cons rfl (.nil))))))))))
              refine SC_again (ih ((_, _, _, i + 1)) (by dsimp only; cases p <;> cases r <;> (try simp at hc58) <;> (try simp at hc62) <;> (try simp at hc68) <;> (try simp at hp) <;> (try simp at hr) <;> (try simp at hg14_1) <;> omega) (by dsimp only; omega)) (.fin) (.cons rfl (.cons rfl (.cons rfl (.cons rfl (.cons rfl (.cons rfl (.cons rfl (.cons rfl (.cons' rfl (ie (by dsimp only; omega)) (.nil))))))))))
            · refine SC_skip ?_
              refine SN_block ?_
              refine SN_seq ?_
              refine SC_region ?_
              refine SR_pu (RD_move rfl) rfl ?_
              refine SR_pu (RD_addi rfl rfl (by omega) (by omega)) rfl ?_
              refine SR_pu (RD_assign rfl) rfl ?_
              refine SR_nil ?_
              refine SN.le (l := [(0, _), (1, _), (2, _), (7, _), (8, _), (9, _), (10, _), (11, _), (12, _)]) ?_ (.cons rfl (.cons rfl (.cons rfl (.cons rfl (.cons rfl (.cons rfl (.cons rfl (.cons rfl (.cons rfl (.nil))))))))))
              refine SC_again (ih ((_, _, _, i + 1)) (by dsimp only; cases p <;> cases r <;> (try simp at hc58) <;> (try simp at hc62) <;> (try simp at hc68) <;> (try simp at hp) <;> (try simp at hr) <;> (try simp at hg14_1) <;> omega) (by dsimp only; omega)) (.fin) (.cons rfl (.cons rfl (.cons rfl (.cons rfl (.cons rfl (.cons rfl (.cons rfl (.cons rfl (.cons' rfl (ie (by dsimp only; omega)) (.nil))))))))))
          · refine SR_no rfl rfl (hg14_1) (lts rfl) ?_
            refine SR_pu (RD_pick_f rfl (hg14_1) rfl) rfl ?_
            refine SR_nil ?_
            refine SN.le (l := [(0, _), (1, _), (2, _), (7, _), (8, _), (9, _), (10, _), (11, _), (12, _), (68, _)]) ?_ (.cons rfl (.cons rfl (.cons rfl (.cons rfl (.cons rfl (.cons rfl (.cons rfl (.cons rfl (.cons rfl (.cons rfl (.nil)))))))))))
            refine SN_seq ?_
            refine SC_cond rfl (fun hc68 => ?_) (fun hc68 => ?_)
            · refine SC_region ?_
              refine SR_pu (RD_move rfl) rfl ?_
              refine SR_pu (RD_addi rfl rfl (by omega) (by omega)) rfl ?_
              refine SR_pu (RD_assign rfl) rfl ?_
              refine SR_nil ?_
              refine SN.le (l := [(0, _), (1, _), (2, _), (7, _), (8, _), (9, _), (10, _), (11, _), (12, _)]) ?_ (.cons rfl (.cons rfl (.cons rfl (.cons rfl (.cons rfl (.cons rfl (.cons rfl (.cons rfl (.cons rfl (.nil))))))))))
              refine SN_block ?_
              refine SN_seq ?_
              refine SC_region ?_
              refine SR_pu (RD_move rfl) rfl ?_
              refine SR_pu (RD_addi rfl rfl (by omega) (by omega)) rfl ?_
              refine SR_pu (RD_assign rfl) rfl ?_
              refine SR_nil ?_
              refine SN.le (l := [(0, _), (1, _), (2, _), (7, _), (8, _), (9, _), (10, _), (11, _), (12, _)]) ?_ (.cons rfl (.cons rfl (.cons rfl (.cons rfl (.cons rfl (.cons rfl (.cons rfl (.cons rfl (.cons rfl (.nil))))))))))
              refine SC_again (ih ((_, _, _, i + 1)) (by dsimp only; cases p <;> cases r <;> (try simp at hc58) <;> (try simp at hc62) <;> (try simp at hc68) <;> (try simp at hp) <;> (try simp at hr) <;> (try simp at hg14_1) <;> omega) (by dsimp only; omega)) (.fin) (.cons rfl (.cons rfl (.cons rfl (.cons rfl (.cons rfl (.cons rfl (.cons rfl (.cons rfl (.cons' rfl (ie (by dsimp only; omega)) (.nil))))))))))
            · refine SC_skip ?_
              refine SN_block ?_
              refine SN_seq ?_
              refine SC_region ?_
              refine SR_pu (RD_move rfl) rfl ?_
              refine SR_pu (RD_addi rfl rfl (by omega) (by omega)) rfl ?_
              refine SR_pu (RD_assign rfl) rfl ?_
              refine SR_nil ?_
              refine SN.le (l := [(0, _), (1, _), (2, _), (7, _), (8, _), (9, _), (10, _), (11, _), (12, _)]) ?_ (.cons rfl (.cons rfl (.cons rfl (.cons rfl (.cons rfl (.cons rfl (.cons rfl (.cons rfl (.cons rfl (.nil))))))))))
              refine SC_again (ih ((_, _, _, i + 1)) (by dsimp only; cases p <;> cases r <;> (try simp at hc58) <;> (try simp at hc62) <;> (try simp at hc68) <;> (try simp at hp) <;> (try simp at hr) <;> (try simp at hg14_1) <;> omega) (by dsimp only; omega)) (.fin) (.cons rfl (.cons rfl (.cons rfl (.cons rfl (.cons rfl (.cons rfl (.cons rfl (.cons rfl (.cons' rfl (ie (by dsimp only; omega)) (.nil))))))))))
        · refine SC_skip ?_
          refine SN_seq ?_
          refine SC_seq ?_
          refine SC_region ?_
          refine SR_pu (RD_move rfl) rfl ?_
          refine SR_pu (RD_move rfl) rfl ?_
          refine SR_guard rfl rfl (fun hg14_1 => ?_) (fun hg14_1 => ?_)
          · refine SR_yes rfl rfl (hg14_1) ?_
            refine SR_pu (RD_move rfl) rfl ?_
            refine SR_pu (RD_pick_t rfl (hg14_1) rfl) rfl ?_
            refine SR_nil ?_
            refine SN.le (l := [(0, _), (1, _), (2, _), (7, _), (8, _), (9, _), (10, _), (11, _), (12, _), (68, _)]) ?_ (.cons rfl (.cons rfl (.cons rfl (.cons rfl (.cons rfl (.cons rfl (.cons rfl (.cons rfl (.cons rfl (.cons rfl (.nil)))))))))))
            refine SN_seq ?_
            refine SC_cond rfl (fun hc68 => ?_) (fun hc68 => ?_)
            · refine SC_region ?_
              refine SR_pu (RD_move rfl) rfl ?_
              refine SR_pu (RD_addi rfl rfl (by omega) (by omega)) rfl ?_
              refine SR_pu (RD_assign rfl) rfl ?_
              refine SR_nil ?_
              refine SN.le (l := [(0, _), (1, _), (2, _), (7, _), (8, _), (9, _), (10, _), (11, _), (12, _)]) ?_ (.cons rfl (.cons rfl (.cons rfl (.cons rfl (.cons rfl (.cons rfl (.cons rfl (.cons rfl (.cons rfl (.nil))))))))))
              refine SN_block ?_
              refine SN_seq ?_
              refine SC_region ?_
              refine SR_pu (RD_move rfl) rfl ?_
              refine SR_pu (RD_addi rfl rfl (by omega) (by omega)) rfl ?_
              refine SR_pu (RD_assign rfl) rfl ?_
              refine SR_nil ?_
              refine SN.le (l := [(0, _), (1, _), (2, _), (7, _), (8, _), (9, _), (10, _), (11, _), (12, _)]) ?_ (.cons rfl (.cons rfl (.cons rfl (.cons rfl (.cons rfl (.cons rfl (.cons rfl (.cons rfl (.cons rfl (.nil))))))))))
              refine SC_again (ih ((_, _, _, i + 1)) (by dsimp only; cases p <;> cases r <;> (try simp at hc58) <;> (try simp at hc62) <;> (try simp at hc68) <;> (try simp at hp) <;> (try simp at hr) <;> (try simp at hg14_1) <;> omega) (by dsimp only; omega)) (.fin) (.cons rfl (.cons rfl (.cons rfl (.cons rfl (.cons rfl (.cons rfl (.cons rfl (.cons rfl (.cons' rfl (ie (by dsimp only; omega)) (.nil))))))))))
            · refine SC_skip ?_
              refine SN_block ?_
              refine SN_seq ?_
              refine SC_region ?_
              refine SR_pu (RD_move rfl) rfl ?_
              refine SR_pu (RD_addi rfl rfl (by omega) (by omega)) rfl ?_
              refine SR_pu (RD_assign rfl) rfl ?_
              refine SR_nil ?_
              refine SN.le (l := [(0, _), (1, _), (2, _), (7, _), (8, _), (9, _), (10, _), (11, _), (12, _)]) ?_ (.cons rfl (.cons rfl (.cons rfl (.cons rfl (.cons rfl (.cons rfl (.cons rfl (.cons rfl (.cons rfl (.nil))))))))))
              refine SC_again (ih ((_, _, _, i + 1)) (by dsimp only; cases p <;> cases r <;> (try simp at hc58) <;> (try simp at hc62) <;> (try simp at hc68) <;> (try simp at hp) <;> (try simp at hr) <;> (try simp at hg14_1) <;> omega) (by dsimp only; omega)) (.fin) (.cons rfl (.cons rfl (.cons rfl (.cons rfl (.cons rfl (.cons rfl (.cons rfl (.cons rfl (.cons' rfl (ie (by dsimp only; omega)) (.nil))))))))))
          · refine SR_no rfl rfl (hg14_1) (lts rfl) ?_
            refine SR_pu (RD_pick_f rfl (hg14_1) rfl) rfl ?_
            refine SR_nil ?_
            refine SN.le (l := [(0, _), (1, _), (2, _), (7, _), (8, _), (9, _), (10, _), (11, _), (12, _), (68, _)]) ?_ (.cons rfl (.cons rfl (.cons rfl (.cons rfl (.cons rfl (.cons rfl (.cons rfl (.cons rfl (.cons rfl (.cons rfl (.nil)))))))))))
            refine SN_seq ?_
            refine SC_cond rfl (fun hc68 => ?_) (fun hc68 => ?_)
            · refine SC_region ?_
              refine SR_pu (RD_move rfl) rfl ?_
              refine SR_pu (RD_addi rfl rfl (by omega) (by omega)) rfl ?_
              refine SR_pu (RD_assign rfl) rfl ?_
              refine SR_nil ?_
              refine SN.le (l := [(0, _), (1, _), (2, _), (7, _), (8, _), (9, _), (10, _), (11, _), (12, _)]) ?_ (.cons rfl (.cons rfl (.cons rfl (.cons rfl (.cons rfl (.cons rfl (.cons rfl (.cons rfl (.cons rfl (.nil))))))))))
              refine SN_block ?_
              refine SN_seq ?_
              refine SC_region ?_
              refine SR_pu (RD_move rfl) rfl ?_
              refine SR_pu (RD_addi rfl rfl (by omega) (by omega)) rfl ?_
              refine SR_pu (RD_assign rfl) rfl ?_
              refine SR_nil ?_
              refine SN.le (l := [(0, _), (1, _), (2, _), (7, _), (8, _), (9, _), (10, _), (11, _), (12, _)]) ?_ (.cons rfl (.cons rfl (.cons rfl (.cons rfl (.cons rfl (.cons rfl (.cons rfl (.cons rfl (.cons rfl (.nil))))))))))
              refine SC_again (ih ((_, _, _, i + 1)) (by dsimp only; cases p <;> cases r <;> (try simp at hc58) <;> (try simp at hc62) <;> (try simp at hc68) <;> (try simp at hp) <;> (try simp at hr) <;> (try simp at hg14_1) <;> omega) (by dsimp only; omega)) (.fin) (.cons rfl (.cons rfl (.cons rfl (.cons rfl (.cons rfl (.cons rfl (.cons rfl (.cons rfl (.cons' rfl (ie (by dsimp only; omega)) (.nil))))))))))
            · refine SC_skip ?_
              refine SN_block ?_
              refine SN_seq ?_
              refine SC_region ?_
              refine SR_pu (RD_move rfl) rfl ?_
              refine SR_pu (RD_addi rfl rfl (by omega) (by omega)) rfl ?_
              refine SR_pu (RD_assign rfl) rfl ?_
              refine SR_nil ?_
              refine SN.le (l := [(0, _), (1, _), (2, _), (7, _), (8, _), (9, _), (10, _), (11, _), (12, _)]) ?_ (.cons rfl (.cons rfl (.cons rfl (.cons rfl (.cons rfl (.cons rfl (.cons rfl (.cons rfl (.cons rfl (.nil))))))))))
              refine SC_again (ih ((_, _, _, i + 1)) (by dsimp only; cases p <;> cases r <;> (try simp at hc58) <;> (try simp at hc62) <;> (try simp at hc68) <;> (try simp at hp) <;> (try simp at hr) <;> (try simp at hg14_1) <;> omega) (by dsimp only; omega)) (.fin) (.cons rfl (.cons rfl (.cons rfl (.cons rfl (.cons rfl (.cons rfl (.cons rfl (.cons rfl (.cons' rfl (ie (by dsimp only; omega)) (.nil))))))))))
      · refine SC_skip ?_
        refine SN_seq ?_
        refine SC_seq ?_
        refine SC_seq ?_
        refine SC_region ?_
        refine SR_pu (RD_move rfl) rfl ?_
        refine SR_pu (RD_not rfl) rfl ?_
        refine SR_nil ?_
        refine SN.le (l := [(0, _), (1, _), (2, _), (7, _), (8, _), (9, _), (10, _), (11, _), (12, _), (13, _), (14, _), (62, _)]) ?_ (.cons rfl (.cons rfl (.cons rfl (.cons rfl (.cons rfl (.cons rfl (.cons rfl (.cons rfl (.cons rfl (.cons rfl (.cons rfl (.cons rfl (.nil)))))))))))))
        refine SN_seq ?_
        refine SC_cond rfl (fun hc62 => ?_) (fun hc62 => ?_)
        · refine SC_region ?_
          refine SR_pu (RD_move rfl) rfl ?_
          refine SR_pu (RD_subi rfl rfl (by omega) (by omega)) rfl ?_
          refine SR_pu (RD_assign rfl) rfl ?_
          refine SR_nil ?_
          refine SN.le (l := [(0, _), (1, _), (2, _), (7, _), (8, _), (9, _), (10, _), (11, _), (12, _), (13, _), (14, _)]) ?_ (.cons rfl (.cons rfl (.cons rfl (.cons rfl (.cons rfl (.cons rfl (.cons rfl (.cons rfl (.cons rfl (.cons rfl (.cons rfl (.nil))))))))))))
          refine SN_seq ?_
          refine SC_seq ?_
          refine SC_region ?_
          refine SR_pu (RD_move rfl) rfl ?_
          refine SR_pu (RD_move rfl) rfl ?_
          refine SR_guard rfl rfl (fun hg14_1 => ?_) (fun hg14_1 => ?_)
          · refine SR_yes rfl rfl (hg14_1) ?_
            refine SR_pu (RD_move rfl) rfl ?_
            refine SR_pu (RD_pick_t rfl (hg14_1) rfl) rfl ?_
            refine SR_nil ?_
            refine SN.le (l := [(0, _), (1, _), (2, _), (7, _), (8, _), (9, _), (10, _), (11, _), (12, _), (68, _)]) ?_ (.cons rfl (.cons rfl (.cons rfl (.cons rfl (.cons rfl (.cons rfl (.cons rfl (.cons rfl (.cons rfl (.cons rfl (.nil)))))))))))
            refine SN_seq ?_
            refine SC_cond rfl (fun hc68 => ?_) (fun hc68 => ?_)
            · refine SC_region ?_
              refine SR_pu (RD_move rfl) rfl ?_
              refine SR_pu (RD_addi rfl rfl (by omega) (by omega)) rfl ?_
              refine SR_pu (RD_assign rfl) rfl ?_
              refine SR_nil ?_
              refine SN.le (l := [(0, _), (1, _), (2, _), (7, _), (8, _), (9, _), (10, _), (11, _), (12, _)]) ?_ (.cons rfl (.cons rfl (.cons rfl (.cons rfl (.cons rfl (.cons rfl (.cons rfl (.cons rfl (.cons rfl (.nil))))))))))
              refine SN_block ?_
              refine SN_seq ?_
              refine SC_region ?_
              refine SR_pu (RD_move rfl) rfl ?_
              refine SR_pu (RD_addi rfl rfl (by omega) (by omega)) rfl ?_
              refine SR_pu (RD_assign rfl) rfl ?_
              refine SR_nil ?_
              refine SN.le (l := [(0, _), (1, _), (2, _), (7, _), (8, _), (9, _), (10, _), (11, _), (12, _)]) ?_ (.cons rfl (.cons rfl (.cons rfl (.cons rfl (.cons rfl (.cons rfl (.cons rfl (.cons rfl (.cons rfl (.nil))))))))))
              refine SC_again (ih ((_, _, _, i + 1)) (by dsimp only; cases p <;> cases r <;> (try simp at hc58) <;> (try simp at hc62) <;> (try simp at hc68) <;> (try simp at hp) <;> (try simp at hr) <;> (try simp at hg14_1) <;> omega) (by dsimp only; omega)) (.fin) (.cons rfl (.cons rfl (.cons rfl (.cons rfl (.cons rfl (.cons rfl (.cons rfl (.cons rfl (.cons' rfl (ie (by dsimp only; omega)) (.nil))))))))))
            · refine SC_skip ?_
              refine SN_block ?_
              refine SN_seq ?_
              refine SC_region ?_
              refine SR_pu (RD_move rfl) rfl ?_
              refine SR_pu (RD_addi rfl rfl (by omega) (by omega)) rfl ?_
              refine SR_pu (RD_assign rfl) rfl ?_
              refine SR_nil ?_
              refine SN.le (l := [(0, _), (1, _), (2, _), (7, _), (8, _), (9, _), (10, _), (11, _), (12, _)]) ?_ (.cons rfl (.cons rfl (.cons rfl (.cons rfl (.cons rfl (.cons rfl (.cons rfl (.cons rfl (.cons rfl (.nil))))))))))
              refine SC_again (ih ((_, _, _, i + 1)) (by dsimp only; cases p <;> cases r <;> (try simp at hc58) <;> (try simp at hc62) <;> (try simp at hc68) <;> (try simp at hp) <;> (try simp at hr) <;> (try simp at hg14_1) <;> omega) (by dsimp only; omega)) (.fin) (.cons rfl (.cons rfl (.cons rfl (.cons rfl (.cons rfl (.cons rfl (.cons rfl (.cons rfl (.cons' rfl (ie (by dsimp only; omega)) (.nil))))))))))
          · refine SR_no rfl rfl (hg14_1) (lts rfl) ?_
            refine SR_pu (RD_pick_f rfl (hg14_1) rfl) rfl ?_
            refine SR_nil ?_
            refine SN.le (l := [(0, _), (1, _), (2, _), (7, _), (8, _), (9, _), (10, _), (11, _), (12, _), (68, _)]) ?_ (.cons rfl (.cons rfl (.cons rfl (.cons rfl (.cons rfl (.cons rfl (.cons rfl (.cons rfl (.cons rfl (.cons rfl (.nil)))))))))))
            refine SN_seq ?_
            refine SC_cond rfl (fun hc68 => ?_) (fun hc68 => ?_)
            · refine SC_region ?_
              refine SR_pu (RD_move rfl) rfl ?_
              refine SR_pu (RD_addi rfl rfl (by omega) (by omega)) rfl ?_
              refine SR_pu (RD_assign rfl) rfl ?_
              refine SR_nil ?_
              refine SN.le (l := [(0, _), (1, _), (2, _), (7, _), (8, _), (9, _), (10, _), (11, _), (12, _)]) ?_ (.cons rfl (.cons rfl (.cons rfl (.cons rfl (.cons rfl (.cons rfl (.cons rfl (.cons rfl (.cons rfl (.nil))))))))))
              refine SN_block ?_
              refine SN_seq ?_
              refine SC_region ?_
              refine SR_pu (RD_move rfl) rfl ?_
              refine SR_pu (RD_addi rfl rfl (by omega) (by omega)) rfl ?_
              refine SR_pu (RD_assign rfl) rfl ?_
              refine SR_nil ?_
              refine SN.le (l := [(0, _), (1, _), (2, _), (7, _), (8, _), (9, _), (10, _), (11, _), (12, _)]) ?_ (.cons rfl (.cons rfl (.cons rfl (.cons rfl (.cons rfl (.cons rfl (.cons rfl (.cons rfl (.cons rfl (.nil))))))))))
              refine SC_again (ih ((_, _, _, i + 1)) (by dsimp only; cases p <;> cases r <;> (try simp at hc58) <;> (try simp at hc62) <;> (try simp at hc68) <;> (try simp at hp) <;> (try simp at hr) <;> (try simp at hg14_1) <;> omega) (by dsimp only; omega)) (.fin) (.cons rfl (.cons rfl (.cons rfl (.cons rfl (.cons rfl (.cons rfl (.cons rfl (.cons rfl (.cons' rfl (ie (by dsimp only; omega)) (.nil))))))))))
            · refine SC_skip ?_
              refine SN_block ?_
              refine SN_seq ?_
              refine SC_region ?_
              refine SR_pu (RD_move rfl) rfl ?_
              refine SR_pu (RD_addi rfl rfl (by omega) (by omega)) rfl ?_
              refine SR_pu (RD_assign rfl) rfl ?_
              refine SR_nil ?_
              refine SN.le (l := [(0, _), (1, _), (2, _), (7, _), (8, _), (9, _), (10, _), (11, _), (12, _)]) ?_ (.cons rfl (.cons rfl (.cons rfl (.cons rfl (.cons rfl (.cons rfl (.cons rfl (.cons rfl (.cons rfl (.nil))))))))))
              refine SC_again (ih ((_, _, _, i + 1)) (by dsimp only; cases p <;> cases r <;> (try simp at hc58) <;> (try simp at hc62) <;> (try simp at hc68) <;> (try simp at hp) <;> (try simp at hr) <;> (try simp at hg14_1) <;> omega) (by dsimp only; omega)) (.fin) (.cons rfl (.cons rfl (.cons rfl (.cons rfl (.cons rfl (.cons rfl (.cons rfl (.cons rfl (.cons' rfl (ie (by dsimp only; omega)) (.nil))))))))))
        · refine SC_skip ?_
          refine SN_seq ?_
          refine SC_seq ?_
          refine SC_region ?_
          refine SR_pu (RD_move rfl) rfl ?_
          refine SR_pu (RD_move rfl) rfl ?_
          refine SR_guard rfl rfl (fun hg14_1 => ?_) (fun hg14_1 => ?_)
          · refine SR_yes rfl rfl (hg14_1) ?_
            refine SR_pu (RD_move rfl) rfl ?_
            refine SR_pu (RD_pick_t rfl (hg14_1) rfl) rfl ?_
            refine SR_nil ?_
            refine SN.le (l := [(0, _), (1, _), (2, _), (7, _), (8, _), (9, _), (10, _), (11, _), (12, _), (68, _)]) ?_ (.cons rfl (.cons rfl (.cons rfl (.cons rfl (.cons rfl (.cons rfl (.cons rfl (.cons rfl (.cons rfl (.cons rfl (.nil)))))))))))
            refine SN_seq ?_
            refine SC_cond rfl (fun hc68 => ?_) (fun hc68 => ?_)
            · refine SC_region ?_
              refine SR_pu (RD_move rfl) rfl ?_
              refine SR_pu (RD_addi rfl rfl (by omega) (by omega)) rfl ?_
              refine SR_pu (RD_assign rfl) rfl ?_
              refine SR_nil ?_
              refine SN.le (l := [(0, _), (1, _), (2, _), (7, _), (8, _), (9, _), (10, _), (11, _), (12, _)]) ?_ (.cons rfl (.cons rfl (.cons rfl (.cons rfl (.cons rfl (.cons rfl (.cons rfl (.cons rfl (.cons rfl (.nil))))))))))
              refine SN_block ?_
              refine SN_seq ?_
              refine SC_region ?_
              refine SR_pu (RD_move rfl) rfl ?_
              refine SR_pu (RD_addi rfl rfl (by omega) (by omega)) rfl ?_
              refine SR_pu (RD_assign rfl) rfl ?_
              refine SR_nil ?_
              refine SN.le (l := [(0, _), (1, _), (2, _), (7, _), (8, _), (9, _), (10, _), (11, _), (12, _)]) ?_ (.cons rfl (.cons rfl (.cons rfl (.cons rfl (.cons rfl (.cons rfl (.cons rfl (.cons rfl (.cons rfl (.nil))))))))))
              refine SC_again (ih ((_, _, _, i + 1)) (by dsimp only; cases p <;> cases r <;> (try simp at hc58) <;> (try simp at hc62) <;> (try simp at hc68) <;> (try simp at hp) <;> (try simp at hr) <;> (try simp at hg14_1) <;> omega) (by dsimp only; omega)) (.fin) (.cons rfl (.cons rfl (.cons rfl (.cons rfl (.cons rfl (.cons rfl (.cons rfl (.cons rfl (.cons' rfl (ie (by dsimp only; omega)) (.nil))))))))))
            · refine SC_skip ?_
              refine SN_block ?_
              refine SN_seq ?_
              refine SC_region ?_
              refine SR_pu (RD_move rfl) rfl ?_
              refine SR_pu (RD_addi rfl rfl (by omega) (by omega)) rfl ?_
              refine SR_pu (RD_assign rfl) rfl ?_
              refine SR_nil ?_
              refine SN.le (l := [(0, _), (1, _), (2, _), (7, _), (8, _), (9, _), (10, _), (11, _), (12, _)]) ?_ (.cons rfl (.cons rfl (.cons rfl (.cons rfl (.cons rfl (.cons rfl (.cons rfl (.cons rfl (.cons rfl (.nil))))))))))
              refine SC_again (ih ((_, _, _, i + 1)) (by dsimp only; cases p <;> cases r <;> (try simp at hc58) <;> (try simp at hc62) <;> (try simp at hc68) <;> (try simp at hp) <;> (try simp at hr) <;> (try simp at hg14_1) <;> omega) (by dsimp only; omega)) (.fin) (.cons rfl (.cons rfl (.cons rfl (.cons rfl (.cons rfl (.cons rfl (.cons rfl (.cons rfl (.cons' rfl (ie (by dsimp only; omega)) (.nil))))))))))
          · refine SR_no rfl rfl (hg14_1) (lts rfl) ?_
            refine SR_pu (RD_pick_f rfl (hg14_1) rfl) rfl ?_
            refine SR_nil ?_
            refine SN.le (l := [(0, _), (1, _), (2, _), (7, _), (8, _), (9, _), (10, _), (11, _), (12, _), (68, _)]) ?_ (.cons rfl (.cons rfl (.cons rfl (.cons rfl (.cons rfl (.cons rfl (.cons rfl (.cons rfl (.cons rfl (.cons rfl (.nil)))))))))))
            refine SN_seq ?_
            refine SC_cond rfl (fun hc68 => ?_) (fun hc68 => ?_)
            · refine SC_region ?_
              refine SR_pu (RD_move rfl) rfl ?_
              refine SR_pu (RD_addi rfl rfl (by omega) (by omega)) rfl ?_
              refine SR_pu (RD_assign rfl) rfl ?_
              refine SR_nil ?_
              refine SN.le (l := [(0, _), (1, _), (2, _), (7, _), (8, _), (9, _), (10, _), (11, _), (12, _)]) ?_ (.cons rfl (.cons rfl (.cons rfl (.cons rfl (.cons rfl (.cons rfl (.cons rfl (.cons rfl (.cons rfl (.nil))))))))))
              refine SN_block ?_
              refine SN_seq ?_
              refine SC_region ?_
              refine SR_pu (RD_move rfl) rfl ?_
              refine SR_pu (RD_addi rfl rfl (by omega) (by omega)) rfl ?_
              refine SR_pu (RD_assign rfl) rfl ?_
              refine SR_nil ?_
              refine SN.le (l := [(0, _), (1, _), (2, _), (7, _), (8, _), (9, _), (10, _), (11, _), (12, _)]) ?_ (.cons rfl (.cons rfl (.cons rfl (.cons rfl (.cons rfl (.cons rfl (.cons rfl (.cons rfl (.cons rfl (.nil))))))))))
              refine SC_again (ih ((_, _, _, i + 1)) (by dsimp only; cases p <;> cases r <;> (try simp at hc58) <;> (try simp at hc62) <;> (try simp at hc68) <;> (try simp at hp) <;> (try simp at hr) <;> (try simp at hg14_1) <;> omega) (by dsimp only; omega)) (.fin) (.cons rfl (.cons rfl (.cons rfl (.cons rfl (.cons rfl (.cons rfl (.cons rfl (.cons rfl (.cons' rfl (ie (by dsimp only; omega)) (.nil))))))))))
            · refine SC_skip ?_
              refine SN_block ?_
              refine SN_seq ?_
              refine SC_region ?_
              refine SR_pu (RD_move rfl) rfl ?_
              refine SR_pu (RD_addi rfl rfl (by omega) (by omega)) rfl ?_
              refine SR_pu (RD_assign rfl) rfl ?_
              refine SR_nil ?_
              refine SN.le (l := [(0, _), (1, _), (2, _), (7, _), (8, _), (9, _), (10, _), (11, _), (12, _)]) ?_ (.cons rfl (.cons rfl (.cons rfl (.cons rfl (.cons rfl (.cons rfl (.cons rfl (.cons rfl (.cons rfl (.nil))))))))))
              refine SC_again (ih ((_, _, _, i + 1)) (by dsimp only; cases p <;> cases r <;> (try simp at hc58) <;> (try simp at hc62) <;> (try simp at hc68) <;> (try simp at hp) <;> (try simp at hr) <;> (try simp at hg14_1) <;> omega) (by dsimp only; omega)) (.fin) (.cons rfl (.cons rfl (.cons rfl (.cons rfl (.cons rfl (.cons rfl (.cons rfl (.cons rfl (.cons' rfl (ie (by dsimp only; omega)) (.nil))))))))))
    · refine SC_region ?_
      refine SR_pu (RD_move rfl) rfl ?_
      refine SR_pu (RD_move rfl) rfl ?_
      first
        | refine SR_pu (RD_conv64 Try.runUnderlying3 Try.runUnderlying44 rfl (by omega) (by omega)) rfl ?_
        | refine SR_pu (RD_convI Try.runUnderlying3 Try.runUnderlying44 rfl) rfl ?_
      refine SR_pu (RD_shr rfl rfl (by omega)) rfl ?_
      refine SR_pu (RD_and rfl rfl) rfl ?_
      refine SR_pu (RD_eql rfl rfl) rfl ?_
      refine SR_pu (RD_move rfl) rfl ?_
      refine SR_guard rfl rfl (fun hg9_6 => ?_) (fun hg9_6 => ?_)
      · refine SR_yes rfl rfl (hg9_6) ?_
        refine SR_pu (RD_move rfl) rfl ?_
        refine SR_yes rfl rfl (hg9_6) ?_
        refine SR_pu (RD_move rfl) rfl ?_
        refine SR_yes rfl rfl (hg9_6) ?_
        refine SR_pu (RD_leq rfl rfl) rfl ?_
        refine SR_pu (RD_pick_f rfl (hg9_6) rfl) rfl ?_
        refine SR_pu (RD_move rfl) rfl ?_
        refine SR_pu (RD_move rfl) rfl ?_
        first
          | refine SR_pu (RD_conv64 Try.runUnderlying3 Try.runUnderlying44 rfl (by omega) (by omega)) rfl ?_
          | refine SR_pu (RD_convI Try.runUnderlying3 Try.runUnderlying44 rfl) rfl ?_
        refine SR_pu (RD_shr rfl rfl (by omega)) rfl ?_
        refine SR_pu (RD_and rfl rfl) rfl ?_
        refine SR_pu (RD_eql rfl rfl) rfl ?_
        refine SR_pu (RD_move rfl) rfl ?_
        refine SR_guard rfl rfl (fun hg9_17 => ?_) (fun hg9_17 => ?_)
        · refine SR_yes rfl rfl (hg9_17) ?_
          refine SR_pu (RD_move rfl) rfl ?_
          refine SR_yes rfl rfl (hg9_17) ?_
          refine SR_pu (RD_move rfl) rfl ?_
          refine SR_yes rfl rfl (hg9_17) ?_
          refine SR_pu (RD_leq rfl rfl) rfl ?_
          refine SR_pu (RD_pick_f rfl (hg9_17) rfl) rfl ?_
          refine SR_pu (RD_assign rfl) rfl ?_
          refine SR_pu (RD_assign rfl) rfl ?_
          refine SR_nil ?_
          refine SN.le (l := [(0, _), (1, _), (2, _), (7, _), (8, _), (9, _), (10, _), (11, _), (12, _), (13, _), (14, _)]) ?_ (.cons rfl (.cons rfl (.cons rfl (.cons rfl (.cons rfl (.cons rfl (.cons rfl (.cons rfl (.cons rfl (.cons rfl (.cons rfl (.nil))))))))))))
          exact J0 (⟨(decide (x ≤ 2 * f0 + 1), decide (y ≤ 2 * f0 + 1)), by refine ⟨fun h => ?_, fun h => ?_⟩ <;> first | (simp at h; done) | (simp at h; omega)⟩) _ _ (.cons rfl (.cons rfl (.cons rfl (.cons rfl (.cons rfl (.cons rfl (.cons rfl (.cons rfl (.cons rfl (.cons rfl (.cons rfl (.nil)))))))))))) (.fin)
        · refine SR_no rfl rfl (hg9_17) (lts rfl) ?_
          refine SR_no rfl rfl (hg9_17) (lts rfl) ?_
          refine SR_no rfl rfl (hg9_17) (lts rfl) ?_
          refine SR_pu (RD_pick_t rfl (hg9_17) rfl) rfl ?_
          refine SR_pu (RD_assign rfl) rfl ?_
          refine SR_pu (RD_assign rfl) rfl ?_
          refine SR_nil ?_
          refine SN.le (l := [(0, _), (1, _), (2, _), (7, _), (8, _), (9, _), (10, _), (11, _), (12, _), (13, _), (14, _)]) ?_ (.cons rfl (.cons rfl (.cons rfl (.cons rfl (.cons rfl (.cons rfl (.cons rfl (.cons rfl (.cons rfl (.cons rfl (.cons rfl (.nil))))))))))))
          exact J0 (⟨(decide (x ≤ 2 * f0 + 1), true), by refine ⟨fun h => ?_, fun h => ?_⟩ <;> first | (simp at h; done) | (simp at h; omega)⟩) _ _ (.cons rfl (.cons rfl (.cons rfl (.cons rfl (.cons rfl (.cons rfl (.cons rfl (.cons rfl (.cons rfl (.cons rfl (.cons rfl (.nil)))))))))))) (.fin)
      · refine SR_no rfl rfl (hg9_6) (lts rfl) ?_
        refine SR_no rfl rfl (hg9_6) (lts rfl) ?_
        refine SR_no rfl rfl (hg9_6) (lts rfl) ?_
        refine SR_pu (RD_pick_t rfl (hg9_6) rfl) rfl ?_
        refine SR_pu (RD_move rfl) rfl ?_
        refine SR_pu (RD_move rfl) rfl ?_
        first
          | refine SR_pu (RD_conv64 Try.runUnderlying3 Try.runUnderlying44 rfl (by omega) (by omega)) rfl ?_
          | refine SR_pu (RD_convI Try.runUnderlying3 Try.runUnderlying44 rfl) rfl ?_
        refine SR_pu (RD_shr rfl rfl (by omega)) rfl ?_
        refine SR_pu (RD_and rfl rfl) rfl ?_
        refine SR_pu (RD_eql rfl rfl) rfl ?_
        refine SR_pu (RD_move rfl) rfl ?_
        refine SR_guard rfl rfl (fun hg9_17 => ?_) (fun hg9_17 => ?_)
        · refine SR_yes rfl rfl (hg9_17) ?_
          refine SR_pu (RD_move rfl) rfl ?_
          refine SR_yes rfl rfl (hg9_17) ?_
          refine SR_pu (RD_move rfl) rfl ?_
          refine SR_yes rfl rfl (hg9_17) ?_
          refine SR_pu (RD_leq rfl rfl) rfl ?_
          refine SR_pu (RD_pick_f rfl (hg9_17) rfl) rfl ?_
          refine SR_pu (RD_assign rfl) rfl ?_
          refine SR_pu (RD_assign rfl) rfl ?_
          refine SR_nil ?_
          refine SN.le (l := [(0, _), (1, _), (2, _), (7, _), (8, _), (9, _), (10, _), (11, _), (12, _), (13, _), (14, _)]) ?_ (.cons rfl (.cons rfl (.cons rfl (.cons rfl (.cons rfl (.cons rfl (.cons rfl (.cons rfl (.cons rfl (.cons rfl (.cons rfl (.nil))))))))))))
          exact J0 (⟨(true, decide (y ≤ 2 * f0 + 1)), by refine ⟨fun h => ?_, fun h => ?_⟩ <;> first | (simp at h; done) | (simp at h; omega)⟩) _ _ (.cons rfl (.cons rfl (.cons rfl (.cons rfl (.cons rfl (.cons rfl (.cons rfl (.cons rfl (.cons rfl (.cons rfl (.cons rfl (.nil)))))))))))) (.fin)
        · refine SR_no rfl rfl (hg9_17) (lts rfl) ?_
          refine SR_no rfl rfl (hg9_17) (lts rfl) ?_
          refine SR_no rfl rfl (hg9_17) (lts rfl) ?_
          refine SR_pu (RD_pick_t rfl (hg9_17) rfl) rfl ?_
          refine SR_pu (RD_assign rfl) rfl ?_
          refine SR_pu (RD_assign rfl) rfl ?_
          refine SR_nil ?_
          refine SN.le (l := [(0, _), (1, _), (2, _), (7, _), (8, _), (9, _), (10, _), (11, _), (12, _), (13, _), (14, _)]) ?_ (.cons rfl (.cons rfl (.cons rfl (.cons rfl (.cons rfl (.cons rfl (.cons rfl (.cons rfl (.cons rfl (.cons rfl (.cons rfl (.nil))))))))))))
          exact J0 (⟨(true, true), by refine ⟨fun h => ?_, fun h => ?_⟩ <;> first | (simp at h; done) | (simp at h; omega)⟩) _ _ (.cons rfl (.cons rfl (.cons rfl (.cons rfl (.cons rfl (.cons rfl (.cons rfl (.cons rfl (.cons rfl (.cons rfl (.cons rfl (.nil)))))))))))) (.fin)
  · have hin : (i : Int) = 3 * f0 + 1 := by simp at hc32; omega
    refine SC_exit rfl ?_
    refine SN_seq ?_
    refine SC_seq ?_
    refine SC_region ?_
    refine SR_pu (RD_move rfl) rfl ?_
    refine SR_pu (RD_move rfl) rfl ?_
    refine SR_pu (RD_geq rfl rfl) rfl ?_
    refine SR_pu (RD_move rfl) rfl ?_
    refine SR_yes rfl rfl (by first | rfl | exact decide_eq_true (by omega) | exact decide_eq_false (by omega) | decide | (simp; done) | (simp; omega)) ?_
    refine SR_pu (RD_move rfl) rfl ?_
    refine SR_yes rfl rfl (by first | rfl | exact decide_eq_true (by omega) | exact decide_eq_false (by omega) | decide | (simp; done) | (simp; omega)) ?_
    refine SR_pu (RD_move rfl) rfl ?_
    refine SR_yes rfl rfl (by first | rfl | exact decide_eq_true (by omega) | exact decide_eq_false (by omega) | decide | (simp; done) | (simp; omega)) ?_
    refine SR_pu (RD_geq rfl rfl) rfl ?_
    refine SR_pu (RD_pick_t rfl (by first | rfl | exact decide_eq_true (by omega) | exact decide_eq_false (by omega) | decide | (simp; done) | (simp; omega)) rfl) rfl ?_
    refine SR_pu (RD_move rfl) rfl ?_
    refine SR_yes rfl rfl (by first | rfl | exact decide_eq_true (by omega) | exact decide_eq_false (by omega) | decide | (simp; done) | (simp; omega)) ?_
    refine SR_pu (RD_move rfl) rfl ?_
    refine SR_yes rfl rfl (by first | rfl | exact decide_eq_true (by omega) | exact decide_eq_false (by omega) | decide | (simp; done) | (simp; omega)) ?_
    refine SR_pu (RD_move rfl) rfl ?_
    refine SR_yes rfl rfl (by first | rfl | exact decide_eq_true (by omega) | exact decide_eq_false (by omega) | decide | (simp; done) | (simp; omega)) ?_
    refine SR_pu (RD_addi rfl rfl (by omega) (by omega)) rfl ?_
    refine SR_yes rfl rfl (by first | rfl | exact decide_eq_true (by omega) | exact decide_eq_false (by omega) | decide | (simp; done) | (simp; omega)) ?_
    refine SR_pu (RD_geq rfl rfl) rfl ?_
    refine SR_pu (RD_pick_t rfl (by first | rfl | exact decide_eq_true (by omega) | exact decide_eq_false (by omega) | decide | (simp; done) | (simp; omega)) rfl) rfl ?_
    refine SR_pu (RD_move rfl) rfl ?_
    refine SR_yes rfl rfl (by first | rfl | exact decide_eq_true (by omega) | exact decide_eq_false (by omega) | decide | (simp; done) | (simp; omega)) ?_
    refine SR_pu (RD_move rfl) rfl ?_
    refine SR_yes rfl rfl (by first | rfl | exact decide_eq_true (by omega) | exact decide_eq_false (by omega) | decide | (simp; done) | (simp; omega)) ?_
    refine SR_pu (RD_move rfl) rfl ?_
    refine SR_yes rfl rfl (by first | rfl | exact decide_eq_true (by omega) | exact decide_eq_false (by omega) | decide | (simp; done) | (simp; omega)) ?_
    refine SR_pu (RD_muli rfl rfl (by omega) (by omega)) rfl ?_
    refine SR_yes rfl rfl (by first | rfl | exact decide_eq_true (by omega) | exact decide_eq_false (by omega) | decide | (simp; done) | (simp; omega)) ?_
    refine SR_pu (RD_addi rfl rfl (by omega) (by omega)) rfl ?_
    refine SR_yes rfl rfl (by first | rfl | exact decide_eq_true (by omega) | exact decide_eq_false (by omega) | decide | (simp; done) | (simp; omega)) ?_
    refine SR_pu (RD_eql rfl rfl) rfl ?_
    refine SR_pu (RD_pick_t rfl (by first | rfl | exact decide_eq_true (by omega) | exact decide_eq_false (by omega) | decide | (simp; done) | (simp; omega)) rfl) rfl ?_
    refine SR_pu (RD_move rfl) rfl ?_
    refine SR_yes rfl rfl (by first | rfl | exact decide_eq_true (by omega) | exact decide_eq_false (by omega) | decide | (simp; done) | (simp; omega)) ?_
    refine SR_call Try.call16 (.nil) (cert_awake) (lts rfl) ?_
    rintro _ L9 ⟨rfl, hL9⟩
    refine SR.lands hL9 ?_
    refine SR_pu (RD_pick_t rfl (by first | rfl | exact decide_eq_true (by omega) | exact decide_eq_false (by omega) | decide | (simp; done) | (simp; omega)) rfl) rfl ?_
    refine SR_pu (RD_assign rfl) rfl ?_
    refine SR_nil ?_
    refine SN.le (l := [(6, _)]) ?_ (.cons rfl (.nil))
    refine SN_seq ?_
    refine SC_ret1 rfl rfl ?_
    exact ⟨rfl, .fin⟩

end Go.Proofs.Ytdmmaammpjdmbaa
