/- A cipher told under another client's name is not good: the statement. -/
import Derived.Test.YtnifaajdiolbjaaEn4
namespace Go.Proofs.Ytnifaajdiolbjaa
open Go Go.Proofs
set_option maxRecDepth 100000
def dQ (q : Int) : TxD := ⟨1, 0, 0, false, 0, q, 0⟩
theorem dQ_ok (q : Int) : (dQ q).ok = true := by simp [dQ, TxD.ok, TxD.fields, TxD.same, within]
theorem dQ_wf {q : Int} (h : 0 ≤ q ∧ q < 18446744073709551616) : (dQ q).Wf := ⟨by simp [dQ, I64], by simp [dQ, I64], by simp [dQ, I64], by simp [dQ], h, by simp [dQ, I64]⟩
theorem two_env {e f : EnvD} (he : e.Good) (hf : f.Good) (hne : e ≠ f) : dput [envB e] (envB f) = [envB e, envB f] ∧ dnum [envB e, envB f] (envB f) = 2 ∧ dnum [envB e, envB f] (envB e) = 1 ∧ dput [envB e, envB f] (envB e) = [envB e, envB f] ∧ dput [envB e, envB f] (envB f) = [envB e, envB f] := by
  have h : envB e ≠ envB f := fun h => hne (envB_inj he hf h)
  have h' : ¬ envB f = envB e := fun q => h q.symm
  refine ⟨?_, ?_, ?_, dput_idem (by simp), dput_idem (by simp)⟩
  · unfold dput; rw [if_neg (by simpa using fun q => h q.symm)]; rfl
  · simp [dnum, h']
  · simp [dnum]
theorem openE_tells (s : V1) (e : EnvD) : (openE s e).client = e.client ∧ (openE s e).nonce = e.nonce ∧ (openE s e).fee = e.fee ∧ (openE s e).good = (decide (s.label = e.client) && (parseTx s.plain).isSome) := by
  unfold openE
  by_cases h : s.label = e.client
  · rw [if_pos h]; exact ⟨rfl, rfl, rfl, by simp [h]⟩
  · rw [if_neg h]; exact ⟨rfl, rfl, rfl, by simp [h]⟩

theorem law_EnveLabels {W : World} {F : List HProp} [Abs F] (a b fe q : Int) (h1 : 0 ≤ fe ∧ fe < 18446744073709551616) (h2 : 0 ≤ q ∧ q < 18446744073709551616) :
    CallsK W Try.prog 10 #[.int .i64 a, .int .i64 b, .int .u64 fe, .int .u64 q] (F) (fun v L => v = .bool true ∧ Lands L F) := by
  refine CallsK_enter (n := 123) Try.func10 rfl rfl rfl ?_
  refine SC_seq ?_
  refine SC_region ?_
  refine SR_pu (RD_assign rfl) rfl ?_
  refine SR_nil ?_
  refine SN.le (l := [(0, _), (1, _), (2, _), (3, _)]) ?_ (.cons rfl (.cons rfl (.cons rfl (.cons rfl (.nil)))))
  refine SN_seq ?_
  refine SC_seq ?_
  refine SC_region ?_
  refine SR_call Try.call16 (.cons rfl (.nil)) (enve_New 0) (lts rfl) ?_
  rintro _ L0 ⟨k, rfl, hL0⟩
  refine SR.lands hL0 ?_
  refine SR_pu (RD_assign rfl) rfl ?_
  refine SR_nil ?_
  refine SN.le (l := [(0, _), (1, _), (2, _), (3, _), (9, _)]) ?_ (.cons rfl (.cons rfl (.cons rfl (.cons rfl (.cons rfl (.nil))))))
  refine SN_seq ?_
  refine SC_seq ?_
  refine SC_seq ?_
  refine SC_region ?_
  refine SR_pu (RD_move rfl) rfl ?_
  refine SR_pu (RD_eqlP Try.underlying35 rfl rfl) rfl ?_
  refine SR_pu (RD_move rfl) rfl ?_
  refine SR_yes rfl rfl (by first | rfl | exact decide_eq_true (by omega) | exact decide_eq_false (by omega) | decide | (simp; done) | (simp; omega)) ?_
  refine SR_pu (RD_move rfl) rfl ?_
  refine SR_yes rfl rfl (by first | rfl | exact decide_eq_true (by omega) | exact decide_eq_false (by omega) | decide | (simp; done) | (simp; omega)) ?_
  refine SR_call Try.call21 (.cons rfl (.nil)) (CallsK.at (w_Signs k ⟨[], []⟩)) (lts rfl) ?_
  rintro _ L1 ⟨rfl, hL1⟩
  refine SR.lands hL1 ?_
  refine SR_yes rfl rfl (by first | rfl | exact decide_eq_true (by omega) | exact decide_eq_false (by omega) | decide | (simp; done) | (simp; omega)) ?_
  refine SR_pu (RD_eqlP Try.underlying47 rfl rfl) rfl ?_
  refine SR_pu (RD_pick_f rfl (by first | rfl | exact decide_eq_true (by omega) | exact decide_eq_false (by omega) | decide | (simp; done) | (simp; omega)) rfl) rfl ?_
  refine SR_pu (RD_move rfl) rfl ?_
  refine SR_yes rfl rfl (by first | rfl | exact decide_eq_true (by omega) | exact decide_eq_false (by omega) | decide | (simp; done) | (simp; omega)) ?_
  refine SR_pu (RD_move rfl) rfl ?_
  refine SR_yes rfl rfl (by first | rfl | exact decide_eq_true (by omega) | exact decide_eq_false (by omega) | decide | (simp; done) | (simp; omega)) ?_
  refine SR_call Try.call49 (.cons rfl (.nil)) (CallsK.at (w_Vault k ⟨[], []⟩)) (lts rfl) ?_
  rintro _ L2 ⟨rfl, hL2⟩
  refine SR.lands hL2 ?_
  refine SR_yes rfl rfl (by first | rfl | exact decide_eq_true (by omega) | exact decide_eq_false (by omega) | decide | (simp; done) | (simp; omega)) ?_
  refine SR_pu (RD_eqlP Try.underlying83 rfl rfl) rfl ?_
  refine SR_pu (RD_pick_f rfl (by first | rfl | exact decide_eq_true (by omega) | exact decide_eq_false (by omega) | decide | (simp; done) | (simp; omega)) rfl) rfl ?_
  refine SR_nil ?_
  refine SN.le (l := [(0, _), (1, _), (2, _), (3, _), (9, _), (30, _)]) ?_ (.cons rfl (.cons rfl (.cons rfl (.cons rfl (.cons rfl (.cons rfl (.nil)))))))
  refine SN_seq ?_
  refine SC_cond_false rfl (rfl) ?_
  refine SC_skip ?_
  refine SN_seq ?_
  refine SC_seq ?_
  refine SC_region ?_
  refine SR_pu (RD_move rfl) rfl ?_
  refine SR_pu (RD_mask 8 rfl rfl rfl (by decide) 256 rfl) rfl ?_
  refine SR_pu (RD_move rfl) rfl ?_
  refine SR_pu (RD_mask 8 rfl rfl rfl (by decide) 256 rfl) rfl ?_
  refine SR_pu (RD_assign rfl) rfl ?_
  refine SR_pu (RD_assign rfl) rfl ?_
  refine SR_nil ?_
  refine SN.le (l := [(0, _), (1, _), (2, _), (3, _), (9, _)]) ?_ (.cons rfl (.cons rfl (.cons rfl (.cons rfl (.cons rfl (.nil))))))
  obtain ⟨A, hA⟩ : ∃ A, a % 256 = A := ⟨_, rfl⟩
  obtain ⟨B, hB⟩ : ∃ B, b % 256 = B := ⟨_, rfl⟩
  rw [hA, hB]
  have hA1 : 0 ≤ A ∧ A < 256 := by omega
  have hB1 : 0 ≤ B ∧ B < 256 := by omega
  clear hA hB
  have heg : EnvD.Good ⟨A, 0, fe, 1⟩ := ⟨by unfold I64; dsimp only; omega, by unfold I64; dsimp only; omega, (by dsimp only; omega), h1⟩
  have hfg : EnvD.Good ⟨B, 4, fe, 1⟩ := ⟨by unfold I64; dsimp only; omega, by unfold I64; dsimp only; omega, (by dsimp only; omega), h1⟩
  obtain ⟨ht1, ht2, ht3, ht4, ht5⟩ := two_env heg hfg (by simp)
  have hk1 : okL [envB ⟨A, 0, fe, 1⟩, envB ⟨B, 4, fe, 1⟩] ⟨A, 0, fe, 1⟩ = [envB ⟨A, 0, fe, 1⟩, envB ⟨B, 4, fe, 1⟩] ∧ decide (okE [envB ⟨A, 0, fe, 1⟩, envB ⟨B, 4, fe, 1⟩] [(1, [1000 + A]), (2, [1000 + B])] ⟨A, 0, fe, 1⟩) = true := ⟨(if_pos (by dsimp only; omega)).trans ht4, decide_eq_true ⟨by dsimp only; omega, by dsimp only; omega, by rw [ht3]; simp [signers]⟩⟩
  have hk2 : okL [envB ⟨A, 0, fe, 1⟩, envB ⟨B, 4, fe, 1⟩] ⟨B, 4, fe, 1⟩ = [envB ⟨A, 0, fe, 1⟩, envB ⟨B, 4, fe, 1⟩] ∧ decide (okE [envB ⟨A, 0, fe, 1⟩, envB ⟨B, 4, fe, 1⟩] [(1, [1000 + A]), (2, [1000 + B])] ⟨B, 4, fe, 1⟩) = true := ⟨(if_pos (by dsimp only; omega)).trans ht5, decide_eq_true ⟨by dsimp only; omega, by dsimp only; omega, by rw [ht2]; simp [signers]⟩⟩
  have hen : V1.enough ⟨vneed 0, A, (dQ q).code, [0]⟩ 1 = true := by simp [V1.enough]; decide
  have hpq : parseTx (dQ q).code = some (dQ q) := parseTx_code (dQ_wf h2) (dQ_ok q)
  have hox : openR ⟨vneed 0, A, (dQ q).code, [0]⟩ ⟨A, 0, fe, 1⟩ = .tuple #[EntD.val ⟨A, 0, fe, true, dQ q⟩, .bool true] := by
    unfold openR openE
    rw [if_pos hen]
    dsimp only
    rw [if_pos rfl, hpq]; rfl
  obtain ⟨hy1, hy2, hy3, hy4⟩ := openE_tells ⟨vneed 0, A, (dQ q).code, [0]⟩ ⟨B, 4, fe, 1⟩
  obtain ⟨y, hy⟩ : ∃ y, openE ⟨vneed 0, A, (dQ q).code, [0]⟩ ⟨B, 4, fe, 1⟩ = y := ⟨_, rfl⟩
  have hoy : openR ⟨vneed 0, A, (dQ q).code, [0]⟩ ⟨B, 4, fe, 1⟩ = .tuple #[y.val, .bool true] := by
    unfold openR
    rw [if_pos hen, hy]
  rw [hy] at hy1 hy2 hy4
  dsimp only at hy1 hy2 hy4
  rw [hpq, Option.isSome_some, Bool.and_true] at hy4
  refine SN_seq ?_
  refine SC_seq ?_
  refine SC_region ?_
  refine SR_pu (RD_move rfl) rfl ?_
  refine SR_pu (RD_build (.cons rfl (.cons rfl (.nil))) built87_0_5) rfl ?_
  refine SR_call Try.call50 (.cons rfl (.nil)) (ref_TxCode_ok (dQ q) (dQ_wf h2) (dQ_ok q)) (lts rfl) ?_
  rintro _ L3 ⟨ca, cc, rfl, hL3⟩
  refine SR.lands hL3 ?_
  refine SR_pu (RD_move rfl) rfl ?_
  refine SR_pu (RD_extract rfl rfl) rfl ?_
  refine SR_pu (RD_extract rfl rfl) rfl ?_
  refine SR_pu (RD_assign rfl) rfl ?_
  refine SR_pu (RD_assign rfl) rfl ?_
  refine SR_nil ?_
  refine SN.le (l := [(0, _), (1, _), (2, _), (3, _), (9, _), (10, _)]) ?_ (.cons rfl (.cons rfl (.cons rfl (.cons rfl (.cons rfl (.cons rfl (.nil)))))))
  refine SN_seq ?_
  refine SC_seq ?_
  refine SC_region ?_
  refine SR_pu (RD_move rfl) rfl ?_
  refine SR_pu (RD_move rfl) rfl ?_
  refine SR_pu (RD_move rfl) rfl ?_
  refine SR_pu (RD_move rfl) rfl ?_
  refine SR_call Try.call35 (.cons rfl (.cons rfl (.cons rfl (.cons rfl (.cons rfl (.nil)))))) (CallsK.lands (.fin : Lands _ (At worldI k ⟨[], []⟩ :: pt k.v (.cells [.int .i64 (vneed 0), .slice none 0 0].toArray 142) :: rowP 5 1 ca 56 cc ((dQ q).code.map byteV) :: F)) (w_Make1 k ⟨[], []⟩ (vneed 0) A 0 fe (by omega) (by omega) h1 ca 56 cc (dQ q).code rfl (TxD.code_len _) (by omega) (by simp))) (lts rfl) ?_
  rintro _ L4 ⟨rfl, hL4⟩
  have hz : dput [] (envB ⟨A, 0, fe, 1⟩) = [envB ⟨A, 0, fe, 1⟩] ∧ addTo [] (1000 + A) (dnum [envB ⟨A, 0, fe, 1⟩] (envB ⟨A, 0, fe, 1⟩) : Nat) = [(1, [1000 + A])] := ⟨rfl, by simp [dnum, addTo]⟩
  dsimp only at hL4
  rw [hz.1, hz.2] at hL4
  refine SR.lands hL4 ?_
  refine SR_ox (OX_alloc Try.zeroValue39 rfl) rfl ?_
  rintro _ _ ⟨b12, rfl, rfl⟩
  refine SR_ox0 (OX_stA (vs := EnvD.cells ⟨A, 0, fe, 1⟩) Try.sizeOf39 rfl rfl rfl rfl) ?_
  rintro _ _ rfl
  refine SR_nil ?_
  refine SN.le (l := [(0, _), (1, _), (2, _), (3, _), (9, _), (12, _)]) ?_ (.cons rfl (.cons rfl (.cons rfl (.cons rfl (.cons rfl (.cons rfl (.nil)))))))
  refine SN_seq ?_
  refine SC_seq ?_
  refine SC_region ?_
  refine SR_pu (RD_move rfl) rfl ?_
  refine SR_pu (RD_move rfl) rfl ?_
  first
    | refine SR_pu (RD_fieldAddr 3 Try.runUnderlying39 rfl rfl Try.sizeOf3 rfl) rfl ?_
    | refine SR_rd (RD_fieldAddrO 3 Try.runUnderlying39 rfl rfl Try.sizeOf3 rfl (by simp <;> omega)) Has.ro rfl ?_
  refine SR_rd (RD_load Try.isAgg3 rfl) (Has.ce rfl) rfl ?_
  refine SR_pu (RD_build (.cons rfl (.cons rfl (.cons rfl (.cons rfl (.nil))))) built39_0_1_2_3) rfl ?_
  refine SR_ox (OX_alloc Try.zeroValue39 rfl) rfl ?_
  rintro _ _ ⟨b13, rfl, rfl⟩
  refine SR_ox0 (OX_stA (vs := EnvD.cells ⟨B, 4, fe, 1⟩) Try.sizeOf39 rfl rfl rfl rfl) ?_
  rintro _ _ rfl
  refine SR_nil ?_
  refine SN.le (l := [(0, _), (1, _), (3, _), (9, _), (12, _), (13, _)]) ?_ (.cons rfl (.cons rfl (.cons rfl (.cons rfl (.cons rfl (.cons rfl (.nil)))))))
  refine SN_seq ?_
  refine SC_seq ?_
  refine SC_drawn (.cons 0 true (.cons 2 true (.cons 3 true (.cons 4 true (.cons 5 true (.cons 1 false (.cons 6 false (.cons 7 false (.nil))))))))) (by kernel_rfl) (by kernel_rfl) ?_
  refine SQ_pu rfl (RD_move rfl) rfl ?_
  refine SQ_pu rfl (RD_move rfl) rfl ?_
  refine SQ_pu rfl (RD_addi rfl rfl (by omega) (by omega)) rfl ?_
  refine SQ_pu rfl (RD_move rfl) rfl ?_
  refine SQ_rd rfl (RD_loadA (vs := EnvD.cells ⟨B, 4, fe, 1⟩) Try.isAgg39 Try.sizeOf39 rfl rfl) Has.wh rfl ?_
  refine SQ_call rfl Try.call21 (.cons rfl (.nil)) (CallsK.at (w_Signs k ⟨[envB ⟨A, 0, fe, 1⟩], [(1, [1000 + A])]⟩)) (lts rfl) ?_
  rintro _ L5 ⟨rfl, hL5⟩
  refine ⟨.lands hL5 (.h Has.wh (.nil)), ?_⟩
  refine SQ.lands hL5 ?_
  refine SQ_call rfl Try.call29 (.cons rfl (.cons rfl (.nil))) (CallsK.at (w_EnvDigest k ⟨[envB ⟨A, 0, fe, 1⟩], [(1, [1000 + A])]⟩ ⟨B, 4, fe, 1⟩ hfg.2.2 (by simp) [envB ⟨A, 0, fe, 1⟩, envB ⟨B, 4, fe, 1⟩] 2 ht1 ht2)) (lts rfl) ?_
  rintro _ L6 ⟨rfl, hL6⟩
  refine ⟨.lands hL6 (.w rfl (.nil)), ?_⟩
  refine SQ.lands hL6 ?_
  refine SQ_call rfl Try.call51 (.cons rfl (.cons rfl (.cons rfl (.nil)))) (CallsK.at (w_Sign k ⟨[envB ⟨A, 0, fe, 1⟩, envB ⟨B, 4, fe, 1⟩], [(1, [1000 + A])]⟩ (1000 + B) 2)) (lts rfl) ?_
  rintro _ L7 ⟨rfl, hL7⟩
  have hs2 : addTo [(1, [1000 + A])] (1000 + B) 2 = [(1, [1000 + A]), (2, [1000 + B])] := by simp [addTo]
  dsimp only at hL7
  rw [hs2] at hL7
  refine ⟨.lands hL7 (.h Has.wh (.nil)), ?_⟩
  refine SQ.lands hL7 ?_
  refine SQ_nil ?_
  refine SN.le (l := [(0, _), (1, _), (3, _), (9, _), (12, _), (13, _)]) ?_ (.cons rfl (.cons rfl (.cons rfl (.cons rfl (.cons rfl (.cons rfl (.nil)))))))
  refine SN_seq ?_
  refine SC_seq ?_
  refine SC_drawn (.cons 0 true (.cons 2 true (.cons 3 true (.cons 1 false (.cons 4 false (.nil)))))) (by kernel_rfl) (by kernel_rfl) ?_
  refine SQ_pu rfl (RD_move rfl) rfl ?_
  first
    | refine SQ_pu rfl (RD_fieldAddr 3 Try.runUnderlying39 rfl rfl Try.sizeOf3 rfl) rfl ?_
    | refine SQ_rd rfl (RD_fieldAddrO 3 Try.runUnderlying39 rfl rfl Try.sizeOf3 rfl (by simp <;> omega)) Has.ro rfl ?_
  refine SQ_rd rfl (RD_load Try.isAgg3 rfl) (Has.ce rfl) rfl ?_
  refine SQ_call rfl Try.call49 (.cons rfl (.nil)) (CallsK.at (w_Vault k ⟨[envB ⟨A, 0, fe, 1⟩, envB ⟨B, 4, fe, 1⟩], [(1, [1000 + A]), (2, [1000 + B])]⟩)) (lts rfl) ?_
  rintro _ L8 ⟨rfl, hL8⟩
  refine ⟨.lands hL8 (.h (Has.ce rfl) (.nil)), ?_⟩
  refine SQ.lands hL8 ?_
  refine SQ_call rfl Try.call52 (.cons rfl (.cons rfl (.cons rfl (.nil)))) (CallsK.at (seal_Share k.v ⟨vneed 0, A, (dQ q).code, []⟩ 0)) (lts rfl) ?_
  rintro _ L9 ⟨rfl, hL9⟩
  change Lands L9 (At voneI k.v ⟨vneed 0, A, (dQ q).code, [0]⟩ :: _) at hL9
  refine ⟨.lands hL9 (.w rfl (.nil)), ?_⟩
  refine SQ.lands hL9 ?_
  refine SQ_nil ?_
  refine SN.le (l := [(0, _), (1, _), (3, _), (9, _), (12, _), (13, _)]) ?_ (.cons rfl (.cons rfl (.cons rfl (.cons rfl (.cons rfl (.cons rfl (.nil)))))))
  refine SN_seq ?_
  refine SC_seq ?_
  refine SC_region ?_
  refine SR_pu (RD_move rfl) rfl ?_
  refine SR_rd (RD_loadA (vs := EnvD.cells ⟨A, 0, fe, 1⟩) Try.isAgg39 Try.sizeOf39 rfl rfl) Has.wh rfl ?_
  refine SR_call Try.call53 (.cons rfl (.cons rfl (.nil))) (CallsK.at2 (w_Open k ⟨[envB ⟨A, 0, fe, 1⟩, envB ⟨B, 4, fe, 1⟩], [(1, [1000 + A]), (2, [1000 + B])]⟩ ⟨vneed 0, A, (dQ q).code, [0]⟩ ⟨A, 0, fe, 1⟩ (by show (dQ q).code.length ≤ _; rw [TxD.code_len]; omega))) (lts rfl) ?_
  rintro _ L10 ⟨rfl, hL10⟩
  rw [hox]
  refine SR.lands hL10 ?_
  refine SR_pu (RD_move rfl) rfl ?_
  refine SR_pu (RD_extract (v := EntD.val ⟨A, 0, fe, true, dQ q⟩) rfl rfl) rfl ?_
  refine SR_pu (RD_extract (v := .bool true) rfl rfl) rfl ?_
  refine SR_ox (OX_alloc Try.zeroValue90 rfl) rfl ?_
  rintro _ _ ⟨b14, rfl, rfl⟩
  refine SR_ox0 (OX_stA (vs := EntD.cells ⟨A, 0, fe, true, dQ q⟩) Try.sizeOf90 rfl rfl rfl rfl) ?_
  rintro _ _ rfl
  refine SR_pu (RD_assign rfl) rfl ?_
  refine SR_nil ?_
  refine SN.le (l := [(0, _), (1, _), (3, _), (9, _), (12, _), (13, _), (14, _), (15, _)]) ?_ (.cons rfl (.cons rfl (.cons rfl (.cons rfl (.cons rfl (.cons rfl (.cons rfl (.cons rfl (.nil)))))))))
  refine SN_seq ?_
  refine SC_seq ?_
  refine SC_region ?_
  refine SR_pu (RD_move rfl) rfl ?_
  refine SR_rd (RD_loadA (vs := EnvD.cells ⟨B, 4, fe, 1⟩) Try.isAgg39 Try.sizeOf39 rfl rfl) Has.wh rfl ?_
  refine SR_call Try.call53 (.cons rfl (.cons rfl (.nil))) (CallsK.at2 (w_Open k ⟨[envB ⟨A, 0, fe, 1⟩, envB ⟨B, 4, fe, 1⟩], [(1, [1000 + A]), (2, [1000 + B])]⟩ ⟨vneed 0, A, (dQ q).code, [0]⟩ ⟨B, 4, fe, 1⟩ (by show (dQ q).code.length ≤ _; rw [TxD.code_len]; omega))) (lts rfl) ?_
  rintro _ L11 ⟨rfl, hL11⟩
  rw [hoy]
  refine SR.lands hL11 ?_
  refine SR_pu (RD_move rfl) rfl ?_
  refine SR_pu (RD_extract (v := EntD.val y) rfl rfl) rfl ?_
  refine SR_pu (RD_extract (v := .bool true) rfl rfl) rfl ?_
  refine SR_ox (OX_alloc Try.zeroValue90 rfl) rfl ?_
  rintro _ _ ⟨b16, rfl, rfl⟩
  refine SR_ox0 (OX_stA (vs := EntD.cells y) Try.sizeOf90 rfl rfl rfl rfl) ?_
  rintro _ _ rfl
  refine SR_pu (RD_assign rfl) rfl ?_
  refine SR_nil ?_
  refine SN.le (l := [(0, _), (1, _), (3, _), (9, _), (12, _), (13, _), (14, _), (15, _), (16, _), (17, _)]) ?_ (.cons rfl (.cons rfl (.cons rfl (.cons rfl (.cons rfl (.cons rfl (.cons rfl (.cons rfl (.cons rfl (.cons rfl (.nil)))))))))))
  refine SN_seq ?_
  refine SC_seq ?_
  refine SC_region ?_
  refine SR_pu (RD_move rfl) rfl ?_
  refine SR_rd (RD_loadA (vs := EnvD.cells ⟨A, 0, fe, 1⟩) Try.isAgg39 Try.sizeOf39 rfl rfl) Has.wh rfl ?_
  refine SR_call Try.call28 (.cons rfl (.cons rfl (.nil))) (CallsK.at (w_OkA k ⟨[envB ⟨A, 0, fe, 1⟩, envB ⟨B, 4, fe, 1⟩], [(1, [1000 + A]), (2, [1000 + B])]⟩ ⟨A, 0, fe, 1⟩ heg.2.2 (by simp) [envB ⟨A, 0, fe, 1⟩, envB ⟨B, 4, fe, 1⟩] true hk1.1 hk1.2)) (lts rfl) ?_
  rintro _ L12 ⟨rfl, hL12⟩
  refine SR.lands hL12 ?_
  refine SR_pu (RD_move rfl) rfl ?_
  refine SR_yes rfl rfl (by first | rfl | exact decide_eq_true (by omega) | exact decide_eq_false (by omega) | decide | (simp; done) | (simp; omega)) ?_
  refine SR_pu (RD_move rfl) rfl ?_
  refine SR_yes rfl rfl (by first | rfl | exact decide_eq_true (by omega) | exact decide_eq_false (by omega) | decide | (simp; done) | (simp; omega)) ?_
  refine SR_rd (RD_loadA (vs := EnvD.cells ⟨B, 4, fe, 1⟩) Try.isAgg39 Try.sizeOf39 rfl rfl) Has.wh rfl ?_
  refine SR_yes rfl rfl (by first | rfl | exact decide_eq_true (by omega) | exact decide_eq_false (by omega) | decide | (simp; done) | (simp; omega)) ?_
  refine SR_call Try.call28 (.cons rfl (.cons rfl (.nil))) (CallsK.at (w_OkA k ⟨[envB ⟨A, 0, fe, 1⟩, envB ⟨B, 4, fe, 1⟩], [(1, [1000 + A]), (2, [1000 + B])]⟩ ⟨B, 4, fe, 1⟩ hfg.2.2 (by simp) [envB ⟨A, 0, fe, 1⟩, envB ⟨B, 4, fe, 1⟩] true hk2.1 hk2.2)) (lts rfl) ?_
  rintro _ L13 ⟨rfl, hL13⟩
  refine SR.lands hL13 ?_
  refine SR_pu (RD_pick_t rfl (by first | rfl | exact decide_eq_true (by omega) | exact decide_eq_false (by omega) | decide | (simp; done) | (simp; omega)) rfl) rfl ?_
  refine SR_pu (RD_move rfl) rfl ?_
  refine SR_yes rfl rfl (by first | rfl | exact decide_eq_true (by omega) | exact decide_eq_false (by omega) | decide | (simp; done) | (simp; omega)) ?_
  refine SR_pu (RD_move rfl) rfl ?_
  refine SR_pu (RD_pick_t rfl (by first | rfl | exact decide_eq_true (by omega) | exact decide_eq_false (by omega) | decide | (simp; done) | (simp; omega)) rfl) rfl ?_
  refine SR_pu (RD_move rfl) rfl ?_
  refine SR_yes rfl rfl (by first | rfl | exact decide_eq_true (by omega) | exact decide_eq_false (by omega) | decide | (simp; done) | (simp; omega)) ?_
  refine SR_pu (RD_move rfl) rfl ?_
  refine SR_pu (RD_pick_t rfl (by first | rfl | exact decide_eq_true (by omega) | exact decide_eq_false (by omega) | decide | (simp; done) | (simp; omega)) rfl) rfl ?_
  refine SR_pu (RD_move rfl) rfl ?_
  refine SR_yes rfl rfl (by first | rfl | exact decide_eq_true (by omega) | exact decide_eq_false (by omega) | decide | (simp; done) | (simp; omega)) ?_
  first
    | refine SR_pu (RD_fieldAddr 3 Try.runUnderlying90 rfl rfl Try.sizeOf4 rfl) rfl ?_
    | refine SR_rd (RD_fieldAddrO 3 Try.runUnderlying90 rfl rfl Try.sizeOf4 rfl (by simp <;> omega)) Has.ro rfl ?_
  refine SR_yes rfl rfl (by first | rfl | exact decide_eq_true (by omega) | exact decide_eq_false (by omega) | decide | (simp; done) | (simp; omega)) ?_
  refine SR_rd (RD_load Try.isAgg4 rfl) (Has.ce rfl) rfl ?_
  refine SR_pu (RD_pick_t rfl (by first | rfl | exact decide_eq_true (by omega) | exact decide_eq_false (by omega) | decide | (simp; done) | (simp; omega)) rfl) rfl ?_
  refine SR_pu (RD_move rfl) rfl ?_
  refine SR_yes rfl rfl (by first | rfl | exact decide_eq_true (by omega) | exact decide_eq_false (by omega) | decide | (simp; done) | (simp; omega)) ?_
  first
    | refine SR_pu (RD_fieldAddr 4 Try.runUnderlying90 rfl rfl Try.sizeOf87 rfl) rfl ?_
    | refine SR_rd (RD_fieldAddrO 4 Try.runUnderlying90 rfl rfl Try.sizeOf87 rfl (by simp <;> omega)) Has.ro rfl ?_
  refine SR_yes rfl rfl (by first | rfl | exact decide_eq_true (by omega) | exact decide_eq_false (by omega) | decide | (simp; done) | (simp; omega)) ?_
  first
    | refine SR_pu (RD_fieldAddr 5 Try.runUnderlying87 rfl rfl Try.sizeOf37 rfl) rfl ?_
    | refine SR_rd (RD_fieldAddrO 5 Try.runUnderlying87 rfl rfl Try.sizeOf37 rfl (by simp <;> omega)) Has.ro rfl ?_
  refine SR_yes rfl rfl (by first | rfl | exact decide_eq_true (by omega) | exact decide_eq_false (by omega) | decide | (simp; done) | (simp; omega)) ?_
  refine SR_rd (RD_load Try.isAgg37 rfl) (Has.ce rfl) rfl ?_
  refine SR_yes rfl rfl (by first | rfl | exact decide_eq_true (by omega) | exact decide_eq_false (by omega) | decide | (simp; done) | (simp; omega)) ?_
  refine SR_pu (RD_move rfl) rfl ?_
  refine SR_yes rfl rfl (by first | rfl | exact decide_eq_true (by omega) | exact decide_eq_false (by omega) | decide | (simp; done) | (simp; omega)) ?_
  refine SR_pu (RD_eql rfl rfl) rfl ?_
  refine SR_pu (RD_pick_t rfl (by first | rfl | exact decide_eq_true (by omega) | exact decide_eq_false (by omega) | decide | (simp; done) | (simp; omega)) rfl) rfl ?_
  refine SR_pu (RD_move rfl) rfl ?_
  refine SR_yes rfl rfl (decide_eq_true rfl) ?_
  first
    | refine SR_pu (RD_fieldAddr 3 Try.runUnderlying90 rfl rfl Try.sizeOf4 rfl) rfl ?_
    | refine SR_rd (RD_fieldAddrO 3 Try.runUnderlying90 rfl rfl Try.sizeOf4 rfl (by simp <;> omega)) Has.ro rfl ?_
  refine SR_yes rfl rfl (decide_eq_true rfl) ?_
  refine SR_rd (RD_load Try.isAgg4 rfl) (Has.ce rfl) rfl ?_
  refine SR_yes rfl rfl (decide_eq_true rfl) ?_
  refine SR_pu (RD_move rfl) rfl ?_
  refine SR_yes rfl rfl (decide_eq_true rfl) ?_
  refine SR_pu (RD_move rfl) rfl ?_
  refine SR_yes rfl rfl (decide_eq_true rfl) ?_
  refine SR_pu (RD_eql rfl rfl) rfl ?_
  refine SR_yes rfl rfl (decide_eq_true rfl) ?_
  refine SR_pu (RD_eqlB Try.underlying4 rfl rfl) rfl ?_
  refine SR_pu (RD_pick_t rfl (decide_eq_true rfl) rfl) rfl ?_
  refine SR_pu (RD_move rfl) rfl ?_
  refine SR_yes rfl rfl (by rw [hy4]; simp) ?_
  first
    | refine SR_pu (RD_fieldAddr0 Try.runUnderlying90 rfl rfl Try.sizeOf3 rfl) rfl ?_
    | refine SR_rd (RD_fieldAddrO 0 Try.runUnderlying90 rfl rfl Try.sizeOf3 rfl (by simp <;> omega)) Has.ro rfl ?_
  refine SR_yes rfl rfl (by rw [hy4]; simp) ?_
  refine SR_rd (RD_load Try.isAgg3 rfl) (Has.ce rfl) rfl ?_
  refine SR_yes rfl rfl (by rw [hy4]; simp) ?_
  refine SR_pu (RD_move rfl) rfl ?_
  refine SR_yes rfl rfl (by rw [hy4]; simp) ?_
  refine SR_pu (RD_eql rfl rfl) rfl ?_
  refine SR_pu (RD_pick_t rfl (by rw [hy4]; simp) rfl) rfl ?_
  refine SR_pu (RD_move rfl) rfl ?_
  refine SR_yes rfl rfl (by simp [hy1]) ?_
  first
    | refine SR_pu (RD_fieldAddr 1 Try.runUnderlying90 rfl rfl Try.sizeOf37 rfl) rfl ?_
    | refine SR_rd (RD_fieldAddrO 1 Try.runUnderlying90 rfl rfl Try.sizeOf37 rfl (by simp <;> omega)) Has.ro rfl ?_
  refine SR_yes rfl rfl (by simp [hy1]) ?_
  refine SR_rd (RD_load Try.isAgg37 rfl) (Has.ce rfl) rfl ?_
  refine SR_yes rfl rfl (by simp [hy1]) ?_
  refine SR_pu (RD_eql rfl rfl) rfl ?_
  refine SR_pu (RD_pick_t rfl (by simp [hy1]) rfl) rfl ?_
  refine SR_pu (RD_move rfl) rfl ?_
  refine SR_yes rfl rfl (by simp [hy2]) ?_
  refine SR_call Try.call48 (.nil) (enve_awake) (lts rfl) ?_
  rintro _ L14 ⟨rfl, hL14⟩
  refine SR.lands hL14 ?_
  refine SR_pu (RD_pick_t rfl (by simp [hy2]) rfl) rfl ?_
  refine SR_pu (RD_assign rfl) rfl ?_
  refine SR_nil ?_
  refine SN.le (l := [(8, _)]) ?_ (.cons rfl (.nil))
  refine SN_seq ?_
  refine SC_ret1 rfl rfl ?_
  exact ⟨rfl, .fin⟩

end Go.Proofs.Ytnifaajdiolbjaa
