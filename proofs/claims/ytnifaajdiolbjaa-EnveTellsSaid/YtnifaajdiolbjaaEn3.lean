/- Envelopes: entries are compared; what the document fixes. -/
import Derived.Test.YtnifaajdiolbjaaEn2
namespace Go.Proofs.Ytnifaajdiolbjaa
open Go Go.Proofs
set_option maxRecDepth 100000
theorem run_eqTxN (d : Nat) (s t : TxD) (w : World) : (Op.equalIn (d + 2) 87 (.agg s.cells.toArray) (.agg t.cells.toArray)).run Try.prog w = .ok (s.same t) w := by
  have u3 := Try.underlying3
  have a3 := Try.isAgg3
  have z3 := Try.sizeOf3
  have u4 := Try.underlying4
  have a4 := Try.isAgg4
  have z4 := Try.sizeOf4
  have u41 := Try.underlying37
  have a41 := Try.isAgg37
  have z41 := Try.sizeOf37
  have hS : Try.prog.underlying 87 = some (.struct (Try.prog.fieldsOf 87)) := by kernel_rfl
  have hp : Try.prog.stoodInHeld 87 = false := by kernel_rfl
  rw [show d + 2 = (d + 1) + 1 from rfl, run_equalIn_agg w (d + 1) 87 _ _ hS hp]
  simp only [Program.fieldsOf, Try.underlying87, TxD.cells]
  go_simp
  obtain ⟨k, m, to, b, p, q, i⟩ := s
  obtain ⟨k', m', to', b', p', q', i'⟩ := t
  by_cases h1 : k = k' <;> by_cases h2 : m = m' <;> by_cases h3 : to = to' <;> by_cases h4 : b = b' <;> by_cases h5 : p = p' <;> by_cases h6 : q = q' <;> by_cases h7 : i = i' <;> simp [h1, h2, h3, h4, h5, h6, h7, TxD.same]
def EntD.same (x y : EntD) : Bool := x.client == y.client && (x.nonce == y.nonce && (x.fee == y.fee && (x.good == y.good && x.tx.same y.tx)))
theorem EntD.same_iff {x y : EntD} : x.same y = true ↔ x = y := by
  cases x; cases y
  simp [EntD.same, TxD.same_iff]
theorem run_eqEnt (x y : EntD) (w : World) : (Op.equalIn 10000 90 x.val y.val).run Try.prog w = .ok (x.same y) w := by
  have u3 := Try.underlying3
  have a3 := Try.isAgg3
  have z3 := Try.sizeOf3
  have u4 := Try.underlying4
  have a4 := Try.isAgg4
  have z4 := Try.sizeOf4
  have u41 := Try.underlying37
  have a41 := Try.isAgg37
  have z41 := Try.sizeOf37
  have a67 := Try.isAgg87
  have z67 := Try.sizeOf87
  have hS : Try.prog.underlying 90 = some (.struct (Try.prog.fieldsOf 90)) := by kernel_rfl
  have hp : Try.prog.stoodInHeld 90 = false := by kernel_rfl
  have e : ∀ (s t : TxD) (w : World), (Op.equalIn 9999 87 (.agg s.cells.toArray) (.agg t.cells.toArray)).run Try.prog w = .ok (s.same t) w := run_eqTxN 9997
  rw [show (10000 : Nat) = 9999 + 1 from rfl, EntD.val, EntD.val, run_equalIn_agg w 9999 90 _ _ hS hp]
  simp only [Program.fieldsOf, Try.underlying90, EntD.cells, TxD.cells] at e ⊢
  go_simp
  obtain ⟨k, m, to, b, p⟩ := x
  obtain ⟨k', m', to', b', p'⟩ := y
  by_cases h1 : k = k' <;> by_cases h2 : m = m' <;> by_cases h3 : to = to' <;> by_cases h4 : b = b' <;> cases h5 : p.same p' <;> simp [h1, h2, h3, h4, h5, EntD.same]
theorem RD_eqlEnt {P : Program} {l : Env} {ty : TypeId} {x y : Operand} {yt : TypeId} (s t : EntD) (hP : P = Try.prog) (hx : ev l x = some s.val) (hy : ev l y = some t.val) : RD P l (.binOp .eql 90 x y yt) ty RU (.bool (s.same t)) := fun ρ hρ w _ _ _ _ _ => by
  subst hP
  have hg : ∀ w, (eqGuard .eql 90 x y s.val t.val).run Try.prog w = .ok () w := fun w => run_eqGuard_agg w .eql 90 x y _ _ (by kernel_rfl)
  have he : ∀ w, (binOp .eql 90 s.val t.val).run Try.prog w = .ok (.bool (s.same t)) w := fun w => by
    show (binOp .eql 90 (.agg s.cells.toArray) (.agg t.cells.toArray)).run Try.prog w = _
    rw [run_eql_struct]
    have := run_eqEnt s t w
    unfold EntD.val at this
    rw [this]; rfl
  simp [execOp, hρ x _ hx, hρ y _ hy, hg, he]
theorem w_OkA {W : World} {F : List HProp} [Abs F] (k : WK) (s : WS) (e : EnvD) (he : e.Ok) (hl : s.l.length ≤ 1000000000) (l' : List (List UInt8)) (r : Bool) (h1 : okL s.l e = l') (h2 : decide (okE l' s.S e) = r) :
    CallsK W Try.prog 28 #[.pointer (some ⟨k.p, 0, none⟩), e.val] (At worldI k s :: F) (fun u L => u = .bool r ∧ Lands L (At worldI k ⟨l', s.S⟩ :: F)) := by
  subst h1; subst h2; exact w_Ok k s e he hl
def tC : TxD := ⟨6, 0, 0, false, 0, 0, 4⟩
theorem tC_ok : tC.ok = true := by decide +kernel
theorem tC_wf : tC.Wf := by refine ⟨?_, ?_, ?_, ?_, ?_, ?_⟩ <;> first | decide | (unfold I64; decide)
def eW : EnvD := ⟨3, 5, 7, 1⟩
def fW : EnvD := ⟨4, 5, 7, 1⟩
def el1 : List (List UInt8) := [envB eW]
def el2 : List (List UInt8) := [envB eW, envB fW]
def eS1 : List (Int × List Int) := [(1, [1003])]
theorem em1 : dput [] (envB eW) = el1 ∧ addTo [] (1000 + 3) (dnum el1 (envB eW) : Nat) = eS1 := by decide +kernel
theorem ek1 : okL el1 eW = el1 ∧ decide (okE el1 eS1 eW) = true := by decide +kernel
theorem ek2 : okL el1 fW = el2 ∧ decide (okE el2 eS1 fW) = false := by decide +kernel
theorem elen : el1.length = 1 ∧ el2.length = 2 := by decide +kernel
theorem eWok : eW.Ok := by simp [eW, EnvD.Ok]
theorem fWok : fW.Ok := by simp [fW, EnvD.Ok]
def aV (sh : List Int) : V1 := ⟨vneed 1, 3, tC.code, sh⟩
theorem aV0 : (aV []).enough 1 = false := by decide +kernel
theorem aV2 : (aV [0, 1]).enough 1 = true := by decide +kernel
theorem open0 : openR (aV []) eW = .tuple #[zEnt.val, .bool false] := if_neg (by rw [show eW.cipher = 1 from rfl, aV0]; decide)
theorem open2 : openR (aV [0, 1]) eW = .tuple #[(EntD.mk 3 5 7 true tC).val, .bool true] := by
  unfold openR
  rw [if_pos (show (aV [0, 1]).enough eW.cipher = true from aV2)]
  unfold openE
  rw [if_pos (show (aV [0, 1]).label = eW.client from rfl), show (aV [0, 1]).plain = tC.code from rfl, parseTx_code tC_wf tC_ok]; rfl
theorem open3 : openR (aV [0, 1]) fW = .tuple #[(EntD.mk 4 5 7 false txZero).val, .bool true] := by
  unfold openR
  rw [if_pos (show (aV [0, 1]).enough fW.cipher = true from aV2)]
  unfold openE
  rw [if_neg (show ¬ (aV [0, 1]).label = fW.client by decide)]; rfl

theorem enve_awake {W : World} {F : List HProp} [Abs F] :
    CallsK W Try.prog 48 #[] (F) (fun v L => v = .bool true ∧ Lands L F) := by
  refine CallsK_enter (n := 98) Try.func48 rfl rfl rfl ?_
  refine SC_seq ?_
  refine SC_region ?_
  refine SR_pu (RD_assign rfl) rfl ?_
  refine SR_nil ?_
  refine SN.le (l := []) ?_ (.nil)
  refine SN_seq ?_
  refine SC_seq ?_
  refine SC_region ?_
  refine SR_call Try.call16 (.cons rfl (.nil)) (enve_New 1) (lts rfl) ?_
  rintro _ L0 ⟨k, rfl, hL0⟩
  refine SR.lands hL0 ?_
  refine SR_pu (RD_assign rfl) rfl ?_
  refine SR_nil ?_
  refine SN.le (l := [(1, _)]) ?_ (.cons rfl (.nil))
  refine SN_seq ?_
  refine SC_seq ?_
  refine SC_seq ?_
  refine SC_region ?_
  refine SR_pu (RD_move rfl) rfl ?_
  refine SR_pu (RD_eqlP Try.underlying35 rfl rfl) rfl ?_
  refine SR_pu (RD_move rfl) rfl ?_
  refine SR_yes rfl rfl (by first | rfl | exact decide_eq_true (by omega) | exact decide_eq_false (by omega) | decide | (simp; done) | (simp; omega)) ?_
  refine SR_pu (RD_move rfl) rfl ?_
  refine SR_yes rfl rfl (by first | rfl | exact decide_eq_true (by omega) | exact decide_eq_false (by omega) | decide | (simp; done) | (simp; omega)) ?_
  refine SR_call Try.call49 (.cons rfl (.nil)) (CallsK.at (w_Vault k ⟨[], []⟩)) (lts rfl) ?_
  rintro _ L1 ⟨rfl, hL1⟩
  refine SR.lands hL1 ?_
  refine SR_yes rfl rfl (by first | rfl | exact decide_eq_true (by omega) | exact decide_eq_false (by omega) | decide | (simp; done) | (simp; omega)) ?_
  refine SR_pu (RD_eqlP Try.underlying83 rfl rfl) rfl ?_
  refine SR_pu (RD_pick_f rfl (by first | rfl | exact decide_eq_true (by omega) | exact decide_eq_false (by omega) | decide | (simp; done) | (simp; omega)) rfl) rfl ?_
  refine SR_pu (RD_move rfl) rfl ?_
  refine SR_yes rfl rfl (by first | rfl | exact decide_eq_true (by omega) | exact decide_eq_false (by omega) | decide | (simp; done) | (simp; omega)) ?_
  refine SR_pu (RD_move rfl) rfl ?_
  refine SR_yes rfl rfl (by first | rfl | exact decide_eq_true (by omega) | exact decide_eq_false (by omega) | decide | (simp; done) | (simp; omega)) ?_
  refine SR_call Try.call21 (.cons rfl (.nil)) (CallsK.at (w_Signs k ⟨[], []⟩)) (lts rfl) ?_
  rintro _ L2 ⟨rfl, hL2⟩
  refine SR.lands hL2 ?_
  refine SR_yes rfl rfl (by first | rfl | exact decide_eq_true (by omega) | exact decide_eq_false (by omega) | decide | (simp; done) | (simp; omega)) ?_
  refine SR_pu (RD_eqlP Try.underlying47 rfl rfl) rfl ?_
  refine SR_pu (RD_pick_f rfl (by first | rfl | exact decide_eq_true (by omega) | exact decide_eq_false (by omega) | decide | (simp; done) | (simp; omega)) rfl) rfl ?_
  refine SR_pu (RD_move rfl) rfl ?_
  refine SR_yes rfl rfl (by first | rfl | exact decide_eq_true (by omega) | exact decide_eq_false (by omega) | decide | (simp; done) | (simp; omega)) ?_
  refine SR_pu (RD_move rfl) rfl ?_
  refine SR_yes rfl rfl (by first | rfl | exact decide_eq_true (by omega) | exact decide_eq_false (by omega) | decide | (simp; done) | (simp; omega)) ?_
  refine SR_call Try.call23 (.cons rfl (.nil)) (CallsK.at (w_Terms k ⟨[], []⟩)) (lts rfl) ?_
  rintro _ L3 ⟨rfl, hL3⟩
  refine SR.lands hL3 ?_
  refine SR_yes rfl rfl (by first | rfl | exact decide_eq_true (by omega) | exact decide_eq_false (by omega) | decide | (simp; done) | (simp; omega)) ?_
  refine SR_pu (RD_eqlP Try.underlying50 rfl rfl) rfl ?_
  refine SR_pu (RD_pick_f rfl (by first | rfl | exact decide_eq_true (by omega) | exact decide_eq_false (by omega) | decide | (simp; done) | (simp; omega)) rfl) rfl ?_
  refine SR_nil ?_
  refine SN.le (l := [(1, _), (29, _)]) ?_ (.cons rfl (.cons rfl (.nil)))
  refine SN_seq ?_
  refine SC_cond_false rfl (rfl) ?_
  refine SC_skip ?_
  refine SN_seq ?_
  refine SC_seq ?_
  refine SC_region ?_
  refine SR_pu (RD_build (.cons rfl (.cons rfl (.nil))) built87_0_6) rfl ?_
  refine SR_call Try.call50 (.cons rfl (.nil)) (ref_TxCode_ok tC tC_wf tC_ok) (lts rfl) ?_
  rintro _ L4 ⟨ca, cc, rfl, hL4⟩
  refine SR.lands hL4 ?_
  refine SR_pu (RD_move rfl) rfl ?_
  refine SR_pu (RD_extract rfl rfl) rfl ?_
  refine SR_pu (RD_extract rfl rfl) rfl ?_
  refine SR_pu (RD_assign rfl) rfl ?_
  refine SR_pu (RD_assign rfl) rfl ?_
  refine SR_nil ?_
  refine SN.le (l := [(1, _), (2, _)]) ?_ (.cons rfl (.cons rfl (.nil)))
  refine SN_seq ?_
  refine SC_seq ?_
  refine SC_region ?_
  refine SR_pu (RD_move rfl) rfl ?_
  refine SR_pu (RD_move rfl) rfl ?_
  refine SR_call Try.call35 (.cons rfl (.cons rfl (.cons rfl (.cons rfl (.cons rfl (.nil)))))) (CallsK.lands (.fin : Lands _ (At worldI k ⟨[], []⟩ :: pt k.v (.cells [.int .i64 (vneed 1), .slice none 0 0].toArray 142) :: rowP 5 1 ca 56 cc (tC.code.map byteV) :: F)) (w_Make1 k ⟨[], []⟩ (vneed 1) 3 5 7 (by omega) (by omega) (by omega) ca 56 cc tC.code rfl tC.code_len (by omega) (by simp))) (lts rfl) ?_
  rintro _ L5 ⟨rfl, hL5⟩
  change Lands L5 (At worldI k ⟨dput [] (envB eW), addTo [] (1000 + 3) (dnum (dput [] (envB eW)) (envB eW) : Nat)⟩ :: At voneI k.v (aV []) :: _) at hL5
  rw [em1.1, em1.2] at hL5
  refine SR.lands hL5 ?_
  refine SR_ox (OX_alloc Try.zeroValue39 rfl) rfl ?_
  rintro _ _ ⟨b4, rfl, rfl⟩
  refine SR_ox0 (OX_stA (vs := EnvD.cells eW) Try.sizeOf39 rfl rfl rfl rfl) ?_
  rintro _ _ rfl
  refine SR_nil ?_
  refine SN.le (l := [(1, _), (4, _)]) ?_ (.cons rfl (.cons rfl (.nil)))
  refine SN_seq ?_
  refine SC_seq ?_
  refine SC_region ?_
  refine SR_pu (RD_move rfl) rfl ?_
  refine SR_rd (RD_loadA (vs := EnvD.cells eW) Try.isAgg39 Try.sizeOf39 rfl rfl) Has.wh rfl ?_
  refine SR_call Try.call53 (.cons rfl (.cons rfl (.nil))) (CallsK.at2 (w_Open k ⟨el1, eS1⟩ (aV []) eW (by rw [show (aV []).plain = tC.code from rfl, TxD.code_len]; omega))) (lts rfl) ?_
  rintro _ L6 ⟨rfl, hL6⟩
  rw [open0]
  refine SR.lands hL6 ?_
  refine SR_pu (RD_move rfl) rfl ?_
  refine SR_pu (RD_extract (v := EntD.val zEnt) rfl rfl) rfl ?_
  refine SR_pu (RD_extract (v := .bool false) rfl rfl) rfl ?_
  refine SR_ox (OX_alloc Try.zeroValue90 rfl) rfl ?_
  rintro _ _ ⟨b5, rfl, rfl⟩
  refine SR_ox0 (OX_stA (vs := EntD.cells zEnt) Try.sizeOf90 rfl rfl rfl rfl) ?_
  rintro _ _ rfl
  refine SR_pu (RD_assign rfl) rfl ?_
  refine SR_nil ?_
  refine SN.le (l := [(1, _), (4, _), (6, _)]) ?_ (.cons rfl (.cons rfl (.cons rfl (.nil))))
  refine SN_seq ?_
  refine SC_seq ?_
  refine SC_drawn (.cons 0 true (.cons 2 true (.cons 3 true (.cons 1 false (.cons 4 false (.nil)))))) (by kernel_rfl) (by kernel_rfl) ?_
  refine SQ_pu rfl (RD_move rfl) rfl ?_
  first
    | refine SQ_pu rfl (RD_fieldAddr 3 Try.runUnderlying39 rfl rfl Try.sizeOf3 rfl) rfl ?_
    | refine SQ_rd rfl (RD_fieldAddrO 3 Try.runUnderlying39 rfl rfl Try.sizeOf3 rfl (by simp <;> omega)) Has.ro rfl ?_
  refine SQ_rd rfl (RD_load Try.isAgg3 rfl) (Has.ce rfl) rfl ?_
  refine SQ_call rfl Try.call49 (.cons rfl (.nil)) (CallsK.at (w_Vault k ⟨el1, eS1⟩)) (lts rfl) ?_
  rintro _ L7 ⟨rfl, hL7⟩
  refine ⟨.lands hL7 (.h (Has.ce rfl) (.nil)), ?_⟩
  refine SQ.lands hL7 ?_
  refine SQ_call rfl Try.call52 (.cons rfl (.cons rfl (.cons rfl (.nil)))) (CallsK.at (seal_Share k.v (aV []) 0)) (lts rfl) ?_
  rintro _ L8 ⟨rfl, hL8⟩
  change Lands L8 (At voneI k.v (aV [0]) :: _) at hL8
  refine ⟨.lands hL8 (.w rfl (.nil)), ?_⟩
  refine SQ.lands hL8 ?_
  refine SQ_nil ?_
  refine SN.le (l := [(1, _), (4, _), (6, _)]) ?_ (.cons rfl (.cons rfl (.cons rfl (.nil))))
  refine SN_seq ?_
  refine SC_seq ?_
  refine SC_drawn (.cons 0 true (.cons 2 true (.cons 3 true (.cons 1 false (.cons 4 false (.nil)))))) (by kernel_rfl) (by kernel_rfl) ?_
  refine SQ_pu rfl (RD_move rfl) rfl ?_
  first
    | refine SQ_pu rfl (RD_fieldAddr 3 Try.runUnderlying39 rfl rfl Try.sizeOf3 rfl) rfl ?_
    | refine SQ_rd rfl (RD_fieldAddrO 3 Try.runUnderlying39 rfl rfl Try.sizeOf3 rfl (by simp <;> omega)) Has.ro rfl ?_
  refine SQ_rd rfl (RD_load Try.isAgg3 rfl) (Has.ce rfl) rfl ?_
  refine SQ_call rfl Try.call49 (.cons rfl (.nil)) (CallsK.at (w_Vault k ⟨el1, eS1⟩)) (lts rfl) ?_
  rintro _ L9 ⟨rfl, hL9⟩
  refine ⟨.lands hL9 (.h (Has.ce rfl) (.nil)), ?_⟩
  refine SQ.lands hL9 ?_
  refine SQ_call rfl Try.call52 (.cons rfl (.cons rfl (.cons rfl (.nil)))) (CallsK.at (seal_Share k.v (aV [0]) 1)) (lts rfl) ?_
  rintro _ L10 ⟨rfl, hL10⟩
  change Lands L10 (At voneI k.v (aV [0, 1]) :: _) at hL10
  refine ⟨.lands hL10 (.w rfl (.nil)), ?_⟩
  refine SQ.lands hL10 ?_
  refine SQ_nil ?_
  refine SN.le (l := [(1, _), (4, _), (6, _)]) ?_ (.cons rfl (.cons rfl (.cons rfl (.nil))))
  refine SN_seq ?_
  refine SC_seq ?_
  refine SC_region ?_
  refine SR_pu (RD_move rfl) rfl ?_
  refine SR_rd (RD_loadA (vs := EnvD.cells eW) Try.isAgg39 Try.sizeOf39 rfl rfl) Has.wh rfl ?_
  refine SR_call Try.call53 (.cons rfl (.cons rfl (.nil))) (CallsK.at2 (w_Open k ⟨el1, eS1⟩ (aV [0, 1]) eW (by rw [show (aV [0, 1]).plain = tC.code from rfl, TxD.code_len]; omega))) (lts rfl) ?_
  rintro _ L11 ⟨rfl, hL11⟩
  rw [open2]
  refine SR.lands hL11 ?_
  refine SR_pu (RD_move rfl) rfl ?_
  refine SR_pu (RD_extract (v := EntD.val ⟨3, 5, 7, true, tC⟩) rfl rfl) rfl ?_
  refine SR_pu (RD_extract (v := .bool true) rfl rfl) rfl ?_
  refine SR_ox (OX_alloc Try.zeroValue90 rfl) rfl ?_
  rintro _ _ ⟨b7, rfl, rfl⟩
  refine SR_ox0 (OX_stA (vs := EntD.cells ⟨3, 5, 7, true, tC⟩) Try.sizeOf90 rfl rfl rfl rfl) ?_
  rintro _ _ rfl
  refine SR_pu (RD_assign rfl) rfl ?_
  refine SR_nil ?_
  refine SN.le (l := [(1, _), (4, _), (6, _), (7, _), (8, _)]) ?_ (.cons rfl (.cons rfl (.cons rfl (.cons rfl (.cons rfl (.nil))))))
  refine SN_seq ?_
  refine SC_seq ?_
  refine SC_region ?_
  refine SR_rd (RD_loadA (vs := EnvD.cells eW) Try.isAgg39 Try.sizeOf39 rfl rfl) Has.wh rfl ?_
  refine SR_ox (OX_alloc Try.zeroValue39 rfl) rfl ?_
  rintro _ _ ⟨b9, rfl, rfl⟩
  refine SR_ox0 (OX_stA (vs := [.int .i64 3, .int .u64 5, .int .u64 7, .int .i64 1]) Try.sizeOf39 rfl rfl rfl rfl) ?_
  rintro _ _ rfl
  refine SR_nil ?_
  refine SN.le (l := [(1, _), (4, _), (6, _), (7, _), (8, _), (9, _)]) ?_ (.cons rfl (.cons rfl (.cons rfl (.cons rfl (.cons rfl (.cons rfl (.nil)))))))
  refine SN_seq ?_
  refine SC_seq ?_
  refine SC_region ?_
  first
    | refine SR_pu (RD_fieldAddr0 Try.runUnderlying39 rfl rfl Try.sizeOf3 rfl) rfl ?_
    | refine SR_rd (RD_fieldAddrO 0 Try.runUnderlying39 rfl rfl Try.sizeOf3 rfl (by simp <;> omega)) Has.ro rfl ?_
  refine SR_ox0 (OX_st Try.sizeOf3 rfl rfl) ?_
  rintro _ _ rfl
  refine SR_nil ?_
  refine SN.le (l := [(1, _), (4, _), (6, _), (7, _), (8, _), (9, _)]) ?_ (.cons rfl (.cons rfl (.cons rfl (.cons rfl (.cons rfl (.cons rfl (.nil)))))))
  refine SN_seq ?_
  refine SC_seq ?_
  refine SC_region ?_
  refine SR_pu (RD_move rfl) rfl ?_
  refine SR_rd (RD_loadA (vs := EnvD.cells fW) Try.isAgg39 Try.sizeOf39 rfl rfl) Has.wh rfl ?_
  refine SR_call Try.call53 (.cons rfl (.cons rfl (.nil))) (CallsK.at2 (w_Open k ⟨el1, eS1⟩ (aV [0, 1]) fW (by rw [show (aV [0, 1]).plain = tC.code from rfl, TxD.code_len]; omega))) (lts rfl) ?_
  rintro _ L12 ⟨rfl, hL12⟩
  rw [open3]
  refine SR.lands hL12 ?_
  refine SR_pu (RD_move rfl) rfl ?_
  refine SR_pu (RD_extract (v := EntD.val ⟨4, 5, 7, false, txZero⟩) rfl rfl) rfl ?_
  refine SR_pu (RD_extract (v := .bool true) rfl rfl) rfl ?_
  refine SR_ox (OX_alloc Try.zeroValue90 rfl) rfl ?_
  rintro _ _ ⟨b10, rfl, rfl⟩
  refine SR_ox0 (OX_stA (vs := EntD.cells ⟨4, 5, 7, false, txZero⟩) Try.sizeOf90 rfl rfl rfl rfl) ?_
  rintro _ _ rfl
  refine SR_pu (RD_assign rfl) rfl ?_
  refine SR_nil ?_
  refine SN.le (l := [(1, _), (4, _), (6, _), (7, _), (8, _), (9, _), (10, _), (11, _)]) ?_ (.cons rfl (.cons rfl (.cons rfl (.cons rfl (.cons rfl (.cons rfl (.cons rfl (.cons rfl (.nil)))))))))
  refine SN_seq ?_
  refine SC_seq ?_
  refine SC_region ?_
  refine SR_pu (RD_move rfl) rfl ?_
  refine SR_rd (RD_loadA (vs := EnvD.cells eW) Try.isAgg39 Try.sizeOf39 rfl rfl) Has.wh rfl ?_
  refine SR_call Try.call28 (.cons rfl (.cons rfl (.nil))) (CallsK.at (w_OkA k ⟨el1, eS1⟩ eW eWok (by simp [elen]) el1 true ek1.1 ek1.2)) (lts rfl) ?_
  rintro _ L13 ⟨rfl, hL13⟩
  refine SR.lands hL13 ?_
  refine SR_pu (RD_move rfl) rfl ?_
  refine SR_yes rfl rfl (by first | rfl | exact decide_eq_true (by omega) | exact decide_eq_false (by omega) | decide | (simp; done) | (simp; omega)) ?_
  refine SR_pu (RD_move rfl) rfl ?_
  refine SR_yes rfl rfl (by first | rfl | exact decide_eq_true (by omega) | exact decide_eq_false (by omega) | decide | (simp; done) | (simp; omega)) ?_
  refine SR_rd (RD_loadA (vs := EnvD.cells fW) Try.isAgg39 Try.sizeOf39 rfl rfl) Has.wh rfl ?_
  refine SR_yes rfl rfl (by first | rfl | exact decide_eq_true (by omega) | exact decide_eq_false (by omega) | decide | (simp; done) | (simp; omega)) ?_
  refine SR_call Try.call28 (.cons rfl (.cons rfl (.nil))) (CallsK.at (w_OkA k ⟨el1, eS1⟩ fW fWok (by simp [elen]) el2 false ek2.1 ek2.2)) (lts rfl) ?_
  rintro _ L14 ⟨rfl, hL14⟩
  refine SR.lands hL14 ?_
  refine SR_yes rfl rfl (by first | rfl | exact decide_eq_true (by omega) | exact decide_eq_false (by omega) | decide | (simp; done) | (simp; omega)) ?_
  refine SR_pu (RD_not rfl) rfl ?_
  refine SR_pu (RD_pick_t rfl (by first | rfl | exact decide_eq_true (by omega) | exact decide_eq_false (by omega) | decide | (simp; done) | (simp; omega)) rfl) rfl ?_
  refine SR_pu (RD_move rfl) rfl ?_
  refine SR_yes rfl rfl (by first | rfl | exact decide_eq_true (by omega) | exact decide_eq_false (by omega) | decide | (simp; done) | (simp; omega)) ?_
  refine SR_pu (RD_move rfl) rfl ?_
  refine SR_yes rfl rfl (by first | rfl | exact decide_eq_true (by omega) | exact decide_eq_false (by omega) | decide | (simp; done) | (simp; omega)) ?_
  refine SR_pu (RD_not rfl) rfl ?_
  refine SR_pu (RD_pick_t rfl (by first | rfl | exact decide_eq_true (by omega) | exact decide_eq_false (by omega) | decide | (simp; done) | (simp; omega)) rfl) rfl ?_
  refine SR_pu (RD_move rfl) rfl ?_
  refine SR_yes rfl rfl (by first | rfl | exact decide_eq_true (by omega) | exact decide_eq_false (by omega) | decide | (simp; done) | (simp; omega)) ?_
  refine SR_pu (RD_move rfl) rfl ?_
  refine SR_pu (RD_pick_t rfl (by first | rfl | exact decide_eq_true (by omega) | exact decide_eq_false (by omega) | decide | (simp; done) | (simp; omega)) rfl) rfl ?_
  refine SR_pu (RD_move rfl) rfl ?_
  refine SR_yes rfl rfl (by first | rfl | exact decide_eq_true (by omega) | exact decide_eq_false (by omega) | decide | (simp; done) | (simp; omega)) ?_
  refine SR_rd (RD_loadA (vs := EntD.cells ⟨3, 5, 7, true, tC⟩) Try.isAgg90 Try.sizeOf90 rfl rfl) Has.wh rfl ?_
  refine SR_yes rfl rfl (by first | rfl | exact decide_eq_true (by omega) | exact decide_eq_false (by omega) | decide | (simp; done) | (simp; omega)) ?_
  refine SR_pu (RD_build (.cons rfl (.cons rfl (.nil))) built87_0_6) rfl ?_
  refine SR_yes rfl rfl (by first | rfl | exact decide_eq_true (by omega) | exact decide_eq_false (by omega) | decide | (simp; done) | (simp; omega)) ?_
  refine SR_pu (RD_build (.cons rfl (.cons rfl (.cons rfl (.cons rfl (.cons rfl (.nil)))))) built90_0_1_2_3_4) rfl ?_
  refine SR_yes rfl rfl (by first | rfl | exact decide_eq_true (by omega) | exact decide_eq_false (by omega) | decide | (simp; done) | (simp; omega)) ?_
  refine SR_pu (RD_eqlEnt ⟨3, 5, 7, true, tC⟩ ⟨3, 5, 7, true, tC⟩ rfl rfl rfl) rfl ?_
  refine SR_pu (RD_pick_t rfl (by first | rfl | exact decide_eq_true (by omega) | exact decide_eq_false (by omega) | decide | (simp; done) | (simp; omega)) rfl) rfl ?_
  refine SR_pu (RD_move rfl) rfl ?_
  refine SR_yes rfl rfl (by first | rfl | exact decide_eq_true (by omega) | exact decide_eq_false (by omega) | decide | (simp; done) | (simp; omega)) ?_
  refine SR_pu (RD_move rfl) rfl ?_
  refine SR_pu (RD_pick_t rfl (by first | rfl | exact decide_eq_true (by omega) | exact decide_eq_false (by omega) | decide | (simp; done) | (simp; omega)) rfl) rfl ?_
  refine SR_pu (RD_move rfl) rfl ?_
  refine SR_yes rfl rfl (by first | rfl | exact decide_eq_true (by omega) | exact decide_eq_false (by omega) | decide | (simp; done) | (simp; omega)) ?_
  refine SR_rd (RD_loadA (vs := EntD.cells ⟨4, 5, 7, false, txZero⟩) Try.isAgg90 Try.sizeOf90 rfl rfl) Has.wh rfl ?_
  refine SR_yes rfl rfl (by first | rfl | exact decide_eq_true (by omega) | exact decide_eq_false (by omega) | decide | (simp; done) | (simp; omega)) ?_
  refine SR_pu (RD_build (.cons rfl (.cons rfl (.cons rfl (.nil)))) built90_0_1_2) rfl ?_
  refine SR_yes rfl rfl (by first | rfl | exact decide_eq_true (by omega) | exact decide_eq_false (by omega) | decide | (simp; done) | (simp; omega)) ?_
  refine SR_pu (RD_eqlEnt ⟨4, 5, 7, false, txZero⟩ ⟨4, 5, 7, false, txZero⟩ rfl rfl rfl) rfl ?_
  refine SR_pu (RD_pick_t rfl (by first | rfl | exact decide_eq_true (by omega) | exact decide_eq_false (by omega) | decide | (simp; done) | (simp; omega)) rfl) rfl ?_
  refine SR_pu (RD_assign rfl) rfl ?_
  refine SR_nil ?_
  refine SN.le (l := [(0, _)]) ?_ (.cons rfl (.nil))
  refine SN_seq ?_
  refine SC_ret1 rfl rfl ?_
  exact ⟨rfl, .fin⟩

end Go.Proofs.Ytnifaajdiolbjaa
