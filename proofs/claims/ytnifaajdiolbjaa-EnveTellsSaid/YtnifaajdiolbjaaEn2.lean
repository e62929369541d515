/- Entries: envelopes that are opened; the document's code of a trade. -/
import Derived.Test.YtnifaajdiolbjaaEn1
import Derived.Test.YtnifaajdiolbjaaEs
namespace Go.Proofs.Ytnifaajdiolbjaa
open Go Go.Proofs
set_option maxRecDepth 100000
/-- An entry. -/
structure EntD where
  client : Int
  nonce : Int
  fee : Int
  good : Bool
  tx : TxD
def EntD.cells (x : EntD) : List Value := .int .i64 x.client :: .int .u64 x.nonce :: .int .u64 x.fee :: .bool x.good :: x.tx.cells
def EntD.val (x : EntD) : Value := .agg x.cells.toArray
instance (x : EntD) : Ones x.cells := by unfold EntD.cells; infer_instance
theorem EntD.cells_len (x : EntD) : x.cells.length = 11 := rfl
theorem OX_stAt {W : World} {P : Program} {l : Env} {L R : List HProp} {ty : TypeId} {x y : Operand} {t b off m : Nat} {cs vs cs' : List Value} {T : TypeId} (hz : ∀ w, (sizeOf t).run P w = .ok m w) (hx : ev l x = some (.pointer (some ⟨b, off, none⟩))) (hy : ev l y = some (.agg vs.toArray)) [ho : Ones vs] [tp : TakePt L b (.cells cs.toArray T) R]
    (hm : vs.length = m) (hc : off + m ≤ cs.length) (he : setL cs off vs = cs') : OX W P l L (.store t x y) ty (fun _ L' => L' = pt b (.cells cs'.toArray T) :: R) :=
  (OX.lands (fun m => Den_perm tp.perm m) (OX_storeA hz hm hx hy (fun v hv => (ho.h v hv)) hc)).imp fun _ _ e => by rw [e, he]
def zEnt : EntD := ⟨0, 0, 0, false, txZero⟩
/-- What is in an envelope. -/
def openE (s : V1) (e : EnvD) : EntD := if s.label = e.client then ⟨e.client, e.nonce, e.fee, (parseTx s.plain).isSome, (parseTx s.plain).getD txZero⟩ else ⟨e.client, e.nonce, e.fee, false, txZero⟩
def openR (s : V1) (e : EnvD) : Value := if s.enough e.cipher then .tuple #[(openE s e).val, .bool true] else .tuple #[zEnt.val, .bool false]

theorem w_Open_no {W : World} {F : List HProp} [Abs F] (k : WK) (z : WS) (s : V1) (e : EnvD) (hen : s.enough e.cipher = false) :
    CallsK W Try.prog 53 #[.pointer (some ⟨k.p, 0, none⟩), e.val] (At worldI k z :: At voneI k.v s :: F) (fun v L => v = .tuple #[zEnt.val, .bool false] ∧ Lands L (At worldI k z :: At voneI k.v s :: F)) := by
  refine CallsK_enter (n := 46) Try.func53 rfl rfl rfl ?_
  refine SC_seq ?_
  refine SC_region ?_
  refine SR_ox (OX_box rfl rfl) rfl ?_
  rintro _ _ ⟨b3, rfl, rfl⟩
  refine SR_ox (OX_alloc Try.zeroValue90 rfl) rfl ?_
  rintro _ _ ⟨b4, rfl, rfl⟩
  refine SR_pu (RD_assign rfl) rfl ?_
  refine SR_nil ?_
  refine SN.le (l := [(0, _), (3, _), (4, _)]) ?_ (.cons rfl (.cons rfl (.cons rfl (.nil))))
  refine SN_seq ?_
  refine SC_seq ?_
  refine SC_seq ?_
  refine SC.lands (Lands.op_world (k := k) (s := z)) ?_
  refine SC_drawn (.cons 0 true (.cons 1 true (.cons 2 true (.cons 3 true (.cons 4 true (.cons 5 true (.cons 6 false (.cons 7 true (.nil))))))))) (by kernel_rfl) (by kernel_rfl) ?_
  refine SQ_pu rfl (RD_move rfl) rfl ?_
  first
    | refine SQ_pu rfl (RD_nilCheck rfl) rfl ?_
    | refine SQ_pu rfl (RD_nilCheckF rfl) rfl ?_
  first
    | refine SQ_pu rfl (RD_fieldAddr 2 Try.runUnderlying102 rfl rfl Try.sizeOf83 rfl) rfl ?_
    | refine SQ_rd rfl (RD_fieldAddrO 2 Try.runUnderlying102 rfl rfl Try.sizeOf83 rfl (by simp <;> omega)) Has.ro rfl ?_
  refine SQ_rd rfl (RD_load Try.isAgg83 rfl) (Has.ce rfl) rfl ?_
  first
    | refine SQ_pu rfl (RD_fieldAddr 3 Try.runUnderlying39 rfl rfl Try.sizeOf3 rfl) rfl ?_
    | refine SQ_rd rfl (RD_fieldAddrO 3 Try.runUnderlying39 rfl rfl Try.sizeOf3 rfl (by simp <;> omega)) Has.ro rfl ?_
  refine SQ_rd rfl (RD_load Try.isAgg3 rfl) (Has.ce rfl) rfl ?_
  refine SQ_call rfl Try.call86 (.cons rfl (.cons rfl (.nil))) (CallsK.at (seal_Enough k.v s e.cipher)) (lts rfl) ?_
  rintro _ L1 ⟨rfl, hL1⟩
  refine ⟨.lands hL1 (.w rfl (.w rfl (.nil))), ?_⟩
  rw [hen]
  refine SQ.lands hL1 ?_
  refine SQ_pu rfl (RD_not rfl) rfl ?_
  refine SQ_nil ?_
  refine SN.le (l := [(0, _), (3, _), (4, _), (16, _)]) ?_ (.cons rfl (.cons rfl (.cons rfl (.cons rfl (.nil)))))
  refine SN_seq ?_
  refine SC_cond_true rfl (rfl) ?_
  refine SC_seq ?_
  refine SC_region ?_
  refine SR_pu (RD_build (.nil) built90) rfl ?_
  refine SR_ox0 (OX_stA (vs := zEnt.cells) Try.sizeOf90 rfl rfl rfl rfl) ?_
  rintro _ _ rfl
  refine SR_pu (RD_assign rfl) rfl ?_
  refine SR_nil ?_
  refine SN.le (l := [(4, _), (5, _)]) ?_ (.cons rfl (.cons rfl (.nil)))
  refine SN_seq ?_
  refine SC_retCT rfl Try.isAgg90 Try.sizeOf90 rfl rfl rfl Has.wh ?_
  exact ⟨rfl, (close_world (k := k) (l := z.l) (S := z.S)).trans .fin⟩

theorem w_Open_lab {W : World} {F : List HProp} [Abs F] (k : WK) (z : WS) (s : V1) (e : EnvD) (hen : s.enough e.cipher = true) (hlb : ¬ s.label = e.client) :
    CallsK W Try.prog 53 #[.pointer (some ⟨k.p, 0, none⟩), e.val] (At worldI k z :: At voneI k.v s :: F) (fun v L => v = .tuple #[EntD.val ⟨e.client, e.nonce, e.fee, false, txZero⟩, .bool true] ∧ Lands L (At worldI k z :: At voneI k.v s :: F)) := by
  refine CallsK_enter (n := 46) Try.func53 rfl rfl rfl ?_
  obtain ⟨cl, nc, fe, ci⟩ := e
  have hc1 : ci = 1 := by have h := hen; unfold V1.enough at h; simp at h; exact h.1
  subst hc1
  dsimp only at hen hlb ⊢
  refine SC_seq ?_
  refine SC_region ?_
  refine SR_ox (OX_box rfl rfl) rfl ?_
  rintro _ _ ⟨b3, rfl, rfl⟩
  refine SR_ox (OX_alloc Try.zeroValue90 rfl) rfl ?_
  rintro _ _ ⟨b4, rfl, rfl⟩
  refine SR_pu (RD_assign rfl) rfl ?_
  refine SR_nil ?_
  refine SN.le (l := [(0, _), (3, _), (4, _)]) ?_ (.cons rfl (.cons rfl (.cons rfl (.nil))))
  refine SN_seq ?_
  refine SC_seq ?_
  refine SC_seq ?_
  refine SC.lands (Lands.op_world (k := k) (s := z)) ?_
  refine SC_drawn (.cons 0 true (.cons 1 true (.cons 2 true (.cons 3 true (.cons 4 true (.cons 5 true (.cons 6 false (.cons 7 true (.nil))))))))) (by kernel_rfl) (by kernel_rfl) ?_
  refine SQ_pu rfl (RD_move rfl) rfl ?_
  first
    | refine SQ_pu rfl (RD_nilCheck rfl) rfl ?_
    | refine SQ_pu rfl (RD_nilCheckF rfl) rfl ?_
  first
    | refine SQ_pu rfl (RD_fieldAddr 2 Try.runUnderlying102 rfl rfl Try.sizeOf83 rfl) rfl ?_
    | refine SQ_rd rfl (RD_fieldAddrO 2 Try.runUnderlying102 rfl rfl Try.sizeOf83 rfl (by simp <;> omega)) Has.ro rfl ?_
  refine SQ_rd rfl (RD_load Try.isAgg83 rfl) (Has.ce rfl) rfl ?_
  first
    | refine SQ_pu rfl (RD_fieldAddr 3 Try.runUnderlying39 rfl rfl Try.sizeOf3 rfl) rfl ?_
    | refine SQ_rd rfl (RD_fieldAddrO 3 Try.runUnderlying39 rfl rfl Try.sizeOf3 rfl (by simp <;> omega)) Has.ro rfl ?_
  refine SQ_rd rfl (RD_load Try.isAgg3 rfl) (Has.ce rfl) rfl ?_
  refine SQ_call rfl Try.call86 (.cons rfl (.cons rfl (.nil))) (CallsK.at (seal_Enough k.v s 1)) (lts rfl) ?_
  rintro _ L1 ⟨rfl, hL1⟩
  refine ⟨.lands hL1 (.w rfl (.w rfl (.nil))), ?_⟩
  rw [hen]
  refine SQ.lands hL1 ?_
  refine SQ_pu rfl (RD_not rfl) rfl ?_
  refine SQ_nil ?_
  refine SN.le (l := [(0, _), (3, _), (4, _), (16, _)]) ?_ (.cons rfl (.cons rfl (.cons rfl (.cons rfl (.nil)))))
  refine SN_seq ?_
  refine SC_cond_false rfl (rfl) ?_
  refine SC_skip ?_
  refine SN_seq ?_
  refine SC_seq ?_
  refine SC_region ?_
  first
    | refine SR_pu (RD_fieldAddr0 Try.runUnderlying39 rfl rfl Try.sizeOf3 rfl) rfl ?_
    | refine SR_rd (RD_fieldAddrO 0 Try.runUnderlying39 rfl rfl Try.sizeOf3 rfl (by simp <;> omega)) Has.ro rfl ?_
  refine SR_rd (RD_load Try.isAgg3 rfl) (Has.ce rfl) rfl ?_
  first
    | refine SR_pu (RD_fieldAddr 1 Try.runUnderlying39 rfl rfl Try.sizeOf37 rfl) rfl ?_
    | refine SR_rd (RD_fieldAddrO 1 Try.runUnderlying39 rfl rfl Try.sizeOf37 rfl (by simp <;> omega)) Has.ro rfl ?_
  refine SR_rd (RD_load Try.isAgg37 rfl) (Has.ce rfl) rfl ?_
  first
    | refine SR_pu (RD_fieldAddr 2 Try.runUnderlying39 rfl rfl Try.sizeOf37 rfl) rfl ?_
    | refine SR_rd (RD_fieldAddrO 2 Try.runUnderlying39 rfl rfl Try.sizeOf37 rfl (by simp <;> omega)) Has.ro rfl ?_
  refine SR_rd (RD_load Try.isAgg37 rfl) (Has.ce rfl) rfl ?_
  refine SR_pu (RD_build (.cons rfl (.cons rfl (.cons rfl (.nil)))) built90_0_1_2) rfl ?_
  refine SR_ox (OX_alloc Try.zeroValue90 rfl) rfl ?_
  rintro _ _ ⟨b6, rfl, rfl⟩
  refine SR_ox0 (OX_stA (vs := EntD.cells ⟨cl, nc, fe, false, txZero⟩) Try.sizeOf90 rfl rfl rfl rfl) ?_
  rintro _ _ rfl
  refine SR_nil ?_
  refine SN.le (l := [(0, _), (3, _), (4, _), (6, _)]) ?_ (.cons rfl (.cons rfl (.cons rfl (.cons rfl (.nil)))))
  refine SN_seq ?_
  refine SC_seq ?_
  refine SC_seq ?_
  refine SC_drawn (.cons 0 true (.cons 1 true (.cons 2 true (.cons 3 true (.cons 4 true (.cons 5 true (.cons 6 true (.cons 7 true (.cons 8 false (.cons 9 true (.cons 10 true (.cons 11 true (.cons 12 true (.cons 13 true (.nil))))))))))))))) (by kernel_rfl) (by kernel_rfl) ?_
  refine SQ_pu rfl (RD_move rfl) rfl ?_
  first
    | refine SQ_pu rfl (RD_nilCheck rfl) rfl ?_
    | refine SQ_pu rfl (RD_nilCheckF rfl) rfl ?_
  first
    | refine SQ_pu rfl (RD_fieldAddr 2 Try.runUnderlying102 rfl rfl Try.sizeOf83 rfl) rfl ?_
    | refine SQ_rd rfl (RD_fieldAddrO 2 Try.runUnderlying102 rfl rfl Try.sizeOf83 rfl (by simp <;> omega)) Has.ro rfl ?_
  refine SQ_rd rfl (RD_load Try.isAgg83 rfl) (Has.ce rfl) rfl ?_
  first
    | refine SQ_pu rfl (RD_fieldAddr0 Try.runUnderlying39 rfl rfl Try.sizeOf3 rfl) rfl ?_
    | refine SQ_rd rfl (RD_fieldAddrO 0 Try.runUnderlying39 rfl rfl Try.sizeOf3 rfl (by simp <;> omega)) Has.ro rfl ?_
  refine SQ_rd rfl (RD_load Try.isAgg3 rfl) (Has.ce rfl) rfl ?_
  first
    | refine SQ_pu rfl (RD_fieldAddr 3 Try.runUnderlying39 rfl rfl Try.sizeOf3 rfl) rfl ?_
    | refine SQ_rd rfl (RD_fieldAddrO 3 Try.runUnderlying39 rfl rfl Try.sizeOf3 rfl (by simp <;> omega)) Has.ro rfl ?_
  refine SQ_rd rfl (RD_load Try.isAgg3 rfl) (Has.ce rfl) rfl ?_
  refine SQ_call rfl Try.call87 (.cons rfl (.cons rfl (.cons rfl (.nil)))) (CallsK.at (seal_Open_no k.v s cl 1 hen hlb)) (lts rfl) ?_
  rintro _ L2 ⟨rfl, hL2⟩
  refine ⟨.lands hL2 (.w rfl (.w rfl (.w rfl (.nil)))), ?_⟩
  refine SQ.lands hL2 ?_
  refine SQ_pu rfl (RD_move rfl) rfl ?_
  refine SQ_pu rfl (RD_extract rfl rfl) rfl ?_
  refine SQ_pu rfl (RD_extract rfl rfl) rfl ?_
  refine SQ_pu rfl (RD_assign rfl) rfl ?_
  refine SQ_pu rfl (RD_assign rfl) rfl ?_
  refine SQ_nil ?_
  refine SN.le (l := [(4, _), (6, _), (7, _), (8, _)]) ?_ (.cons rfl (.cons rfl (.cons rfl (.cons rfl (.nil)))))
  refine SN_seq ?_
  refine SC_seq ?_
  refine SC_region ?_
  refine SR_pu (RD_move rfl) rfl ?_
  refine SR_nil ?_
  refine SN.le (l := [(4, _), (6, _), (7, _), (37, _)]) ?_ (.cons rfl (.cons rfl (.cons rfl (.cons rfl (.nil)))))
  refine SN_seq ?_
  refine SC_cond_false rfl (rfl) ?_
  refine SC_skip ?_
  refine SN_seq ?_
  refine SC_seq ?_
  refine SC_region ?_
  refine SR_rd (RD_loadA Try.isAgg90 Try.sizeOf90 rfl rfl) Has.wh rfl ?_
  refine SR_ox0 (OX_stA (vs := EntD.cells ⟨cl, nc, fe, false, txZero⟩) Try.sizeOf90 rfl rfl rfl rfl) ?_
  rintro _ _ rfl
  refine SR_pu (RD_assign rfl) rfl ?_
  refine SR_nil ?_
  refine SN.le (l := [(4, _), (5, _)]) ?_ (.cons rfl (.cons rfl (.nil)))
  refine SN_seq ?_
  refine SC_retCT rfl Try.isAgg90 Try.sizeOf90 rfl rfl rfl Has.wh ?_
  exact ⟨rfl, (close_world (k := k) (l := z.l) (S := z.S)).trans .fin⟩

theorem w_Open_yes {W : World} {F : List HProp} [Abs F] (k : WK) (z : WS) (s : V1) (e : EnvD) (hb : s.plain.length ≤ 1000000) (hen : s.enough e.cipher = true) (hlb : s.label = e.client) :
    CallsK W Try.prog 53 #[.pointer (some ⟨k.p, 0, none⟩), e.val] (At worldI k z :: At voneI k.v s :: F) (fun v L => v = .tuple #[EntD.val ⟨e.client, e.nonce, e.fee, (parseTx s.plain).isSome, (parseTx s.plain).getD txZero⟩, .bool true] ∧ Lands L (At worldI k z :: At voneI k.v s :: F)) := by
  refine CallsK_enter (n := 46) Try.func53 rfl rfl rfl ?_
  obtain ⟨cl, nc, fe, ci⟩ := e
  have hc1 : ci = 1 := by have h := hen; unfold V1.enough at h; simp at h; exact h.1
  subst hc1
  dsimp only at hen hlb ⊢
  subst hlb
  refine SC_seq ?_
  refine SC_region ?_
  refine SR_ox (OX_box rfl rfl) rfl ?_
  rintro _ _ ⟨b3, rfl, rfl⟩
  refine SR_ox (OX_alloc Try.zeroValue90 rfl) rfl ?_
  rintro _ _ ⟨b4, rfl, rfl⟩
  refine SR_pu (RD_assign rfl) rfl ?_
  refine SR_nil ?_
  refine SN.le (l := [(0, _), (3, _), (4, _)]) ?_ (.cons rfl (.cons rfl (.cons rfl (.nil))))
  refine SN_seq ?_
  refine SC_seq ?_
  refine SC_seq ?_
  refine SC.lands (Lands.op_world (k := k) (s := z)) ?_
  refine SC_drawn (.cons 0 true (.cons 1 true (.cons 2 true (.cons 3 true (.cons 4 true (.cons 5 true (.cons 6 false (.cons 7 true (.nil))))))))) (by kernel_rfl) (by kernel_rfl) ?_
  refine SQ_pu rfl (RD_move rfl) rfl ?_
  first
    | refine SQ_pu rfl (RD_nilCheck rfl) rfl ?_
    | refine SQ_pu rfl (RD_nilCheckF rfl) rfl ?_
  first
    | refine SQ_pu rfl (RD_fieldAddr 2 Try.runUnderlying102 rfl rfl Try.sizeOf83 rfl) rfl ?_
    | refine SQ_rd rfl (RD_fieldAddrO 2 Try.runUnderlying102 rfl rfl Try.sizeOf83 rfl (by simp <;> omega)) Has.ro rfl ?_
  refine SQ_rd rfl (RD_load Try.isAgg83 rfl) (Has.ce rfl) rfl ?_
  first
    | refine SQ_pu rfl (RD_fieldAddr 3 Try.runUnderlying39 rfl rfl Try.sizeOf3 rfl) rfl ?_
    | refine SQ_rd rfl (RD_fieldAddrO 3 Try.runUnderlying39 rfl rfl Try.sizeOf3 rfl (by simp <;> omega)) Has.ro rfl ?_
  refine SQ_rd rfl (RD_load Try.isAgg3 rfl) (Has.ce rfl) rfl ?_
  refine SQ_call rfl Try.call86 (.cons rfl (.cons rfl (.nil))) (CallsK.at (seal_Enough k.v s 1)) (lts rfl) ?_
  rintro _ L1 ⟨rfl, hL1⟩
  refine ⟨.lands hL1 (.w rfl (.w rfl (.nil))), ?_⟩
  rw [hen]
  refine SQ.lands hL1 ?_
  refine SQ_pu rfl (RD_not rfl) rfl ?_
  refine SQ_nil ?_
  refine SN.le (l := [(0, _), (3, _), (4, _), (16, _)]) ?_ (.cons rfl (.cons rfl (.cons rfl (.cons rfl (.nil)))))
  refine SN_seq ?_
  refine SC_cond_false rfl (rfl) ?_
  refine SC_skip ?_
  refine SN_seq ?_
  refine SC_seq ?_
  refine SC_region ?_
  first
    | refine SR_pu (RD_fieldAddr0 Try.runUnderlying39 rfl rfl Try.sizeOf3 rfl) rfl ?_
    | refine SR_rd (RD_fieldAddrO 0 Try.runUnderlying39 rfl rfl Try.sizeOf3 rfl (by simp <;> omega)) Has.ro rfl ?_
  refine SR_rd (RD_load Try.isAgg3 rfl) (Has.ce rfl) rfl ?_
  first
    | refine SR_pu (RD_fieldAddr 1 Try.runUnderlying39 rfl rfl Try.sizeOf37 rfl) rfl ?_
    | refine SR_rd (RD_fieldAddrO 1 Try.runUnderlying39 rfl rfl Try.sizeOf37 rfl (by simp <;> omega)) Has.ro rfl ?_
  refine SR_rd (RD_load Try.isAgg37 rfl) (Has.ce rfl) rfl ?_
  first
    | refine SR_pu (RD_fieldAddr 2 Try.runUnderlying39 rfl rfl Try.sizeOf37 rfl) rfl ?_
    | refine SR_rd (RD_fieldAddrO 2 Try.runUnderlying39 rfl rfl Try.sizeOf37 rfl (by simp <;> omega)) Has.ro rfl ?_
  refine SR_rd (RD_load Try.isAgg37 rfl) (Has.ce rfl) rfl ?_
  refine SR_pu (RD_build (.cons rfl (.cons rfl (.cons rfl (.nil)))) built90_0_1_2) rfl ?_
  refine SR_ox (OX_alloc Try.zeroValue90 rfl) rfl ?_
  rintro _ _ ⟨b6, rfl, rfl⟩
  refine SR_ox0 (OX_stA (vs := EntD.cells ⟨s.label, nc, fe, false, txZero⟩) Try.sizeOf90 rfl rfl rfl rfl) ?_
  rintro _ _ rfl
  refine SR_nil ?_
  refine SN.le (l := [(0, _), (3, _), (4, _), (6, _)]) ?_ (.cons rfl (.cons rfl (.cons rfl (.cons rfl (.nil)))))
  refine SN_seq ?_
  refine SC_seq ?_
  refine SC_seq ?_
  refine SC_drawn (.cons 0 true (.cons 1 true (.cons 2 true (.cons 3 true (.cons 4 true (.cons 5 true (.cons 6 true (.cons 7 true (.cons 8 false (.cons 9 true (.cons 10 true (.cons 11 true (.cons 12 true (.cons 13 true (.nil))))))))))))))) (by kernel_rfl) (by kernel_rfl) ?_
  refine SQ_pu rfl (RD_move rfl) rfl ?_
  first
    | refine SQ_pu rfl (RD_nilCheck rfl) rfl ?_
    | refine SQ_pu rfl (RD_nilCheckF rfl) rfl ?_
  first
    | refine SQ_pu rfl (RD_fieldAddr 2 Try.runUnderlying102 rfl rfl Try.sizeOf83 rfl) rfl ?_
    | refine SQ_rd rfl (RD_fieldAddrO 2 Try.runUnderlying102 rfl rfl Try.sizeOf83 rfl (by simp <;> omega)) Has.ro rfl ?_
  refine SQ_rd rfl (RD_load Try.isAgg83 rfl) (Has.ce rfl) rfl ?_
  first
    | refine SQ_pu rfl (RD_fieldAddr0 Try.runUnderlying39 rfl rfl Try.sizeOf3 rfl) rfl ?_
    | refine SQ_rd rfl (RD_fieldAddrO 0 Try.runUnderlying39 rfl rfl Try.sizeOf3 rfl (by simp <;> omega)) Has.ro rfl ?_
  refine SQ_rd rfl (RD_load Try.isAgg3 rfl) (Has.ce rfl) rfl ?_
  first
    | refine SQ_pu rfl (RD_fieldAddr 3 Try.runUnderlying39 rfl rfl Try.sizeOf3 rfl) rfl ?_
    | refine SQ_rd rfl (RD_fieldAddrO 3 Try.runUnderlying39 rfl rfl Try.sizeOf3 rfl (by simp <;> omega)) Has.ro rfl ?_
  refine SQ_rd rfl (RD_load Try.isAgg3 rfl) (Has.ce rfl) rfl ?_
  refine SQ_call rfl Try.call87 (.cons rfl (.cons rfl (.cons rfl (.nil)))) (CallsK.at (seal_Open_yes k.v s hb hen)) (lts rfl) ?_
  rintro _ L2 ⟨oa, oc, rfl, hL2⟩
  refine ⟨.lands hL2 (.w rfl (.w rfl (.w rfl (.nil)))), ?_⟩
  refine SQ.lands hL2 ?_
  refine SQ_pu rfl (RD_move rfl) rfl ?_
  refine SQ_pu rfl (RD_extract rfl rfl) rfl ?_
  refine SQ_pu rfl (RD_extract rfl rfl) rfl ?_
  refine SQ_pu rfl (RD_assign rfl) rfl ?_
  refine SQ_pu rfl (RD_assign rfl) rfl ?_
  refine SQ_nil ?_
  refine SN.le (l := [(4, _), (6, _), (7, _), (8, _)]) ?_ (.cons rfl (.cons rfl (.cons rfl (.cons rfl (.nil)))))
  refine SN_seq ?_
  refine SC_seq ?_
  refine SC_region ?_
  refine SR_pu (RD_move rfl) rfl ?_
  refine SR_nil ?_
  refine SN.le (l := [(4, _), (6, _), (7, _), (37, _)]) ?_ (.cons rfl (.cons rfl (.cons rfl (.cons rfl (.nil)))))
  refine SN_seq ?_
  refine SC_cond_true rfl (rfl) ?_
  refine SC_region ?_
  refine SR_pu (RD_move rfl) rfl ?_
  refine SR_call Try.call88 (.cons rfl (.nil)) (tx_Parse s.plain oa s.plain.length oc rfl rfl (by omega)) (lts rfl) ?_
  rintro _ L3 ⟨rfl, hL3⟩
  refine SR.lands hL3 ?_
  refine SR_pu (RD_move rfl) rfl ?_
  refine SR_pu (RD_extract (v := ((parseTx s.plain).getD txZero).val) rfl rfl) rfl ?_
  refine SR_pu (RD_extract (v := .bool (parseTx s.plain).isSome) rfl rfl) rfl ?_
  first
    | refine SR_pu (RD_fieldAddr 4 Try.runUnderlying90 rfl rfl Try.sizeOf87 rfl) rfl ?_
    | refine SR_rd (RD_fieldAddrO 4 Try.runUnderlying90 rfl rfl Try.sizeOf87 rfl (by simp <;> omega)) Has.ro rfl ?_
  refine SR_ox0 (OX_stAt (cs' := EntD.cells ⟨s.label, nc, fe, false, (parseTx s.plain).getD txZero⟩) Try.sizeOf87 rfl rfl rfl (by show 0 + 4 + 7 ≤ 11; decide) rfl) ?_
  rintro _ _ rfl
  unfold EntD.cells
  first
    | refine SR_pu (RD_fieldAddr 3 Try.runUnderlying90 rfl rfl Try.sizeOf4 rfl) rfl ?_
    | refine SR_rd (RD_fieldAddrO 3 Try.runUnderlying90 rfl rfl Try.sizeOf4 rfl (by simp <;> omega)) Has.ro rfl ?_
  refine SR_ox0 (OX_st Try.sizeOf4 rfl rfl) ?_
  rintro _ _ rfl
  refine SR_nil ?_
  refine SN.le (l := [(4, _), (6, _)]) ?_ (.cons rfl (.cons rfl (.nil)))
  refine SN_seq ?_
  refine SC_seq ?_
  refine SC_region ?_
  refine SR_rd (RD_loadA (vs := EntD.cells ⟨s.label, nc, fe, (parseTx s.plain).isSome, (parseTx s.plain).getD txZero⟩) Try.isAgg90 Try.sizeOf90 rfl rfl) Has.wh rfl ?_
  refine SR_ox0 (OX_stA (vs := EntD.cells ⟨s.label, nc, fe, (parseTx s.plain).isSome, (parseTx s.plain).getD txZero⟩) Try.sizeOf90 rfl rfl rfl rfl) ?_
  rintro _ _ rfl
  refine SR_pu (RD_assign rfl) rfl ?_
  refine SR_nil ?_
  refine SN.le (l := [(4, _), (5, _)]) ?_ (.cons rfl (.cons rfl (.nil)))
  refine SN_seq ?_
  refine SC_retCT rfl Try.isAgg90 Try.sizeOf90 rfl rfl rfl Has.wh ?_
  exact ⟨rfl, (close_world (k := k) (l := z.l) (S := z.S)).trans .fin⟩

theorem w_Open {W : World} {F : List HProp} [Abs F] (k : WK) (z : WS) (s : V1) (e : EnvD) (hb : s.plain.length ≤ 1000000) : CallsK W Try.prog 53 #[.pointer (some ⟨k.p, 0, none⟩), e.val] (At worldI k z :: At voneI k.v s :: F) (fun v L => v = openR s e ∧ Lands L (At worldI k z :: At voneI k.v s :: F)) := by
  unfold openR
  cases hen : s.enough e.cipher with
  | false => exact w_Open_no k z s e hen
  | true =>
    unfold openE
    by_cases hlb : s.label = e.client
    · rw [if_pos hlb]; exact w_Open_yes k z s e hb hen hlb
    · rw [if_neg hlb]; exact w_Open_lab k z s e hen hlb

theorem ref_TxOk {W : World} {F : List HProp} [Abs F] (t : TxD) :
    CallsK W Try.prog 84 #[t.val] (F) (fun v L => v = .bool t.ok ∧ Lands L F) := by
  refine CallsK_enter (n := 79) Try.func84 rfl rfl rfl ?_
  refine SC_seq ?_
  refine SC_region ?_
  refine SR_ox (OX_box rfl rfl) rfl ?_
  rintro _ _ ⟨b1, rfl, rfl⟩
  refine SR_pu (RD_assign rfl) rfl ?_
  refine SR_nil ?_
  refine SN.le (l := [(1, _)]) ?_ (.cons rfl (.nil))
  refine SN_seq ?_
  refine SC_seq ?_
  refine SC_region ?_
  first
    | refine SR_pu (RD_fieldAddr0 Try.runUnderlying87 rfl rfl Try.sizeOf3 rfl) rfl ?_
    | refine SR_rd (RD_fieldAddrO 0 Try.runUnderlying87 rfl rfl Try.sizeOf3 rfl (by simp <;> omega)) Has.ro rfl ?_
  refine SR_rd (RD_load Try.isAgg3 rfl) (Has.ce rfl) rfl ?_
  refine SR_pu (RD_build (.cons rfl (.nil)) built87_0) rfl ?_
  refine SR_ox (OX_alloc Try.zeroValue87 rfl) rfl ?_
  rintro _ _ ⟨b3, rfl, rfl⟩
  refine SR_ox0 (OX_stA Try.sizeOf87 rfl rfl rfl rfl) ?_
  rintro _ _ rfl
  refine SR_nil ?_
  refine SN.le (l := [(1, _), (3, _)]) ?_ (.cons rfl (.cons rfl (.nil)))
  refine SN_seq ?_
  refine SC_seq ?_
  refine SC_seq ?_
  refine SC_region ?_
  first
    | refine SR_pu (RD_fieldAddr0 Try.runUnderlying87 rfl rfl Try.sizeOf3 rfl) rfl ?_
    | refine SR_rd (RD_fieldAddrO 0 Try.runUnderlying87 rfl rfl Try.sizeOf3 rfl (by simp <;> omega)) Has.ro rfl ?_
  refine SR_rd (RD_load Try.isAgg3 rfl) (Has.ce rfl) rfl ?_
  refine SR_nil ?_
  refine SN.le (l := [(1, _), (3, _), (8, _)]) ?_ (.cons rfl (.cons rfl (.cons rfl (.nil))))
  refine SN_seq ?_
  refine SC_join (X := {u : TxD // t.fields = some u}) (fun x => [(1, .pointer (some ⟨b1, 0, none⟩)), (3, .pointer (some ⟨b3, 0, none⟩))]) (fun x => pt b1 (.cells t.cells.toArray 87) :: pt b3 (.cells x.1.cells.toArray 87) :: F) (fun ⟨u, hf⟩ => ?_) (fun J0 => ?_)
  · have hok : t.ok = (u.same t && within t.asset 1 && within t.to 2147483647 && within t.id 2147483647) := by unfold TxD.ok; rw [hf]
    refine SN_seq ?_
    refine SC_seq ?_
    refine SC_region ?_
    refine SR_rd (RD_loadA (vs := u.cells) Try.isAgg87 Try.sizeOf87 rfl rfl) Has.wh rfl ?_
    refine SR_rd (RD_loadA (vs := t.cells) Try.isAgg87 Try.sizeOf87 rfl rfl) Has.wh rfl ?_
    refine SR_pu (RD_eqlTx u t rfl rfl rfl) rfl ?_
    refine SR_pu (RD_move rfl) rfl ?_
    refine SR_guard rfl rfl (fun hg14_3 => ?_) (fun hg14_3 => ?_)
    · refine SR_yes rfl rfl (hg14_3) ?_
      first
        | refine SR_pu (RD_fieldAddr 1 Try.runUnderlying87 rfl rfl Try.sizeOf3 rfl) rfl ?_
        | refine SR_rd (RD_fieldAddrO 1 Try.runUnderlying87 rfl rfl Try.sizeOf3 rfl (by simp <;> omega)) Has.ro rfl ?_
      refine SR_yes rfl rfl (hg14_3) ?_
      refine SR_rd (RD_load Try.isAgg3 rfl) (Has.ce rfl) rfl ?_
      refine SR_yes rfl rfl (hg14_3) ?_
      refine SR_pu (RD_geq rfl rfl) rfl ?_
      refine SR_pu (RD_pick_t rfl (hg14_3) rfl) rfl ?_
      refine SR_pu (RD_move rfl) rfl ?_
      refine SR_guard rfl rfl (fun hg14_8 => ?_) (fun hg14_8 => ?_)
      · refine SR_yes rfl rfl (hg14_8) ?_
        first
          | refine SR_pu (RD_fieldAddr 1 Try.runUnderlying87 rfl rfl Try.sizeOf3 rfl) rfl ?_
          | refine SR_rd (RD_fieldAddrO 1 Try.runUnderlying87 rfl rfl Try.sizeOf3 rfl (by simp <;> omega)) Has.ro rfl ?_
        refine SR_yes rfl rfl (hg14_8) ?_
        refine SR_rd (RD_load Try.isAgg3 rfl) (Has.ce rfl) rfl ?_
        refine SR_yes rfl rfl (hg14_8) ?_
        refine SR_pu (RD_leq rfl rfl) rfl ?_
        refine SR_pu (RD_pick_t rfl (hg14_8) rfl) rfl ?_
        refine SR_pu (RD_move rfl) rfl ?_
        refine SR_guard rfl rfl (fun hg14_13 => ?_) (fun hg14_13 => ?_)
        · refine SR_yes rfl rfl (hg14_13) ?_
          first
            | refine SR_pu (RD_fieldAddr 2 Try.runUnderlying87 rfl rfl Try.sizeOf3 rfl) rfl ?_
            | refine SR_rd (RD_fieldAddrO 2 Try.runUnderlying87 rfl rfl Try.sizeOf3 rfl (by simp <;> omega)) Has.ro rfl ?_
          refine SR_yes rfl rfl (hg14_13) ?_
          refine SR_rd (RD_load Try.isAgg3 rfl) (Has.ce rfl) rfl ?_
          refine SR_yes rfl rfl (hg14_13) ?_
          refine SR_pu (RD_geq rfl rfl) rfl ?_
          refine SR_pu (RD_pick_t rfl (hg14_13) rfl) rfl ?_
          refine SR_pu (RD_move rfl) rfl ?_
          refine SR_guard rfl rfl (fun hg14_18 => ?_) (fun hg14_18 => ?_)
          · refine SR_yes rfl rfl (hg14_18) ?_
            first
              | refine SR_pu (RD_fieldAddr 2 Try.runUnderlying87 rfl rfl Try.sizeOf3 rfl) rfl ?_
              | refine SR_rd (RD_fieldAddrO 2 Try.runUnderlying87 rfl rfl Try.sizeOf3 rfl (by simp <;> omega)) Has.ro rfl ?_
            refine SR_yes rfl rfl (hg14_18) ?_
            refine SR_rd (RD_load Try.isAgg3 rfl) (Has.ce rfl) rfl ?_
            refine SR_yes rfl rfl (hg14_18) ?_
            refine SR_pu (RD_lss rfl rfl) rfl ?_
            refine SR_pu (RD_pick_t rfl (hg14_18) rfl) rfl ?_
            refine SR_pu (RD_move rfl) rfl ?_
            refine SR_guard rfl rfl (fun hg14_23 => ?_) (fun hg14_23 => ?_)
            · refine SR_yes rfl rfl (hg14_23) ?_
              first
                | refine SR_pu (RD_fieldAddr 6 Try.runUnderlying87 rfl rfl Try.sizeOf3 rfl) rfl ?_
                | refine SR_rd (RD_fieldAddrO 6 Try.runUnderlying87 rfl rfl Try.sizeOf3 rfl (by simp <;> omega)) Has.ro rfl ?_
              refine SR_yes rfl rfl (hg14_23) ?_
              refine SR_rd (RD_load Try.isAgg3 rfl) (Has.ce rfl) rfl ?_
              refine SR_yes rfl rfl (hg14_23) ?_
              refine SR_pu (RD_geq rfl rfl) rfl ?_
              refine SR_pu (RD_pick_t rfl (hg14_23) rfl) rfl ?_
              refine SR_pu (RD_move rfl) rfl ?_
              refine SR_guard rfl rfl (fun hg14_28 => ?_) (fun hg14_28 => ?_)
              · refine SR_yes rfl rfl (hg14_28) ?_
                first
                  | refine SR_pu (RD_fieldAddr 6 Try.runUnderlying87 rfl rfl Try.sizeOf3 rfl) rfl ?_
                  | refine SR_rd (RD_fieldAddrO 6 Try.runUnderlying87 rfl rfl Try.sizeOf3 rfl (by simp <;> omega)) Has.ro rfl ?_
                refine SR_yes rfl rfl (hg14_28) ?_
                refine SR_rd (RD_load Try.isAgg3 rfl) (Has.ce rfl) rfl ?_
                refine SR_yes rfl rfl (hg14_28) ?_
                refine SR_pu (RD_lss rfl rfl) rfl ?_
                refine SR_pu (RD_pick_t rfl (hg14_28) rfl) rfl ?_
                refine SR_pu (RD_assign rfl) rfl ?_
                refine SR_nil ?_
                refine SN.le (l := [(2, _)]) ?_ (.cons rfl (.nil))
                refine SN_seq ?_
                refine SC_ret1 rfl rfl ?_
                refine ⟨congrArg Value.bool ?_, .fin⟩
                rw [hok]
                simp [within] at *
                first
                | omega
                | (simp [*]; done)
                | (rw [Bool.eq_iff_iff]; simp [*]; omega)
                | (simp [*]; omega)
              · refine SR_no rfl rfl (hg14_28) (lts rfl) ?_
                refine SR_no rfl rfl (hg14_28) (lts rfl) ?_
                refine SR_no rfl rfl (hg14_28) (lts rfl) ?_
                refine SR_pu (RD_pick_f rfl (hg14_28) rfl) rfl ?_
                refine SR_pu (RD_assign rfl) rfl ?_
                refine SR_nil ?_
                refine SN.le (l := [(2, _)]) ?_ (.cons rfl (.nil))
                refine SN_seq ?_
                refine SC_ret1 rfl rfl ?_
                refine ⟨congrArg Value.bool ?_, .fin⟩
                rw [hok]
                simp [within] at *
                first
                | omega
                | (simp [*]; done)
                | (rw [Bool.eq_iff_iff]; simp [*]; omega)
                | (simp [*]; omega)
            · refine SR_no rfl rfl (hg14_23) (lts rfl) ?_
              refine SR_no rfl rfl (hg14_23) (lts rfl) ?_
              refine SR_no rfl rfl (hg14_23) (lts rfl) ?_
              refine SR_pu (RD_pick_f rfl (hg14_23) rfl) rfl ?_
              refine SR_pu (RD_move rfl) rfl ?_
              refine SR_no rfl rfl (rfl) (lts rfl) ?_
              refine SR_no rfl rfl (rfl) (lts rfl) ?_
              refine SR_no rfl rfl (rfl) (lts rfl) ?_
              refine SR_pu (RD_pick_f rfl (rfl) rfl) rfl ?_
              refine SR_pu (RD_assign rfl) rfl ?_
              refine SR_nil ?_
              refine SN.le (l := [(2, _)]) ?_ (.cons rfl (.nil))
              refine SN_seq ?_
              refine SC_ret1 rfl rfl ?_
              refine ⟨congrArg Value.bool ?_, .fin⟩
              rw [hok]
              simp [within] at *
              first
              | omega
              | (simp [*]; done)
              | (rw [Bool.eq_iff_iff]; simp [*]; omega)
              | (simp [*]; omega)
          · refine SR_no rfl rfl (hg14_18) (lts rfl) ?_
            refine SR_no rfl rfl (hg14_18) (lts rfl) ?_
            refine SR_no rfl rfl (hg14_18) (lts rfl) ?_
            refine SR_pu (RD_pick_f rfl (hg14_18) rfl) rfl ?_
            refine SR_pu (RD_move rfl) rfl ?_
            refine SR_no rfl rfl (rfl) (lts rfl) ?_
            refine SR_no rfl rfl (rfl) (lts rfl) ?_
            refine SR_no rfl rfl (rfl) (lts rfl) ?_
            refine SR_pu (RD_pick_f rfl (rfl) rfl) rfl ?_
            refine SR_pu (RD_move rfl) rfl ?_
            refine SR_no rfl rfl (rfl) (lts rfl) ?_
            refine SR_no rfl rfl (rfl) (lts rfl) ?_
            refine SR_no rfl rfl (rfl) (lts rfl) ?_
            refine SR_pu (RD_pick_f rfl (rfl) rfl) rfl ?_
            refine SR_pu (RD_assign rfl) rfl ?_
            refine SR_nil ?_
            refine SN.le (l := [(2, _)]) ?_ (.cons rfl (.nil))
            refine SN_seq ?_
            refine SC_ret1 rfl rfl ?_
            refine ⟨congrArg Value.bool ?_, .fin⟩
            rw [hok]
            simp [within] at *
            first
            | omega
            | (simp [*]; done)
            | (rw [Bool.eq_iff_iff]; simp [*]; omega)
            | (simp [*]; omega)
        · refine SR_no rfl rfl (hg14_13) (lts rfl) ?_
          refine SR_no rfl rfl (hg14_13) (lts rfl) ?_
          refine SR_no rfl rfl (hg14_13) (lts rfl) ?_
          refine SR_pu (RD_pick_f rfl (hg14_13) rfl) rfl ?_
          refine SR_pu (RD_move rfl) rfl ?_
          refine SR_no rfl rfl (rfl) (lts rfl) ?_
          refine SR_no rfl rfl (rfl) (lts rfl) ?_
          refine SR_no rfl rfl (rfl) (lts rfl) ?_
          refine SR_pu (RD_pick_f rfl (rfl) rfl) rfl ?_
          refine SR_pu (RD_move rfl) rfl ?_
          refine SR_no rfl rfl (rfl) (lts rfl) ?_
          refine SR_no rfl rfl (rfl) (lts rfl) ?_
          refine SR_no rfl rfl (rfl) (lts rfl) ?_
          refine SR_pu (RD_pick_f rfl (rfl) rfl) rfl ?_
          refine SR_pu (RD_move rfl) rfl ?_
          refine SR_no rfl rfl (rfl) (lts rfl) ?_
          refine SR_no rfl rfl (rfl) (lts rfl) ?_
          refine SR_no rfl rfl (rfl) (lts rfl) ?_
          refine SR_pu (RD_pick_f rfl (rfl) rfl) rfl ?_
          refine SR_pu (RD_assign rfl) rfl ?_
          refine SR_nil ?_
          refine SN.le (l := [(2, _)]) ?_ (.cons rfl (.nil))
          refine SN_seq ?_
          refine SC_ret1 rfl rfl ?_
          refine ⟨congrArg Value.bool ?_, .fin⟩
          rw [hok]
          simp [within] at *
          first
          | omega
          | (simp [*]; done)
          | (rw [Bool.eq_iff_iff]; simp [*]; omega)
          | (simp [*]; omega)
      · refine SR_no rfl rfl (hg14_8) (lts rfl) ?_
        refine SR_no rfl rfl (hg14_8) (lts rfl) ?_
        refine SR_no rfl rfl (hg14_8) (lts rfl) ?_
        refine SR_pu (RD_pick_f rfl (hg14_8) rfl) rfl ?_
        refine SR_pu (RD_move rfl) rfl ?_
        refine SR_no rfl rfl (rfl) (lts rfl) ?_
        refine SR_no rfl rfl (rfl) (lts rfl) ?_
        refine SR_no rfl rfl (rfl) (lts rfl) ?_
        refine SR_pu (RD_pick_f rfl (rfl) rfl) rfl ?_
        refine SR_pu (RD_move rfl) rfl ?_
        refine SR_no rfl rfl (rfl) (lts rfl) ?_
        refine SR_no rfl rfl (rfl) (lts rfl) ?_
        refine SR_no rfl rfl (rfl) (lts rfl) ?_
        refine SR_pu (RD_pick_f rfl (rfl) rfl) rfl ?_
        refine SR_pu (RD_move rfl) rfl ?_
        refine SR_no rfl rfl (rfl) (lts rfl) ?_
        refine SR_no rfl rfl (rfl) (lts rfl) ?_
        refine SR_no rfl rfl (rfl) (lts rfl) ?_
        refine SR_pu (RD_pick_f rfl (rfl) rfl) rfl ?_
        refine SR_pu (RD_move rfl) rfl ?_
        refine SR_no rfl rfl (rfl) (lts rfl) ?_
        refine SR_no rfl rfl (rfl) (lts rfl) ?_
        refine SR_no rfl rfl (rfl) (lts rfl) ?_
        refine SR_pu (RD_pick_f rfl (rfl) rfl) rfl ?_
        refine SR_pu (RD_assign rfl) rfl ?_
        refine SR_nil ?_
        refine SN.le (l := [(2, _)]) ?_ (.cons rfl (.nil))
        refine SN_seq ?_
        refine SC_ret1 rfl rfl ?_
        refine ⟨congrArg Value.bool ?_, .fin⟩
        rw [hok]
        simp [within] at *
        first
        | omega
        | (simp [*]; done)
        | (rw [Bool.eq_iff_iff]; simp [*]; omega)
        | (simp [*]; omega)
    · refine SR_no rfl rfl (hg14_3) (lts rfl) ?_
      refine SR_no rfl rfl (hg14_3) (lts rfl) ?_
      refine SR_no rfl rfl (hg14_3) (lts rfl) ?_
      refine SR_pu (RD_pick_f rfl (hg14_3) rfl) rfl ?_
      refine SR_pu (RD_move rfl) rfl ?_
      refine SR_no rfl rfl (rfl) (lts rfl) ?_
      refine SR_no rfl rfl (rfl) (lts rfl) ?_
      refine SR_no rfl rfl (rfl) (lts rfl) ?_
      refine SR_pu (RD_pick_f rfl (rfl) rfl) rfl ?_
      refine SR_pu (RD_move rfl) rfl ?_
      refine SR_no rfl rfl (rfl) (lts rfl) ?_
      refine SR_no rfl rfl (rfl) (lts rfl) ?_
      refine SR_no rfl rfl (rfl) (lts rfl) ?_
      refine SR_pu (RD_pick_f rfl (rfl) rfl) rfl ?_
      refine SR_pu (RD_move rfl) rfl ?_
      refine SR_no rfl rfl (rfl) (lts rfl) ?_
      refine SR_no rfl rfl (rfl) (lts rfl) ?_
      refine SR_no rfl rfl (rfl) (lts rfl) ?_
      refine SR_pu (RD_pick_f rfl (rfl) rfl) rfl ?_
      refine SR_pu (RD_move rfl) rfl ?_
      refine SR_no rfl rfl (rfl) (lts rfl) ?_
      refine SR_no rfl rfl (rfl) (lts rfl) ?_
      refine SR_no rfl rfl (rfl) (lts rfl) ?_
      refine SR_pu (RD_pick_f rfl (rfl) rfl) rfl ?_
      refine SR_pu (RD_move rfl) rfl ?_
      refine SR_no rfl rfl (rfl) (lts rfl) ?_
      refine SR_no rfl rfl (rfl) (lts rfl) ?_
      refine SR_no rfl rfl (rfl) (lts rfl) ?_
      refine SR_pu (RD_pick_f rfl (rfl) rfl) rfl ?_
      refine SR_pu (RD_assign rfl) rfl ?_
      refine SR_nil ?_
      refine SN.le (l := [(2, _)]) ?_ (.cons rfl (.nil))
      refine SN_seq ?_
      refine SC_ret1 rfl rfl ?_
      refine ⟨congrArg Value.bool ?_, .fin⟩
      rw [hok]
      simp [within] at *
      first
      | omega
      | (simp [*]; done)
      | (rw [Bool.eq_iff_iff]; simp [*]; omega)
      | (simp [*]; omega)
  · refine SC_block ?_
    refine SC_seq ?_
    refine SC_seq ?_
    refine SC_region ?_
    refine SR_pu (RD_eql rfl rfl) rfl ?_
    refine SR_pu (RD_assign rfl) rfl ?_
    refine SR_nil ?_
    refine SN.le (l := [(1, _), (3, _), (8, _), (9, _)]) ?_ (.cons rfl (.cons rfl (.cons rfl (.cons rfl (.nil)))))
    refine SN_seq ?_
    refine SC_cond rfl (fun hA9 => ?_) (fun hA9 => ?_)
    · have hk : t.kind = 1 := by simpa using hA9
      refine SC_skip ?_
      refine SN_seq ?_
      refine SC_cond_true rfl (hA9) ?_
      refine SC_drawn (.cons 0 true (.cons 1 true (.cons 2 true (.cons 3 true (.cons 4 true (.cons 5 false (.cons 6 true (.cons 7 false (.nil))))))))) (by kernel_rfl) (by kernel_rfl) ?_
      first
        | refine SQ_pu rfl (RD_fieldAddr 1 Try.runUnderlying87 rfl rfl Try.sizeOf3 rfl) rfl ?_
        | refine SQ_rd rfl (RD_fieldAddrO 1 Try.runUnderlying87 rfl rfl Try.sizeOf3 rfl (by simp <;> omega)) Has.ro rfl ?_
      refine SQ_rd rfl (RD_load Try.isAgg3 rfl) (Has.ce rfl) rfl ?_
      first
        | refine SQ_pu rfl (RD_fieldAddr 5 Try.runUnderlying87 rfl rfl Try.sizeOf37 rfl) rfl ?_
        | refine SQ_rd rfl (RD_fieldAddrO 5 Try.runUnderlying87 rfl rfl Try.sizeOf37 rfl (by simp <;> omega)) Has.ro rfl ?_
      refine SQ_rd rfl (RD_load Try.isAgg37 rfl) (Has.ce rfl) rfl ?_
      first
        | refine SQ_pu rfl (RD_fieldAddr 1 Try.runUnderlying87 rfl rfl Try.sizeOf3 rfl) rfl ?_
        | refine SQ_rd rfl (RD_fieldAddrO 1 Try.runUnderlying87 rfl rfl Try.sizeOf3 rfl (by simp <;> omega)) Has.ro rfl ?_
      refine SQ_ox0 rfl (OX_st Try.sizeOf3 rfl rfl) ?_
      rintro _ _ rfl
      refine ⟨.h (Has.ce rfl) (.w rfl (.nil)), ?_⟩
      first
        | refine SQ_pu rfl (RD_fieldAddr 5 Try.runUnderlying87 rfl rfl Try.sizeOf37 rfl) rfl ?_
        | refine SQ_rd rfl (RD_fieldAddrO 5 Try.runUnderlying87 rfl rfl Try.sizeOf37 rfl (by simp <;> omega)) Has.ro rfl ?_
      refine SQ_ox0 rfl (OX_st Try.sizeOf37 rfl rfl) ?_
      rintro _ _ rfl
      refine ⟨.w rfl (.w rfl (.nil)), ?_⟩
      refine SQ_nil ?_
      refine SN.le (l := [(1, _), (3, _)]) ?_ (.cons rfl (.cons rfl (.nil)))
      refine SN_block ?_
      exact J0 (⟨⟨t.kind, t.asset, 0, false, 0, t.qty, 0⟩, by simp [TxD.fields, hk]⟩) _ _ (.cons rfl (.cons rfl (.nil))) ((show Lands _ (pt b1 (.cells t.cells.toArray 87) :: pt b3 (.cells [.int .i64 t.kind, .int .i64 t.asset, .int .i64 0, .bool false, .int .u64 0, .int .u64 t.qty, .int .i64 0].toArray 87) :: F) from .fin))
    · have hn1 : ¬ t.kind = 1 := by simpa using hA9
      refine SC_region ?_
      refine SR_pu (RD_eql rfl rfl) rfl ?_
      refine SR_pu (RD_assign rfl) rfl ?_
      refine SR_nil ?_
      refine SN.le (l := [(1, _), (3, _), (8, _), (9, _)]) ?_ (.cons rfl (.cons rfl (.cons rfl (.cons rfl (.nil)))))
      refine SN_seq ?_
      refine SC_cond rfl (fun hB9 => ?_) (fun hB9 => ?_)
      · have hk : t.kind = 2 := by simpa using hB9
        refine SC_drawn (.cons 0 true (.cons 1 true (.cons 2 true (.cons 3 true (.cons 4 true (.cons 5 false (.cons 6 true (.cons 7 false (.nil))))))))) (by kernel_rfl) (by kernel_rfl) ?_
        first
          | refine SQ_pu rfl (RD_fieldAddr 1 Try.runUnderlying87 rfl rfl Try.sizeOf3 rfl) rfl ?_
          | refine SQ_rd rfl (RD_fieldAddrO 1 Try.runUnderlying87 rfl rfl Try.sizeOf3 rfl (by simp <;> omega)) Has.ro rfl ?_
        refine SQ_rd rfl (RD_load Try.isAgg3 rfl) (Has.ce rfl) rfl ?_
        first
          | refine SQ_pu rfl (RD_fieldAddr 5 Try.runUnderlying87 rfl rfl Try.sizeOf37 rfl) rfl ?_
          | refine SQ_rd rfl (RD_fieldAddrO 5 Try.runUnderlying87 rfl rfl Try.sizeOf37 rfl (by simp <;> omega)) Has.ro rfl ?_
        refine SQ_rd rfl (RD_load Try.isAgg37 rfl) (Has.ce rfl) rfl ?_
        first
          | refine SQ_pu rfl (RD_fieldAddr 1 Try.runUnderlying87 rfl rfl Try.sizeOf3 rfl) rfl ?_
          | refine SQ_rd rfl (RD_fieldAddrO 1 Try.runUnderlying87 rfl rfl Try.sizeOf3 rfl (by simp <;> omega)) Has.ro rfl ?_
        refine SQ_ox0 rfl (OX_st Try.sizeOf3 rfl rfl) ?_
        rintro _ _ rfl
        refine ⟨.h (Has.ce rfl) (.w rfl (.nil)), ?_⟩
        first
          | refine SQ_pu rfl (RD_fieldAddr 5 Try.runUnderlying87 rfl rfl Try.sizeOf37 rfl) rfl ?_
          | refine SQ_rd rfl (RD_fieldAddrO 5 Try.runUnderlying87 rfl rfl Try.sizeOf37 rfl (by simp <;> omega)) Has.ro rfl ?_
        refine SQ_ox0 rfl (OX_st Try.sizeOf37 rfl rfl) ?_
        rintro _ _ rfl
        refine ⟨.w rfl (.w rfl (.nil)), ?_⟩
        refine SQ_nil ?_
        refine SN.le (l := [(1, _), (3, _)]) ?_ (.cons rfl (.cons rfl (.nil)))
        refine SN_block ?_
        exact J0 (⟨⟨t.kind, t.asset, 0, false, 0, t.qty, 0⟩, by simp [TxD.fields, hk]⟩) _ _ (.cons rfl (.cons rfl (.nil))) ((show Lands _ (pt b1 (.cells t.cells.toArray 87) :: pt b3 (.cells [.int .i64 t.kind, .int .i64 t.asset, .int .i64 0, .bool false, .int .u64 0, .int .u64 t.qty, .int .i64 0].toArray 87) :: F) from .fin))
      · have hn2 : ¬ t.kind = 2 := by simpa using hB9
        refine SC_seq ?_
        refine SC_region ?_
        refine SR_pu (RD_eql rfl rfl) rfl ?_
        refine SR_pu (RD_assign rfl) rfl ?_
        refine SR_nil ?_
        refine SN.le (l := [(1, _), (3, _), (8, _), (18, _)]) ?_ (.cons rfl (.cons rfl (.cons rfl (.cons rfl (.nil)))))
        refine SN_seq ?_
        refine SC_cond rfl (fun hA18 => ?_) (fun hA18 => ?_)
        · have hk : t.kind = 3 := by simpa using hA18
          refine SC_drawn (.cons 0 true (.cons 1 true (.cons 2 true (.cons 3 true (.cons 4 true (.cons 5 true (.cons 6 true (.cons 7 false (.cons 8 true (.cons 9 false (.cons 10 true (.cons 11 false (.nil))))))))))))) (by kernel_rfl) (by kernel_rfl) ?_
          first
            | refine SQ_pu rfl (RD_fieldAddr 2 Try.runUnderlying87 rfl rfl Try.sizeOf3 rfl) rfl ?_
            | refine SQ_rd rfl (RD_fieldAddrO 2 Try.runUnderlying87 rfl rfl Try.sizeOf3 rfl (by simp <;> omega)) Has.ro rfl ?_
          refine SQ_rd rfl (RD_load Try.isAgg3 rfl) (Has.ce rfl) rfl ?_
          first
            | refine SQ_pu rfl (RD_fieldAddr 1 Try.runUnderlying87 rfl rfl Try.sizeOf3 rfl) rfl ?_
            | refine SQ_rd rfl (RD_fieldAddrO 1 Try.runUnderlying87 rfl rfl Try.sizeOf3 rfl (by simp <;> omega)) Has.ro rfl ?_
          refine SQ_rd rfl (RD_load Try.isAgg3 rfl) (Has.ce rfl) rfl ?_
          first
            | refine SQ_pu rfl (RD_fieldAddr 5 Try.runUnderlying87 rfl rfl Try.sizeOf37 rfl) rfl ?_
            | refine SQ_rd rfl (RD_fieldAddrO 5 Try.runUnderlying87 rfl rfl Try.sizeOf37 rfl (by simp <;> omega)) Has.ro rfl ?_
          refine SQ_rd rfl (RD_load Try.isAgg37 rfl) (Has.ce rfl) rfl ?_
          first
            | refine SQ_pu rfl (RD_fieldAddr 2 Try.runUnderlying87 rfl rfl Try.sizeOf3 rfl) rfl ?_
            | refine SQ_rd rfl (RD_fieldAddrO 2 Try.runUnderlying87 rfl rfl Try.sizeOf3 rfl (by simp <;> omega)) Has.ro rfl ?_
          refine SQ_ox0 rfl (OX_st Try.sizeOf3 rfl rfl) ?_
          rintro _ _ rfl
          refine ⟨.h (Has.ce rfl) (.h (Has.ce rfl) (.w rfl (.nil))), ?_⟩
          first
            | refine SQ_pu rfl (RD_fieldAddr 1 Try.runUnderlying87 rfl rfl Try.sizeOf3 rfl) rfl ?_
            | refine SQ_rd rfl (RD_fieldAddrO 1 Try.runUnderlying87 rfl rfl Try.sizeOf3 rfl (by simp <;> omega)) Has.ro rfl ?_
          refine SQ_ox0 rfl (OX_st Try.sizeOf3 rfl rfl) ?_
          rintro _ _ rfl
          refine ⟨.h (Has.ce rfl) (.w rfl (.w rfl (.nil))), ?_⟩
          first
            | refine SQ_pu rfl (RD_fieldAddr 5 Try.runUnderlying87 rfl rfl Try.sizeOf37 rfl) rfl ?_
            | refine SQ_rd rfl (RD_fieldAddrO 5 Try.runUnderlying87 rfl rfl Try.sizeOf37 rfl (by simp <;> omega)) Has.ro rfl ?_
          refine SQ_ox0 rfl (OX_st Try.sizeOf37 rfl rfl) ?_
          rintro _ _ rfl
          refine ⟨.w rfl (.w rfl (.w rfl (.nil))), ?_⟩
          refine SQ_nil ?_
          refine SN.le (l := [(1, _), (3, _)]) ?_ (.cons rfl (.cons rfl (.nil)))
          refine SN_block ?_
          exact J0 (⟨⟨t.kind, t.asset, t.to, false, 0, t.qty, 0⟩, by simp [TxD.fields, hk]⟩) _ _ (.cons rfl (.cons rfl (.nil))) ((show Lands _ (pt b1 (.cells t.cells.toArray 87) :: pt b3 (.cells [.int .i64 t.kind, .int .i64 t.asset, .int .i64 t.to, .bool false, .int .u64 0, .int .u64 t.qty, .int .i64 0].toArray 87) :: F) from .fin))
        · have hn3 : ¬ t.kind = 3 := by simpa using hA18
          refine SC_seq ?_
          refine SC_seq ?_
          refine SC_region ?_
          refine SR_pu (RD_eql rfl rfl) rfl ?_
          refine SR_pu (RD_assign rfl) rfl ?_
          refine SR_nil ?_
          refine SN.le (l := [(1, _), (3, _), (8, _), (29, _)]) ?_ (.cons rfl (.cons rfl (.cons rfl (.cons rfl (.nil)))))
          refine SN_seq ?_
          refine SC_cond rfl (fun hA29 => ?_) (fun hA29 => ?_)
          · have hk : t.kind = 4 := by simpa using hA29
            refine SC_skip ?_
            refine SN_seq ?_
            refine SC_cond_true rfl (hA29) ?_
            refine SC_drawn (.cons 0 true (.cons 1 true (.cons 2 true (.cons 3 true (.cons 4 true (.cons 5 true (.cons 6 true (.cons 7 false (.cons 8 true (.cons 9 false (.cons 10 true (.cons 11 false (.nil))))))))))))) (by kernel_rfl) (by kernel_rfl) ?_
            first
              | refine SQ_pu rfl (RD_fieldAddr 3 Try.runUnderlying87 rfl rfl Try.sizeOf4 rfl) rfl ?_
              | refine SQ_rd rfl (RD_fieldAddrO 3 Try.runUnderlying87 rfl rfl Try.sizeOf4 rfl (by simp <;> omega)) Has.ro rfl ?_
            refine SQ_rd rfl (RD_load Try.isAgg4 rfl) (Has.ce rfl) rfl ?_
            first
              | refine SQ_pu rfl (RD_fieldAddr 4 Try.runUnderlying87 rfl rfl Try.sizeOf37 rfl) rfl ?_
              | refine SQ_rd rfl (RD_fieldAddrO 4 Try.runUnderlying87 rfl rfl Try.sizeOf37 rfl (by simp <;> omega)) Has.ro rfl ?_
            refine SQ_rd rfl (RD_load Try.isAgg37 rfl) (Has.ce rfl) rfl ?_
            first
              | refine SQ_pu rfl (RD_fieldAddr 5 Try.runUnderlying87 rfl rfl Try.sizeOf37 rfl) rfl ?_
              | refine SQ_rd rfl (RD_fieldAddrO 5 Try.runUnderlying87 rfl rfl Try.sizeOf37 rfl (by simp <;> omega)) Has.ro rfl ?_
            refine SQ_rd rfl (RD_load Try.isAgg37 rfl) (Has.ce rfl) rfl ?_
            first
              | refine SQ_pu rfl (RD_fieldAddr 3 Try.runUnderlying87 rfl rfl Try.sizeOf4 rfl) rfl ?_
              | refine SQ_rd rfl (RD_fieldAddrO 3 Try.runUnderlying87 rfl rfl Try.sizeOf4 rfl (by simp <;> omega)) Has.ro rfl ?_
            refine SQ_ox0 rfl (OX_st Try.sizeOf4 rfl rfl) ?_
            rintro _ _ rfl
            refine ⟨.h (Has.ce rfl) (.h (Has.ce rfl) (.w rfl (.nil))), ?_⟩
            first
              | refine SQ_pu rfl (RD_fieldAddr 4 Try.runUnderlying87 rfl rfl Try.sizeOf37 rfl) rfl ?_
              | refine SQ_rd rfl (RD_fieldAddrO 4 Try.runUnderlying87 rfl rfl Try.sizeOf37 rfl (by simp <;> omega)) Has.ro rfl ?_
            refine SQ_ox0 rfl (OX_st Try.sizeOf37 rfl rfl) ?_
            rintro _ _ rfl
            refine ⟨.h (Has.ce rfl) (.w rfl (.w rfl (.nil))), ?_⟩
            first
              | refine SQ_pu rfl (RD_fieldAddr 5 Try.runUnderlying87 rfl rfl Try.sizeOf37 rfl) rfl ?_
              | refine SQ_rd rfl (RD_fieldAddrO 5 Try.runUnderlying87 rfl rfl Try.sizeOf37 rfl (by simp <;> omega)) Has.ro rfl ?_
            refine SQ_ox0 rfl (OX_st Try.sizeOf37 rfl rfl) ?_
            rintro _ _ rfl
            refine ⟨.w rfl (.w rfl (.w rfl (.nil))), ?_⟩
            refine SQ_nil ?_
            refine SN.le (l := [(1, _), (3, _)]) ?_ (.cons rfl (.cons rfl (.nil)))
            refine SN_block ?_
            exact J0 (⟨⟨t.kind, 0, 0, t.buy, t.price, t.qty, 0⟩, by simp [TxD.fields, hk]⟩) _ _ (.cons rfl (.cons rfl (.nil))) ((show Lands _ (pt b1 (.cells t.cells.toArray 87) :: pt b3 (.cells [.int .i64 t.kind, .int .i64 0, .int .i64 0, .bool t.buy, .int .u64 t.price, .int .u64 t.qty, .int .i64 0].toArray 87) :: F) from .fin))
          · have hn4 : ¬ t.kind = 4 := by simpa using hA29
            refine SC_region ?_
            refine SR_pu (RD_eql rfl rfl) rfl ?_
            refine SR_pu (RD_assign rfl) rfl ?_
            refine SR_nil ?_
            refine SN.le (l := [(1, _), (3, _), (8, _), (29, _)]) ?_ (.cons rfl (.cons rfl (.cons rfl (.cons rfl (.nil)))))
            refine SN_seq ?_
            refine SC_cond rfl (fun hB29 => ?_) (fun hB29 => ?_)
            · have hk : t.kind = 5 := by simpa using hB29
              refine SC_drawn (.cons 0 true (.cons 1 true (.cons 2 true (.cons 3 true (.cons 4 true (.cons 5 true (.cons 6 true (.cons 7 false (.cons 8 true (.cons 9 false (.cons 10 true (.cons 11 false (.nil))))))))))))) (by kernel_rfl) (by kernel_rfl) ?_
              first
                | refine SQ_pu rfl (RD_fieldAddr 3 Try.runUnderlying87 rfl rfl Try.sizeOf4 rfl) rfl ?_
                | refine SQ_rd rfl (RD_fieldAddrO 3 Try.runUnderlying87 rfl rfl Try.sizeOf4 rfl (by simp <;> omega)) Has.ro rfl ?_
              refine SQ_rd rfl (RD_load Try.isAgg4 rfl) (Has.ce rfl) rfl ?_
              first
                | refine SQ_pu rfl (RD_fieldAddr 4 Try.runUnderlying87 rfl rfl Try.sizeOf37 rfl) rfl ?_
                | refine SQ_rd rfl (RD_fieldAddrO 4 Try.runUnderlying87 rfl rfl Try.sizeOf37 rfl (by simp <;> omega)) Has.ro rfl ?_
              refine SQ_rd rfl (RD_load Try.isAgg37 rfl) (Has.ce rfl) rfl ?_
              first
                | refine SQ_pu rfl (RD_fieldAddr 5 Try.runUnderlying87 rfl rfl Try.sizeOf37 rfl) rfl ?_
                | refine SQ_rd rfl (RD_fieldAddrO 5 Try.runUnderlying87 rfl rfl Try.sizeOf37 rfl (by simp <;> omega)) Has.ro rfl ?_
              refine SQ_rd rfl (RD_load Try.isAgg37 rfl) (Has.ce rfl) rfl ?_
              first
                | refine SQ_pu rfl (RD_fieldAddr 3 Try.runUnderlying87 rfl rfl Try.sizeOf4 rfl) rfl ?_
                | refine SQ_rd rfl (RD_fieldAddrO 3 Try.runUnderlying87 rfl rfl Try.sizeOf4 rfl (by simp <;> omega)) Has.ro rfl ?_
              refine SQ_ox0 rfl (OX_st Try.sizeOf4 rfl rfl) ?_
              rintro _ _ rfl
              refine ⟨.h (Has.ce rfl) (.h (Has.ce rfl) (.w rfl (.nil))), ?_⟩
              first
                | refine SQ_pu rfl (RD_fieldAddr 4 Try.runUnderlying87 rfl rfl Try.sizeOf37 rfl) rfl ?_
                | refine SQ_rd rfl (RD_fieldAddrO 4 Try.runUnderlying87 rfl rfl Try.sizeOf37 rfl (by simp <;> omega)) Has.ro rfl ?_
              refine SQ_ox0 rfl (OX_st Try.sizeOf37 rfl rfl) ?_
              rintro _ _ rfl
              refine ⟨.h (Has.ce rfl) (.w rfl (.w rfl (.nil))), ?_⟩
              first
                | refine SQ_pu rfl (RD_fieldAddr 5 Try.runUnderlying87 rfl rfl Try.sizeOf37 rfl) rfl ?_
                | refine SQ_rd rfl (RD_fieldAddrO 5 Try.runUnderlying87 rfl rfl Try.sizeOf37 rfl (by simp <;> omega)) Has.ro rfl ?_
              refine SQ_ox0 rfl (OX_st Try.sizeOf37 rfl rfl) ?_
              rintro _ _ rfl
              refine ⟨.w rfl (.w rfl (.w rfl (.nil))), ?_⟩
              refine SQ_nil ?_
              refine SN.le (l := [(1, _), (3, _)]) ?_ (.cons rfl (.cons rfl (.nil)))
              refine SN_block ?_
              exact J0 (⟨⟨t.kind, 0, 0, t.buy, t.price, t.qty, 0⟩, by simp [TxD.fields, hk]⟩) _ _ (.cons rfl (.cons rfl (.nil))) ((show Lands _ (pt b1 (.cells t.cells.toArray 87) :: pt b3 (.cells [.int .i64 t.kind, .int .i64 0, .int .i64 0, .bool t.buy, .int .u64 t.price, .int .u64 t.qty, .int .i64 0].toArray 87) :: F) from .fin))
            · have hn5 : ¬ t.kind = 5 := by simpa using hB29
              refine SC_seq ?_
              refine SC_region ?_
              refine SR_pu (RD_eql rfl rfl) rfl ?_
              refine SR_pu (RD_assign rfl) rfl ?_
              refine SR_nil ?_
              refine SN.le (l := [(1, _), (3, _), (41, _)]) ?_ (.cons rfl (.cons rfl (.cons rfl (.nil))))
              refine SN_seq ?_
              refine SC_cond rfl (fun hA41 => ?_) (fun hA41 => ?_)
              · have hk : t.kind = 6 := by simpa using hA41
                refine SC_region ?_
                first
                  | refine SR_pu (RD_fieldAddr 6 Try.runUnderlying87 rfl rfl Try.sizeOf3 rfl) rfl ?_
                  | refine SR_rd (RD_fieldAddrO 6 Try.runUnderlying87 rfl rfl Try.sizeOf3 rfl (by simp <;> omega)) Has.ro rfl ?_
                refine SR_rd (RD_load Try.isAgg3 rfl) (Has.ce rfl) rfl ?_
                first
                  | refine SR_pu (RD_fieldAddr 6 Try.runUnderlying87 rfl rfl Try.sizeOf3 rfl) rfl ?_
                  | refine SR_rd (RD_fieldAddrO 6 Try.runUnderlying87 rfl rfl Try.sizeOf3 rfl (by simp <;> omega)) Has.ro rfl ?_
                refine SR_ox0 (OX_st Try.sizeOf3 rfl rfl) ?_
                rintro _ _ rfl
                refine SR_nil ?_
                refine SN.le (l := [(1, _), (3, _)]) ?_ (.cons rfl (.cons rfl (.nil)))
                refine SN_block ?_
                exact J0 (⟨⟨t.kind, 0, 0, false, 0, 0, t.id⟩, by simp [TxD.fields, hk]⟩) _ _ (.cons rfl (.cons rfl (.nil))) ((show Lands _ (pt b1 (.cells t.cells.toArray 87) :: pt b3 (.cells [.int .i64 t.kind, .int .i64 0, .int .i64 0, .bool false, .int .u64 0, .int .u64 0, .int .i64 t.id].toArray 87) :: F) from .fin))
              · have hn6 : ¬ t.kind = 6 := by simpa using hA41
                refine SC_seq ?_
                refine SC_region ?_
                refine SR_pu (RD_assign rfl) rfl ?_
                refine SR_nil ?_
                refine SN.le (l := [(2, _)]) ?_ (.cons rfl (.nil))
                refine SN_seq ?_
                refine SC_ret1 rfl rfl ?_
                exact ⟨by simp [TxD.ok, TxD.fields, hn1, hn2, hn3, hn4, hn5, hn6], .fin⟩

def TxD.codeL (t : TxD) : List Int := [IntKind.u64.wrap t.kind, IntKind.u64.wrap t.asset, IntKind.u64.wrap t.to, if t.buy then 1 else 0, t.price, t.qty, IntKind.u64.wrap t.id]
theorem TxD.codeL_code (t : TxD) : t.codeL.flatMap bei = t.code := by simp [TxD.codeL, TxD.code, bei_wrap]
theorem TxD.codeL_u64 {t : TxD} (hw : t.Wf) : ∀ z ∈ t.codeL, 0 ≤ z ∧ z < 18446744073709551616 := by
  have w : ∀ x, 0 ≤ IntKind.u64.wrap x ∧ IntKind.u64.wrap x < 18446744073709551616 := fun x => by rw [IntKind.wrap_u64]; omega
  have := hw.price; have := hw.qty
  intro z hz
  simp only [TxD.codeL, List.mem_cons, List.not_mem_nil, or_false] at hz
  rcases hz with rfl | rfl | rfl | rfl | rfl | rfl | rfl
  · exact w _
  · exact w _
  · exact w _
  · split <;> omega
  · assumption
  · assumption
  · exact w _

theorem ref_TxCode_no {W : World} {F : List HProp} [Abs F] (t : TxD) (hok : t.ok = false) :
    CallsK W Try.prog 50 #[t.val] (F) (fun v L => v = .tuple #[.slice none 0 0, .bool false] ∧ Lands L F) := by
  refine CallsK_enter (n := 42) Try.func50 rfl rfl rfl ?_
  refine SC_seq ?_
  refine SC_region ?_
  refine SR_ox (OX_box rfl rfl) rfl ?_
  rintro _ _ ⟨b1, rfl, rfl⟩
  refine SR_pu (RD_assign rfl) rfl ?_
  refine SR_pu (RD_assign rfl) rfl ?_
  refine SR_nil ?_
  refine SN.le (l := [(1, _)]) ?_ (.cons rfl (.nil))
  refine SN_seq ?_
  refine SC_seq ?_
  refine SC_seq ?_
  refine SC_region ?_
  refine SR_rd (RD_loadA (vs := t.cells) Try.isAgg87 Try.sizeOf87 rfl rfl) Has.wh rfl ?_
  refine SR_call Try.call84 (.cons rfl (.nil)) (ref_TxOk t) (lts rfl) ?_
  rintro _ L1 ⟨rfl, hL1⟩
  rw [hok]
  refine SR.lands hL1 ?_
  refine SR_pu (RD_not rfl) rfl ?_
  refine SR_nil ?_
  refine SN.le (l := [(1, _), (10, _)]) ?_ (.cons rfl (.cons rfl (.nil)))
  refine SN_seq ?_
  refine SC_cond_true rfl (rfl) ?_
  refine SC_seq ?_
  refine SC_region ?_
  refine SR_pu (RD_assign rfl) rfl ?_
  refine SR_pu (RD_assign rfl) rfl ?_
  refine SR_nil ?_
  refine SN.le (l := [(2, _), (3, _)]) ?_ (.cons rfl (.cons rfl (.nil)))
  refine SN_seq ?_
  refine SC_ret2 rfl rfl rfl ?_
  exact ⟨rfl, .fin⟩

theorem ref_TxCode_ok {W : World} {F : List HProp} [Abs F] (t : TxD) (hw : t.Wf) (hok : t.ok = true) :
    CallsK W Try.prog 50 #[t.val] (F) (fun v L => ∃ a c, v = .tuple #[.slice a 56 c, .bool true] ∧ Lands L (rowP 5 1 a 56 c (t.code.map byteV) :: F)) := by
  refine CallsK_enter (n := 42) Try.func50 rfl rfl rfl ?_
  refine SC_seq ?_
  refine SC_region ?_
  refine SR_ox (OX_box rfl rfl) rfl ?_
  rintro _ _ ⟨b1, rfl, rfl⟩
  refine SR_pu (RD_assign rfl) rfl ?_
  refine SR_pu (RD_assign rfl) rfl ?_
  refine SR_nil ?_
  refine SN.le (l := [(1, _)]) ?_ (.cons rfl (.nil))
  refine SN_seq ?_
  refine SC_seq ?_
  refine SC_seq ?_
  refine SC_region ?_
  refine SR_rd (RD_loadA (vs := t.cells) Try.isAgg87 Try.sizeOf87 rfl rfl) Has.wh rfl ?_
  refine SR_call Try.call84 (.cons rfl (.nil)) (ref_TxOk t) (lts rfl) ?_
  rintro _ L1 ⟨rfl, hL1⟩
  rw [hok]
  refine SR.lands hL1 ?_
  refine SR_pu (RD_not rfl) rfl ?_
  refine SR_nil ?_
  refine SN.le (l := [(1, _), (10, _)]) ?_ (.cons rfl (.cons rfl (.nil)))
  refine SN_seq ?_
  refine SC_cond_false rfl (rfl) ?_
  refine SC_skip ?_
  refine SN_seq ?_
  refine SC_seq ?_
  refine SC_region ?_
  refine SR_pu (RD_assign rfl) rfl ?_
  refine SR_nil ?_
  refine SN.le (l := [(1, _), (4, _)]) ?_ (.cons rfl (.cons rfl (.nil)))
  refine SN_seq ?_
  refine SC_seq ?_
  refine SC_seq ?_
  refine SC_region ?_
  first
    | refine SR_pu (RD_fieldAddr 3 Try.runUnderlying87 rfl rfl Try.sizeOf4 rfl) rfl ?_
    | refine SR_rd (RD_fieldAddrO 3 Try.runUnderlying87 rfl rfl Try.sizeOf4 rfl (by simp <;> omega)) Has.ro rfl ?_
  refine SR_rd (RD_load Try.isAgg4 rfl) (Has.ce rfl) rfl ?_
  refine SR_nil ?_
  refine SN.le (l := [(1, _), (4, _), (12, _)]) ?_ (.cons rfl (.cons rfl (.cons rfl (.nil))))
  refine SN_seq ?_
  refine SC_join (X := Unit) (fun x => [(1, .pointer (some ⟨b1, 0, none⟩)), (4, .int .u64 (if t.buy then 1 else 0))]) (fun x => pt b1 (.cells t.cells.toArray 87) :: F) (fun _ => ?_) (fun J0 => ?_)
  · refine SN_seq ?_
    refine SC_seq ?_
    refine SC_region ?_
    first
      | refine SR_pu (RD_fieldAddr0 Try.runUnderlying87 rfl rfl Try.sizeOf3 rfl) rfl ?_
      | refine SR_rd (RD_fieldAddrO 0 Try.runUnderlying87 rfl rfl Try.sizeOf3 rfl (by simp <;> omega)) Has.ro rfl ?_
    refine SR_rd (RD_load Try.isAgg3 rfl) (Has.ce rfl) rfl ?_
    first
      | refine SR_pu (RD_conv64 Try.runUnderlying3 Try.runUnderlying37 rfl (by omega) (by omega)) rfl ?_
      | refine SR_pu (RD_convI Try.runUnderlying3 Try.runUnderlying37 rfl) rfl ?_
    first
      | refine SR_pu (RD_fieldAddr 1 Try.runUnderlying87 rfl rfl Try.sizeOf3 rfl) rfl ?_
      | refine SR_rd (RD_fieldAddrO 1 Try.runUnderlying87 rfl rfl Try.sizeOf3 rfl (by simp <;> omega)) Has.ro rfl ?_
    refine SR_rd (RD_load Try.isAgg3 rfl) (Has.ce rfl) rfl ?_
    first
      | refine SR_pu (RD_conv64 Try.runUnderlying3 Try.runUnderlying37 rfl (by omega) (by omega)) rfl ?_
      | refine SR_pu (RD_convI Try.runUnderlying3 Try.runUnderlying37 rfl) rfl ?_
    first
      | refine SR_pu (RD_fieldAddr 2 Try.runUnderlying87 rfl rfl Try.sizeOf3 rfl) rfl ?_
      | refine SR_rd (RD_fieldAddrO 2 Try.runUnderlying87 rfl rfl Try.sizeOf3 rfl (by simp <;> omega)) Has.ro rfl ?_
    refine SR_rd (RD_load Try.isAgg3 rfl) (Has.ce rfl) rfl ?_
    first
      | refine SR_pu (RD_conv64 Try.runUnderlying3 Try.runUnderlying37 rfl (by omega) (by omega)) rfl ?_
      | refine SR_pu (RD_convI Try.runUnderlying3 Try.runUnderlying37 rfl) rfl ?_
    refine SR_pu (RD_move rfl) rfl ?_
    first
      | refine SR_pu (RD_fieldAddr 4 Try.runUnderlying87 rfl rfl Try.sizeOf37 rfl) rfl ?_
      | refine SR_rd (RD_fieldAddrO 4 Try.runUnderlying87 rfl rfl Try.sizeOf37 rfl (by simp <;> omega)) Has.ro rfl ?_
    refine SR_rd (RD_load Try.isAgg37 rfl) (Has.ce rfl) rfl ?_
    first
      | refine SR_pu (RD_fieldAddr 5 Try.runUnderlying87 rfl rfl Try.sizeOf37 rfl) rfl ?_
      | refine SR_rd (RD_fieldAddrO 5 Try.runUnderlying87 rfl rfl Try.sizeOf37 rfl (by simp <;> omega)) Has.ro rfl ?_
    refine SR_rd (RD_load Try.isAgg37 rfl) (Has.ce rfl) rfl ?_
    first
      | refine SR_pu (RD_fieldAddr 6 Try.runUnderlying87 rfl rfl Try.sizeOf3 rfl) rfl ?_
      | refine SR_rd (RD_fieldAddrO 6 Try.runUnderlying87 rfl rfl Try.sizeOf3 rfl (by simp <;> omega)) Has.ro rfl ?_
    refine SR_rd (RD_load Try.isAgg3 rfl) (Has.ce rfl) rfl ?_
    first
      | refine SR_pu (RD_conv64 Try.runUnderlying3 Try.runUnderlying37 rfl (by omega) (by omega)) rfl ?_
      | refine SR_pu (RD_convI Try.runUnderlying3 Try.runUnderlying37 rfl) rfl ?_
    refine SR_pu (RD_build (.cons rfl (.cons rfl (.cons rfl (.cons rfl (.cons rfl (.cons rfl (.cons rfl (.nil)))))))) built137_0_1_2_3_4_5_6) rfl ?_
    refine SR_ox (OX_alloc Try.zeroValue137 rfl) rfl ?_
    rintro _ _ ⟨b5, rfl, rfl⟩
    refine SR_ox0 (OX_stA Try.sizeOf137 rfl rfl rfl rfl) ?_
    rintro _ _ rfl
    refine SR_nil ?_
    refine SN.le (l := [(5, _)]) ?_ (.cons rfl (.nil))
    refine SN_seq ?_
    refine SC_seq ?_
    refine SC_region ?_
    refine SR_pu (RD_assign rfl) rfl ?_
    refine SR_nil ?_
    refine SN.le (l := [(5, _), (6, _)]) ?_ (.cons rfl (.cons rfl (.nil)))
    refine SN_seq ?_
    refine SC_seq ?_
    refine SC_seq ?_
    refine SC_region ?_
    refine SR_pu (RD_assign rfl) rfl ?_
    refine SR_nil ?_
    refine SN.le (l := [(5, _), (6, _), (7, _)]) ?_ (.cons rfl (.cons rfl (.cons rfl (.nil))))
    refine SN_seq ?_
    refine SC_block ?_
    refine SC_ind (X := Nat × Option Addr × Nat) (fun x => x.1 ≤ 7) (fun x => 7 - x.1) (fun x => [(5, .pointer (some ⟨b5, 0, none⟩)), (6, .slice x.2.1 (8 * x.1) x.2.2), (7, .int .i64 (x.1 : Nat))]) (fun x => rowP 5 1 x.2.1 (8 * x.1) x.2.2 (((t.codeL.take x.1).flatMap bei).map byteV) :: pt b5 (.cells [.int .u64 (IntKind.u64.wrap t.kind), .int .u64 (IntKind.u64.wrap t.asset), .int .u64 (IntKind.u64.wrap t.to), .int .u64 (if t.buy then 1 else 0), .int .u64 t.price, .int .u64 t.qty, .int .u64 (IntKind.u64.wrap t.id)].toArray 137) :: F) ((0, none, 0)) (by simp) (.cons rfl (.cons rfl (.cons rfl (.nil)))) (((row_new 5 1 none).trans (show Lands _ (rowP 5 1 none 0 0 [] :: pt b5 (.cells [.int .u64 (IntKind.u64.wrap t.kind), .int .u64 (IntKind.u64.wrap t.asset), .int .u64 (IntKind.u64.wrap t.to), .int .u64 (if t.buy then 1 else 0), .int .u64 t.price, .int .u64 t.qty, .int .u64 (IntKind.u64.wrap t.id)].toArray 137) :: F) from .fin))) ?_
    intro ⟨i, oa, oc⟩ hi ih
    dsimp only at hi ih ⊢
    refine SC_seq ?_
    refine SC_seq ?_
    refine SC_region ?_
    refine SR_pu (RD_move rfl) rfl ?_
    refine SR_pu (RD_lss rfl rfl) rfl ?_
    refine SR_nil ?_
    refine SN.le (l := [(5, _), (6, _), (7, _), (32, _)]) ?_ (.cons rfl (.cons rfl (.cons rfl (.cons rfl (.nil)))))
    refine SN_seq ?_
    refine SC_cond rfl (fun hc32 => ?_) (fun hc32 => ?_)
    · have hin : i < 7 := by simp at hc32; omega
      obtain ⟨z, hz⟩ : ∃ z, t.codeL[i]? = some z := ⟨_, List.getElem?_eq_getElem (by simp [TxD.codeL]; omega)⟩
      have hzu := TxD.codeL_u64 hw z (List.mem_of_getElem? hz)
      have htk : (t.codeL.take (i + 1)).flatMap bei = (t.codeL.take i).flatMap bei ++ bei z := by rw [List.take_add_one, hz]; simp
      refine SC_skip ?_
      refine SN_seq ?_
      refine SC_seq ?_
      refine SC_block ?_
      refine SC_region ?_
      refine SR_pu (RD_move rfl) rfl ?_
      refine SR_pu (RD_move rfl) rfl ?_
      refine SR_pu (RD_ixAk i Try.runUnderlying137 Try.sizeOf37 rfl rfl (by omega) (by omega) (by simp)) rfl ?_
      refine SR_rd (RD_load (v := .int .u64 z) Try.isAgg37 rfl) (Has.ce (show (t.codeL.map (Value.int .u64))[i]? = _ by rw [List.getElem?_map, hz]; rfl)) rfl ?_
      refine SR_call Try.call63 (.cons rfl (.nil)) (ref_Num z hzu) (lts rfl) ?_
      rintro _ L2 ⟨na, nc, rfl, hL2⟩
      refine SR.lands hL2 ?_
      refine SR_ox (OX_app 1 Try.underlying53 Try.underlying53 Try.type5 rfl rfl rfl rfl rfl (by first | rfl | simp; done | (simp; omega)) 1 rfl (by omega) (by omega)) rfl ?_
      rintro _ _ ⟨a40, c40, rfl, rfl⟩
      refine SR_pu (RD_assign rfl) rfl ?_
      refine SR_nil ?_
      refine SN.le (l := [(5, _), (6, _), (7, _)]) ?_ (.cons rfl (.cons rfl (.cons rfl (.nil))))
      refine SN_block ?_
      refine SN_seq ?_
      refine SC_region ?_
      refine SR_pu (RD_move rfl) rfl ?_
      refine SR_pu (RD_addi rfl rfl (by omega) (by omega)) rfl ?_
      refine SR_pu (RD_assign rfl) rfl ?_
      refine SR_nil ?_
      refine SN.le (l := [(5, _), (6, _), (7, _)]) ?_ (.cons rfl (.cons rfl (.cons rfl (.nil))))
      refine SC_again (ih ((i + 1, a40, c40)) (by dsimp only; omega) (by dsimp only; omega)) (by dsimp only; rw [htk, List.map_append, show 8 * (i + 1) = 8 * i + 8 by omega]; exact .fin) (.cons rfl (.cons' rfl (by dsimp only; rw [show 8 * (i + 1) = 8 * i + 8 by omega]) (.cons' rfl (ie (by dsimp only; omega)) (.nil))))
    · have hin : i = 7 := by simp at hc32; omega
      subst hin
      clear ih
      rw [show (t.codeL.take 7).flatMap bei = t.code from t.codeL_code]
      refine SC_exit rfl ?_
      refine SN_seq ?_
      refine SC_seq ?_
      refine SC_region ?_
      refine SR_pu (RD_move rfl) rfl ?_
      refine SR_pu (RD_assign rfl) rfl ?_
      refine SR_pu (RD_assign rfl) rfl ?_
      refine SR_nil ?_
      refine SN.le (l := [(2, _), (3, _)]) ?_ (.cons rfl (.cons rfl (.nil)))
      refine SN_seq ?_
      refine SC_ret2 rfl rfl rfl ?_
      exact ⟨oa, oc, rfl, .fin⟩
  · refine SC_cond rfl (fun hc12 => ?_) (fun hc12 => ?_)
    · refine SC_region ?_
      refine SR_pu (RD_assign rfl) rfl ?_
      refine SR_nil ?_
      refine SN.le (l := [(1, _), (4, _)]) ?_ (.cons rfl (.cons rfl (.nil)))
      exact J0 (()) _ _ (.cons rfl (.cons' rfl (by rw [show t.buy = true from hc12]; rfl) (.nil))) (.fin)
    · refine SC_skip ?_
      exact J0 (()) _ _ (.cons rfl (.cons' rfl (by rw [show t.buy = false from hc12]; rfl) (.nil))) (.fin)

end Go.Proofs.Ytnifaajdiolbjaa
