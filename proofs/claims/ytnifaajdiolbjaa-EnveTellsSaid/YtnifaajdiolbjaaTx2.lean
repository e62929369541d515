/- The trades' forms: back from their code. -/
import Derived.Test.YtnifaajdiolbjaaTx1
namespace Go.Proofs.Ytnifaajdiolbjaa
open Go Go.Proofs
set_option maxRecDepth 100000
/-- What a reader makes of a trade's bytes. -/
def rdTx (bs : List UInt8) : TxD :=
  let r1 := rdNum (bs, false)
  let r2 := rdNum r1.2
  let r3 := rdNum r2.2
  let r4 := rdNum r3.2
  let r5 := rdNum r4.2
  let r6 := rdNum r5.2
  let r7 := rdNum r6.2
  ⟨IntKind.i64.wrap r1.1, IntKind.i64.wrap r2.1, IntKind.i64.wrap r3.1, decide (IntKind.i64.wrap r4.1 = 1), r5.1, r6.1, IntKind.i64.wrap r7.1⟩
theorem wrap_I64 (x : Int) : I64 (IntKind.i64.wrap x) := by
  unfold I64; rw [IntKind.wrap_i64]; omega
theorem rdTx_wf (bs : List UInt8) : (rdTx bs).Wf := by
  refine ⟨wrap_I64 _, wrap_I64 _, wrap_I64 _, ?_, ?_, wrap_I64 _⟩
  · have := rdNum_lt (rdNum (rdNum (rdNum (rdNum (bs, false)).2).2).2).2
    exact ⟨by show (0 : Int) ≤ ((rdNum _).1 : Int); omega, by show ((rdNum _).1 : Int) < _; omega⟩
  · have := rdNum_lt (rdNum (rdNum (rdNum (rdNum (rdNum (bs, false)).2).2).2).2).2
    exact ⟨by show (0 : Int) ≤ ((rdNum _).1 : Int); omega, by show ((rdNum _).1 : Int) < _; omega⟩
def parseTx (bs : List UInt8) : Option TxD := if (rdTx bs).ok = true ∧ (rdTx bs).code = bs then some (rdTx bs) else none
theorem wrap_emod {x : Int} (h : I64 x) : IntKind.i64.wrap (((x % 18446744073709551616).toNat : Nat) : Int) = x := by
  unfold I64 at h; rw [IntKind.wrap_i64]; omega
theorem rdTx_code (t : TxD) (h : t.Wf) : rdTx t.code = t := by
  obtain ⟨k, a, to, b, p, q, i⟩ := t
  obtain ⟨h1, h2, h3, h4, h5, h6⟩ := h
  dsimp only at h1 h2 h3 h4 h5 h6
  have e : TxD.code ⟨k, a, to, b, p, q, i⟩ = bei k ++ (bei a ++ (bei to ++ (bei (if b then 1 else 0) ++ (bei p ++ (bei q ++ (bei i ++ [])))))) := by simp [TxD.code]
  unfold rdTx
  rw [e]
  simp only [rdNum_bei, wrap_emod h1, wrap_emod h2, wrap_emod h3, wrap_emod h6]
  have e1 : (((p % 18446744073709551616).toNat : Nat) : Int) = p := by omega
  have e2 : (((q % 18446744073709551616).toNat : Nat) : Int) = q := by omega
  rw [e1, e2]
  cases b <;> rfl
theorem parseTx_code {t : TxD} (h : t.Wf) (hok : t.ok = true) : parseTx t.code = some t := by
  unfold parseTx; rw [rdTx_code t h, if_pos ⟨hok, rfl⟩]
theorem parseTx_len {bs : List UInt8} {t : TxD} (h : parseTx bs = some t) : t.ok = true ∧ t.code = bs := by
  unfold parseTx at h
  split at h
  · rename_i h1; cases h; exact h1
  · cases h

theorem go_Equal {W : World} {F : List HProp} [Abs F] (a : Option Addr) (n c : Nat) (xs : List UInt8) {cs : List Value} [HasRow F a cs] (hcs : cs = xs.map byteV) (hn : xs.length = n) (b : Option Addr) (m d : Nat) (ys : List UInt8) {ds : List Value} [HasRow F b ds] (hds : ds = ys.map byteV) (hm : ys.length = m) :
    CallsK W Try.prog 101 #[.slice a n c, .slice b m d] (F) (fun v L => v = .bool (decide (xs = ys)) ∧ Lands L F) := by
  refine CallsK_enter (n := 10) Try.func101 rfl rfl rfl ?_
  subst hcs
  subst hds
  refine SC_seq ?_
  refine SC_region ?_
  refine SR_pu (RD_assign rfl) rfl ?_
  refine SR_nil ?_
  refine SN.le (l := [(0, _), (1, _)]) ?_ (.cons rfl (.cons rfl (.nil)))
  refine SN_seq ?_
  refine SC_seq ?_
  refine SC_region ?_
  refine SR_pu (RD_move rfl) rfl ?_
  refine SR_rd (RD_b2s (bs := xs) Try.underlying53 Try.underlying9 Try.underlying5 rfl hn) Has.ro rfl ?_
  refine SR_pu (RD_move rfl) rfl ?_
  refine SR_rd (RD_b2s (bs := ys) Try.underlying53 Try.underlying9 Try.underlying5 rfl hm) Has.ro rfl ?_
  refine SR_pu (RD_eqlS rfl rfl) rfl ?_
  refine SR_pu (RD_assign rfl) rfl ?_
  refine SR_nil ?_
  refine SN.le (l := [(4, _)]) ?_ (.cons rfl (.nil))
  refine SN_seq ?_
  refine SC_ret1 rfl rfl ?_
  refine ⟨?_, .fin⟩
  simp [bstr_inj]

theorem tx_Parse_bad {W : World} {F : List HProp} [Abs F] (bs : List UInt8) (a : Option Addr) (n c : Nat) {cs : List Value} [HasRow F a cs] (hcs : cs = bs.map byteV) (hn : bs.length = n) (hb : n ≤ 1000000000000) (hok : (rdTx bs).ok = false) :
    CallsK W Try.prog 88 #[.slice a n c] (F) (fun v L => v = .tuple #[((parseTx bs).getD txZero).val, .bool (parseTx bs).isSome] ∧ Lands L F) := by
  refine CallsK_enter (n := 45) Try.func88 rfl rfl rfl ?_
  have hp : parseTx bs = none := by unfold parseTx; rw [if_neg (by rw [hok]; simp)]
  rw [hp]
  subst hcs
  obtain ⟨k1, s1, h1⟩ : ∃ k s, rdNum (bs, false) = (k, s) := ⟨_, _, rfl⟩
  have l1 : s1.1.length ≤ 1000000000000 := by have := rdNum_len (bs, false); rw [h1] at this; dsimp only at this; omega
  obtain ⟨k2, s2, h2⟩ : ∃ k s, rdNum s1 = (k, s) := ⟨_, _, rfl⟩
  have l2 : s2.1.length ≤ 1000000000000 := by have := rdNum_len s1; rw [h2] at this; dsimp only at this; omega
  obtain ⟨k3, s3, h3⟩ : ∃ k s, rdNum s2 = (k, s) := ⟨_, _, rfl⟩
  have l3 : s3.1.length ≤ 1000000000000 := by have := rdNum_len s2; rw [h3] at this; dsimp only at this; omega
  obtain ⟨k4, s4, h4⟩ : ∃ k s, rdNum s3 = (k, s) := ⟨_, _, rfl⟩
  have l4 : s4.1.length ≤ 1000000000000 := by have := rdNum_len s3; rw [h4] at this; dsimp only at this; omega
  obtain ⟨k5, s5, h5⟩ : ∃ k s, rdNum s4 = (k, s) := ⟨_, _, rfl⟩
  have l5 : s5.1.length ≤ 1000000000000 := by have := rdNum_len s4; rw [h5] at this; dsimp only at this; omega
  obtain ⟨k6, s6, h6⟩ : ∃ k s, rdNum s5 = (k, s) := ⟨_, _, rfl⟩
  have l6 : s6.1.length ≤ 1000000000000 := by have := rdNum_len s5; rw [h6] at this; dsimp only at this; omega
  obtain ⟨k7, s7, h7⟩ : ∃ k s, rdNum s6 = (k, s) := ⟨_, _, rfl⟩
  have l7 : s7.1.length ≤ 1000000000000 := by have := rdNum_len s6; rw [h7] at this; dsimp only at this; omega
  have hT : rdTx bs = (TxD.mk (IntKind.i64.wrap (k1 : Nat)) (IntKind.i64.wrap (k2 : Nat)) (IntKind.i64.wrap (k3 : Nat)) (decide (IntKind.i64.wrap (k4 : Nat) = 1)) (k5 : Nat) (k6 : Nat) (IntKind.i64.wrap (k7 : Nat))) := by simp only [rdTx, h1, h2, h3, h4, h5, h6, h7]
  have hTw := rdTx_wf bs
  rw [hT] at hok hTw
  refine SC_seq ?_
  refine SC_region ?_
  refine SR_ox (OX_alloc Try.zeroValue87 rfl) rfl ?_
  rintro _ _ ⟨b2, rfl, rfl⟩
  refine SR_pu (RD_assign rfl) rfl ?_
  refine SR_nil ?_
  refine SN.le (l := [(0, _), (2, _)]) ?_ (.cons rfl (.cons rfl (.nil)))
  refine SN_seq ?_
  refine SC_seq ?_
  refine SC_region ?_
  refine SR_pu (RD_move rfl) rfl ?_
  refine SR_call Try.call97 (.cons rfl (.nil)) (wire_Read bs _ _ _ rfl hn hb) (lts rfl) ?_
  rintro _ L0 ⟨q, rfl, hL0⟩
  refine SR.lands hL0 ?_
  refine SR_pu (RD_assign rfl) rfl ?_
  refine SR_nil ?_
  refine SN.le (l := [(0, _), (2, _), (4, _)]) ?_ (.cons rfl (.cons rfl (.cons rfl (.nil))))
  refine SN_seq ?_
  refine SC_seq ?_
  refine SC_region ?_
  refine SR_pu (RD_move rfl) rfl ?_
  refine SR_call Try.call98 (.cons rfl (.nil)) (CallsK.at (reader_Int q (bs, false) (by first | assumption | (dsimp only; omega)))) (lts rfl) ?_
  rintro _ L1 ⟨rfl, hL1⟩
  rw [h1] at hL1 ⊢
  dsimp only at hL1 ⊢
  refine SR.lands hL1 ?_
  refine SR_pu (RD_move rfl) rfl ?_
  refine SR_call Try.call98 (.cons rfl (.nil)) (CallsK.at (reader_Int q s1 (by first | assumption | (dsimp only; omega)))) (lts rfl) ?_
  rintro _ L2 ⟨rfl, hL2⟩
  rw [h2] at hL2 ⊢
  dsimp only at hL2 ⊢
  refine SR.lands hL2 ?_
  refine SR_pu (RD_move rfl) rfl ?_
  refine SR_call Try.call98 (.cons rfl (.nil)) (CallsK.at (reader_Int q s2 (by first | assumption | (dsimp only; omega)))) (lts rfl) ?_
  rintro _ L3 ⟨rfl, hL3⟩
  rw [h3] at hL3 ⊢
  dsimp only at hL3 ⊢
  refine SR.lands hL3 ?_
  refine SR_pu (RD_build (.cons rfl (.cons rfl (.cons rfl (.nil)))) built87_0_1_2) rfl ?_
  refine SR_ox (OX_alloc Try.zeroValue87 rfl) rfl ?_
  rintro _ _ ⟨b5, rfl, rfl⟩
  refine SR_ox0 (OX_stA Try.sizeOf87 rfl rfl rfl rfl) ?_
  rintro _ _ rfl
  refine SR_nil ?_
  refine SN.le (l := [(0, _), (2, _), (4, _), (5, _)]) ?_ (.cons rfl (.cons rfl (.cons rfl (.cons rfl (.nil)))))
  refine SN_seq ?_
  refine SC_seq ?_
  refine SC_region ?_
  refine SR_pu (RD_move rfl) rfl ?_
  refine SR_call Try.call98 (.cons rfl (.nil)) (CallsK.at (reader_Int q s3 (by first | assumption | (dsimp only; omega)))) (lts rfl) ?_
  rintro _ L4 ⟨rfl, hL4⟩
  rw [h4] at hL4 ⊢
  dsimp only at hL4 ⊢
  refine SR.lands hL4 ?_
  refine SR_pu (RD_eql rfl rfl) rfl ?_
  first
    | refine SR_pu (RD_fieldAddr 3 Try.runUnderlying87 rfl rfl Try.sizeOf4 rfl) rfl ?_
    | refine SR_rd (RD_fieldAddrO 3 Try.runUnderlying87 rfl rfl Try.sizeOf4 rfl (by simp <;> omega)) Has.ro rfl ?_
  refine SR_ox0 (OX_st Try.sizeOf4 rfl rfl) ?_
  rintro _ _ rfl
  refine SR_nil ?_
  refine SN.le (l := [(0, _), (2, _), (4, _), (5, _)]) ?_ (.cons rfl (.cons rfl (.cons rfl (.cons rfl (.nil)))))
  refine SN_seq ?_
  refine SC_seq ?_
  refine SC_region ?_
  refine SR_pu (RD_move rfl) rfl ?_
  refine SR_call Try.call99 (.cons rfl (.nil)) (CallsK.at (reader_Num q s4 (by first | assumption | (dsimp only; omega)))) (lts rfl) ?_
  rintro _ L5 ⟨rfl, hL5⟩
  rw [h5] at hL5 ⊢
  dsimp only at hL5 ⊢
  refine SR.lands hL5 ?_
  refine SR_pu (RD_move rfl) rfl ?_
  refine SR_call Try.call99 (.cons rfl (.nil)) (CallsK.at (reader_Num q s5 (by first | assumption | (dsimp only; omega)))) (lts rfl) ?_
  rintro _ L6 ⟨rfl, hL6⟩
  rw [h6] at hL6 ⊢
  dsimp only at hL6 ⊢
  refine SR.lands hL6 ?_
  first
    | refine SR_pu (RD_fieldAddr 4 Try.runUnderlying87 rfl rfl Try.sizeOf37 rfl) rfl ?_
    | refine SR_rd (RD_fieldAddrO 4 Try.runUnderlying87 rfl rfl Try.sizeOf37 rfl (by simp <;> omega)) Has.ro rfl ?_
  refine SR_ox0 (OX_st Try.sizeOf37 rfl rfl) ?_
  rintro _ _ rfl
  first
    | refine SR_pu (RD_fieldAddr 5 Try.runUnderlying87 rfl rfl Try.sizeOf37 rfl) rfl ?_
    | refine SR_rd (RD_fieldAddrO 5 Try.runUnderlying87 rfl rfl Try.sizeOf37 rfl (by simp <;> omega)) Has.ro rfl ?_
  refine SR_ox0 (OX_st Try.sizeOf37 rfl rfl) ?_
  rintro _ _ rfl
  refine SR_nil ?_
  refine SN.le (l := [(0, _), (2, _), (4, _), (5, _)]) ?_ (.cons rfl (.cons rfl (.cons rfl (.cons rfl (.nil)))))
  refine SN_seq ?_
  refine SC_seq ?_
  refine SC_region ?_
  refine SR_pu (RD_move rfl) rfl ?_
  refine SR_call Try.call98 (.cons rfl (.nil)) (CallsK.at (reader_Int q s6 (by first | assumption | (dsimp only; omega)))) (lts rfl) ?_
  rintro _ L7 ⟨rfl, hL7⟩
  rw [h7] at hL7 ⊢
  dsimp only at hL7 ⊢
  refine SR.lands hL7 ?_
  first
    | refine SR_pu (RD_fieldAddr 6 Try.runUnderlying87 rfl rfl Try.sizeOf3 rfl) rfl ?_
    | refine SR_rd (RD_fieldAddrO 6 Try.runUnderlying87 rfl rfl Try.sizeOf3 rfl (by simp <;> omega)) Has.ro rfl ?_
  refine SR_ox0 (OX_st Try.sizeOf3 rfl rfl) ?_
  rintro _ _ rfl
  refine SR_nil ?_
  refine SN.le (l := [(0, _), (2, _), (5, _)]) ?_ (.cons rfl (.cons rfl (.cons rfl (.nil))))
  refine SN_seq ?_
  refine SC_seq ?_
  refine SC_region ?_
  refine SR_rd (RD_loadA Try.isAgg87 Try.sizeOf87 rfl rfl) Has.wh rfl ?_
  refine SR_call Try.call100 (.cons rfl (.nil)) (tx_Code_no (TxD.mk (IntKind.i64.wrap (k1 : Nat)) (IntKind.i64.wrap (k2 : Nat)) (IntKind.i64.wrap (k3 : Nat)) (decide (IntKind.i64.wrap (k4 : Nat) = 1)) (k5 : Nat) (k6 : Nat) (IntKind.i64.wrap (k7 : Nat))) hok) (lts rfl) ?_
  rintro _ L8 ⟨rfl, hL8⟩
  refine SR.lands hL8 ?_
  refine SR_pu (RD_move rfl) rfl ?_
  refine SR_pu (RD_extract rfl rfl) rfl ?_
  refine SR_pu (RD_extract rfl rfl) rfl ?_
  refine SR_pu (RD_assign rfl) rfl ?_
  refine SR_pu (RD_assign rfl) rfl ?_
  refine SR_nil ?_
  refine SN.le (l := [(0, _), (2, _), (5, _), (6, _), (7, _)]) ?_ (.cons rfl (.cons rfl (.cons rfl (.cons rfl (.cons rfl (.nil))))))
  refine SN_seq ?_
  refine SC_seq ?_
  refine SC_seq ?_
  refine SC_region ?_
  refine SR_pu (RD_move rfl) rfl ?_
  refine SR_pu (RD_not rfl) rfl ?_
  refine SR_pu (RD_move rfl) rfl ?_
  refine SR_no rfl rfl (rfl) (lts rfl) ?_
  refine SR_no rfl rfl (rfl) (lts rfl) ?_
  refine SR_no rfl rfl (rfl) (lts rfl) ?_
  refine SR_no rfl rfl (rfl) (lts rfl) ?_
  refine SR_pu (RD_pick_t rfl (rfl) rfl) rfl ?_
  refine SR_nil ?_
  refine SN.le (l := [(2, _), (5, _), (42, _)]) ?_ (.cons rfl (.cons rfl (.cons rfl (.nil))))
  refine SN_seq ?_
  refine SC_cond_true rfl (rfl) ?_
  refine SC_seq ?_
  refine SC_region ?_
  refine SR_pu (RD_build (.nil) built87) rfl ?_
  refine SR_ox0 (OX_stA Try.sizeOf87 rfl rfl rfl rfl) ?_
  rintro _ _ rfl
  refine SR_pu (RD_assign rfl) rfl ?_
  refine SR_nil ?_
  refine SN.le (l := [(2, _), (3, _)]) ?_ (.cons rfl (.cons rfl (.nil)))
  refine SN_seq ?_
  refine SC_retCT rfl Try.isAgg87 Try.sizeOf87 rfl rfl rfl Has.wh ?_
  exact ⟨rfl, .fin⟩

theorem tx_Parse_ok {W : World} {F : List HProp} [Abs F] (bs : List UInt8) (a : Option Addr) (n c : Nat) {cs : List Value} [HasRow F a cs] (hcs : cs = bs.map byteV) (hn : bs.length = n) (hb : n ≤ 1000000000000) (hok : (rdTx bs).ok = true) :
    CallsK W Try.prog 88 #[.slice a n c] (F) (fun v L => v = .tuple #[((parseTx bs).getD txZero).val, .bool (parseTx bs).isSome] ∧ Lands L F) := by
  refine CallsK_enter (n := 45) Try.func88 rfl rfl rfl ?_
  subst hcs
  obtain ⟨k1, s1, h1⟩ : ∃ k s, rdNum (bs, false) = (k, s) := ⟨_, _, rfl⟩
  have l1 : s1.1.length ≤ 1000000000000 := by have := rdNum_len (bs, false); rw [h1] at this; dsimp only at this; omega
  obtain ⟨k2, s2, h2⟩ : ∃ k s, rdNum s1 = (k, s) := ⟨_, _, rfl⟩
  have l2 : s2.1.length ≤ 1000000000000 := by have := rdNum_len s1; rw [h2] at this; dsimp only at this; omega
  obtain ⟨k3, s3, h3⟩ : ∃ k s, rdNum s2 = (k, s) := ⟨_, _, rfl⟩
  have l3 : s3.1.length ≤ 1000000000000 := by have := rdNum_len s2; rw [h3] at this; dsimp only at this; omega
  obtain ⟨k4, s4, h4⟩ : ∃ k s, rdNum s3 = (k, s) := ⟨_, _, rfl⟩
  have l4 : s4.1.length ≤ 1000000000000 := by have := rdNum_len s3; rw [h4] at this; dsimp only at this; omega
  obtain ⟨k5, s5, h5⟩ : ∃ k s, rdNum s4 = (k, s) := ⟨_, _, rfl⟩
  have l5 : s5.1.length ≤ 1000000000000 := by have := rdNum_len s4; rw [h5] at this; dsimp only at this; omega
  obtain ⟨k6, s6, h6⟩ : ∃ k s, rdNum s5 = (k, s) := ⟨_, _, rfl⟩
  have l6 : s6.1.length ≤ 1000000000000 := by have := rdNum_len s5; rw [h6] at this; dsimp only at this; omega
  obtain ⟨k7, s7, h7⟩ : ∃ k s, rdNum s6 = (k, s) := ⟨_, _, rfl⟩
  have l7 : s7.1.length ≤ 1000000000000 := by have := rdNum_len s6; rw [h7] at this; dsimp only at this; omega
  have hT : rdTx bs = (TxD.mk (IntKind.i64.wrap (k1 : Nat)) (IntKind.i64.wrap (k2 : Nat)) (IntKind.i64.wrap (k3 : Nat)) (decide (IntKind.i64.wrap (k4 : Nat) = 1)) (k5 : Nat) (k6 : Nat) (IntKind.i64.wrap (k7 : Nat))) := by simp only [rdTx, h1, h2, h3, h4, h5, h6, h7]
  have hTw := rdTx_wf bs
  rw [hT] at hok hTw
  refine SC_seq ?_
  refine SC_region ?_
  refine SR_ox (OX_alloc Try.zeroValue87 rfl) rfl ?_
  rintro _ _ ⟨b2, rfl, rfl⟩
  refine SR_pu (RD_assign rfl) rfl ?_
  refine SR_nil ?_
  refine SN.le (l := [(0, _), (2, _)]) ?_ (.cons rfl (.cons rfl (.nil)))
  refine SN_seq ?_
  refine SC_seq ?_
  refine SC_region ?_
  refine SR_pu (RD_move rfl) rfl ?_
  refine SR_call Try.call97 (.cons rfl (.nil)) (wire_Read bs _ _ _ rfl hn hb) (lts rfl) ?_
  rintro _ L0 ⟨q, rfl, hL0⟩
  refine SR.lands hL0 ?_
  refine SR_pu (RD_assign rfl) rfl ?_
  refine SR_nil ?_
  refine SN.le (l := [(0, _), (2, _), (4, _)]) ?_ (.cons rfl (.cons rfl (.cons rfl (.nil))))
  refine SN_seq ?_
  refine SC_seq ?_
  refine SC_region ?_
  refine SR_pu (RD_move rfl) rfl ?_
  refine SR_call Try.call98 (.cons rfl (.nil)) (CallsK.at (reader_Int q (bs, false) (by first | assumption | (dsimp only; omega)))) (lts rfl) ?_
  rintro _ L1 ⟨rfl, hL1⟩
  rw [h1] at hL1 ⊢
  dsimp only at hL1 ⊢
  refine SR.lands hL1 ?_
  refine SR_pu (RD_move rfl) rfl ?_
  refine SR_call Try.call98 (.cons rfl (.nil)) (CallsK.at (reader_Int q s1 (by first | assumption | (dsimp only; omega)))) (lts rfl) ?_
  rintro _ L2 ⟨rfl, hL2⟩
  rw [h2] at hL2 ⊢
  dsimp only at hL2 ⊢
  refine SR.lands hL2 ?_
  refine SR_pu (RD_move rfl) rfl ?_
  refine SR_call Try.call98 (.cons rfl (.nil)) (CallsK.at (reader_Int q s2 (by first | assumption | (dsimp only; omega)))) (lts rfl) ?_
  rintro _ L3 ⟨rfl, hL3⟩
  rw [h3] at hL3 ⊢
  dsimp only at hL3 ⊢
  refine SR.lands hL3 ?_
  refine SR_pu (RD_build (.cons rfl (.cons rfl (.cons rfl (.nil)))) built87_0_1_2) rfl ?_
  refine SR_ox (OX_alloc Try.zeroValue87 rfl) rfl ?_
  rintro _ _ ⟨b5, rfl, rfl⟩
  refine SR_ox0 (OX_stA Try.sizeOf87 rfl rfl rfl rfl) ?_
  rintro _ _ rfl
  refine SR_nil ?_
  refine SN.le (l := [(0, _), (2, _), (4, _), (5, _)]) ?_ (.cons rfl (.cons rfl (.cons rfl (.cons rfl (.nil)))))
  refine SN_seq ?_
  refine SC_seq ?_
  refine SC_region ?_
  refine SR_pu (RD_move rfl) rfl ?_
  refine SR_call Try.call98 (.cons rfl (.nil)) (CallsK.at (reader_Int q s3 (by first | assumption | (dsimp only; omega)))) (lts rfl) ?_
  rintro _ L4 ⟨rfl, hL4⟩
  rw [h4] at hL4 ⊢
  dsimp only at hL4 ⊢
  refine SR.lands hL4 ?_
  refine SR_pu (RD_eql rfl rfl) rfl ?_
  first
    | refine SR_pu (RD_fieldAddr 3 Try.runUnderlying87 rfl rfl Try.sizeOf4 rfl) rfl ?_
    | refine SR_rd (RD_fieldAddrO 3 Try.runUnderlying87 rfl rfl Try.sizeOf4 rfl (by simp <;> omega)) Has.ro rfl ?_
  refine SR_ox0 (OX_st Try.sizeOf4 rfl rfl) ?_
  rintro _ _ rfl
  refine SR_nil ?_
  refine SN.le (l := [(0, _), (2, _), (4, _), (5, _)]) ?_ (.cons rfl (.cons rfl (.cons rfl (.cons rfl (.nil)))))
  refine SN_seq ?_
  refine SC_seq ?_
  refine SC_region ?_
  refine SR_pu (RD_move rfl) rfl ?_
  refine SR_call Try.call99 (.cons rfl (.nil)) (CallsK.at (reader_Num q s4 (by first | assumption | (dsimp only; omega)))) (lts rfl) ?_
  rintro _ L5 ⟨rfl, hL5⟩
  rw [h5] at hL5 ⊢
  dsimp only at hL5 ⊢
  refine SR.lands hL5 ?_
  refine SR_pu (RD_move rfl) rfl ?_
  refine SR_call Try.call99 (.cons rfl (.nil)) (CallsK.at (reader_Num q s5 (by first | assumption | (dsimp only; omega)))) (lts rfl) ?_
  rintro _ L6 ⟨rfl, hL6⟩
  rw [h6] at hL6 ⊢
  dsimp only at hL6 ⊢
  refine SR.lands hL6 ?_
  first
    | refine SR_pu (RD_fieldAddr 4 Try.runUnderlying87 rfl rfl Try.sizeOf37 rfl) rfl ?_
    | refine SR_rd (RD_fieldAddrO 4 Try.runUnderlying87 rfl rfl Try.sizeOf37 rfl (by simp <;> omega)) Has.ro rfl ?_
  refine SR_ox0 (OX_st Try.sizeOf37 rfl rfl) ?_
  rintro _ _ rfl
  first
    | refine SR_pu (RD_fieldAddr 5 Try.runUnderlying87 rfl rfl Try.sizeOf37 rfl) rfl ?_
    | refine SR_rd (RD_fieldAddrO 5 Try.runUnderlying87 rfl rfl Try.sizeOf37 rfl (by simp <;> omega)) Has.ro rfl ?_
  refine SR_ox0 (OX_st Try.sizeOf37 rfl rfl) ?_
  rintro _ _ rfl
  refine SR_nil ?_
  refine SN.le (l := [(0, _), (2, _), (4, _), (5, _)]) ?_ (.cons rfl (.cons rfl (.cons rfl (.cons rfl (.nil)))))
  refine SN_seq ?_
  refine SC_seq ?_
  refine SC_region ?_
  refine SR_pu (RD_move rfl) rfl ?_
  refine SR_call Try.call98 (.cons rfl (.nil)) (CallsK.at (reader_Int q s6 (by first | assumption | (dsimp only; omega)))) (lts rfl) ?_
  rintro _ L7 ⟨rfl, hL7⟩
  rw [h7] at hL7 ⊢
  dsimp only at hL7 ⊢
  refine SR.lands hL7 ?_
  first
    | refine SR_pu (RD_fieldAddr 6 Try.runUnderlying87 rfl rfl Try.sizeOf3 rfl) rfl ?_
    | refine SR_rd (RD_fieldAddrO 6 Try.runUnderlying87 rfl rfl Try.sizeOf3 rfl (by simp <;> omega)) Has.ro rfl ?_
  refine SR_ox0 (OX_st Try.sizeOf3 rfl rfl) ?_
  rintro _ _ rfl
  refine SR_nil ?_
  refine SN.le (l := [(0, _), (2, _), (5, _)]) ?_ (.cons rfl (.cons rfl (.cons rfl (.nil))))
  refine SN_seq ?_
  refine SC_seq ?_
  refine SC_region ?_
  refine SR_rd (RD_loadA Try.isAgg87 Try.sizeOf87 rfl rfl) Has.wh rfl ?_
  refine SR_call Try.call100 (.cons rfl (.nil)) (tx_Code_ok (TxD.mk (IntKind.i64.wrap (k1 : Nat)) (IntKind.i64.wrap (k2 : Nat)) (IntKind.i64.wrap (k3 : Nat)) (decide (IntKind.i64.wrap (k4 : Nat) = 1)) (k5 : Nat) (k6 : Nat) (IntKind.i64.wrap (k7 : Nat))) hTw hok) (lts rfl) ?_
  rintro _ L8 ⟨a8, c8, rfl, hL8⟩
  refine SR.lands hL8 ?_
  refine SR_pu (RD_move rfl) rfl ?_
  refine SR_pu (RD_extract rfl rfl) rfl ?_
  refine SR_pu (RD_extract rfl rfl) rfl ?_
  refine SR_pu (RD_assign rfl) rfl ?_
  refine SR_pu (RD_assign rfl) rfl ?_
  refine SR_nil ?_
  refine SN.le (l := [(0, _), (2, _), (5, _), (6, _), (7, _)]) ?_ (.cons rfl (.cons rfl (.cons rfl (.cons rfl (.cons rfl (.nil))))))
  refine SN_seq ?_
  refine SC_seq ?_
  refine SC_seq ?_
  refine SC_region ?_
  refine SR_pu (RD_move rfl) rfl ?_
  refine SR_pu (RD_not rfl) rfl ?_
  refine SR_pu (RD_move rfl) rfl ?_
  refine SR_yes rfl rfl (rfl) ?_
  refine SR_pu (RD_move rfl) rfl ?_
  refine SR_yes rfl rfl (rfl) ?_
  refine SR_pu (RD_move rfl) rfl ?_
  refine SR_yes rfl rfl (rfl) ?_
  refine SR_call Try.call101 (.cons rfl (.cons rfl (.nil))) (go_Equal a8 56 c8 (TxD.code (TxD.mk (IntKind.i64.wrap (k1 : Nat)) (IntKind.i64.wrap (k2 : Nat)) (IntKind.i64.wrap (k3 : Nat)) (decide (IntKind.i64.wrap (k4 : Nat) = 1)) (k5 : Nat) (k6 : Nat) (IntKind.i64.wrap (k7 : Nat)))) rfl (TxD.code_len _) a n c bs rfl hn) (lts rfl) ?_
  rintro _ L9 ⟨rfl, hL9⟩
  refine SR.lands hL9 ?_
  refine SR_yes rfl rfl (rfl) ?_
  refine SR_pu (RD_not rfl) rfl ?_
  refine SR_pu (RD_pick_f rfl (rfl) rfl) rfl ?_
  refine SR_nil ?_
  refine SN.le (l := [(2, _), (5, _), (42, _)]) ?_ (.cons rfl (.cons rfl (.cons rfl (.nil))))
  refine SN_seq ?_
  refine SC_cond rfl (fun hc42 => ?_) (fun hc42 => ?_)
  · have hp : parseTx bs = none := by unfold parseTx; rw [if_neg (by rw [hT]; intro h; simp [h.2] at hc42)]
    rw [hp]
    refine SC_seq ?_
    refine SC_region ?_
    refine SR_pu (RD_build (.nil) built87) rfl ?_
    refine SR_ox0 (OX_stA Try.sizeOf87 rfl rfl rfl rfl) ?_
    rintro _ _ rfl
    refine SR_pu (RD_assign rfl) rfl ?_
    refine SR_nil ?_
    refine SN.le (l := [(2, _), (3, _)]) ?_ (.cons rfl (.cons rfl (.nil)))
    refine SN_seq ?_
    refine SC_retCT rfl Try.isAgg87 Try.sizeOf87 rfl rfl rfl Has.wh ?_
    exact ⟨rfl, .fin⟩
  · have hp : parseTx bs = some (TxD.mk (IntKind.i64.wrap (k1 : Nat)) (IntKind.i64.wrap (k2 : Nat)) (IntKind.i64.wrap (k3 : Nat)) (decide (IntKind.i64.wrap (k4 : Nat) = 1)) (k5 : Nat) (k6 : Nat) (IntKind.i64.wrap (k7 : Nat))) := by unfold parseTx; rw [if_pos (by rw [hT]; exact ⟨hok, by simpa using hc42⟩), hT]
    rw [hp]
    refine SC_skip ?_
    refine SN_seq ?_
    refine SC_seq ?_
    refine SC_region ?_
    refine SR_rd (RD_loadA Try.isAgg87 Try.sizeOf87 rfl rfl) Has.wh rfl ?_
    refine SR_ox0 (OX_stA Try.sizeOf87 rfl rfl rfl rfl) ?_
    rintro _ _ rfl
    refine SR_pu (RD_assign rfl) rfl ?_
    refine SR_nil ?_
    refine SN.le (l := [(2, _), (3, _)]) ?_ (.cons rfl (.cons rfl (.nil)))
    refine SN_seq ?_
    refine SC_retCT rfl Try.isAgg87 Try.sizeOf87 rfl rfl rfl Has.wh ?_
    exact ⟨rfl, .fin⟩

theorem tx_Parse {W : World} {F : List HProp} [Abs F] (bs : List UInt8) (a : Option Addr) (n c : Nat) {cs : List Value} [HasRow F a cs] (hcs : cs = bs.map byteV) (hn : bs.length = n) (hb : n ≤ 1000000000000) :
    CallsK W Try.prog 88 #[.slice a n c] (F) (fun v L => v = .tuple #[((parseTx bs).getD txZero).val, .bool (parseTx bs).isSome] ∧ Lands L F) := by
  cases hok : (rdTx bs).ok with
  | false => exact tx_Parse_bad bs a n c hcs hn hb hok
  | true => exact tx_Parse_ok bs a n c hcs hn hb hok

end Go.Proofs.Ytnifaajdiolbjaa
