/- Messages: what is read back; what the document fixes. -/
import Derived.Test.YtmigjpmadhebfaaMg3
namespace Go.Proofs.Ytmigjpmadhebfaa
open Go Go.Proofs
set_option maxRecDepth 100000
theorem HasRow.empty {L : List HProp} {a : Option Addr} : HasRow L a [] := ⟨⟨rowR.up, fun h _ => by
  unfold rowR
  split
  · intro j v e; simp at e
  · rfl⟩⟩
theorem i0 : I64 0 := by unfold I64; omega
def zR : Row := ⟨none, 0, 0, []⟩
def zQ : QcD := ⟨0, 0, zR⟩
def zT : TcD := ⟨0, zR, zR, zQ⟩
def zE : EnvD := ⟨0, 0, 0, 0⟩
def zB : BRow := ⟨none, 0, 0, []⟩
theorem RIn.empty {F : List HProp} (a : Option Addr) (c : Nat) : RIn F ⟨a, 0, c, []⟩ := ⟨HasRow.empty, rfl, fun x h => (nomatch h), by simp⟩
theorem MsgIn.empty {F : List HProp} {k f t v n : Int} (h : ∀ x ∈ [k, f, t, v, n], I64 x) {e : EnvD} (he : e.Good) (a1 a2 a3 a4 : Option Addr) (c1 c2 c3 c4 : Nat) : MsgIn F ⟨k, f, t, v, n, ⟨0, 0, ⟨a1, 0, c1, []⟩⟩, ⟨0, ⟨a2, 0, c2, []⟩, ⟨a3, 0, c3, []⟩, ⟨0, 0, ⟨a4, 0, c4, []⟩⟩⟩, e, zB⟩ :=
  ⟨RIn.empty _ _, RIn.empty _ _, RIn.empty _ _, RIn.empty _ _, HasRow.empty, rfl, by show 0 ≤ 20; omega, fun b hb => (nomatch hb), h, ⟨i0, i0⟩, i0, ⟨i0, i0⟩, he⟩
theorem zE_good : zE.Good := ⟨i0, i0, by decide, by decide⟩
/-- A message with its head alone. -/
def MsgD.own (m : MsgD) : MsgD := ⟨m.kind, m.from_, m.to_, m.view, m.num, zQ, zT, zE, zB⟩
theorem MsgIn.own {F : List HProp} {m : MsgD} (h : MsgIn F m) : MsgIn F m.own := MsgIn.empty h.head zE_good none none none none 0 0 0 0
/-! ### A message's bytes, read -/
def rdIs : Nat → List UInt8 × Bool → List Int × (List UInt8 × Bool)
  | 0, s => ([], s)
  | n + 1, s => (IntKind.i64.wrap (rdNum s).1 :: (rdIs n (rdNum s).2).1, (rdIs n (rdNum s).2).2)
def N0 : List Int := [5, 3, 1, 2, 3, 4, 0, 0, 0, 0, 0, 0, 0, 0, 0, 0, 0, 0, 0, 0]
def st (j : Nat) : List UInt8 × Bool := ((N0.drop j).flatMap bei, false)
theorem rd0 : ∀ j, j < 20 → rdNum (st j) = ((N0.getD j 0).toNat, st (j + 1)) := by decide +kernel
theorem rd5 : rdIs 5 (st 1) = ([3, 1, 2, 3, 4], st 6) := by decide +kernel
theorem st_len (j : Nat) : (st j).1.length ≤ 1000 := by
  unfold st
  rw [flat_len, List.length_drop]
  have : N0.length = 20 := rfl
  omega
def m0 : MsgD := ⟨3, 1, 2, 3, 4, zQ, zT, zE, zB⟩
theorem m0_bytes : m0.p.bytes = (st 0).1 := by decide +kernel
instance m0_in {F : List HProp} : MsgIn F m0 := MsgIn.empty (by simp [I64]) zE_good none none none none 0 0 0 0

theorem mess_own {W : World} {F : List HProp} [Abs F] (m : MsgD) (hk : m.kind = 3) :
    CallsK W Try.prog 76 #[m.val] (F) (fun v L => v = .tuple #[m.own.val, .bool true] ∧ Lands L F) := by
  refine CallsK_enter (n := 86) Try.func76 rfl rfl rfl ?_
  refine SC_seq ?_
  refine SC_region ?_
  refine SR_ox (OX_box rfl rfl) rfl ?_
  rintro _ _ ⟨b1, rfl, rfl⟩
  refine SR_ox (OX_alloc Try.zeroValue54 rfl) rfl ?_
  rintro _ _ ⟨b2, rfl, rfl⟩
  refine SR_pu (RD_assign rfl) rfl ?_
  refine SR_nil ?_
  refine SN.le (l := [(1, _), (2, _)]) ?_ (.cons rfl (.cons rfl (.nil)))
  refine SN_seq ?_
  refine SC_seq ?_
  refine SC_region ?_
  first
    | refine SR_pu (RD_fieldAddr0 Try.runUnderlying54 rfl rfl Try.sizeOf3 rfl) rfl ?_
    | refine SR_rd (RD_fieldAddrO 0 Try.runUnderlying54 rfl rfl Try.sizeOf3 rfl (by simp <;> omega)) Has.ro rfl ?_
  refine SR_rd (RD_load Try.isAgg3 rfl) (Has.ce rfl) rfl ?_
  first
    | refine SR_pu (RD_fieldAddr 1 Try.runUnderlying54 rfl rfl Try.sizeOf3 rfl) rfl ?_
    | refine SR_rd (RD_fieldAddrO 1 Try.runUnderlying54 rfl rfl Try.sizeOf3 rfl (by simp <;> omega)) Has.ro rfl ?_
  refine SR_rd (RD_load Try.isAgg3 rfl) (Has.ce rfl) rfl ?_
  first
    | refine SR_pu (RD_fieldAddr 2 Try.runUnderlying54 rfl rfl Try.sizeOf3 rfl) rfl ?_
    | refine SR_rd (RD_fieldAddrO 2 Try.runUnderlying54 rfl rfl Try.sizeOf3 rfl (by simp <;> omega)) Has.ro rfl ?_
  refine SR_rd (RD_load Try.isAgg3 rfl) (Has.ce rfl) rfl ?_
  refine SR_pu (RD_build (.cons rfl (.cons rfl (.cons rfl (.nil)))) built54_0_1_2) rfl ?_
  refine SR_ox (OX_alloc Try.zeroValue54 rfl) rfl ?_
  rintro _ _ ⟨b4, rfl, rfl⟩
  refine SR_ox0 (OX_stA (vs := [.int .i64 (m.kind), .int .i64 (m.from_), .int .i64 (m.to_), .int .i64 (0), .int .i64 (0), .int .i64 0, .int .i64 0, .slice none 0 0, .int .i64 0, .slice none 0 0, .slice none 0 0, .int .i64 0, .int .i64 0, .slice none 0 0, .int .i64 0, .int .u64 0, .int .u64 0, .int .i64 0, .slice none 0 0]) Try.sizeOf54 rfl rfl rfl rfl) ?_
  rintro _ _ rfl
  refine SR_nil ?_
  refine SN.le (l := [(1, _), (2, _), (4, _)]) ?_ (.cons rfl (.cons rfl (.cons rfl (.nil))))
  refine SN_seq ?_
  refine SC_seq ?_
  refine SC_seq ?_
  refine SC_region ?_
  first
    | refine SR_pu (RD_fieldAddr0 Try.runUnderlying54 rfl rfl Try.sizeOf3 rfl) rfl ?_
    | refine SR_rd (RD_fieldAddrO 0 Try.runUnderlying54 rfl rfl Try.sizeOf3 rfl (by simp <;> omega)) Has.ro rfl ?_
  refine SR_rd (RD_load Try.isAgg3 rfl) (Has.ce rfl) rfl ?_
  refine SR_nil ?_
  refine SN.le (l := [(1, _), (2, _), (4, _), (13, _)]) ?_ (.cons rfl (.cons rfl (.cons rfl (.cons rfl (.nil)))))
  refine SN_seq ?_
  refine SC_block ?_
  refine SC_seq ?_
  refine SC_region ?_
  refine SR_pu (RD_eql rfl rfl) rfl ?_
  refine SR_pu (RD_assign rfl) rfl ?_
  refine SR_nil ?_
  refine SN.le (l := [(1, _), (2, _), (4, _), (13, _), (15, _)]) ?_ (.cons rfl (.cons rfl (.cons rfl (.cons rfl (.cons rfl (.nil))))))
  refine SN_seq ?_
  refine SC_cond_false rfl (by rw [hk]; rfl) ?_
  refine SC_seq ?_
  refine SC_region ?_
  refine SR_pu (RD_eql rfl rfl) rfl ?_
  refine SR_pu (RD_assign rfl) rfl ?_
  refine SR_nil ?_
  refine SN.le (l := [(1, _), (2, _), (4, _), (13, _), (20, _)]) ?_ (.cons rfl (.cons rfl (.cons rfl (.cons rfl (.cons rfl (.nil))))))
  refine SN_seq ?_
  refine SC_cond_false rfl (by rw [hk]; rfl) ?_
  refine SC_seq ?_
  refine SC_region ?_
  refine SR_pu (RD_eql rfl rfl) rfl ?_
  refine SR_pu (RD_assign rfl) rfl ?_
  refine SR_nil ?_
  refine SN.le (l := [(1, _), (2, _), (4, _), (13, _), (30, _)]) ?_ (.cons rfl (.cons rfl (.cons rfl (.cons rfl (.cons rfl (.nil))))))
  refine SN_seq ?_
  refine SC_cond_true rfl (by rw [hk]; rfl) ?_
  refine SC_drawn (.cons 0 true (.cons 1 true (.cons 2 true (.cons 3 true (.cons 4 true (.cons 5 false (.cons 6 true (.cons 7 false (.nil))))))))) (by kernel_rfl) (by kernel_rfl) ?_
  first
    | refine SQ_pu rfl (RD_fieldAddr 3 Try.runUnderlying54 rfl rfl Try.sizeOf3 rfl) rfl ?_
    | refine SQ_rd rfl (RD_fieldAddrO 3 Try.runUnderlying54 rfl rfl Try.sizeOf3 rfl (by simp <;> omega)) Has.ro rfl ?_
  refine SQ_rd rfl (RD_load Try.isAgg3 rfl) (Has.ce rfl) rfl ?_
  first
    | refine SQ_pu rfl (RD_fieldAddr 4 Try.runUnderlying54 rfl rfl Try.sizeOf3 rfl) rfl ?_
    | refine SQ_rd rfl (RD_fieldAddrO 4 Try.runUnderlying54 rfl rfl Try.sizeOf3 rfl (by simp <;> omega)) Has.ro rfl ?_
  refine SQ_rd rfl (RD_load Try.isAgg3 rfl) (Has.ce rfl) rfl ?_
  first
    | refine SQ_pu rfl (RD_fieldAddr 3 Try.runUnderlying54 rfl rfl Try.sizeOf3 rfl) rfl ?_
    | refine SQ_rd rfl (RD_fieldAddrO 3 Try.runUnderlying54 rfl rfl Try.sizeOf3 rfl (by simp <;> omega)) Has.ro rfl ?_
  refine SQ_ox0 rfl (OX_st Try.sizeOf3 rfl rfl) ?_
  rintro _ _ rfl
  refine ⟨.h (Has.ce rfl) (.w rfl (.nil)), ?_⟩
  first
    | refine SQ_pu rfl (RD_fieldAddr 4 Try.runUnderlying54 rfl rfl Try.sizeOf3 rfl) rfl ?_
    | refine SQ_rd rfl (RD_fieldAddrO 4 Try.runUnderlying54 rfl rfl Try.sizeOf3 rfl (by simp <;> omega)) Has.ro rfl ?_
  refine SQ_ox0 rfl (OX_st Try.sizeOf3 rfl rfl) ?_
  rintro _ _ rfl
  refine ⟨.w rfl (.w rfl (.nil)), ?_⟩
  refine SQ_nil ?_
  refine SN.le (l := [(2, _), (4, _)]) ?_ (.cons rfl (.cons rfl (.nil)))
  refine SN_block ?_
  refine SN_seq ?_
  refine SC_seq ?_
  refine SC_region ?_
  refine SR_rd (RD_loadA (vs := [.int .i64 (m.kind), .int .i64 (m.from_), .int .i64 (m.to_), .int .i64 (m.view), .int .i64 (m.num), .int .i64 0, .int .i64 0, .slice none 0 0, .int .i64 0, .slice none 0 0, .slice none 0 0, .int .i64 0, .int .i64 0, .slice none 0 0, .int .i64 0, .int .u64 0, .int .u64 0, .int .i64 0, .slice none 0 0]) Try.isAgg54 Try.sizeOf54 rfl rfl) Has.wh rfl ?_
  refine SR_ox0 (OX_stA (vs := [.int .i64 (m.kind), .int .i64 (m.from_), .int .i64 (m.to_), .int .i64 (m.view), .int .i64 (m.num), .int .i64 0, .int .i64 0, .slice none 0 0, .int .i64 0, .slice none 0 0, .slice none 0 0, .int .i64 0, .int .i64 0, .slice none 0 0, .int .i64 0, .int .u64 0, .int .u64 0, .int .i64 0, .slice none 0 0]) Try.sizeOf54 rfl rfl rfl rfl) ?_
  rintro _ _ rfl
  refine SR_pu (RD_assign rfl) rfl ?_
  refine SR_nil ?_
  refine SN.le (l := [(2, _), (3, _)]) ?_ (.cons rfl (.cons rfl (.nil)))
  refine SN_seq ?_
  refine SC_retCT rfl Try.isAgg54 Try.sizeOf54 rfl rfl rfl Has.wh ?_
  exact ⟨rfl, .fin⟩

theorem mess_own_no {W : World} {F : List HProp} [Abs F] (m : MsgD) (hk : m.kind = 0) :
    CallsK W Try.prog 76 #[m.val] (F) (fun v L => v = .tuple #[.agg ([.int .i64 (0), .int .i64 (0), .int .i64 (0), .int .i64 (0), .int .i64 (0), .int .i64 0, .int .i64 0, .slice none 0 0, .int .i64 0, .slice none 0 0, .slice none 0 0, .int .i64 0, .int .i64 0, .slice none 0 0, .int .i64 0, .int .u64 0, .int .u64 0, .int .i64 0, .slice none 0 0]).toArray, .bool false] ∧ Lands L F) := by
  refine CallsK_enter (n := 86) Try.func76 rfl rfl rfl ?_
  refine SC_seq ?_
  refine SC_region ?_
  refine SR_ox (OX_box rfl rfl) rfl ?_
  rintro _ _ ⟨b1, rfl, rfl⟩
  refine SR_ox (OX_alloc Try.zeroValue54 rfl) rfl ?_
  rintro _ _ ⟨b2, rfl, rfl⟩
  refine SR_pu (RD_assign rfl) rfl ?_
  refine SR_nil ?_
  refine SN.le (l := [(1, _), (2, _)]) ?_ (.cons rfl (.cons rfl (.nil)))
  refine SN_seq ?_
  refine SC_seq ?_
  refine SC_region ?_
  first
    | refine SR_pu (RD_fieldAddr0 Try.runUnderlying54 rfl rfl Try.sizeOf3 rfl) rfl ?_
    | refine SR_rd (RD_fieldAddrO 0 Try.runUnderlying54 rfl rfl Try.sizeOf3 rfl (by simp <;> omega)) Has.ro rfl ?_
  refine SR_rd (RD_load Try.isAgg3 rfl) (Has.ce rfl) rfl ?_
  first
    | refine SR_pu (RD_fieldAddr 1 Try.runUnderlying54 rfl rfl Try.sizeOf3 rfl) rfl ?_
    | refine SR_rd (RD_fieldAddrO 1 Try.runUnderlying54 rfl rfl Try.sizeOf3 rfl (by simp <;> omega)) Has.ro rfl ?_
  refine SR_rd (RD_load Try.isAgg3 rfl) (Has.ce rfl) rfl ?_
  first
    | refine SR_pu (RD_fieldAddr 2 Try.runUnderlying54 rfl rfl Try.sizeOf3 rfl) rfl ?_
    | refine SR_rd (RD_fieldAddrO 2 Try.runUnderlying54 rfl rfl Try.sizeOf3 rfl (by simp <;> omega)) Has.ro rfl ?_
  refine SR_rd (RD_load Try.isAgg3 rfl) (Has.ce rfl) rfl ?_
  refine SR_pu (RD_build (.cons rfl (.cons rfl (.cons rfl (.nil)))) built54_0_1_2) rfl ?_
  refine SR_ox (OX_alloc Try.zeroValue54 rfl) rfl ?_
  rintro _ _ ⟨b4, rfl, rfl⟩
  refine SR_ox0 (OX_stA (vs := [.int .i64 (m.kind), .int .i64 (m.from_), .int .i64 (m.to_), .int .i64 (0), .int .i64 (0), .int .i64 0, .int .i64 0, .slice none 0 0, .int .i64 0, .slice none 0 0, .slice none 0 0, .int .i64 0, .int .i64 0, .slice none 0 0, .int .i64 0, .int .u64 0, .int .u64 0, .int .i64 0, .slice none 0 0]) Try.sizeOf54 rfl rfl rfl rfl) ?_
  rintro _ _ rfl
  refine SR_nil ?_
  refine SN.le (l := [(1, _), (2, _), (4, _)]) ?_ (.cons rfl (.cons rfl (.cons rfl (.nil))))
  refine SN_seq ?_
  refine SC_seq ?_
  refine SC_seq ?_
  refine SC_region ?_
  first
    | refine SR_pu (RD_fieldAddr0 Try.runUnderlying54 rfl rfl Try.sizeOf3 rfl) rfl ?_
    | refine SR_rd (RD_fieldAddrO 0 Try.runUnderlying54 rfl rfl Try.sizeOf3 rfl (by simp <;> omega)) Has.ro rfl ?_
  refine SR_rd (RD_load Try.isAgg3 rfl) (Has.ce rfl) rfl ?_
  refine SR_nil ?_
  refine SN.le (l := [(1, _), (2, _), (4, _), (13, _)]) ?_ (.cons rfl (.cons rfl (.cons rfl (.cons rfl (.nil)))))
  refine SN_seq ?_
  refine SC_block ?_
  refine SC_seq ?_
  refine SC_region ?_
  refine SR_pu (RD_eql rfl rfl) rfl ?_
  refine SR_pu (RD_assign rfl) rfl ?_
  refine SR_nil ?_
  refine SN.le (l := [(1, _), (2, _), (4, _), (13, _), (15, _)]) ?_ (.cons rfl (.cons rfl (.cons rfl (.cons rfl (.cons rfl (.nil))))))
  refine SN_seq ?_
  refine SC_cond_false rfl (by rw [hk]; rfl) ?_
  refine SC_seq ?_
  refine SC_region ?_
  refine SR_pu (RD_eql rfl rfl) rfl ?_
  refine SR_pu (RD_assign rfl) rfl ?_
  refine SR_nil ?_
  refine SN.le (l := [(1, _), (2, _), (4, _), (13, _), (20, _)]) ?_ (.cons rfl (.cons rfl (.cons rfl (.cons rfl (.cons rfl (.nil))))))
  refine SN_seq ?_
  refine SC_cond_false rfl (by rw [hk]; rfl) ?_
  refine SC_seq ?_
  refine SC_region ?_
  refine SR_pu (RD_eql rfl rfl) rfl ?_
  refine SR_pu (RD_assign rfl) rfl ?_
  refine SR_nil ?_
  refine SN.le (l := [(1, _), (2, _), (4, _), (13, _), (30, _)]) ?_ (.cons rfl (.cons rfl (.cons rfl (.cons rfl (.cons rfl (.nil))))))
  refine SN_seq ?_
  refine SC_cond_false rfl (by rw [hk]; rfl) ?_
  refine SC_seq ?_
  refine SC_seq ?_
  refine SC_region ?_
  refine SR_pu (RD_eql rfl rfl) rfl ?_
  refine SR_pu (RD_assign rfl) rfl ?_
  refine SR_nil ?_
  refine SN.le (l := [(1, _), (2, _), (4, _), (13, _), (38, _)]) ?_ (.cons rfl (.cons rfl (.cons rfl (.cons rfl (.cons rfl (.nil))))))
  refine SN_seq ?_
  refine SC_cond_false rfl (by rw [hk]; rfl) ?_
  refine SC_region ?_
  refine SR_pu (RD_eql rfl rfl) rfl ?_
  refine SR_pu (RD_assign rfl) rfl ?_
  refine SR_nil ?_
  refine SN.le (l := [(1, _), (2, _), (4, _), (13, _), (38, _)]) ?_ (.cons rfl (.cons rfl (.cons rfl (.cons rfl (.cons rfl (.nil))))))
  refine SN_seq ?_
  refine SC_cond_false rfl (by rw [hk]; rfl) ?_
  refine SC_seq ?_
  refine SC_region ?_
  refine SR_pu (RD_eql rfl rfl) rfl ?_
  refine SR_pu (RD_assign rfl) rfl ?_
  refine SR_nil ?_
  refine SN.le (l := [(1, _), (2, _), (4, _), (13, _), (47, _)]) ?_ (.cons rfl (.cons rfl (.cons rfl (.cons rfl (.cons rfl (.nil))))))
  refine SN_seq ?_
  refine SC_cond_false rfl (by rw [hk]; rfl) ?_
  refine SC_seq ?_
  refine SC_region ?_
  refine SR_pu (RD_eql rfl rfl) rfl ?_
  refine SR_pu (RD_assign rfl) rfl ?_
  refine SR_nil ?_
  refine SN.le (l := [(1, _), (2, _), (4, _), (13, _), (70, _)]) ?_ (.cons rfl (.cons rfl (.cons rfl (.cons rfl (.cons rfl (.nil))))))
  refine SN_seq ?_
  refine SC_cond_false rfl (by rw [hk]; rfl) ?_
  refine SC_seq ?_
  refine SC_region ?_
  refine SR_pu (RD_eql rfl rfl) rfl ?_
  refine SR_pu (RD_assign rfl) rfl ?_
  refine SR_nil ?_
  refine SN.le (l := [(1, _), (2, _), (4, _), (80, _)]) ?_ (.cons rfl (.cons rfl (.cons rfl (.cons rfl (.nil)))))
  refine SN_seq ?_
  refine SC_cond_false rfl (by rw [hk]; rfl) ?_
  refine SC_seq ?_
  refine SC_region ?_
  refine SR_pu (RD_build (.nil) built54) rfl ?_
  refine SR_ox0 (OX_stA (vs := [.int .i64 (0), .int .i64 (0), .int .i64 (0), .int .i64 (0), .int .i64 (0), .int .i64 0, .int .i64 0, .slice none 0 0, .int .i64 0, .slice none 0 0, .slice none 0 0, .int .i64 0, .int .i64 0, .slice none 0 0, .int .i64 0, .int .u64 0, .int .u64 0, .int .i64 0, .slice none 0 0]) Try.sizeOf54 rfl rfl rfl rfl) ?_
  rintro _ _ rfl
  refine SR_pu (RD_assign rfl) rfl ?_
  refine SR_nil ?_
  refine SN.le (l := [(2, _), (3, _)]) ?_ (.cons rfl (.cons rfl (.nil)))
  refine SN_seq ?_
  refine SC_retCT rfl Try.isAgg54 Try.sizeOf54 rfl rfl rfl Has.wh ?_
  exact ⟨rfl, .fin⟩

theorem mess_Code {W : World} {F : List HProp} [Abs F] (m : MsgD) [hM : MsgIn F m] (hk : m.kind = 3) (hs : m.own.p = m.p) :
    CallsK W Try.prog 53 #[m.val] (F) (fun v L => (∃ a c, v = .tuple #[.slice a m.p.bytes.length c, .bool true] ∧ m.p.bytes.length ≤ 1000000 ∧ Lands L (rowP 5 1 a m.p.bytes.length c (m.p.bytes.map byteV) :: F))) := by
  refine CallsK_enter (n := 21) Try.func53 rfl rfl rfl ?_
  haveI := hM.own
  refine SC_seq ?_
  refine SC_region ?_
  refine SR_ox (OX_box rfl rfl) rfl ?_
  rintro _ _ ⟨b1, rfl, rfl⟩
  refine SR_pu (RD_assign rfl) rfl ?_
  refine SR_pu (RD_assign rfl) rfl ?_
  refine SR_nil ?_
  refine SN.le (l := [(1, _)]) ?_ (.cons rfl (.nil))
  refine SN_seq ?_
  refine SC_seq ?_
  refine SC_region ?_
  refine SR_rd (RD_loadA (vs := m.cells) Try.isAgg54 Try.sizeOf54 rfl rfl) Has.wh rfl ?_
  refine SR_call Try.call76 (.cons rfl (.nil)) (mess_own m hk) (lts rfl) ?_
  rintro _ L1 ⟨rfl, hL1⟩
  refine SR.lands hL1 ?_
  refine SR_pu (RD_move rfl) rfl ?_
  refine SR_pu (RD_extract (v := m.own.val) rfl rfl) rfl ?_
  refine SR_pu (RD_extract (v := .bool true) rfl rfl) rfl ?_
  refine SR_ox (OX_alloc Try.zeroValue54 rfl) rfl ?_
  rintro _ _ ⟨b4, rfl, rfl⟩
  refine SR_ox0 (OX_stA (vs := m.own.cells) Try.sizeOf54 rfl rfl rfl rfl) ?_
  rintro _ _ rfl
  refine SR_pu (RD_assign rfl) rfl ?_
  refine SR_nil ?_
  refine SN.le (l := [(1, _), (4, _), (5, _)]) ?_ (.cons rfl (.cons rfl (.cons rfl (.nil))))
  refine SN_seq ?_
  refine SC_seq ?_
  refine SC_seq ?_
  refine SC_region ?_
  refine SR_pu (RD_move rfl) rfl ?_
  refine SR_pu (RD_not rfl) rfl ?_
  refine SR_pu (RD_move rfl) rfl ?_
  refine SR_yes rfl rfl (rfl) ?_
  refine SR_rd (RD_loadA (vs := m.own.cells) Try.isAgg54 Try.sizeOf54 rfl rfl) Has.wh rfl ?_
  refine SR_yes rfl rfl (rfl) ?_
  refine SR_rd (RD_loadA (vs := m.cells) Try.isAgg54 Try.sizeOf54 rfl rfl) Has.wh rfl ?_
  refine SR_yes rfl rfl (rfl) ?_
  refine SR_call Try.call26 (.cons rfl (.cons rfl (.nil))) (mess_Same m.own m) (lts rfl) ?_
  rintro _ L2 ⟨rfl, hL2⟩
  refine SR.lands hL2 ?_
  refine SR_yes rfl rfl (rfl) ?_
  refine SR_pu (RD_not rfl) rfl ?_
  refine SR_pu (RD_pick_f rfl (rfl) rfl) rfl ?_
  refine SR_nil ?_
  refine SN.le (l := [(1, _), (18, _)]) ?_ (.cons rfl (.cons rfl (.nil)))
  refine SN_seq ?_
  refine SC_cond_false rfl (by rw [decide_eq_true hs]; rfl) ?_
  refine SC_skip ?_
  refine SN_seq ?_
  refine SC_seq ?_
  refine SC_region ?_
  refine SR_rd (RD_loadA (vs := m.cells) Try.isAgg54 Try.sizeOf54 rfl rfl) Has.wh rfl ?_
  refine SR_call Try.call56 (.cons rfl (.nil)) (mess_all m) (lts rfl) ?_
  rintro _ L3 ⟨a3, c3, rfl, hl3, hL3⟩
  refine SR.lands hL3 ?_
  refine SR_pu (RD_assign rfl) rfl ?_
  refine SR_pu (RD_assign rfl) rfl ?_
  refine SR_nil ?_
  refine SN.le (l := [(2, _), (3, _)]) ?_ (.cons rfl (.cons rfl (.nil)))
  refine SN_seq ?_
  refine SC_ret2 rfl rfl rfl ?_
  exact ⟨a3, c3, rfl, hl3, .fin⟩

theorem mess_Code_no {W : World} {F : List HProp} [Abs F] (m : MsgD) [hM : MsgIn F m] (hk : m.kind = 3) (hs : ¬ m.own.p = m.p) :
    CallsK W Try.prog 53 #[m.val] (F) (fun v L => v = .tuple #[.slice none 0 0, .bool false] ∧ Lands L F) := by
  refine CallsK_enter (n := 21) Try.func53 rfl rfl rfl ?_
  haveI := hM.own
  refine SC_seq ?_
  refine SC_region ?_
  refine SR_ox (OX_box rfl rfl) rfl ?_
  rintro _ _ ⟨b1, rfl, rfl⟩
  refine SR_pu (RD_assign rfl) rfl ?_
  refine SR_pu (RD_assign rfl) rfl ?_
  refine SR_nil ?_
  refine SN.le (l := [(1, _)]) ?_ (.cons rfl (.nil))
  refine SN_seq ?_
  refine SC_seq ?_
  refine SC_region ?_
  refine SR_rd (RD_loadA (vs := m.cells) Try.isAgg54 Try.sizeOf54 rfl rfl) Has.wh rfl ?_
  refine SR_call Try.call76 (.cons rfl (.nil)) (mess_own m hk) (lts rfl) ?_
  rintro _ L1 ⟨rfl, hL1⟩
  refine SR.lands hL1 ?_
  refine SR_pu (RD_move rfl) rfl ?_
  refine SR_pu (RD_extract (v := m.own.val) rfl rfl) rfl ?_
  refine SR_pu (RD_extract (v := .bool true) rfl rfl) rfl ?_
  refine SR_ox (OX_alloc Try.zeroValue54 rfl) rfl ?_
  rintro _ _ ⟨b4, rfl, rfl⟩
  refine SR_ox0 (OX_stA (vs := m.own.cells) Try.sizeOf54 rfl rfl rfl rfl) ?_
  rintro _ _ rfl
  refine SR_pu (RD_assign rfl) rfl ?_
  refine SR_nil ?_
  refine SN.le (l := [(1, _), (4, _), (5, _)]) ?_ (.cons rfl (.cons rfl (.cons rfl (.nil))))
  refine SN_seq ?_
  refine SC_seq ?_
  refine SC_seq ?_
  refine SC_region ?_
  refine SR_pu (RD_move rfl) rfl ?_
  refine SR_pu (RD_not rfl) rfl ?_
  refine SR_pu (RD_move rfl) rfl ?_
  refine SR_yes rfl rfl (rfl) ?_
  refine SR_rd (RD_loadA (vs := m.own.cells) Try.isAgg54 Try.sizeOf54 rfl rfl) Has.wh rfl ?_
  refine SR_yes rfl rfl (rfl) ?_
  refine SR_rd (RD_loadA (vs := m.cells) Try.isAgg54 Try.sizeOf54 rfl rfl) Has.wh rfl ?_
  refine SR_yes rfl rfl (rfl) ?_
  refine SR_call Try.call26 (.cons rfl (.cons rfl (.nil))) (mess_Same m.own m) (lts rfl) ?_
  rintro _ L2 ⟨rfl, hL2⟩
  refine SR.lands hL2 ?_
  refine SR_yes rfl rfl (rfl) ?_
  refine SR_pu (RD_not rfl) rfl ?_
  refine SR_pu (RD_pick_f rfl (rfl) rfl) rfl ?_
  refine SR_nil ?_
  refine SN.le (l := [(1, _), (18, _)]) ?_ (.cons rfl (.cons rfl (.nil)))
  refine SN_seq ?_
  refine SC_cond_true rfl (by rw [decide_eq_false hs]; rfl) ?_
  refine SC_seq ?_
  refine SC_region ?_
  refine SR_pu (RD_assign rfl) rfl ?_
  refine SR_pu (RD_assign rfl) rfl ?_
  refine SR_nil ?_
  refine SN.le (l := [(2, _), (3, _)]) ?_ (.cons rfl (.cons rfl (.nil)))
  refine SN_seq ?_
  refine SC_ret2 rfl rfl rfl ?_
  exact ⟨rfl, .fin⟩

theorem mess_Code_none {W : World} {F : List HProp} [Abs F] (m : MsgD) (hk : m.kind = 0) :
    CallsK W Try.prog 53 #[m.val] (F) (fun v L => v = .tuple #[.slice none 0 0, .bool false] ∧ Lands L F) := by
  refine CallsK_enter (n := 21) Try.func53 rfl rfl rfl ?_
  refine SC_seq ?_
  refine SC_region ?_
  refine SR_ox (OX_box rfl rfl) rfl ?_
  rintro _ _ ⟨b1, rfl, rfl⟩
  refine SR_pu (RD_assign rfl) rfl ?_
  refine SR_pu (RD_assign rfl) rfl ?_
  refine SR_nil ?_
  refine SN.le (l := [(1, _)]) ?_ (.cons rfl (.nil))
  refine SN_seq ?_
  refine SC_seq ?_
  refine SC_region ?_
  refine SR_rd (RD_loadA (vs := m.cells) Try.isAgg54 Try.sizeOf54 rfl rfl) Has.wh rfl ?_
  refine SR_call Try.call76 (.cons rfl (.nil)) (mess_own_no m hk) (lts rfl) ?_
  rintro _ L1 ⟨rfl, hL1⟩
  refine SR.lands hL1 ?_
  refine SR_pu (RD_move rfl) rfl ?_
  refine SR_pu (RD_extract (v := .agg ([.int .i64 (0), .int .i64 (0), .int .i64 (0), .int .i64 (0), .int .i64 (0), .int .i64 0, .int .i64 0, .slice none 0 0, .int .i64 0, .slice none 0 0, .slice none 0 0, .int .i64 0, .int .i64 0, .slice none 0 0, .int .i64 0, .int .u64 0, .int .u64 0, .int .i64 0, .slice none 0 0]).toArray) rfl rfl) rfl ?_
  refine SR_pu (RD_extract (v := .bool false) rfl rfl) rfl ?_
  refine SR_ox (OX_alloc Try.zeroValue54 rfl) rfl ?_
  rintro _ _ ⟨b4, rfl, rfl⟩
  refine SR_ox0 (OX_stA (vs := [.int .i64 (0), .int .i64 (0), .int .i64 (0), .int .i64 (0), .int .i64 (0), .int .i64 0, .int .i64 0, .slice none 0 0, .int .i64 0, .slice none 0 0, .slice none 0 0, .int .i64 0, .int .i64 0, .slice none 0 0, .int .i64 0, .int .u64 0, .int .u64 0, .int .i64 0, .slice none 0 0]) Try.sizeOf54 rfl rfl rfl rfl) ?_
  rintro _ _ rfl
  refine SR_pu (RD_assign rfl) rfl ?_
  refine SR_nil ?_
  refine SN.le (l := [(1, _), (4, _), (5, _)]) ?_ (.cons rfl (.cons rfl (.cons rfl (.nil))))
  refine SN_seq ?_
  refine SC_seq ?_
  refine SC_seq ?_
  refine SC_region ?_
  refine SR_pu (RD_move rfl) rfl ?_
  refine SR_pu (RD_not rfl) rfl ?_
  refine SR_pu (RD_move rfl) rfl ?_
  refine SR_no rfl rfl (rfl) (lts rfl) ?_
  refine SR_no rfl rfl (rfl) (lts rfl) ?_
  refine SR_no rfl rfl (rfl) (lts rfl) ?_
  refine SR_no rfl rfl (rfl) (lts rfl) ?_
  refine SR_pu (RD_pick_t rfl (rfl) rfl) rfl ?_
  refine SR_nil ?_
  refine SN.le (l := [(1, _), (18, _)]) ?_ (.cons rfl (.cons rfl (.nil)))
  refine SN_seq ?_
  refine SC_cond_true rfl (rfl) ?_
  refine SC_seq ?_
  refine SC_region ?_
  refine SR_pu (RD_assign rfl) rfl ?_
  refine SR_pu (RD_assign rfl) rfl ?_
  refine SR_nil ?_
  refine SN.le (l := [(2, _), (3, _)]) ?_ (.cons rfl (.cons rfl (.nil)))
  refine SN_seq ?_
  refine SC_ret2 rfl rfl rfl ?_
  exact ⟨rfl, .fin⟩

theorem mess_count {W : World} {F : List HProp} [Abs F] (rp : Nat) (s s' : List UInt8 × Bool) (k : Nat) (hr : rdNum s = (k, s')) (hk : k ≤ 20) (hl : s.1.length ≤ 1000) :
    CallsK W Try.prog 82 #[.agg #[.pointer (some ⟨rp, 0, none⟩), .int .i64 160]] (At readerI rp s :: F) (fun v L => v = .int .i64 (k : Nat) ∧ Lands L (At readerI rp s' :: F)) := by
  refine CallsK_enter (n := 11) Try.func82 rfl rfl rfl ?_
  refine SC_seq ?_
  refine SC_region ?_
  refine SR_ox (OX_box rfl rfl) rfl ?_
  rintro _ _ ⟨b1, rfl, rfl⟩
  refine SR_pu (RD_assign rfl) rfl ?_
  refine SR_nil ?_
  refine SN.le (l := [(1, _)]) ?_ (.cons rfl (.nil))
  refine SN_seq ?_
  refine SC_seq ?_
  refine SC_drawn (.cons 0 true (.cons 1 true (.cons 4 true (.cons 5 true (.cons 6 true (.cons 2 false (.cons 3 true (.cons 7 true (.cons 8 true (.nil)))))))))) (by kernel_rfl) (by kernel_rfl) ?_
  first
    | refine SQ_pu rfl (RD_fieldAddr0 Try.runUnderlying135 rfl rfl Try.sizeOf132 rfl) rfl ?_
    | refine SQ_rd rfl (RD_fieldAddrO 0 Try.runUnderlying135 rfl rfl Try.sizeOf132 rfl (by simp <;> omega)) Has.ro rfl ?_
  refine SQ_rd rfl (RD_load Try.isAgg132 rfl) (Has.ce rfl) rfl ?_
  first
    | refine SQ_pu rfl (RD_fieldAddr 1 Try.runUnderlying135 rfl rfl Try.sizeOf3 rfl) rfl ?_
    | refine SQ_rd rfl (RD_fieldAddrO 1 Try.runUnderlying135 rfl rfl Try.sizeOf3 rfl (by simp <;> omega)) Has.ro rfl ?_
  refine SQ_rd rfl (RD_load Try.isAgg3 rfl) (Has.ce rfl) rfl ?_
  refine SQ_pu rfl (RD_quo rfl rfl (by omega)) rfl ?_
  refine SQ_call rfl Try.call80 (.cons rfl (.nil)) (CallsK.at (reader_Int rp (s) (by omega))) (lts rfl) ?_
  rintro _ L1 ⟨rfl, hL1⟩
  rw [hr] at hL1
  refine ⟨.lands hL1 (.h (Has.ce rfl) (.w rfl (.nil))), ?_⟩
  rw [hr]
  refine SQ.lands hL1 ?_
  refine SQ_pu rfl (RD_max rfl rfl) rfl ?_
  refine SQ_pu rfl (RD_min rfl rfl) rfl ?_
  refine SQ_pu rfl (RD_assign rfl) rfl ?_
  refine SQ_nil ?_
  refine SN.le (l := [(2, _)]) ?_ (.cons rfl (.nil))
  refine SN_seq ?_
  refine SC_ret1 rfl rfl ?_
  refine ⟨?_, .fin⟩
  have hw : IntKind.i64.wrap ((k : Nat) : Int) = k := by rw [IntKind.wrap_i64]; omega
  have hq : IntKind.i64.wrap ((160 : Int).tdiv 8) = 20 := by decide
  dsimp only
  rw [hw, hq, if_neg (show ¬ (0 : Int) > (k : Nat) by omega), if_neg (by omega)]

theorem mess_rints {W : World} {F : List HProp} [Abs F] (rp : Nat) (s s1 : List UInt8 × Bool) (k : Nat) (hr : rdNum s = (k, s1)) (hk : k ≤ 20) (hl : s.1.length ≤ 1000) :
    CallsK W Try.prog 78 #[.agg #[.pointer (some ⟨rp, 0, none⟩), .int .i64 160]] (At readerI rp s :: F) (fun v L => (∃ a c, v = .slice a k c ∧ Lands L (rowP 3 1 a k c ((rdIs k s1).1.map intV) :: At readerI rp (rdIs k s1).2 :: F))) := by
  refine CallsK_enter (n := 16) Try.func78 rfl rfl rfl ?_
  have hl1 : s1.1.length ≤ 1000 := by have := rdNum_len s; rw [hr] at this; dsimp only at this; omega
  refine SC_seq ?_
  refine SC_region ?_
  refine SR_ox (OX_box rfl rfl) rfl ?_
  rintro _ _ ⟨b1, rfl, rfl⟩
  refine SR_pu (RD_assign rfl) rfl ?_
  refine SR_nil ?_
  refine SN.le (l := [(1, _)]) ?_ (.cons rfl (.nil))
  refine SN_seq ?_
  refine SC_seq ?_
  refine SC_region ?_
  refine SR_pu (RD_assign rfl) rfl ?_
  refine SR_nil ?_
  refine SN.le (l := [(1, _), (3, _)]) ?_ (.cons rfl (.cons rfl (.nil)))
  refine SN_seq ?_
  refine SC_seq ?_
  refine SC_seq ?_
  refine SC_region ?_
  refine SR_rd (RD_loadA (vs := [.pointer (some ⟨rp, 0, none⟩), .int .i64 160]) Try.isAgg135 Try.sizeOf135 rfl rfl) Has.wh rfl ?_
  refine SR_call Try.call82 (.cons rfl (.nil)) (CallsK.at (mess_count rp s s1 k hr hk hl)) (lts rfl) ?_
  rintro _ L1 ⟨rfl, hL1⟩
  refine SR.lands hL1 ?_
  refine SR_pu (RD_move rfl) rfl ?_
  refine SR_nil ?_
  refine SN.le (l := [(1, _), (3, _), (5, _), (6, _)]) ?_ (.cons rfl (.cons rfl (.cons rfl (.cons rfl (.nil)))))
  refine SN_seq ?_
  refine SC_block ?_
  refine SC_ind (X := Nat × Option Addr × Nat × List Int × (List UInt8 × Bool)) (fun x => x.1 ≤ k ∧ x.2.2.2.1.length = x.1 ∧ x.2.2.2.2.1.length ≤ 1000 ∧ x.2.2.2.1 ++ (rdIs (k - x.1) x.2.2.2.2).1 = (rdIs k s1).1 ∧ (rdIs (k - x.1) x.2.2.2.2).2 = (rdIs k s1).2) (fun x => k - x.1) (fun x => [(1, .pointer (some ⟨b1, 0, none⟩)), (3, .slice x.2.1 x.1 x.2.2.1), (5, .int .i64 (k : Nat)), (6, .int .i64 (x.1 : Nat))]) (fun x => pt b1 (.cells ([.pointer (some ⟨rp, 0, none⟩), .int .i64 160]).toArray 135) :: rowP 3 1 x.2.1 x.1 x.2.2.1 (x.2.2.2.1.map intV) :: At readerI rp x.2.2.2.2 :: F) ((0, none, 0, [], s1)) (⟨by simp, rfl, hl1, by simp, rfl⟩) (.cons rfl (.cons rfl (.cons rfl (.cons rfl (.nil))))) (((row_new 3 1 none).trans (show Lands _ (pt b1 (.cells ([.pointer (some ⟨rp, 0, none⟩), .int .i64 160]).toArray 135) :: rowP 3 1 none 0 0 [] :: At readerI rp s1 :: F) from .fin))) ?_
  intro ⟨i, a, c, l, z⟩ hi ih
  obtain ⟨hi1, hi2, hi3, hi4, hi5⟩ := hi
  dsimp only at hi1 hi2 hi3 hi4 hi5 ih ⊢
  refine SC_seq ?_
  refine SC_region ?_
  refine SR_pu (RD_lss rfl rfl) rfl ?_
  refine SR_nil ?_
  refine SN.le (l := [(1, _), (3, _), (5, _), (6, _), (7, _)]) ?_ (.cons rfl (.cons rfl (.cons rfl (.cons rfl (.cons rfl (.nil))))))
  refine SN_seq ?_
  refine SC_seq ?_
  refine SC_cond rfl (fun hc7 => ?_) (fun hc7 => ?_)
  · have hin : i < k := by simp at hc7; omega
    have hrd : rdIs (k - i) z = (IntKind.i64.wrap (rdNum z).1 :: (rdIs (k - (i + 1)) (rdNum z).2).1, (rdIs (k - (i + 1)) (rdNum z).2).2) := by
      rw [show k - i = (k - (i + 1)) + 1 by omega]; rfl
    refine SC_skip ?_
    refine SN_seq ?_
    refine SC_seq ?_
    refine SC_block ?_
    refine SC_region ?_
    refine SR_pu (RD_move rfl) rfl ?_
    first
      | refine SR_pu (RD_fieldAddr0 Try.runUnderlying135 rfl rfl Try.sizeOf132 rfl) rfl ?_
      | refine SR_rd (RD_fieldAddrO 0 Try.runUnderlying135 rfl rfl Try.sizeOf132 rfl (by simp <;> omega)) Has.ro rfl ?_
    refine SR_rd (RD_load Try.isAgg132 rfl) (Has.ce rfl) rfl ?_
    refine SR_call Try.call80 (.cons rfl (.nil)) (CallsK.at (reader_Int rp (z) (by omega))) (lts rfl) ?_
    rintro _ L2 ⟨rfl, hL2⟩
    skip
    skip
    refine SR.lands hL2 ?_
    refine SR_ox (OX_lit1 Try.underlying24 Try.type3 rfl rfl rfl rfl (.cons rfl (.nil)) (.cons rfl (.nil))) rfl ?_
    rintro _ _ ⟨b12, rfl, rfl⟩
    refine SR_ox (OX_app 1 Try.underlying24 Try.underlying24 Try.type3 rfl rfl rfl rfl rfl (by first | rfl | simp; done | (simp; omega)) 8 rfl (by omega) (by omega)) rfl ?_
    rintro _ _ ⟨a13, c13, rfl, rfl⟩
    refine SR_pu (RD_assign rfl) rfl ?_
    refine SR_nil ?_
    refine SN.le (l := [(1, _), (3, _), (5, _), (6, _)]) ?_ (.cons rfl (.cons rfl (.cons rfl (.cons rfl (.nil)))))
    refine SN_block ?_
    refine SN_seq ?_
    refine SC_region ?_
    refine SR_pu (RD_addi rfl rfl (by omega) (by omega)) rfl ?_
    refine SR_pu (RD_move rfl) rfl ?_
    refine SR_nil ?_
    refine SN.le (l := [(1, _), (3, _), (5, _), (6, _)]) ?_ (.cons rfl (.cons rfl (.cons rfl (.cons rfl (.nil)))))
    refine SC_again (ih ((i + 1, a13, c13, l ++ [IntKind.i64.wrap (rdNum z).1], (rdNum z).2)) (⟨by dsimp only; omega, by simp [hi2], by have := rdNum_len z; dsimp only; omega, by rw [hrd] at hi4; dsimp only at hi4 ⊢; rw [List.append_assoc]; exact hi4, by rw [hrd] at hi5; exact hi5⟩) (by dsimp only; omega)) ((by (try dsimp only); rw [List.map_append]; exact (show Lands _ (pt b1 (.cells ([.pointer (some ⟨rp, 0, none⟩), .int .i64 160]).toArray 135) :: rowP 3 1 a13 (i + 1) c13 (l.map intV ++ [.int .i64 (IntKind.i64.wrap (rdNum z).1)]) :: At readerI rp (rdNum z).2 :: F) from .fin))) (.cons rfl (.cons rfl (.cons rfl (.cons' rfl (ie (by dsimp only; omega)) (.nil)))))
  · have hin : k = i := by simp at hc7; omega
    subst hin
    have e0 : rdIs (k - k) z = ([], z) := by rw [Nat.sub_self]; rfl
    rw [e0] at hi4 hi5
    rw [List.append_nil] at hi4
    dsimp only at hi5
    rw [hi4, hi5]
    refine SC_exit rfl ?_
    refine SN_seq ?_
    refine SC_seq ?_
    refine SC_region ?_
    refine SR_pu (RD_move rfl) rfl ?_
    refine SR_pu (RD_assign rfl) rfl ?_
    refine SR_nil ?_
    refine SN.le (l := [(2, _)]) ?_ (.cons rfl (.nil))
    refine SN_seq ?_
    refine SC_ret1 rfl rfl ?_
    exact ⟨a, c, rfl, .fin⟩

theorem mess_rqc {W : World} {F : List HProp} [Abs F] (rp : Nat) (s s1 s2 s3 : List UInt8 × Bool) (h0 : rdNum s = (0, s1)) (h1 : rdNum s1 = (0, s2)) (h2 : rdNum s2 = (0, s3)) (hl : s.1.length ≤ 1000) :
    CallsK W Try.prog 79 #[.agg #[.pointer (some ⟨rp, 0, none⟩), .int .i64 160]] (At readerI rp s :: F) (fun v L => (∃ a c, v = .agg #[.int .i64 0, .int .i64 0, .slice a 0 c] ∧ Lands L (At readerI rp s3 :: F))) := by
  refine CallsK_enter (n := 12) Try.func79 rfl rfl rfl ?_
  have hl1 : s1.1.length ≤ 1000 := by have := rdNum_len s; rw [h0] at this; dsimp only at this; omega
  have hl2 : s2.1.length ≤ 1000 := by have := rdNum_len s1; rw [h1] at this; dsimp only at this; omega
  have hl := hl
  refine SC_seq ?_
  refine SC_region ?_
  refine SR_ox (OX_box rfl rfl) rfl ?_
  rintro _ _ ⟨b1, rfl, rfl⟩
  refine SR_ox (OX_alloc Try.zeroValue26 rfl) rfl ?_
  rintro _ _ ⟨b2, rfl, rfl⟩
  refine SR_nil ?_
  refine SN.le (l := [(1, _), (2, _)]) ?_ (.cons rfl (.cons rfl (.nil)))
  refine SN_seq ?_
  refine SC_seq ?_
  refine SC_drawn (.cons 0 true (.cons 1 true (.cons 3 true (.cons 4 true (.cons 6 true (.cons 2 false (.cons 5 false (.cons 7 false (.cons 8 true (.cons 9 false (.nil))))))))))) (by kernel_rfl) (by kernel_rfl) ?_
  first
    | refine SQ_pu rfl (RD_fieldAddr0 Try.runUnderlying135 rfl rfl Try.sizeOf132 rfl) rfl ?_
    | refine SQ_rd rfl (RD_fieldAddrO 0 Try.runUnderlying135 rfl rfl Try.sizeOf132 rfl (by simp <;> omega)) Has.ro rfl ?_
  refine SQ_rd rfl (RD_load Try.isAgg132 rfl) (Has.ce rfl) rfl ?_
  first
    | refine SQ_pu rfl (RD_fieldAddr0 Try.runUnderlying135 rfl rfl Try.sizeOf132 rfl) rfl ?_
    | refine SQ_rd rfl (RD_fieldAddrO 0 Try.runUnderlying135 rfl rfl Try.sizeOf132 rfl (by simp <;> omega)) Has.ro rfl ?_
  refine SQ_rd rfl (RD_load Try.isAgg132 rfl) (Has.ce rfl) rfl ?_
  refine SQ_rd rfl (RD_loadA (vs := [.pointer (some ⟨rp, 0, none⟩), .int .i64 160]) Try.isAgg135 Try.sizeOf135 rfl rfl) Has.wh rfl ?_
  refine SQ_call rfl Try.call80 (.cons rfl (.nil)) (CallsK.at (reader_Int rp (s) (by omega))) (lts rfl) ?_
  rintro _ L1 ⟨rfl, hL1⟩
  rw [h0] at hL1
  refine ⟨.lands hL1 (.h Has.wh (.h (Has.ce rfl) (.w rfl (.nil)))), ?_⟩
  rw [h0]
  refine SQ.lands hL1 ?_
  refine SQ_call rfl Try.call80 (.cons rfl (.nil)) (CallsK.at (reader_Int rp (s1) (by omega))) (lts rfl) ?_
  rintro _ L2 ⟨rfl, hL2⟩
  rw [h1] at hL2
  refine ⟨.lands hL2 (.h Has.wh (.w rfl (.h (Has.ce rfl) (.nil)))), ?_⟩
  rw [h1]
  refine SQ.lands hL2 ?_
  refine SQ_call rfl Try.call78 (.cons rfl (.nil)) (CallsK.at (mess_rints rp s2 s3 0 h2 (by omega) (by omega))) (lts rfl) ?_
  rintro _ L3 ⟨a3, c3, rfl, hL3⟩
  change Lands L3 (rowP 3 1 a3 0 c3 [] :: At readerI rp s3 :: _) at hL3
  refine ⟨.lands hL3 (.w rfl (.h (Has.ce rfl) (.h (Has.ce rfl) (.nil)))), ?_⟩
  refine SQ.lands hL3 ?_
  refine SQ_pu rfl (RD_build (.cons rfl (.cons rfl (.cons rfl (.nil)))) built26_0_1_2) rfl ?_
  refine SQ_ox0 rfl (OX_stA (vs := [.int .i64 (IntKind.i64.wrap ((0 : Nat) : Int)), .int .i64 (IntKind.i64.wrap ((0 : Nat) : Int)), .slice a3 0 c3]) Try.sizeOf26 rfl rfl rfl rfl) ?_
  rintro _ _ rfl
  refine ⟨.w rfl (.w rfl (.w rfl (.nil))), ?_⟩
  refine SQ_nil ?_
  refine SN.le (l := [(2, _)]) ?_ (.cons rfl (.nil))
  refine SN_seq ?_
  refine SC_retC rfl Try.isAgg26 Try.sizeOf26 rfl rfl Has.wh ?_
  exact ⟨a3, c3, rfl, .fin⟩

theorem mess_renv {W : World} {F : List HProp} [Abs F] (rp : Nat) (s s1 s2 s3 s4 : List UInt8 × Bool) (h0 : rdNum s = (0, s1)) (h1 : rdNum s1 = (0, s2)) (h2 : rdNum s2 = (0, s3)) (h3 : rdNum s3 = (0, s4)) (hl : s.1.length ≤ 1000) :
    CallsK W Try.prog 81 #[.agg #[.pointer (some ⟨rp, 0, none⟩), .int .i64 160]] (At readerI rp s :: F) (fun v L => v = .agg #[.int .i64 0, .int .u64 0, .int .u64 0, .int .i64 0] ∧ Lands L (At readerI rp s4 :: F)) := by
  refine CallsK_enter (n := 16) Try.func81 rfl rfl rfl ?_
  have hl1 : s1.1.length ≤ 1000 := by have := rdNum_len s; rw [h0] at this; dsimp only at this; omega
  have hl2 : s2.1.length ≤ 1000 := by have := rdNum_len s1; rw [h1] at this; dsimp only at this; omega
  have hl3 : s3.1.length ≤ 1000 := by have := rdNum_len s2; rw [h2] at this; dsimp only at this; omega
  refine SC_seq ?_
  refine SC_region ?_
  refine SR_ox (OX_box rfl rfl) rfl ?_
  rintro _ _ ⟨b1, rfl, rfl⟩
  refine SR_ox (OX_alloc Try.zeroValue51 rfl) rfl ?_
  rintro _ _ ⟨b2, rfl, rfl⟩
  refine SR_nil ?_
  refine SN.le (l := [(1, _), (2, _)]) ?_ (.cons rfl (.cons rfl (.nil)))
  refine SN_seq ?_
  refine SC_seq ?_
  refine SC_drawn (.cons 0 true (.cons 1 true (.cons 3 true (.cons 4 true (.cons 6 true (.cons 7 true (.cons 9 true (.cons 10 true (.cons 2 false (.cons 5 false (.cons 8 false (.cons 11 false (.cons 12 true (.cons 13 false (.nil))))))))))))))) (by kernel_rfl) (by kernel_rfl) ?_
  first
    | refine SQ_pu rfl (RD_fieldAddr0 Try.runUnderlying135 rfl rfl Try.sizeOf132 rfl) rfl ?_
    | refine SQ_rd rfl (RD_fieldAddrO 0 Try.runUnderlying135 rfl rfl Try.sizeOf132 rfl (by simp <;> omega)) Has.ro rfl ?_
  refine SQ_rd rfl (RD_load Try.isAgg132 rfl) (Has.ce rfl) rfl ?_
  first
    | refine SQ_pu rfl (RD_fieldAddr0 Try.runUnderlying135 rfl rfl Try.sizeOf132 rfl) rfl ?_
    | refine SQ_rd rfl (RD_fieldAddrO 0 Try.runUnderlying135 rfl rfl Try.sizeOf132 rfl (by simp <;> omega)) Has.ro rfl ?_
  refine SQ_rd rfl (RD_load Try.isAgg132 rfl) (Has.ce rfl) rfl ?_
  first
    | refine SQ_pu rfl (RD_fieldAddr0 Try.runUnderlying135 rfl rfl Try.sizeOf132 rfl) rfl ?_
    | refine SQ_rd rfl (RD_fieldAddrO 0 Try.runUnderlying135 rfl rfl Try.sizeOf132 rfl (by simp <;> omega)) Has.ro rfl ?_
  refine SQ_rd rfl (RD_load Try.isAgg132 rfl) (Has.ce rfl) rfl ?_
  first
    | refine SQ_pu rfl (RD_fieldAddr0 Try.runUnderlying135 rfl rfl Try.sizeOf132 rfl) rfl ?_
    | refine SQ_rd rfl (RD_fieldAddrO 0 Try.runUnderlying135 rfl rfl Try.sizeOf132 rfl (by simp <;> omega)) Has.ro rfl ?_
  refine SQ_rd rfl (RD_load Try.isAgg132 rfl) (Has.ce rfl) rfl ?_
  refine SQ_call rfl Try.call80 (.cons rfl (.nil)) (CallsK.at (reader_Int rp (s) (by omega))) (lts rfl) ?_
  rintro _ L1 ⟨rfl, hL1⟩
  rw [h0] at hL1
  refine ⟨.lands hL1 (.h (Has.ce rfl) (.h (Has.ce rfl) (.h (Has.ce rfl) (.w rfl (.nil))))), ?_⟩
  rw [h0]
  refine SQ.lands hL1 ?_
  refine SQ_call rfl Try.call94 (.cons rfl (.nil)) (CallsK.at (reader_Num rp (s1) (by omega))) (lts rfl) ?_
  rintro _ L2 ⟨rfl, hL2⟩
  rw [h1] at hL2
  refine ⟨.lands hL2 (.h (Has.ce rfl) (.h (Has.ce rfl) (.w rfl (.h (Has.ce rfl) (.nil))))), ?_⟩
  rw [h1]
  refine SQ.lands hL2 ?_
  refine SQ_call rfl Try.call94 (.cons rfl (.nil)) (CallsK.at (reader_Num rp (s2) (by omega))) (lts rfl) ?_
  rintro _ L3 ⟨rfl, hL3⟩
  rw [h2] at hL3
  refine ⟨.lands hL3 (.h (Has.ce rfl) (.w rfl (.h (Has.ce rfl) (.h (Has.ce rfl) (.nil))))), ?_⟩
  rw [h2]
  refine SQ.lands hL3 ?_
  refine SQ_call rfl Try.call80 (.cons rfl (.nil)) (CallsK.at (reader_Int rp (s3) (by omega))) (lts rfl) ?_
  rintro _ L4 ⟨rfl, hL4⟩
  rw [h3] at hL4
  refine ⟨.lands hL4 (.w rfl (.h (Has.ce rfl) (.h (Has.ce rfl) (.h (Has.ce rfl) (.nil))))), ?_⟩
  rw [h3]
  refine SQ.lands hL4 ?_
  refine SQ_pu rfl (RD_build (.cons rfl (.cons rfl (.cons rfl (.cons rfl (.nil))))) built51_0_1_2_3) rfl ?_
  refine SQ_ox0 rfl (OX_stA (vs := [.int .i64 (IntKind.i64.wrap ((0 : Nat) : Int)), .int .u64 ((0 : Nat) : Int), .int .u64 ((0 : Nat) : Int), .int .i64 (IntKind.i64.wrap ((0 : Nat) : Int))]) Try.sizeOf51 rfl rfl rfl rfl) ?_
  rintro _ _ rfl
  refine ⟨.w rfl (.w rfl (.w rfl (.w rfl (.nil)))), ?_⟩
  refine SQ_nil ?_
  refine SN.le (l := [(2, _)]) ?_ (.cons rfl (.nil))
  refine SN_seq ?_
  refine SC_retC rfl Try.isAgg51 Try.sizeOf51 rfl rfl Has.wh ?_
  exact ⟨rfl, .fin⟩

end Go.Proofs.Ytmigjpmadhebfaa
