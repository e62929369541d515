/- The trades' forms: their fields, their code, and back. -/
import Derived.Test.YtnifaajdiolbjaaWl1
import Derived.Laws.StructEq
import Derived.Test.YtnifaajdiolbjaaSl15
namespace Go.Proofs.Ytnifaajdiolbjaa
open Go Go.Proofs
set_option maxRecDepth 100000
/-- A trade. -/
structure TxD where
  kind : Int
  asset : Int
  to : Int
  buy : Bool
  price : Int
  qty : Int
  id : Int
def TxD.cells (t : TxD) : List Value := [.int .i64 t.kind, .int .i64 t.asset, .int .i64 t.to, .bool t.buy, .int .u64 t.price, .int .u64 t.qty, .int .i64 t.id]
def TxD.val (t : TxD) : Value := .agg t.cells.toArray
def TxD.same (s t : TxD) : Bool := s.kind == t.kind && (s.asset == t.asset && (s.to == t.to && (s.buy == t.buy && (s.price == t.price && (s.qty == t.qty && s.id == t.id)))))
theorem TxD.same_iff {s t : TxD} : s.same t = true ↔ s = t := by
  cases s; cases t
  simp [TxD.same]
theorem run_eqTx (s t : TxD) (w : World) : (Op.equalIn 10000 87 s.val t.val).run Try.prog w = .ok (s.same t) w := by
  have u3 := Try.underlying3
  have a3 := Try.isAgg3
  have z3 := Try.sizeOf3
  have u4 := Try.underlying4
  have a4 := Try.isAgg4
  have z4 := Try.sizeOf4
  have u41 := Try.underlying37
  have a41 := Try.isAgg37
  have z41 := Try.sizeOf37
  have hS : Try.prog.underlying 87 = some (.struct (Try.prog.fieldsOf 87)) := by kernel_rfl
  have hp : Try.prog.stoodInHeld 87 = false := by kernel_rfl
  rw [show (10000 : Nat) = 9999 + 1 from rfl, TxD.val, TxD.val, run_equalIn_agg w 9999 87 _ _ hS hp]
  simp only [Program.fieldsOf, Try.underlying87, TxD.cells]
  go_simp
  obtain ⟨k, m, to, b, p, q, i⟩ := s
  obtain ⟨k', m', to', b', p', q', i'⟩ := t
  by_cases h1 : k = k' <;> by_cases h2 : m = m' <;> by_cases h3 : to = to' <;> by_cases h4 : b = b' <;> by_cases h5 : p = p' <;> by_cases h6 : q = q' <;> by_cases h7 : i = i' <;> simp [h1, h2, h3, h4, h5, h6, h7, TxD.same]

instance (t : TxD) : Ones t.cells := by unfold TxD.cells; infer_instance
def txZero : TxD := ⟨0, 0, 0, false, 0, 0, 0⟩
/-- The fields that a kind has. -/
def TxD.fields (t : TxD) : Option TxD :=
  if t.kind = 1 ∨ t.kind = 2 then some ⟨t.kind, t.asset, 0, false, 0, t.qty, 0⟩
  else if t.kind = 3 then some ⟨t.kind, t.asset, t.to, false, 0, t.qty, 0⟩
  else if t.kind = 4 ∨ t.kind = 5 then some ⟨t.kind, 0, 0, t.buy, t.price, t.qty, 0⟩
  else if t.kind = 6 then some ⟨t.kind, 0, 0, false, 0, 0, t.id⟩
  else none
def within (x m : Int) : Bool := decide (0 ≤ x) && decide (x ≤ m)
def TxD.ok (t : TxD) : Bool := match t.fields with
  | none => false
  | some u => u.same t && within t.asset 1 && within t.to 2147483647 && within t.id 2147483647

theorem tx_within {W : World} {F : List HProp} [Abs F] (x m : Int) :
    CallsK W Try.prog 105 #[.int .i64 x, .int .i64 m] (F) (fun v L => v = .bool (within x m) ∧ Lands L F) := by
  refine CallsK_enter (n := 12) Try.func105 rfl rfl rfl ?_
  refine SC_seq ?_
  refine SC_region ?_
  refine SR_pu (RD_assign rfl) rfl ?_
  refine SR_nil ?_
  refine SN.le (l := [(0, _), (1, _)]) ?_ (.cons rfl (.cons rfl (.nil)))
  refine SN_seq ?_
  refine SC_seq ?_
  refine SC_region ?_
  refine SR_pu (RD_move rfl) rfl ?_
  refine SR_pu (RD_geq rfl rfl) rfl ?_
  refine SR_pu (RD_move rfl) rfl ?_
  refine SR_guard rfl rfl (fun hg1_2 => ?_) (fun hg1_2 => ?_)
  · refine SR_yes rfl rfl (hg1_2) ?_
    refine SR_pu (RD_move rfl) rfl ?_
    refine SR_yes rfl rfl (hg1_2) ?_
    refine SR_pu (RD_move rfl) rfl ?_
    refine SR_yes rfl rfl (hg1_2) ?_
    refine SR_pu (RD_leq rfl rfl) rfl ?_
    refine SR_pu (RD_pick_t rfl (hg1_2) rfl) rfl ?_
    refine SR_pu (RD_assign rfl) rfl ?_
    refine SR_nil ?_
    refine SN.le (l := [(4, _)]) ?_ (.cons rfl (.nil))
    refine SN_seq ?_
    refine SC_ret1 rfl rfl ?_
    exact ⟨by unfold within; rw [hg1_2]; simp, .fin⟩
  · refine SR_no rfl rfl (hg1_2) (lts rfl) ?_
    refine SR_no rfl rfl (hg1_2) (lts rfl) ?_
    refine SR_no rfl rfl (hg1_2) (lts rfl) ?_
    refine SR_pu (RD_pick_f rfl (hg1_2) rfl) rfl ?_
    refine SR_pu (RD_assign rfl) rfl ?_
    refine SR_nil ?_
    refine SN.le (l := [(4, _)]) ?_ (.cons rfl (.nil))
    refine SN_seq ?_
    refine SC_ret1 rfl rfl ?_
    exact ⟨by unfold within; rw [hg1_2]; simp, .fin⟩

theorem tx_fields {W : World} {F : List HProp} [Abs F] (t : TxD) :
    CallsK W Try.prog 104 #[t.val] (F) (fun v L => v = .tuple #[(t.fields.getD txZero).val, .bool t.fields.isSome] ∧ Lands L F) := by
  refine CallsK_enter (n := 49) Try.func104 rfl rfl rfl ?_
  refine SC_seq ?_
  refine SC_region ?_
  refine SR_ox (OX_box rfl rfl) rfl ?_
  rintro _ _ ⟨b1, rfl, rfl⟩
  refine SR_ox (OX_alloc Try.zeroValue87 rfl) rfl ?_
  rintro _ _ ⟨b2, rfl, rfl⟩
  refine SR_pu (RD_assign rfl) rfl ?_
  refine SR_nil ?_
  refine SN.le (l := [(1, _), (2, _)]) ?_ (.cons rfl (.cons rfl (.nil)))
  refine SN_seq ?_
  refine SC_seq ?_
  refine SC_region ?_
  first
    | refine SR_pu (RD_fieldAddr0 Try.runUnderlying87 rfl rfl Try.sizeOf3 rfl) rfl ?_
    | refine SR_rd (RD_fieldAddrO 0 Try.runUnderlying87 rfl rfl Try.sizeOf3 rfl (by simp <;> omega)) Has.ro rfl ?_
  refine SR_rd (RD_load Try.isAgg3 rfl) (Has.ce rfl) rfl ?_
  refine SR_pu (RD_build (.cons rfl (.nil)) built87_0) rfl ?_
  refine SR_ox (OX_alloc Try.zeroValue87 rfl) rfl ?_
  rintro _ _ ⟨b4, rfl, rfl⟩
  refine SR_ox0 (OX_stA Try.sizeOf87 rfl rfl rfl rfl) ?_
  rintro _ _ rfl
  refine SR_nil ?_
  refine SN.le (l := [(1, _), (2, _), (4, _)]) ?_ (.cons rfl (.cons rfl (.cons rfl (.nil))))
  refine SN_seq ?_
  refine SC_seq ?_
  refine SC_seq ?_
  refine SC_region ?_
  first
    | refine SR_pu (RD_fieldAddr0 Try.runUnderlying87 rfl rfl Try.sizeOf3 rfl) rfl ?_
    | refine SR_rd (RD_fieldAddrO 0 Try.runUnderlying87 rfl rfl Try.sizeOf3 rfl (by simp <;> omega)) Has.ro rfl ?_
  refine SR_rd (RD_load Try.isAgg3 rfl) (Has.ce rfl) rfl ?_
  refine SR_nil ?_
  refine SN.le (l := [(1, _), (2, _), (4, _), (9, _)]) ?_ (.cons rfl (.cons rfl (.cons rfl (.cons rfl (.nil)))))
  refine SN_seq ?_
  refine SC_block ?_
  refine SC_seq ?_
  refine SC_seq ?_
  refine SC_region ?_
  refine SR_pu (RD_eql rfl rfl) rfl ?_
  refine SR_pu (RD_assign rfl) rfl ?_
  refine SR_nil ?_
  refine SN.le (l := [(1, _), (2, _), (4, _), (9, _), (11, _)]) ?_ (.cons rfl (.cons rfl (.cons rfl (.cons rfl (.cons rfl (.nil))))))
  refine SN_seq ?_
  refine SC_cond rfl (fun hA11 => ?_) (fun hA11 => ?_)
  · have hk : t.kind = 1 := by simpa using hA11
    refine SC_skip ?_
    refine SN_seq ?_
    refine SC_cond_true rfl (hA11) ?_
    refine SC_drawn (.cons 0 true (.cons 1 true (.cons 2 true (.cons 3 true (.cons 4 true (.cons 5 false (.cons 6 true (.cons 7 false (.nil))))))))) (by kernel_rfl) (by kernel_rfl) ?_
    first
      | refine SQ_pu rfl (RD_fieldAddr 1 Try.runUnderlying87 rfl rfl Try.sizeOf3 rfl) rfl ?_
      | refine SQ_rd rfl (RD_fieldAddrO 1 Try.runUnderlying87 rfl rfl Try.sizeOf3 rfl (by simp <;> omega)) Has.ro rfl ?_
    refine SQ_rd rfl (RD_load Try.isAgg3 rfl) (Has.ce rfl) rfl ?_
    first
      | refine SQ_pu rfl (RD_fieldAddr 5 Try.runUnderlying87 rfl rfl Try.sizeOf37 rfl) rfl ?_
      | refine SQ_rd rfl (RD_fieldAddrO 5 Try.runUnderlying87 rfl rfl Try.sizeOf37 rfl (by simp <;> omega)) Has.ro rfl ?_
    refine SQ_rd rfl (RD_load Try.isAgg37 rfl) (Has.ce rfl) rfl ?_
    first
      | refine SQ_pu rfl (RD_fieldAddr 1 Try.runUnderlying87 rfl rfl Try.sizeOf3 rfl) rfl ?_
      | refine SQ_rd rfl (RD_fieldAddrO 1 Try.runUnderlying87 rfl rfl Try.sizeOf3 rfl (by simp <;> omega)) Has.ro rfl ?_
    refine SQ_ox0 rfl (OX_st Try.sizeOf3 rfl rfl) ?_
    rintro _ _ rfl
    refine ⟨.h (Has.ce rfl) (.w rfl (.nil)), ?_⟩
    first
      | refine SQ_pu rfl (RD_fieldAddr 5 Try.runUnderlying87 rfl rfl Try.sizeOf37 rfl) rfl ?_
      | refine SQ_rd rfl (RD_fieldAddrO 5 Try.runUnderlying87 rfl rfl Try.sizeOf37 rfl (by simp <;> omega)) Has.ro rfl ?_
    refine SQ_ox0 rfl (OX_st Try.sizeOf37 rfl rfl) ?_
    rintro _ _ rfl
    refine ⟨.w rfl (.w rfl (.nil)), ?_⟩
    refine SQ_nil ?_
    refine SN.le (l := [(2, _), (4, _)]) ?_ (.cons rfl (.cons rfl (.nil)))
    refine SN_block ?_
    refine SN_seq ?_
    refine SC_seq ?_
    refine SC_region ?_
    refine SR_rd (RD_loadA Try.isAgg87 Try.sizeOf87 rfl rfl) Has.wh rfl ?_
    refine SR_ox0 (OX_stA Try.sizeOf87 rfl rfl rfl rfl) ?_
    rintro _ _ rfl
    refine SR_pu (RD_assign rfl) rfl ?_
    refine SR_nil ?_
    refine SN.le (l := [(2, _), (3, _)]) ?_ (.cons rfl (.cons rfl (.nil)))
    refine SN_seq ?_
    refine SC_retCT rfl Try.isAgg87 Try.sizeOf87 rfl rfl rfl Has.wh ?_
    exact ⟨by simp [TxD.fields, hk, TxD.val, TxD.cells], .fin⟩
  · have hn1 : ¬ t.kind = 1 := by simpa using hA11
    refine SC_region ?_
    refine SR_pu (RD_eql rfl rfl) rfl ?_
    refine SR_pu (RD_assign rfl) rfl ?_
    refine SR_nil ?_
    refine SN.le (l := [(1, _), (2, _), (4, _), (9, _), (11, _)]) ?_ (.cons rfl (.cons rfl (.cons rfl (.cons rfl (.cons rfl (.nil))))))
    refine SN_seq ?_
    refine SC_cond rfl (fun hB11 => ?_) (fun hB11 => ?_)
    · have hk : t.kind = 2 := by simpa using hB11
      refine SC_drawn (.cons 0 true (.cons 1 true (.cons 2 true (.cons 3 true (.cons 4 true (.cons 5 false (.cons 6 true (.cons 7 false (.nil))))))))) (by kernel_rfl) (by kernel_rfl) ?_
      first
        | refine SQ_pu rfl (RD_fieldAddr 1 Try.runUnderlying87 rfl rfl Try.sizeOf3 rfl) rfl ?_
        | refine SQ_rd rfl (RD_fieldAddrO 1 Try.runUnderlying87 rfl rfl Try.sizeOf3 rfl (by simp <;> omega)) Has.ro rfl ?_
      refine SQ_rd rfl (RD_load Try.isAgg3 rfl) (Has.ce rfl) rfl ?_
      first
        | refine SQ_pu rfl (RD_fieldAddr 5 Try.runUnderlying87 rfl rfl Try.sizeOf37 rfl) rfl ?_
        | refine SQ_rd rfl (RD_fieldAddrO 5 Try.runUnderlying87 rfl rfl Try.sizeOf37 rfl (by simp <;> omega)) Has.ro rfl ?_
      refine SQ_rd rfl (RD_load Try.isAgg37 rfl) (Has.ce rfl) rfl ?_
      first
        | refine SQ_pu rfl (RD_fieldAddr 1 Try.runUnderlying87 rfl rfl Try.sizeOf3 rfl) rfl ?_
        | refine SQ_rd rfl (RD_fieldAddrO 1 Try.runUnderlying87 rfl rfl Try.sizeOf3 rfl (by simp <;> omega)) Has.ro rfl ?_
      refine SQ_ox0 rfl (OX_st Try.sizeOf3 rfl rfl) ?_
      rintro _ _ rfl
      refine ⟨.h (Has.ce rfl) (.w rfl (.nil)), ?_⟩
      first
        | refine SQ_pu rfl (RD_fieldAddr 5 Try.runUnderlying87 rfl rfl Try.sizeOf37 rfl) rfl ?_
        | refine SQ_rd rfl (RD_fieldAddrO 5 Try.runUnderlying87 rfl rfl Try.sizeOf37 rfl (by simp <;> omega)) Has.ro rfl ?_
      refine SQ_ox0 rfl (OX_st Try.sizeOf37 rfl rfl) ?_
      rintro _ _ rfl
      refine ⟨.w rfl (.w rfl (.nil)), ?_⟩
      refine SQ_nil ?_
      refine SN.le (l := [(2, _), (4, _)]) ?_ (.cons rfl (.cons rfl (.nil)))
      refine SN_block ?_
      refine SN_seq ?_
      refine SC_seq ?_
      refine SC_region ?_
      refine SR_rd (RD_loadA Try.isAgg87 Try.sizeOf87 rfl rfl) Has.wh rfl ?_
      refine SR_ox0 (OX_stA Try.sizeOf87 rfl rfl rfl rfl) ?_
      rintro _ _ rfl
      refine SR_pu (RD_assign rfl) rfl ?_
      refine SR_nil ?_
      refine SN.le (l := [(2, _), (3, _)]) ?_ (.cons rfl (.cons rfl (.nil)))
      refine SN_seq ?_
      refine SC_retCT rfl Try.isAgg87 Try.sizeOf87 rfl rfl rfl Has.wh ?_
      exact ⟨by simp [TxD.fields, hk, TxD.val, TxD.cells], .fin⟩
    · have hn2 : ¬ t.kind = 2 := by simpa using hB11
      refine SC_seq ?_
      refine SC_region ?_
      refine SR_pu (RD_eql rfl rfl) rfl ?_
      refine SR_pu (RD_assign rfl) rfl ?_
      refine SR_nil ?_
      refine SN.le (l := [(1, _), (2, _), (4, _), (9, _), (20, _)]) ?_ (.cons rfl (.cons rfl (.cons rfl (.cons rfl (.cons rfl (.nil))))))
      refine SN_seq ?_
      refine SC_cond rfl (fun hA20 => ?_) (fun hA20 => ?_)
      · have hk : t.kind = 3 := by simpa using hA20
        refine SC_drawn (.cons 0 true (.cons 1 true (.cons 2 true (.cons 3 true (.cons 4 true (.cons 5 true (.cons 6 true (.cons 7 false (.cons 8 true (.cons 9 false (.cons 10 true (.cons 11 false (.nil))))))))))))) (by kernel_rfl) (by kernel_rfl) ?_
        first
          | refine SQ_pu rfl (RD_fieldAddr 2 Try.runUnderlying87 rfl rfl Try.sizeOf3 rfl) rfl ?_
          | refine SQ_rd rfl (RD_fieldAddrO 2 Try.runUnderlying87 rfl rfl Try.sizeOf3 rfl (by simp <;> omega)) Has.ro rfl ?_
        refine SQ_rd rfl (RD_load Try.isAgg3 rfl) (Has.ce rfl) rfl ?_
        first
          | refine SQ_pu rfl (RD_fieldAddr 1 Try.runUnderlying87 rfl rfl Try.sizeOf3 rfl) rfl ?_
          | refine SQ_rd rfl (RD_fieldAddrO 1 Try.runUnderlying87 rfl rfl Try.sizeOf3 rfl (by simp <;> omega)) Has.ro rfl ?_
        refine SQ_rd rfl (RD_load Try.isAgg3 rfl) (Has.ce rfl) rfl ?_
        first
          | refine SQ_pu rfl (RD_fieldAddr 5 Try.runUnderlying87 rfl rfl Try.sizeOf37 rfl) rfl ?_
          | refine SQ_rd rfl (RD_fieldAddrO 5 Try.runUnderlying87 rfl rfl Try.sizeOf37 rfl (by simp <;> omega)) Has.ro rfl ?_
        refine SQ_rd rfl (RD_load Try.isAgg37 rfl) (Has.ce rfl) rfl ?_
        first
          | refine SQ_pu rfl (RD_fieldAddr 2 Try.runUnderlying87 rfl rfl Try.sizeOf3 rfl) rfl ?_
          | refine SQ_rd rfl (RD_fieldAddrO 2 Try.runUnderlying87 rfl rfl Try.sizeOf3 rfl (by simp <;> omega)) Has.ro rfl ?_
        refine SQ_ox0 rfl (OX_st Try.sizeOf3 rfl rfl) ?_
        rintro _ _ rfl
        refine ⟨.h (Has.ce rfl) (.h (Has.ce rfl) (.w rfl (.nil))), ?_⟩
        first
          | refine SQ_pu rfl (RD_fieldAddr 1 Try.runUnderlying87 rfl rfl Try.sizeOf3 rfl) rfl ?_
          | refine SQ_rd rfl (RD_fieldAddrO 1 Try.runUnderlying87 rfl rfl Try.sizeOf3 rfl (by simp <;> omega)) Has.ro rfl ?_
        refine SQ_ox0 rfl (OX_st Try.sizeOf3 rfl rfl) ?_
        rintro _ _ rfl
        refine ⟨.h (Has.ce rfl) (.w rfl (.w rfl (.nil))), ?_⟩
        first
          | refine SQ_pu rfl (RD_fieldAddr 5 Try.runUnderlying87 rfl rfl Try.sizeOf37 rfl) rfl ?_
          | refine SQ_rd rfl (RD_fieldAddrO 5 Try.runUnderlying87 rfl rfl Try.sizeOf37 rfl (by simp <;> omega)) Has.ro rfl ?_
        refine SQ_ox0 rfl (OX_st Try.sizeOf37 rfl rfl) ?_
        rintro _ _ rfl
        refine ⟨.w rfl (.w rfl (.w rfl (.nil))), ?_⟩
        refine SQ_nil ?_
        refine SN.le (l := [(2, _), (4, _)]) ?_ (.cons rfl (.cons rfl (.nil)))
        refine SN_block ?_
        refine SN_seq ?_
        refine SC_seq ?_
        refine SC_region ?_
        refine SR_rd (RD_loadA Try.isAgg87 Try.sizeOf87 rfl rfl) Has.wh rfl ?_
        refine SR_ox0 (OX_stA Try.sizeOf87 rfl rfl rfl rfl) ?_
        rintro _ _ rfl
        refine SR_pu (RD_assign rfl) rfl ?_
        refine SR_nil ?_
        refine SN.le (l := [(2, _), (3, _)]) ?_ (.cons rfl (.cons rfl (.nil)))
        refine SN_seq ?_
        refine SC_retCT rfl Try.isAgg87 Try.sizeOf87 rfl rfl rfl Has.wh ?_
        exact ⟨by simp [TxD.fields, hk, TxD.val, TxD.cells], .fin⟩
      · have hn3 : ¬ t.kind = 3 := by simpa using hA20
        refine SC_seq ?_
        refine SC_seq ?_
        refine SC_region ?_
        refine SR_pu (RD_eql rfl rfl) rfl ?_
        refine SR_pu (RD_assign rfl) rfl ?_
        refine SR_nil ?_
        refine SN.le (l := [(1, _), (2, _), (4, _), (9, _), (31, _)]) ?_ (.cons rfl (.cons rfl (.cons rfl (.cons rfl (.cons rfl (.nil))))))
        refine SN_seq ?_
        refine SC_cond rfl (fun hA31 => ?_) (fun hA31 => ?_)
        · have hk : t.kind = 4 := by simpa using hA31
          refine SC_skip ?_
          refine SN_seq ?_
          refine SC_cond_true rfl (hA31) ?_
          refine SC_drawn (.cons 0 true (.cons 1 true (.cons 2 true (.cons 3 true (.cons 4 true (.cons 5 true (.cons 6 true (.cons 7 false (.cons 8 true (.cons 9 false (.cons 10 true (.cons 11 false (.nil))))))))))))) (by kernel_rfl) (by kernel_rfl) ?_
          first
            | refine SQ_pu rfl (RD_fieldAddr 3 Try.runUnderlying87 rfl rfl Try.sizeOf4 rfl) rfl ?_
            | refine SQ_rd rfl (RD_fieldAddrO 3 Try.runUnderlying87 rfl rfl Try.sizeOf4 rfl (by simp <;> omega)) Has.ro rfl ?_
          refine SQ_rd rfl (RD_load Try.isAgg4 rfl) (Has.ce rfl) rfl ?_
          first
            | refine SQ_pu rfl (RD_fieldAddr 4 Try.runUnderlying87 rfl rfl Try.sizeOf37 rfl) rfl ?_
            | refine SQ_rd rfl (RD_fieldAddrO 4 Try.runUnderlying87 rfl rfl Try.sizeOf37 rfl (by simp <;> omega)) Has.ro rfl ?_
          refine SQ_rd rfl (RD_load Try.isAgg37 rfl) (Has.ce rfl) rfl ?_
          first
            | refine SQ_pu rfl (RD_fieldAddr 5 Try.runUnderlying87 rfl rfl Try.sizeOf37 rfl) rfl ?_
            | refine SQ_rd rfl (RD_fieldAddrO 5 Try.runUnderlying87 rfl rfl Try.sizeOf37 rfl (by simp <;> omega)) Has.ro rfl ?_
          refine SQ_rd rfl (RD_load Try.isAgg37 rfl) (Has.ce rfl) rfl ?_
          first
            | refine SQ_pu rfl (RD_fieldAddr 3 Try.runUnderlying87 rfl rfl Try.sizeOf4 rfl) rfl ?_
            | refine SQ_rd rfl (RD_fieldAddrO 3 Try.runUnderlying87 rfl rfl Try.sizeOf4 rfl (by simp <;> omega)) Has.ro rfl ?_
          refine SQ_ox0 rfl (OX_st Try.sizeOf4 rfl rfl) ?_
          rintro _ _ rfl
          refine ⟨.h (Has.ce rfl) (.h (Has.ce rfl) (.w rfl (.nil))), ?_⟩
          first
            | refine SQ_pu rfl (RD_fieldAddr 4 Try.runUnderlying87 rfl rfl Try.sizeOf37 rfl) rfl ?_
            | refine SQ_rd rfl (RD_fieldAddrO 4 Try.runUnderlying87 rfl rfl Try.sizeOf37 rfl (by simp <;> omega)) Has.ro rfl ?_
          refine SQ_ox0 rfl (OX_st Try.sizeOf37 rfl rfl) ?_
          rintro _ _ rfl
          refine ⟨.h (Has.ce rfl) (.w rfl (.w rfl (.nil))), ?_⟩
          first
            | refine SQ_pu rfl (RD_fieldAddr 5 Try.runUnderlying87 rfl rfl Try.sizeOf37 rfl) rfl ?_
            | refine SQ_rd rfl (RD_fieldAddrO 5 Try.runUnderlying87 rfl rfl Try.sizeOf37 rfl (by simp <;> omega)) Has.ro rfl ?_
          refine SQ_ox0 rfl (OX_st Try.sizeOf37 rfl rfl) ?_
          rintro _ _ rfl
          refine ⟨.w rfl (.w rfl (.w rfl (.nil))), ?_⟩
          refine SQ_nil ?_
          refine SN.le (l := [(2, _), (4, _)]) ?_ (.cons rfl (.cons rfl (.nil)))
          refine SN_block ?_
          refine SN_seq ?_
          refine SC_seq ?_
          refine SC_region ?_
          refine SR_rd (RD_loadA Try.isAgg87 Try.sizeOf87 rfl rfl) Has.wh rfl ?_
          refine SR_ox0 (OX_stA Try.sizeOf87 rfl rfl rfl rfl) ?_
          rintro _ _ rfl
          refine SR_pu (RD_assign rfl) rfl ?_
          refine SR_nil ?_
          refine SN.le (l := [(2, _), (3, _)]) ?_ (.cons rfl (.cons rfl (.nil)))
          refine SN_seq ?_
          refine SC_retCT rfl Try.isAgg87 Try.sizeOf87 rfl rfl rfl Has.wh ?_
          exact ⟨by simp [TxD.fields, hk, TxD.val, TxD.cells], .fin⟩
        · have hn4 : ¬ t.kind = 4 := by simpa using hA31
          refine SC_region ?_
          refine SR_pu (RD_eql rfl rfl) rfl ?_
          refine SR_pu (RD_assign rfl) rfl ?_
          refine SR_nil ?_
          refine SN.le (l := [(1, _), (2, _), (4, _), (9, _), (31, _)]) ?_ (.cons rfl (.cons rfl (.cons rfl (.cons rfl (.cons rfl (.nil))))))
          refine SN_seq ?_
          refine SC_cond rfl (fun hB31 => ?_) (fun hB31 => ?_)
          · have hk : t.kind = 5 := by simpa using hB31
            refine SC_drawn (.cons 0 true (.cons 1 true (.cons 2 true (.cons 3 true (.cons 4 true (.cons 5 true (.cons 6 true (.cons 7 false (.cons 8 true (.cons 9 false (.cons 10 true (.cons 11 false (.nil))))))))))))) (by kernel_rfl) (by kernel_rfl) ?_
            first
              | refine SQ_pu rfl (RD_fieldAddr 3 Try.runUnderlying87 rfl rfl Try.sizeOf4 rfl) rfl ?_
              | refine SQ_rd rfl (RD_fieldAddrO 3 Try.runUnderlying87 rfl rfl Try.sizeOf4 rfl (by simp <;> omega)) Has.ro rfl ?_
            refine SQ_rd rfl (RD_load Try.isAgg4 rfl) (Has.ce rfl) rfl ?_
            first
              | refine SQ_pu rfl (RD_fieldAddr 4 Try.runUnderlying87 rfl rfl Try.sizeOf37 rfl) rfl ?_
              | refine SQ_rd rfl (RD_fieldAddrO 4 Try.runUnderlying87 rfl rfl Try.sizeOf37 rfl (by simp <;> omega)) Has.ro rfl ?_
            refine SQ_rd rfl (RD_load Try.isAgg37 rfl) (Has.ce rfl) rfl ?_
            first
              | refine SQ_pu rfl (RD_fieldAddr 5 Try.runUnderlying87 rfl rfl Try.sizeOf37 rfl) rfl ?_
              | refine SQ_rd rfl (RD_fieldAddrO 5 Try.runUnderlying87 rfl rfl Try.sizeOf37 rfl (by simp <;> omega)) Has.ro rfl ?_
            refine SQ_rd rfl (RD_load Try.isAgg37 rfl) (Has.ce rfl) rfl ?_
            first
              | refine SQ_pu rfl (RD_fieldAddr 3 Try.runUnderlying87 rfl rfl Try.sizeOf4 rfl) rfl ?_
              | refine SQ_rd rfl (RD_fieldAddrO 3 Try.runUnderlying87 rfl rfl Try.sizeOf4 rfl (by simp <;> omega)) Has.ro rfl ?_
            refine SQ_ox0 rfl (OX_st Try.sizeOf4 rfl rfl) ?_
            rintro _ _ rfl
            refine ⟨.h (Has.ce rfl) (.h (Has.ce rfl) (.w rfl (.nil))), ?_⟩
            first
              | refine SQ_pu rfl (RD_fieldAddr 4 Try.runUnderlying87 rfl rfl Try.sizeOf37 rfl) rfl ?_
              | refine SQ_rd rfl (RD_fieldAddrO 4 Try.runUnderlying87 rfl rfl Try.sizeOf37 rfl (by simp <;> omega)) Has.ro rfl ?_
            refine SQ_ox0 rfl (OX_st Try.sizeOf37 rfl rfl) ?_
            rintro _ _ rfl
            refine ⟨.h (Has.ce rfl) (.w rfl (.w rfl (.nil))), ?_⟩
            first
              | refine SQ_pu rfl (RD_fieldAddr 5 Try.runUnderlying87 rfl rfl Try.sizeOf37 rfl) rfl ?_
              | refine SQ_rd rfl (RD_fieldAddrO 5 Try.runUnderlying87 rfl rfl Try.sizeOf37 rfl (by simp <;> omega)) Has.ro rfl ?_
            refine SQ_ox0 rfl (OX_st Try.sizeOf37 rfl rfl) ?_
            rintro _ _ rfl
            refine ⟨.w rfl (.w rfl (.w rfl (.nil))), ?_⟩
            refine SQ_nil ?_
            refine SN.le (l := [(2, _), (4, _)]) ?_ (.cons rfl (.cons rfl (.nil)))
            refine SN_block ?_
            refine SN_seq ?_
            refine SC_seq ?_
            refine SC_region ?_
            refine SR_rd (RD_loadA Try.isAgg87 Try.sizeOf87 rfl rfl) Has.wh rfl ?_
            refine SR_ox0 (OX_stA Try.sizeOf87 rfl rfl rfl rfl) ?_
            rintro _ _ rfl
            refine SR_pu (RD_assign rfl) rfl ?_
            refine SR_nil ?_
            refine SN.le (l := [(2, _), (3, _)]) ?_ (.cons rfl (.cons rfl (.nil)))
            refine SN_seq ?_
            refine SC_retCT rfl Try.isAgg87 Try.sizeOf87 rfl rfl rfl Has.wh ?_
            exact ⟨by simp [TxD.fields, hk, TxD.val, TxD.cells], .fin⟩
          · have hn5 : ¬ t.kind = 5 := by simpa using hB31
            refine SC_seq ?_
            refine SC_region ?_
            refine SR_pu (RD_eql rfl rfl) rfl ?_
            refine SR_pu (RD_assign rfl) rfl ?_
            refine SR_nil ?_
            refine SN.le (l := [(1, _), (2, _), (4, _), (43, _)]) ?_ (.cons rfl (.cons rfl (.cons rfl (.cons rfl (.nil)))))
            refine SN_seq ?_
            refine SC_cond rfl (fun hA43 => ?_) (fun hA43 => ?_)
            · have hk : t.kind = 6 := by simpa using hA43
              refine SC_region ?_
              first
                | refine SR_pu (RD_fieldAddr 6 Try.runUnderlying87 rfl rfl Try.sizeOf3 rfl) rfl ?_
                | refine SR_rd (RD_fieldAddrO 6 Try.runUnderlying87 rfl rfl Try.sizeOf3 rfl (by simp <;> omega)) Has.ro rfl ?_
              refine SR_rd (RD_load Try.isAgg3 rfl) (Has.ce rfl) rfl ?_
              first
                | refine SR_pu (RD_fieldAddr 6 Try.runUnderlying87 rfl rfl Try.sizeOf3 rfl) rfl ?_
                | refine SR_rd (RD_fieldAddrO 6 Try.runUnderlying87 rfl rfl Try.sizeOf3 rfl (by simp <;> omega)) Has.ro rfl ?_
              refine SR_ox0 (OX_st Try.sizeOf3 rfl rfl) ?_
              rintro _ _ rfl
              refine SR_nil ?_
              refine SN.le (l := [(2, _), (4, _)]) ?_ (.cons rfl (.cons rfl (.nil)))
              refine SN_block ?_
              refine SN_seq ?_
              refine SC_seq ?_
              refine SC_region ?_
              refine SR_rd (RD_loadA Try.isAgg87 Try.sizeOf87 rfl rfl) Has.wh rfl ?_
              refine SR_ox0 (OX_stA Try.sizeOf87 rfl rfl rfl rfl) ?_
              rintro _ _ rfl
              refine SR_pu (RD_assign rfl) rfl ?_
              refine SR_nil ?_
              refine SN.le (l := [(2, _), (3, _)]) ?_ (.cons rfl (.cons rfl (.nil)))
              refine SN_seq ?_
              refine SC_retCT rfl Try.isAgg87 Try.sizeOf87 rfl rfl rfl Has.wh ?_
              exact ⟨by simp [TxD.fields, hk, TxD.val, TxD.cells], .fin⟩
            · have hn6 : ¬ t.kind = 6 := by simpa using hA43
              refine SC_seq ?_
              refine SC_region ?_
              refine SR_pu (RD_build (.nil) built87) rfl ?_
              refine SR_ox0 (OX_stA Try.sizeOf87 rfl rfl rfl rfl) ?_
              rintro _ _ rfl
              refine SR_pu (RD_assign rfl) rfl ?_
              refine SR_nil ?_
              refine SN.le (l := [(2, _), (3, _)]) ?_ (.cons rfl (.cons rfl (.nil)))
              refine SN_seq ?_
              refine SC_retCT rfl Try.isAgg87 Try.sizeOf87 rfl rfl rfl Has.wh ?_
              exact ⟨by simp [TxD.fields, hn1, hn2, hn3, hn4, hn5, hn6, TxD.val, TxD.cells, txZero], .fin⟩

theorem RD_eqlTx {P : Program} {l : Env} {ty : TypeId} {x y : Operand} {yt : TypeId} (s t : TxD) (hP : P = Try.prog) (hx : ev l x = some s.val) (hy : ev l y = some t.val) : RD P l (.binOp .eql 87 x y yt) ty RU (.bool (s.same t)) := fun ρ hρ w _ _ _ _ _ => by
  subst hP
  have hg : ∀ w, (eqGuard .eql 87 x y s.val t.val).run Try.prog w = .ok () w := fun w => run_eqGuard_agg w .eql 87 x y _ _ (by kernel_rfl)
  have he : ∀ w, (binOp .eql 87 s.val t.val).run Try.prog w = .ok (.bool (s.same t)) w := fun w => by
    show (binOp .eql 87 (.agg s.cells.toArray) (.agg t.cells.toArray)).run Try.prog w = _
    rw [run_eql_struct]
    have := run_eqTx s t w
    unfold TxD.val at this
    rw [this]; rfl
  simp [execOp, hρ x _ hx, hρ y _ hy, hg, he]

theorem tx_Ok {W : World} {F : List HProp} [Abs F] (t : TxD) :
    CallsK W Try.prog 103 #[t.val] (F) (fun v L => v = .bool t.ok ∧ Lands L F) := by
  refine CallsK_enter (n := 31) Try.func103 rfl rfl rfl ?_
  obtain ⟨f, hf⟩ : ∃ f, t.fields = f := ⟨_, rfl⟩
  refine SC_seq ?_
  refine SC_region ?_
  refine SR_ox (OX_box rfl rfl) rfl ?_
  rintro _ _ ⟨b1, rfl, rfl⟩
  refine SR_pu (RD_assign rfl) rfl ?_
  refine SR_nil ?_
  refine SN.le (l := [(1, _)]) ?_ (.cons rfl (.nil))
  refine SN_seq ?_
  refine SC_seq ?_
  refine SC_region ?_
  refine SR_rd (RD_loadA Try.isAgg87 Try.sizeOf87 rfl rfl) Has.wh rfl ?_
  refine SR_call Try.call104 (.cons rfl (.nil)) (tx_fields t) (lts rfl) ?_
  rintro _ L1 ⟨rfl, hL1⟩
  rw [hf]
  refine SR.lands hL1 ?_
  refine SR_pu (RD_move rfl) rfl ?_
  refine SR_pu (RD_extract rfl rfl) rfl ?_
  refine SR_pu (RD_extract rfl rfl) rfl ?_
  refine SR_ox (OX_alloc Try.zeroValue87 rfl) rfl ?_
  rintro _ _ ⟨b3, rfl, rfl⟩
  refine SR_ox0 (OX_stA Try.sizeOf87 rfl rfl rfl rfl) ?_
  rintro _ _ rfl
  refine SR_pu (RD_assign rfl) rfl ?_
  refine SR_nil ?_
  refine SN.le (l := [(1, _), (3, _), (4, _)]) ?_ (.cons rfl (.cons rfl (.cons rfl (.nil))))
  refine SN_seq ?_
  refine SC_seq ?_
  refine SC_region ?_
  refine SR_pu (RD_move rfl) rfl ?_
  refine SR_pu (RD_move rfl) rfl ?_
  refine SR_guard rfl rfl (fun hg2_1 => ?_) (fun hg2_1 => ?_)
  · refine SR_yes rfl rfl (hg2_1) ?_
    refine SR_rd (RD_loadA Try.isAgg87 Try.sizeOf87 rfl rfl) Has.wh rfl ?_
    refine SR_yes rfl rfl (hg2_1) ?_
    refine SR_rd (RD_loadA Try.isAgg87 Try.sizeOf87 rfl rfl) Has.wh rfl ?_
    refine SR_yes rfl rfl (hg2_1) ?_
    refine SR_pu (RD_eqlTx (f.getD txZero) t rfl rfl rfl) rfl ?_
    refine SR_pu (RD_pick_t rfl (hg2_1) rfl) rfl ?_
    refine SR_pu (RD_move rfl) rfl ?_
    refine SR_guard rfl rfl (fun hg2_6 => ?_) (fun hg2_6 => ?_)
    · refine SR_yes rfl rfl (hg2_6) ?_
      first
        | refine SR_pu (RD_fieldAddr 1 Try.runUnderlying87 rfl rfl Try.sizeOf3 rfl) rfl ?_
        | refine SR_rd (RD_fieldAddrO 1 Try.runUnderlying87 rfl rfl Try.sizeOf3 rfl (by simp <;> omega)) Has.ro rfl ?_
      refine SR_yes rfl rfl (hg2_6) ?_
      refine SR_rd (RD_load Try.isAgg3 rfl) (Has.ce rfl) rfl ?_
      refine SR_yes rfl rfl (hg2_6) ?_
      refine SR_call Try.call105 (.cons rfl (.cons rfl (.nil))) (tx_within _ _) (lts rfl) ?_
      rintro _ L2 ⟨rfl, hL2⟩
      refine SR.lands hL2 ?_
      refine SR_pu (RD_pick_t rfl (hg2_6) rfl) rfl ?_
      refine SR_pu (RD_move rfl) rfl ?_
      refine SR_guard rfl rfl (fun hg2_11 => ?_) (fun hg2_11 => ?_)
      · refine SR_yes rfl rfl (hg2_11) ?_
        first
          | refine SR_pu (RD_fieldAddr 2 Try.runUnderlying87 rfl rfl Try.sizeOf3 rfl) rfl ?_
          | refine SR_rd (RD_fieldAddrO 2 Try.runUnderlying87 rfl rfl Try.sizeOf3 rfl (by simp <;> omega)) Has.ro rfl ?_
        refine SR_yes rfl rfl (hg2_11) ?_
        refine SR_rd (RD_load Try.isAgg3 rfl) (Has.ce rfl) rfl ?_
        refine SR_yes rfl rfl (hg2_11) ?_
        refine SR_call Try.call105 (.cons rfl (.cons rfl (.nil))) (tx_within _ _) (lts rfl) ?_
        rintro _ L2 ⟨rfl, hL2⟩
        refine SR.lands hL2 ?_
        refine SR_pu (RD_pick_t rfl (hg2_11) rfl) rfl ?_
        refine SR_pu (RD_move rfl) rfl ?_
        refine SR_guard rfl rfl (fun hg2_16 => ?_) (fun hg2_16 => ?_)
        · refine SR_yes rfl rfl (hg2_16) ?_
          first
            | refine SR_pu (RD_fieldAddr 6 Try.runUnderlying87 rfl rfl Try.sizeOf3 rfl) rfl ?_
            | refine SR_rd (RD_fieldAddrO 6 Try.runUnderlying87 rfl rfl Try.sizeOf3 rfl (by simp <;> omega)) Has.ro rfl ?_
          refine SR_yes rfl rfl (hg2_16) ?_
          refine SR_rd (RD_load Try.isAgg3 rfl) (Has.ce rfl) rfl ?_
          refine SR_yes rfl rfl (hg2_16) ?_
          refine SR_call Try.call105 (.cons rfl (.cons rfl (.nil))) (tx_within _ _) (lts rfl) ?_
          rintro _ L2 ⟨rfl, hL2⟩
          refine SR.lands hL2 ?_
          refine SR_pu (RD_pick_t rfl (hg2_16) rfl) rfl ?_
          refine SR_pu (RD_assign rfl) rfl ?_
          refine SR_nil ?_
          refine SN.le (l := [(2, _)]) ?_ (.cons rfl (.nil))
          refine SN_seq ?_
          refine SC_ret1 rfl rfl ?_
          refine ⟨?_, .fin⟩
          cases f with
          | none => simp [TxD.ok, hf] at *
          | some u => (simp [TxD.ok, hf] at * <;> simp [*])
        · refine SR_no rfl rfl (hg2_16) (lts rfl) ?_
          refine SR_no rfl rfl (hg2_16) (lts rfl) ?_
          refine SR_no rfl rfl (hg2_16) (lts rfl) ?_
          refine SR_pu (RD_pick_f rfl (hg2_16) rfl) rfl ?_
          refine SR_pu (RD_assign rfl) rfl ?_
          refine SR_nil ?_
          refine SN.le (l := [(2, _)]) ?_ (.cons rfl (.nil))
          refine SN_seq ?_
          refine SC_ret1 rfl rfl ?_
          refine ⟨?_, .fin⟩
          cases f with
          | none => simp [TxD.ok, hf] at *
          | some u => (simp [TxD.ok, hf] at * <;> simp [*])
      · refine SR_no rfl rfl (hg2_11) (lts rfl) ?_
        refine SR_no rfl rfl (hg2_11) (lts rfl) ?_
        refine SR_no rfl rfl (hg2_11) (lts rfl) ?_
        refine SR_pu (RD_pick_f rfl (hg2_11) rfl) rfl ?_
        refine SR_pu (RD_move rfl) rfl ?_
        refine SR_no rfl rfl (rfl) (lts rfl) ?_
        refine SR_no rfl rfl (rfl) (lts rfl) ?_
        refine SR_no rfl rfl (rfl) (lts rfl) ?_
        refine SR_pu (RD_pick_f rfl (rfl) rfl) rfl ?_
        refine SR_pu (RD_assign rfl) rfl ?_
        refine SR_nil ?_
        refine SN.le (l := [(2, _)]) ?_ (.cons rfl (.nil))
        refine SN_seq ?_
        refine SC_ret1 rfl rfl ?_
        refine ⟨?_, .fin⟩
        cases f with
        | none => simp [TxD.ok, hf] at *
        | some u => (simp [TxD.ok, hf] at * <;> simp [*])
    · refine SR_no rfl rfl (hg2_6) (lts rfl) ?_
      refine SR_no rfl rfl (hg2_6) (lts rfl) ?_
      refine SR_no rfl rfl (hg2_6) (lts rfl) ?_
      refine SR_pu (RD_pick_f rfl (hg2_6) rfl) rfl ?_
      refine SR_pu (RD_move rfl) rfl ?_
      refine SR_no rfl rfl (rfl) (lts rfl) ?_
      refine SR_no rfl rfl (rfl) (lts rfl) ?_
      refine SR_no rfl rfl (rfl) (lts rfl) ?_
      refine SR_pu (RD_pick_f rfl (rfl) rfl) rfl ?_
      refine SR_pu (RD_move rfl) rfl ?_
      refine SR_no rfl rfl (rfl) (lts rfl) ?_
      refine SR_no rfl rfl (rfl) (lts rfl) ?_
      refine SR_no rfl rfl (rfl) (lts rfl) ?_
      refine SR_pu (RD_pick_f rfl (rfl) rfl) rfl ?_
      refine SR_pu (RD_assign rfl) rfl ?_
      refine SR_nil ?_
      refine SN.le (l := [(2, _)]) ?_ (.cons rfl (.nil))
      refine SN_seq ?_
      refine SC_ret1 rfl rfl ?_
      refine ⟨?_, .fin⟩
      cases f with
      | none => simp [TxD.ok, hf] at *
      | some u => (simp [TxD.ok, hf] at * <;> simp [*])
  · refine SR_no rfl rfl (hg2_1) (lts rfl) ?_
    refine SR_no rfl rfl (hg2_1) (lts rfl) ?_
    refine SR_no rfl rfl (hg2_1) (lts rfl) ?_
    refine SR_pu (RD_pick_f rfl (hg2_1) rfl) rfl ?_
    refine SR_pu (RD_move rfl) rfl ?_
    refine SR_no rfl rfl (rfl) (lts rfl) ?_
    refine SR_no rfl rfl (rfl) (lts rfl) ?_
    refine SR_no rfl rfl (rfl) (lts rfl) ?_
    refine SR_pu (RD_pick_f rfl (rfl) rfl) rfl ?_
    refine SR_pu (RD_move rfl) rfl ?_
    refine SR_no rfl rfl (rfl) (lts rfl) ?_
    refine SR_no rfl rfl (rfl) (lts rfl) ?_
    refine SR_no rfl rfl (rfl) (lts rfl) ?_
    refine SR_pu (RD_pick_f rfl (rfl) rfl) rfl ?_
    refine SR_pu (RD_move rfl) rfl ?_
    refine SR_no rfl rfl (rfl) (lts rfl) ?_
    refine SR_no rfl rfl (rfl) (lts rfl) ?_
    refine SR_no rfl rfl (rfl) (lts rfl) ?_
    refine SR_pu (RD_pick_f rfl (rfl) rfl) rfl ?_
    refine SR_pu (RD_assign rfl) rfl ?_
    refine SR_nil ?_
    refine SN.le (l := [(2, _)]) ?_ (.cons rfl (.nil))
    refine SN_seq ?_
    refine SC_ret1 rfl rfl ?_
    refine ⟨?_, .fin⟩
    cases f with
    | none => simp [TxD.ok, hf] at *
    | some u => (simp [TxD.ok, hf] at * <;> simp [*])

/-- The numbers fit their kinds. -/
structure TxD.Wf (t : TxD) : Prop where
  kind : I64 t.kind
  asset : I64 t.asset
  to : I64 t.to
  price : 0 ≤ t.price ∧ t.price < 18446744073709551616
  qty : 0 ≤ t.qty ∧ t.qty < 18446744073709551616
  id : I64 t.id
def TxD.code (t : TxD) : List UInt8 := [] ++ bei t.kind ++ bei t.asset ++ bei t.to ++ bei (if t.buy then 1 else 0) ++ bei t.price ++ bei t.qty ++ bei t.id
theorem TxD.code_len (t : TxD) : t.code.length = 56 := by simp [TxD.code, bei_length]

theorem tx_Code_no {W : World} {F : List HProp} [Abs F] (t : TxD) (hok : t.ok = false) :
    CallsK W Try.prog 100 #[t.val] (F) (fun v L => v = .tuple #[.slice none 0 0, .bool false] ∧ Lands L F) := by
  refine CallsK_enter (n := 41) Try.func100 rfl rfl rfl ?_
  refine SC_seq ?_
  refine SC_region ?_
  refine SR_ox (OX_box rfl rfl) rfl ?_
  rintro _ _ ⟨b1, rfl, rfl⟩
  refine SR_pu (RD_assign rfl) rfl ?_
  refine SR_pu (RD_assign rfl) rfl ?_
  refine SR_nil ?_
  refine SN.le (l := [(1, _)]) ?_ (.cons rfl (.nil))
  refine SN_seq ?_
  refine SC_seq ?_
  refine SC_seq ?_
  refine SC_region ?_
  refine SR_rd (RD_loadA Try.isAgg87 Try.sizeOf87 rfl rfl) Has.wh rfl ?_
  refine SR_call Try.call103 (.cons rfl (.nil)) (tx_Ok t) (lts rfl) ?_
  rintro _ L9 ⟨rfl, hL9⟩
  rw [hok]
  refine SR.lands hL9 ?_
  refine SR_pu (RD_not rfl) rfl ?_
  refine SR_nil ?_
  refine SN.le (l := [(1, _), (8, _)]) ?_ (.cons rfl (.cons rfl (.nil)))
  refine SN_seq ?_
  refine SC_cond_true rfl (rfl) ?_
  refine SC_seq ?_
  refine SC_region ?_
  refine SR_pu (RD_assign rfl) rfl ?_
  refine SR_pu (RD_assign rfl) rfl ?_
  refine SR_nil ?_
  refine SN.le (l := [(2, _), (3, _)]) ?_ (.cons rfl (.cons rfl (.nil)))
  refine SN_seq ?_
  refine SC_ret2 rfl rfl rfl ?_
  exact ⟨rfl, .fin⟩

theorem tx_Code_ok {W : World} {F : List HProp} [Abs F] (t : TxD) (hw : t.Wf) (hok : t.ok = true) :
    CallsK W Try.prog 100 #[t.val] (F) (fun v L => ∃ a c, v = .tuple #[.slice a 56 c, .bool true] ∧ Lands L (rowP 5 1 a 56 c (t.code.map byteV) :: F)) := by
  refine CallsK_enter (n := 41) Try.func100 rfl rfl rfl ?_
  refine SC_seq ?_
  refine SC_region ?_
  refine SR_ox (OX_box rfl rfl) rfl ?_
  rintro _ _ ⟨b1, rfl, rfl⟩
  refine SR_pu (RD_assign rfl) rfl ?_
  refine SR_pu (RD_assign rfl) rfl ?_
  refine SR_nil ?_
  refine SN.le (l := [(1, _)]) ?_ (.cons rfl (.nil))
  refine SN_seq ?_
  refine SC_seq ?_
  refine SC_seq ?_
  refine SC_region ?_
  refine SR_rd (RD_loadA Try.isAgg87 Try.sizeOf87 rfl rfl) Has.wh rfl ?_
  refine SR_call Try.call103 (.cons rfl (.nil)) (tx_Ok t) (lts rfl) ?_
  rintro _ L9 ⟨rfl, hL9⟩
  rw [hok]
  refine SR.lands hL9 ?_
  refine SR_pu (RD_not rfl) rfl ?_
  refine SR_nil ?_
  refine SN.le (l := [(1, _), (8, _)]) ?_ (.cons rfl (.cons rfl (.nil)))
  refine SN_seq ?_
  refine SC_cond_false rfl (rfl) ?_
  refine SC_skip ?_
  refine SN_seq ?_
  refine SC_seq ?_
  refine SC_region ?_
  refine SR_call Try.call69 (.nil) (wire_New) (lts rfl) ?_
  rintro _ L0 ⟨p, rfl, hL0⟩
  refine SR.lands hL0 ?_
  refine SR_pu (RD_assign rfl) rfl ?_
  refine SR_nil ?_
  refine SN.le (l := [(1, _), (4, _)]) ?_ (.cons rfl (.cons rfl (.nil)))
  refine SN_seq ?_
  refine SC_seq ?_
  refine SC_region ?_
  refine SR_pu (RD_move rfl) rfl ?_
  first
    | refine SR_pu (RD_fieldAddr0 Try.runUnderlying87 rfl rfl Try.sizeOf3 rfl) rfl ?_
    | refine SR_rd (RD_fieldAddrO 0 Try.runUnderlying87 rfl rfl Try.sizeOf3 rfl (by simp <;> omega)) Has.ro rfl ?_
  refine SR_rd (RD_load Try.isAgg3 rfl) (Has.ce rfl) rfl ?_
  refine SR_call Try.call71 (.cons rfl (.cons rfl (.nil))) (CallsK.at (wire_Int p ([]) (t.kind) (by simp [bei_length]))) (lts rfl) ?_
  rintro _ L1 ⟨rfl, hL1⟩
  refine SR.lands hL1 ?_
  refine SR_nil ?_
  refine SN.le (l := [(1, _), (4, _)]) ?_ (.cons rfl (.cons rfl (.nil)))
  refine SN_seq ?_
  refine SC_seq ?_
  refine SC_region ?_
  refine SR_pu (RD_move rfl) rfl ?_
  first
    | refine SR_pu (RD_fieldAddr 1 Try.runUnderlying87 rfl rfl Try.sizeOf3 rfl) rfl ?_
    | refine SR_rd (RD_fieldAddrO 1 Try.runUnderlying87 rfl rfl Try.sizeOf3 rfl (by simp <;> omega)) Has.ro rfl ?_
  refine SR_rd (RD_load Try.isAgg3 rfl) (Has.ce rfl) rfl ?_
  refine SR_call Try.call71 (.cons rfl (.cons rfl (.nil))) (CallsK.at (wire_Int p ([] ++ bei t.kind) (t.asset) (by simp [bei_length]))) (lts rfl) ?_
  rintro _ L2 ⟨rfl, hL2⟩
  refine SR.lands hL2 ?_
  refine SR_nil ?_
  refine SN.le (l := [(1, _), (4, _)]) ?_ (.cons rfl (.cons rfl (.nil)))
  refine SN_seq ?_
  refine SC_seq ?_
  refine SC_region ?_
  refine SR_pu (RD_move rfl) rfl ?_
  first
    | refine SR_pu (RD_fieldAddr 2 Try.runUnderlying87 rfl rfl Try.sizeOf3 rfl) rfl ?_
    | refine SR_rd (RD_fieldAddrO 2 Try.runUnderlying87 rfl rfl Try.sizeOf3 rfl (by simp <;> omega)) Has.ro rfl ?_
  refine SR_rd (RD_load Try.isAgg3 rfl) (Has.ce rfl) rfl ?_
  refine SR_call Try.call71 (.cons rfl (.cons rfl (.nil))) (CallsK.at (wire_Int p ([] ++ bei t.kind ++ bei t.asset) (t.to) (by simp [bei_length]))) (lts rfl) ?_
  rintro _ L3 ⟨rfl, hL3⟩
  refine SR.lands hL3 ?_
  refine SR_nil ?_
  refine SN.le (l := [(1, _), (4, _)]) ?_ (.cons rfl (.cons rfl (.nil)))
  refine SN_seq ?_
  refine SC_seq ?_
  refine SC_region ?_
  refine SR_pu (RD_assign rfl) rfl ?_
  refine SR_nil ?_
  refine SN.le (l := [(1, _), (4, _), (5, _)]) ?_ (.cons rfl (.cons rfl (.cons rfl (.nil))))
  refine SN_seq ?_
  refine SC_seq ?_
  refine SC_seq ?_
  refine SC_region ?_
  first
    | refine SR_pu (RD_fieldAddr 3 Try.runUnderlying87 rfl rfl Try.sizeOf4 rfl) rfl ?_
    | refine SR_rd (RD_fieldAddrO 3 Try.runUnderlying87 rfl rfl Try.sizeOf4 rfl (by simp <;> omega)) Has.ro rfl ?_
  refine SR_rd (RD_load Try.isAgg4 rfl) (Has.ce rfl) rfl ?_
  refine SR_nil ?_
  refine SN.le (l := [(1, _), (4, _), (5, _), (23, _)]) ?_ (.cons rfl (.cons rfl (.cons rfl (.cons rfl (.nil)))))
  refine SN_seq ?_
  refine SC_cond rfl (fun hc23 => ?_) (fun hc23 => ?_)
  · have hbuy : t.buy = true := hc23
    have hcode : t.code = [] ++ bei t.kind ++ bei t.asset ++ bei t.to ++ bei 1 ++ bei t.price ++ bei t.qty ++ bei t.id := by simp [TxD.code, hbuy]
    refine SC_region ?_
    refine SR_pu (RD_assign rfl) rfl ?_
    refine SR_nil ?_
    refine SN.le (l := [(1, _), (4, _), (5, _)]) ?_ (.cons rfl (.cons rfl (.cons rfl (.nil))))
    refine SN_seq ?_
    refine SC_seq ?_
    refine SC_region ?_
    refine SR_pu (RD_move rfl) rfl ?_
    refine SR_pu (RD_move rfl) rfl ?_
    refine SR_call Try.call71 (.cons rfl (.cons rfl (.nil))) (CallsK.at (wire_Int p ([] ++ bei t.kind ++ bei t.asset ++ bei t.to) (1) (by simp [bei_length]))) (lts rfl) ?_
    rintro _ L4 ⟨rfl, hL4⟩
    refine SR.lands hL4 ?_
    refine SR_nil ?_
    refine SN.le (l := [(1, _), (4, _)]) ?_ (.cons rfl (.cons rfl (.nil)))
    refine SN_seq ?_
    refine SC_seq ?_
    refine SC_region ?_
    refine SR_pu (RD_move rfl) rfl ?_
    first
      | refine SR_pu (RD_fieldAddr 4 Try.runUnderlying87 rfl rfl Try.sizeOf37 rfl) rfl ?_
      | refine SR_rd (RD_fieldAddrO 4 Try.runUnderlying87 rfl rfl Try.sizeOf37 rfl (by simp <;> omega)) Has.ro rfl ?_
    refine SR_rd (RD_load Try.isAgg37 rfl) (Has.ce rfl) rfl ?_
    refine SR_call Try.call72 (.cons rfl (.cons rfl (.nil))) (CallsK.at (wire_Num p ([] ++ bei t.kind ++ bei t.asset ++ bei t.to ++ bei 1) (t.price) hw.price (by simp [bei_length]))) (lts rfl) ?_
    rintro _ L5 ⟨rfl, hL5⟩
    refine SR.lands hL5 ?_
    refine SR_nil ?_
    refine SN.le (l := [(1, _), (4, _)]) ?_ (.cons rfl (.cons rfl (.nil)))
    refine SN_seq ?_
    refine SC_seq ?_
    refine SC_region ?_
    refine SR_pu (RD_move rfl) rfl ?_
    first
      | refine SR_pu (RD_fieldAddr 5 Try.runUnderlying87 rfl rfl Try.sizeOf37 rfl) rfl ?_
      | refine SR_rd (RD_fieldAddrO 5 Try.runUnderlying87 rfl rfl Try.sizeOf37 rfl (by simp <;> omega)) Has.ro rfl ?_
    refine SR_rd (RD_load Try.isAgg37 rfl) (Has.ce rfl) rfl ?_
    refine SR_call Try.call72 (.cons rfl (.cons rfl (.nil))) (CallsK.at (wire_Num p ([] ++ bei t.kind ++ bei t.asset ++ bei t.to ++ bei 1 ++ bei t.price) (t.qty) hw.qty (by simp [bei_length]))) (lts rfl) ?_
    rintro _ L6 ⟨rfl, hL6⟩
    refine SR.lands hL6 ?_
    refine SR_nil ?_
    refine SN.le (l := [(1, _), (4, _)]) ?_ (.cons rfl (.cons rfl (.nil)))
    refine SN_seq ?_
    refine SC_seq ?_
    refine SC_region ?_
    refine SR_pu (RD_move rfl) rfl ?_
    first
      | refine SR_pu (RD_fieldAddr 6 Try.runUnderlying87 rfl rfl Try.sizeOf3 rfl) rfl ?_
      | refine SR_rd (RD_fieldAddrO 6 Try.runUnderlying87 rfl rfl Try.sizeOf3 rfl (by simp <;> omega)) Has.ro rfl ?_
    refine SR_rd (RD_load Try.isAgg3 rfl) (Has.ce rfl) rfl ?_
    refine SR_call Try.call71 (.cons rfl (.cons rfl (.nil))) (CallsK.at (wire_Int p ([] ++ bei t.kind ++ bei t.asset ++ bei t.to ++ bei 1 ++ bei t.price ++ bei t.qty) (t.id) (by simp [bei_length]))) (lts rfl) ?_
    rintro _ L7 ⟨rfl, hL7⟩
    refine SR.lands hL7 ?_
    refine SR_nil ?_
    refine SN.le (l := [(4, _)]) ?_ (.cons rfl (.nil))
    refine SN_seq ?_
    refine SC_seq ?_
    refine SC_region ?_
    refine SR_pu (RD_move rfl) rfl ?_
    refine SR_call Try.call73 (.cons rfl (.nil)) (CallsK.at (wire_Bytes p ([] ++ bei t.kind ++ bei t.asset ++ bei t.to ++ bei 1 ++ bei t.price ++ bei t.qty ++ bei t.id) (by simp [bei_length]))) (lts rfl) ?_
    rintro _ L8 ⟨a40, c40, rfl, hL8⟩
    refine SR.lands hL8 ?_
    refine SR_pu (RD_assign rfl) rfl ?_
    refine SR_pu (RD_assign rfl) rfl ?_
    refine SR_nil ?_
    refine SN.le (l := [(2, _), (3, _)]) ?_ (.cons rfl (.cons rfl (.nil)))
    refine SN_seq ?_
    refine SC_ret2 rfl rfl rfl ?_
    have e56 := t.code_len
    rw [hcode] at e56
    exact ⟨_, _, rfl, by rw [hcode, ← e56]; exact .fin⟩
  · have hbuy : t.buy = false := hc23
    have hcode : t.code = [] ++ bei t.kind ++ bei t.asset ++ bei t.to ++ bei 0 ++ bei t.price ++ bei t.qty ++ bei t.id := by simp [TxD.code, hbuy]
    refine SC_skip ?_
    refine SN_seq ?_
    refine SC_seq ?_
    refine SC_region ?_
    refine SR_pu (RD_move rfl) rfl ?_
    refine SR_pu (RD_move rfl) rfl ?_
    refine SR_call Try.call71 (.cons rfl (.cons rfl (.nil))) (CallsK.at (wire_Int p ([] ++ bei t.kind ++ bei t.asset ++ bei t.to) (0) (by simp [bei_length]))) (lts rfl) ?_
    rintro _ L4 ⟨rfl, hL4⟩
    refine SR.lands hL4 ?_
    refine SR_nil ?_
    refine SN.le (l := [(1, _), (4, _)]) ?_ (.cons rfl (.cons rfl (.nil)))
    refine SN_seq ?_
    refine SC_seq ?_
    refine SC_region ?_
    refine SR_pu (RD_move rfl) rfl ?_
    first
      | refine SR_pu (RD_fieldAddr 4 Try.runUnderlying87 rfl rfl Try.sizeOf37 rfl) rfl ?_
      | refine SR_rd (RD_fieldAddrO 4 Try.runUnderlying87 rfl rfl Try.sizeOf37 rfl (by simp <;> omega)) Has.ro rfl ?_
    refine SR_rd (RD_load Try.isAgg37 rfl) (Has.ce rfl) rfl ?_
    refine SR_call Try.call72 (.cons rfl (.cons rfl (.nil))) (CallsK.at (wire_Num p ([] ++ bei t.kind ++ bei t.asset ++ bei t.to ++ bei 0) (t.price) hw.price (by simp [bei_length]))) (lts rfl) ?_
    rintro _ L5 ⟨rfl, hL5⟩
    refine SR.lands hL5 ?_
    refine SR_nil ?_
    refine SN.le (l := [(1, _), (4, _)]) ?_ (.cons rfl (.cons rfl (.nil)))
    refine SN_seq ?_
    refine SC_seq ?_
    refine SC_region ?_
    refine SR_pu (RD_move rfl) rfl ?_
    first
      | refine SR_pu (RD_fieldAddr 5 Try.runUnderlying87 rfl rfl Try.sizeOf37 rfl) rfl ?_
      | refine SR_rd (RD_fieldAddrO 5 Try.runUnderlying87 rfl rfl Try.sizeOf37 rfl (by simp <;> omega)) Has.ro rfl ?_
    refine SR_rd (RD_load Try.isAgg37 rfl) (Has.ce rfl) rfl ?_
    refine SR_call Try.call72 (.cons rfl (.cons rfl (.nil))) (CallsK.at (wire_Num p ([] ++ bei t.kind ++ bei t.asset ++ bei t.to ++ bei 0 ++ bei t.price) (t.qty) hw.qty (by simp [bei_length]))) (lts rfl) ?_
    rintro _ L6 ⟨rfl, hL6⟩
    refine SR.lands hL6 ?_
    refine SR_nil ?_
    refine SN.le (l := [(1, _), (4, _)]) ?_ (.cons rfl (.cons rfl (.nil)))
    refine SN_seq ?_
    refine SC_seq ?_
    refine SC_region ?_
    refine SR_pu (RD_move rfl) rfl ?_
    first
      | refine SR_pu (RD_fieldAddr 6 Try.runUnderlying87 rfl rfl Try.sizeOf3 rfl) rfl ?_
      | refine SR_rd (RD_fieldAddrO 6 Try.runUnderlying87 rfl rfl Try.sizeOf3 rfl (by simp <;> omega)) Has.ro rfl ?_
    refine SR_rd (RD_load Try.isAgg3 rfl) (Has.ce rfl) rfl ?_
    refine SR_call Try.call71 (.cons rfl (.cons rfl (.nil))) (CallsK.at (wire_Int p ([] ++ bei t.kind ++ bei t.asset ++ bei t.to ++ bei 0 ++ bei t.price ++ bei t.qty) (t.id) (by simp [bei_length]))) (lts rfl) ?_
    rintro _ L7 ⟨rfl, hL7⟩
    refine SR.lands hL7 ?_
    refine SR_nil ?_
    refine SN.le (l := [(4, _)]) ?_ (.cons rfl (.nil))
    refine SN_seq ?_
    refine SC_seq ?_
    refine SC_region ?_
    refine SR_pu (RD_move rfl) rfl ?_
    refine SR_call Try.call73 (.cons rfl (.nil)) (CallsK.at (wire_Bytes p ([] ++ bei t.kind ++ bei t.asset ++ bei t.to ++ bei 0 ++ bei t.price ++ bei t.qty ++ bei t.id) (by simp [bei_length]))) (lts rfl) ?_
    rintro _ L8 ⟨a40, c40, rfl, hL8⟩
    refine SR.lands hL8 ?_
    refine SR_pu (RD_assign rfl) rfl ?_
    refine SR_pu (RD_assign rfl) rfl ?_
    refine SR_nil ?_
    refine SN.le (l := [(2, _), (3, _)]) ?_ (.cons rfl (.cons rfl (.nil)))
    refine SN_seq ?_
    refine SC_ret2 rfl rfl rfl ?_
    have e56 := t.code_len
    rw [hcode] at e56
    exact ⟨_, _, rfl, by rw [hcode, ← e56]; exact .fin⟩

end Go.Proofs.Ytnifaajdiolbjaa
