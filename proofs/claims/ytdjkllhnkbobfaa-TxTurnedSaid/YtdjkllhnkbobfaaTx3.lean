/- The trades' forms: the laws. -/
import Derived.Test.YtdjkllhnkbobfaaTx2
import Derived.Test.YtdjkllhnkbobfaaWl3
namespace Go.Proofs.Ytdjkllhnkbobfaa
open Go Go.Proofs
set_option maxRecDepth 100000
def tA : TxD := ⟨4, 0, 0, true, 3, 258, 0⟩
theorem tA_ok : tA.ok = true := by decide +kernel
theorem tA_wf : tA.Wf := by refine ⟨?_, ?_, ?_, ?_, ?_, ?_⟩ <;> first | decide | (unfold I64; decide)
theorem tA_parse : parseTx tA.code = some tA := parseTx_code tA_wf tA_ok

theorem tA_at (k : Nat) (x : UInt8) (h : tA.code[k]? = some x) : (tA.code.map byteV)[(k : Int).toNat * (0 + 1)]? = some (byteV x) := by
  simp [h]

theorem tx_awake {W : World} {F : List HProp} [Abs F] :
    CallsK W Try.prog 33 #[] (F) (fun v L => v = .bool true ∧ Lands L F) := by
  refine CallsK_enter (n := 63) Try.func33 rfl rfl rfl ?_
  refine SC_seq ?_
  refine SC_region ?_
  refine SR_pu (RD_assign rfl) rfl ?_
  refine SR_nil ?_
  refine SN.le (l := []) ?_ (.nil)
  refine SN_seq ?_
  refine SC_seq ?_
  refine SC_region ?_
  refine SR_pu (RD_build (.cons rfl (.cons rfl (.cons rfl (.cons rfl (.nil))))) built54_0_3_4_5) rfl ?_
  refine SR_call Try.call30 (.cons rfl (.nil)) (tx_Code_ok tA tA_wf tA_ok) (lts rfl) ?_
  rintro _ L1 ⟨a1, c1, rfl, hL1⟩
  refine SR.lands hL1 ?_
  refine SR_pu (RD_move rfl) rfl ?_
  refine SR_pu (RD_extract rfl rfl) rfl ?_
  refine SR_pu (RD_extract rfl rfl) rfl ?_
  refine SR_pu (RD_assign rfl) rfl ?_
  refine SR_pu (RD_assign rfl) rfl ?_
  refine SR_nil ?_
  refine SN.le (l := [(1, _), (2, _)]) ?_ (.cons rfl (.cons rfl (.nil)))
  refine SN_seq ?_
  refine SC_seq ?_
  refine SC_region ?_
  refine SR_pu (RD_move rfl) rfl ?_
  refine SR_call Try.call31 (.cons rfl (.nil)) (tx_Parse tA.code a1 56 c1 rfl tA.code_len (by decide)) (lts rfl) ?_
  rintro _ L2 ⟨rfl, hL2⟩
  rw [tA_parse]
  refine SR.lands hL2 ?_
  refine SR_pu (RD_move rfl) rfl ?_
  refine SR_pu (RD_extract rfl rfl) rfl ?_
  refine SR_pu (RD_extract rfl rfl) rfl ?_
  refine SR_ox (OX_alloc Try.zeroValue54 rfl) rfl ?_
  rintro _ _ ⟨b3, rfl, rfl⟩
  refine SR_ox0 (OX_stA Try.sizeOf54 rfl rfl rfl rfl) ?_
  rintro _ _ rfl
  refine SR_pu (RD_assign rfl) rfl ?_
  refine SR_nil ?_
  refine SN.le (l := [(1, _), (2, _), (3, _), (4, _)]) ?_ (.cons rfl (.cons rfl (.cons rfl (.cons rfl (.nil)))))
  refine SN_seq ?_
  refine SC_seq ?_
  refine SC_region ?_
  refine SR_pu (RD_move rfl) rfl ?_
  refine SR_pu (RD_move rfl) rfl ?_
  refine SR_yes rfl rfl (rfl) ?_
  refine SR_pu (RD_move rfl) rfl ?_
  refine SR_yes rfl rfl (rfl) ?_
  refine SR_pu (RD_len Try.runUnderlying25 rfl) rfl ?_
  refine SR_yes rfl rfl (rfl) ?_
  refine SR_pu (RD_eql rfl rfl) rfl ?_
  refine SR_pu (RD_pick_t rfl (rfl) rfl) rfl ?_
  refine SR_pu (RD_move rfl) rfl ?_
  refine SR_yes rfl rfl (rfl) ?_
  refine SR_pu (RD_move rfl) rfl ?_
  refine SR_yes rfl rfl (rfl) ?_
  refine SR_rd (RD_ixO (cs := tA.code.map byteV) Try.runUnderlying25 Try.sizeOf5 rfl rfl (by rw [List.length_map, TxD.code_len]) (by omega) (by omega)) Has.ro rfl ?_
  refine SR_yes rfl rfl (rfl) ?_
  refine SR_rd (RD_loadO (v := byteV 4) (cs := tA.code.map byteV) Try.isAgg5 rfl (tA_at 7 4 (by decide +kernel))) Has.ro rfl ?_
  refine SR_yes rfl rfl (rfl) ?_
  refine SR_pu (RD_eqlB8 (x := 4) (y := 4) rfl rfl) rfl ?_
  refine SR_pu (RD_pick_t rfl (rfl) rfl) rfl ?_
  refine SR_pu (RD_move rfl) rfl ?_
  refine SR_yes rfl rfl (rfl) ?_
  refine SR_pu (RD_move rfl) rfl ?_
  refine SR_yes rfl rfl (rfl) ?_
  refine SR_rd (RD_ixO (cs := tA.code.map byteV) Try.runUnderlying25 Try.sizeOf5 rfl rfl (by rw [List.length_map, TxD.code_len]) (by omega) (by omega)) Has.ro rfl ?_
  refine SR_yes rfl rfl (rfl) ?_
  refine SR_rd (RD_loadO (v := byteV 1) (cs := tA.code.map byteV) Try.isAgg5 rfl (tA_at 31 1 (by decide +kernel))) Has.ro rfl ?_
  refine SR_yes rfl rfl (rfl) ?_
  refine SR_pu (RD_eqlB8 (x := 1) (y := 1) rfl rfl) rfl ?_
  refine SR_pu (RD_pick_t rfl (rfl) rfl) rfl ?_
  refine SR_pu (RD_move rfl) rfl ?_
  refine SR_yes rfl rfl (rfl) ?_
  refine SR_pu (RD_move rfl) rfl ?_
  refine SR_yes rfl rfl (rfl) ?_
  refine SR_rd (RD_ixO (cs := tA.code.map byteV) Try.runUnderlying25 Try.sizeOf5 rfl rfl (by rw [List.length_map, TxD.code_len]) (by omega) (by omega)) Has.ro rfl ?_
  refine SR_yes rfl rfl (rfl) ?_
  refine SR_rd (RD_loadO (v := byteV 3) (cs := tA.code.map byteV) Try.isAgg5 rfl (tA_at 39 3 (by decide +kernel))) Has.ro rfl ?_
  refine SR_yes rfl rfl (rfl) ?_
  refine SR_pu (RD_eqlB8 (x := 3) (y := 3) rfl rfl) rfl ?_
  refine SR_pu (RD_pick_t rfl (rfl) rfl) rfl ?_
  refine SR_pu (RD_move rfl) rfl ?_
  refine SR_yes rfl rfl (rfl) ?_
  refine SR_pu (RD_move rfl) rfl ?_
  refine SR_yes rfl rfl (rfl) ?_
  refine SR_rd (RD_ixO (cs := tA.code.map byteV) Try.runUnderlying25 Try.sizeOf5 rfl rfl (by rw [List.length_map, TxD.code_len]) (by omega) (by omega)) Has.ro rfl ?_
  refine SR_yes rfl rfl (rfl) ?_
  refine SR_rd (RD_loadO (v := byteV 1) (cs := tA.code.map byteV) Try.isAgg5 rfl (tA_at 46 1 (by decide +kernel))) Has.ro rfl ?_
  refine SR_yes rfl rfl (rfl) ?_
  refine SR_pu (RD_eqlB8 (x := 1) (y := 1) rfl rfl) rfl ?_
  refine SR_pu (RD_pick_t rfl (rfl) rfl) rfl ?_
  refine SR_pu (RD_move rfl) rfl ?_
  refine SR_yes rfl rfl (rfl) ?_
  refine SR_pu (RD_move rfl) rfl ?_
  refine SR_pu (RD_pick_t rfl (rfl) rfl) rfl ?_
  refine SR_pu (RD_move rfl) rfl ?_
  refine SR_yes rfl rfl (rfl) ?_
  refine SR_rd (RD_loadA Try.isAgg54 Try.sizeOf54 rfl rfl) Has.wh rfl ?_
  refine SR_yes rfl rfl (rfl) ?_
  refine SR_pu (RD_build (.cons rfl (.cons rfl (.cons rfl (.cons rfl (.nil))))) built54_0_3_4_5) rfl ?_
  refine SR_yes rfl rfl (rfl) ?_
  refine SR_pu (RD_eqlTx tA tA rfl rfl rfl) rfl ?_
  refine SR_pu (RD_pick_t rfl (rfl) rfl) rfl ?_
  refine SR_pu (RD_move rfl) rfl ?_
  refine SR_yes rfl rfl (by decide +kernel) ?_
  refine SR_pu (RD_build (.cons rfl (.cons rfl (.nil))) built54_0_4) rfl ?_
  refine SR_yes rfl rfl (by decide +kernel) ?_
  refine SR_call Try.call32 (.cons rfl (.nil)) (tx_Ok (TxD.mk 6 0 0 false 1 0 0)) (lts rfl) ?_
  rintro _ L3 ⟨rfl, hL3⟩
  rw [show (TxD.mk 6 0 0 false 1 0 0).ok = false by decide +kernel]
  refine SR.lands hL3 ?_
  refine SR_yes rfl rfl (by decide +kernel) ?_
  refine SR_pu (RD_not rfl) rfl ?_
  refine SR_pu (RD_pick_t rfl (by decide +kernel) rfl) rfl ?_
  refine SR_pu (RD_move rfl) rfl ?_
  refine SR_yes rfl rfl (rfl) ?_
  refine SR_pu (RD_build (.nil) built54) rfl ?_
  refine SR_yes rfl rfl (rfl) ?_
  refine SR_call Try.call32 (.cons rfl (.nil)) (tx_Ok txZero) (lts rfl) ?_
  rintro _ L4 ⟨rfl, hL4⟩
  rw [show txZero.ok = false by decide +kernel]
  refine SR.lands hL4 ?_
  refine SR_yes rfl rfl (rfl) ?_
  refine SR_pu (RD_not rfl) rfl ?_
  refine SR_pu (RD_pick_t rfl (rfl) rfl) rfl ?_
  refine SR_pu (RD_assign rfl) rfl ?_
  refine SR_nil ?_
  refine SN.le (l := [(0, _)]) ?_ (.cons rfl (.nil))
  refine SN_seq ?_
  refine SC_ret1 rfl rfl ?_
  exact ⟨rfl, .fin⟩

def forms : List (TxD × Bool) := [(⟨0, 0, 0, false, 0, 0, 0⟩, false), (⟨7, 0, 0, false, 0, 0, 0⟩, false), (⟨-1, 0, 0, false, 0, 0, 0⟩, false), (⟨1, 0, 0, false, 0, 0, 0⟩, true), (⟨1, 1, 0, false, 0, 18446744073709551615, 0⟩, true), (⟨1, 2, 0, false, 0, 0, 0⟩, false), (⟨1, -1, 0, false, 0, 0, 0⟩, false), (⟨1, 0, 1, false, 0, 0, 0⟩, false), (⟨2, 0, 0, false, 1, 0, 0⟩, false), (⟨2, 0, 0, false, 0, 5, 0⟩, true), (⟨3, 1, 2147483647, false, 0, 2, 0⟩, true), (⟨3, 0, 2147483648, false, 0, 0, 0⟩, false), (⟨3, 0, -1, false, 0, 0, 0⟩, false), (⟨3, 0, 0, false, 0, 0, 1⟩, false), (⟨4, 0, 0, true, 18446744073709551615, 3, 0⟩, true), (⟨4, 1, 0, false, 0, 0, 0⟩, false), (⟨5, 0, 0, false, 1, 1, 0⟩, true), (⟨5, 0, 0, false, 0, 0, 2⟩, false), (⟨6, 0, 0, false, 0, 0, 2147483647⟩, true), (⟨6, 0, 0, false, 0, 0, 2147483648⟩, false), (⟨6, 0, 0, false, 0, 0, -1⟩, false), (⟨6, 0, 0, true, 0, 0, 0⟩, false)]
theorem forms_ok : ∀ p ∈ forms, p.1.ok = p.2 := by decide +kernel
theorem forms_wf : ∀ p ∈ forms, p.1.Wf := by
  have h : forms.all (fun p => decide (-9223372036854775808 ≤ p.1.kind ∧ p.1.kind ≤ 9223372036854775807 ∧ -9223372036854775808 ≤ p.1.asset ∧ p.1.asset ≤ 9223372036854775807 ∧ -9223372036854775808 ≤ p.1.to ∧ p.1.to ≤ 9223372036854775807 ∧ 0 ≤ p.1.price ∧ p.1.price < 18446744073709551616 ∧ 0 ≤ p.1.qty ∧ p.1.qty < 18446744073709551616 ∧ -9223372036854775808 ≤ p.1.id ∧ p.1.id ≤ 9223372036854775807)) = true := by decide +kernel
  intro p hp
  have := of_decide_eq_true (List.all_eq_true.1 h p hp)
  obtain ⟨a1, a2, a3, a4, a5, a6, a7, a8, a9, b1, b2, b3⟩ := this
  exact ⟨⟨a1, a2⟩, ⟨a3, a4⟩, ⟨a5, a6⟩, ⟨a7, a8⟩, ⟨a9, b1⟩, ⟨b2, b3⟩⟩
def formV (p : TxD × Bool) : List Value := p.1.cells ++ [.bool p.2]
theorem form_tx (p : TxD × Bool) : ∀ j v, p.1.cells[j]? = some v → (p.1.cells ++ [.bool p.2])[0 + j]? = some v := fun j v h => by
  rw [Nat.zero_add, List.getElem?_append_left (lt_len h)]; exact h
theorem parse_nil : parseTx [] = none := by
  cases h : parseTx [] with
  | none => rfl
  | some t =>
    have := (parseTx_len h).2
    have h2 := t.code_len
    rw [this] at h2; simp at h2

theorem lt_forms {k : Nat} {f : TxD × Bool} (h : forms[k]? = some f) : k < 22 := (List.getElem?_eq_some_iff.1 h).1
theorem forms_at {k : Nat} {f : TxD × Bool} (h : forms[k]? = some f) : ∀ i v, (f.1.cells ++ [.bool f.2])[i]? = some v → (forms.flatMap formV)[(k : Int).toNat * (7 + 1) + i]? = some v := fun i v hv => by
  have hi : i < 8 := lt_len hv
  have := flat_get (f := formV) (k := 8) (fun _ => rfl) i h hi
  simp only [Int.toNat_natCast]
  rw [this]; exact hv

theorem law_TxForms_ok {W : World} {F : List HProp} [Abs F] (at_ : Int) (k : Nat) (hk : at_ % 256 % 22 = (k : Int)) (f : TxD × Bool) (hf : forms[k]? = some f) (hw : f.1.Wf) (hok : f.1.ok = true) (hf2 : f.2 = true) :
    CallsK W Try.prog 8 #[.int .i64 at_] (F) (fun v L => v = .bool true ∧ Lands L F) := by
  refine CallsK_enter (n := 109) Try.func8 rfl rfl rfl ?_
  refine SC_seq ?_
  refine SC_region ?_
  refine SR_pu (RD_assign rfl) rfl ?_
  refine SR_nil ?_
  refine SN.le (l := [(0, _)]) ?_ (.cons rfl (.nil))
  refine SN_seq ?_
  refine SC_seq ?_
  refine SC_region ?_
  refine SR_pu (RD_build (.nil) built54) rfl ?_
  refine SR_pu (RD_build (.cons rfl (.cons rfl (.nil))) built55_0_1) rfl ?_
  refine SR_pu (RD_build (.cons rfl (.nil)) built54_0) rfl ?_
  refine SR_pu (RD_build (.cons rfl (.cons rfl (.nil))) built55_0_1) rfl ?_
  refine SR_pu (RD_build (.cons rfl (.nil)) built54_0) rfl ?_
  refine SR_pu (RD_build (.cons rfl (.cons rfl (.nil))) built55_0_1) rfl ?_
  refine SR_pu (RD_build (.cons rfl (.nil)) built54_0) rfl ?_
  refine SR_pu (RD_build (.cons rfl (.cons rfl (.nil))) built55_0_1) rfl ?_
  refine SR_pu (RD_build (.cons rfl (.cons rfl (.cons rfl (.nil)))) built54_0_1_5) rfl ?_
  refine SR_pu (RD_build (.cons rfl (.cons rfl (.nil))) built55_0_1) rfl ?_
  refine SR_pu (RD_build (.cons rfl (.cons rfl (.nil))) built54_0_1) rfl ?_
  refine SR_pu (RD_build (.cons rfl (.cons rfl (.nil))) built55_0_1) rfl ?_
  refine SR_pu (RD_build (.cons rfl (.cons rfl (.nil))) built54_0_1) rfl ?_
  refine SR_pu (RD_build (.cons rfl (.cons rfl (.nil))) built55_0_1) rfl ?_
  refine SR_pu (RD_build (.cons rfl (.cons rfl (.nil))) built54_0_2) rfl ?_
  refine SR_pu (RD_build (.cons rfl (.cons rfl (.nil))) built55_0_1) rfl ?_
  refine SR_pu (RD_build (.cons rfl (.cons rfl (.nil))) built54_0_4) rfl ?_
  refine SR_pu (RD_build (.cons rfl (.cons rfl (.nil))) built55_0_1) rfl ?_
  refine SR_pu (RD_build (.cons rfl (.cons rfl (.nil))) built54_0_5) rfl ?_
  refine SR_pu (RD_build (.cons rfl (.cons rfl (.nil))) built55_0_1) rfl ?_
  refine SR_pu (RD_build (.cons rfl (.cons rfl (.cons rfl (.cons rfl (.nil))))) built54_0_2_1_5) rfl ?_
  refine SR_pu (RD_build (.cons rfl (.cons rfl (.nil))) built55_0_1) rfl ?_
  refine SR_pu (RD_build (.cons rfl (.cons rfl (.nil))) built54_0_2) rfl ?_
  refine SR_pu (RD_build (.cons rfl (.cons rfl (.nil))) built55_0_1) rfl ?_
  refine SR_pu (RD_build (.cons rfl (.cons rfl (.nil))) built54_0_2) rfl ?_
  refine SR_pu (RD_build (.cons rfl (.cons rfl (.nil))) built55_0_1) rfl ?_
  refine SR_pu (RD_build (.cons rfl (.cons rfl (.nil))) built54_0_6) rfl ?_
  refine SR_pu (RD_build (.cons rfl (.cons rfl (.nil))) built55_0_1) rfl ?_
  refine SR_pu (RD_build (.cons rfl (.cons rfl (.cons rfl (.cons rfl (.nil))))) built54_0_3_4_5) rfl ?_
  refine SR_pu (RD_build (.cons rfl (.cons rfl (.nil))) built55_0_1) rfl ?_
  refine SR_pu (RD_build (.cons rfl (.cons rfl (.nil))) built54_0_1) rfl ?_
  refine SR_pu (RD_build (.cons rfl (.cons rfl (.nil))) built55_0_1) rfl ?_
  refine SR_pu (RD_build (.cons rfl (.cons rfl (.cons rfl (.nil)))) built54_0_4_5) rfl ?_
  refine SR_pu (RD_build (.cons rfl (.cons rfl (.nil))) built55_0_1) rfl ?_
  refine SR_pu (RD_build (.cons rfl (.cons rfl (.nil))) built54_0_6) rfl ?_
  refine SR_pu (RD_build (.cons rfl (.cons rfl (.nil))) built55_0_1) rfl ?_
  refine SR_pu (RD_build (.cons rfl (.cons rfl (.nil))) built54_0_6) rfl ?_
  refine SR_pu (RD_build (.cons rfl (.cons rfl (.nil))) built55_0_1) rfl ?_
  refine SR_pu (RD_build (.cons rfl (.cons rfl (.nil))) built54_0_6) rfl ?_
  refine SR_pu (RD_build (.cons rfl (.cons rfl (.nil))) built55_0_1) rfl ?_
  refine SR_pu (RD_build (.cons rfl (.cons rfl (.nil))) built54_0_6) rfl ?_
  refine SR_pu (RD_build (.cons rfl (.cons rfl (.nil))) built55_0_1) rfl ?_
  refine SR_pu (RD_build (.cons rfl (.cons rfl (.nil))) built54_0_3) rfl ?_
  refine SR_pu (RD_build (.cons rfl (.cons rfl (.nil))) built55_0_1) rfl ?_
  refine SR_ox (OX_lit Try.underlying56 Try.type55 rfl rfl rfl rfl (.cons rfl (.cons rfl (.cons rfl (.cons rfl (.cons rfl (.cons rfl (.cons rfl (.cons rfl (.cons rfl (.cons rfl (.cons rfl (.cons rfl (.cons rfl (.cons rfl (.cons rfl (.cons rfl (.cons rfl (.cons rfl (.cons rfl (.cons rfl (.cons rfl (.cons rfl (.nil))))))))))))))))))))))) (.cons rfl rfl (.cons rfl rfl (.cons rfl rfl (.cons rfl rfl (.cons rfl rfl (.cons rfl rfl (.cons rfl rfl (.cons rfl rfl (.cons rfl rfl (.cons rfl rfl (.cons rfl rfl (.cons rfl rfl (.cons rfl rfl (.cons rfl rfl (.cons rfl rfl (.cons rfl rfl (.cons rfl rfl (.cons rfl rfl (.cons rfl rfl (.cons rfl rfl (.cons rfl rfl (.cons rfl rfl (.nil)))))))))))))))))))))))) rfl ?_
  rintro _ _ ⟨b53, rfl, rfl⟩
  refine SR_pu (RD_assign rfl) rfl ?_
  refine SR_nil ?_
  refine SN.le (l := [(0, _), (3, _)]) ?_ (.cons rfl (.cons rfl (.nil)))
  refine SN_seq ?_
  refine SC_seq ?_
  refine SC_region ?_
  refine SR_pu (RD_move rfl) rfl ?_
  refine SR_pu (RD_move rfl) rfl ?_
  refine SR_pu (RD_mask 8 rfl rfl rfl (by decide) 256 rfl) rfl ?_
  refine SR_pu (RD_move rfl) rfl ?_
  refine SR_pu (RD_len Try.runUnderlying56 rfl) rfl ?_
  refine SR_pu (RD_remk rfl rfl (by omega) (by omega) hk) rfl ?_
  refine SR_rd (RD_ixO (cs := forms.flatMap formV) Try.runUnderlying56 Try.sizeOf55 rfl rfl rfl (by omega) (by have := lt_forms hf; omega)) Has.ro rfl ?_
  refine SR_rd (RD_loadAO (vs := f.1.cells ++ [.bool f.2]) (cs := forms.flatMap formV) Try.isAgg55 Try.sizeOf55 rfl rfl (by decide) (forms_at hf)) Has.ro rfl ?_
  refine SR_ox (OX_alloc Try.zeroValue55 rfl) rfl ?_
  rintro _ _ ⟨b4, rfl, rfl⟩
  refine SR_ox0 (OX_stA Try.sizeOf55 rfl rfl rfl rfl) ?_
  rintro _ _ rfl
  refine SR_nil ?_
  refine SN.le (l := [(4, _)]) ?_ (.cons rfl (.nil))
  refine SN_seq ?_
  refine SC_seq ?_
  refine SC_region ?_
  first
    | refine SR_pu (RD_fieldAddr0 Try.runUnderlying55 rfl rfl Try.sizeOf54 rfl) rfl ?_
    | refine SR_rd (RD_fieldAddrO 0 Try.runUnderlying55 rfl rfl Try.sizeOf54 rfl (by simp <;> omega)) Has.ro rfl ?_
  refine SR_rd (RD_loadA (vs := f.1.cells) Try.isAgg54 Try.sizeOf54 rfl rfl) (Has.ces (cs := f.1.cells ++ [.bool f.2]) (form_tx f)) rfl ?_
  refine SR_call Try.call30 (.cons rfl (.nil)) (tx_Code_ok f.1 hw hok) (lts rfl) ?_
  rintro _ L1 ⟨a1, c1, rfl, hL1⟩
  refine SR.lands hL1 ?_
  refine SR_pu (RD_move rfl) rfl ?_
  refine SR_pu (RD_extract rfl rfl) rfl ?_
  refine SR_pu (RD_extract rfl rfl) rfl ?_
  refine SR_pu (RD_assign rfl) rfl ?_
  refine SR_pu (RD_assign rfl) rfl ?_
  refine SR_nil ?_
  refine SN.le (l := [(4, _), (5, _), (6, _)]) ?_ (.cons rfl (.cons rfl (.cons rfl (.nil))))
  refine SN_seq ?_
  refine SC_seq ?_
  refine SC_region ?_
  refine SR_pu (RD_move rfl) rfl ?_
  refine SR_call Try.call31 (.cons rfl (.nil)) (tx_Parse f.1.code a1 56 c1 rfl f.1.code_len (by decide)) (lts rfl) ?_
  rintro _ L2 ⟨rfl, hL2⟩
  rw [parseTx_code hw hok]
  refine SR.lands hL2 ?_
  refine SR_pu (RD_move rfl) rfl ?_
  refine SR_pu (RD_extract rfl rfl) rfl ?_
  refine SR_pu (RD_extract rfl rfl) rfl ?_
  refine SR_ox (OX_alloc Try.zeroValue54 rfl) rfl ?_
  rintro _ _ ⟨b7, rfl, rfl⟩
  refine SR_ox0 (OX_stA Try.sizeOf54 rfl rfl rfl rfl) ?_
  rintro _ _ rfl
  refine SR_pu (RD_assign rfl) rfl ?_
  refine SR_nil ?_
  refine SN.le (l := [(4, _), (5, _), (6, _), (7, _), (8, _)]) ?_ (.cons rfl (.cons rfl (.cons rfl (.cons rfl (.cons rfl (.nil))))))
  refine SN_seq ?_
  refine SC_seq ?_
  refine SC_drawn (.cons 0 true (.cons 1 true (.cons 3 true (.cons 4 true (.cons 2 false (.cons 5 true (.cons 6 true (.cons 7 true (.cons 8 true (.cons 9 true (.cons 10 true (.cons 11 true (.cons 12 true (.cons 13 true (.cons 14 true (.cons 15 true (.cons 16 true (.cons 17 true (.cons 18 true (.cons 19 true (.cons 20 true (.cons 21 true (.cons 22 true (.cons 23 true (.cons 24 true (.cons 25 true (.cons 26 true (.cons 27 true (.cons 28 true (.cons 29 true (.cons 30 true (.cons 31 true (.cons 32 true (.cons 33 true (.cons 34 false (.cons 35 true (.cons 36 true (.nil)))))))))))))))))))))))))))))))))))))) (by kernel_rfl) (by kernel_rfl) ?_
  first
    | refine SQ_pu rfl (RD_fieldAddr0 Try.runUnderlying55 rfl rfl Try.sizeOf54 rfl) rfl ?_
    | refine SQ_rd rfl (RD_fieldAddrO 0 Try.runUnderlying55 rfl rfl Try.sizeOf54 rfl (by simp <;> omega)) Has.ro rfl ?_
  refine SQ_rd rfl (RD_loadA (vs := f.1.cells) Try.isAgg54 Try.sizeOf54 rfl rfl) (Has.ces (cs := f.1.cells ++ [.bool f.2]) (form_tx f)) rfl ?_
  first
    | refine SQ_pu rfl (RD_fieldAddr 7 Try.runUnderlying55 rfl rfl Try.sizeOf4 rfl) rfl ?_
    | refine SQ_rd rfl (RD_fieldAddrO 7 Try.runUnderlying55 rfl rfl Try.sizeOf4 rfl (by simp <;> omega)) Has.ro rfl ?_
  refine SQ_rd rfl (RD_load Try.isAgg4 rfl) (Has.ce rfl) rfl ?_
  refine SQ_call rfl Try.call32 (.cons rfl (.nil)) (tx_Ok f.1) (lts rfl) ?_
  rintro _ L3 ⟨rfl, hL3⟩
  refine ⟨.lands hL3 (.h (Has.ce rfl) (.w rfl (.nil))), ?_⟩
  rw [hok]
  refine SQ.lands hL3 ?_
  refine SQ_pu rfl (RD_eqlB Try.underlying4 rfl rfl) rfl ?_
  refine SQ_pu rfl (RD_move rfl) rfl ?_
  refine SQ_pyes rfl rfl rfl (by simp [hf2]) (RD_move rfl) rfl ?_
  first
    | refine SQ_pyes rfl rfl rfl (by simp [hf2]) (RD_fieldAddr 7 Try.runUnderlying55 rfl rfl Try.sizeOf4 rfl) rfl ?_
    | refine SQ_yes rfl rfl rfl (by simp [hf2]) (RD_fieldAddrO 7 Try.runUnderlying55 rfl rfl Try.sizeOf4 rfl (by simp <;> omega)) Has.ro rfl ?_
  refine SQ_yes rfl rfl rfl (by simp [hf2]) (RD_load Try.isAgg4 rfl) (Has.ce rfl) rfl ?_
  refine SQ_pyes rfl rfl rfl (by simp [hf2]) (RD_eqlB Try.underlying4 rfl rfl) rfl ?_
  refine SQ_pu rfl (RD_pick_t rfl (by simp [hf2]) rfl) rfl ?_
  refine SQ_pu rfl (RD_move rfl) rfl ?_
  refine SQ_pyes rfl rfl rfl (by simp [hf2]) (RD_move rfl) rfl ?_
  first
    | refine SQ_pyes rfl rfl rfl (by simp [hf2]) (RD_fieldAddr 7 Try.runUnderlying55 rfl rfl Try.sizeOf4 rfl) rfl ?_
    | refine SQ_yes rfl rfl rfl (by simp [hf2]) (RD_fieldAddrO 7 Try.runUnderlying55 rfl rfl Try.sizeOf4 rfl (by simp <;> omega)) Has.ro rfl ?_
  refine SQ_yes rfl rfl rfl (by simp [hf2]) (RD_load Try.isAgg4 rfl) (Has.ce rfl) rfl ?_
  refine SQ_pyes rfl rfl rfl (by simp [hf2]) (RD_eqlB Try.underlying4 rfl rfl) rfl ?_
  refine SQ_pu rfl (RD_pick_t rfl (by simp [hf2]) rfl) rfl ?_
  refine SQ_pu rfl (RD_move rfl) rfl ?_
  refine SQ_pyes rfl rfl rfl (by simp [hf2]) (RD_move rfl) rfl ?_
  refine SQ_pyes rfl rfl rfl (by simp [hf2]) (RD_not rfl) rfl ?_
  refine SQ_pyes rfl rfl rfl (by simp [hf2]) (RD_move rfl) rfl ?_
  refine SQ_pyes rfl rfl rfl (rfl) (RD_move rfl) rfl ?_
  refine SQ_pyes rfl rfl rfl (rfl) (RD_len Try.runUnderlying25 rfl) rfl ?_
  refine SQ_pyes rfl rfl rfl (rfl) (RD_eql rfl rfl) rfl ?_
  refine SQ_pyes rfl rfl rfl (rfl) (RD_move rfl) rfl ?_
  refine SQ_yes rfl rfl rfl (rfl) (RD_loadA Try.isAgg54 Try.sizeOf54 rfl rfl) Has.wh rfl ?_
  first
    | refine SQ_pyes rfl rfl rfl (rfl) (RD_fieldAddr0 Try.runUnderlying55 rfl rfl Try.sizeOf54 rfl) rfl ?_
    | refine SQ_yes rfl rfl rfl (rfl) (RD_fieldAddrO 0 Try.runUnderlying55 rfl rfl Try.sizeOf54 rfl (by simp <;> omega)) Has.ro rfl ?_
  refine SQ_yes rfl rfl rfl (rfl) (RD_loadA (vs := f.1.cells) Try.isAgg54 Try.sizeOf54 rfl rfl) (Has.ces (cs := f.1.cells ++ [.bool f.2]) (form_tx f)) rfl ?_
  refine SQ_pyes rfl rfl rfl (rfl) (RD_eqlTx f.1 f.1 rfl rfl rfl) rfl ?_
  refine SQ_pyes rfl rfl rfl (rfl) (RD_pick_t rfl (rfl) rfl) rfl ?_
  refine SQ_pyes rfl rfl rfl (by simp [hf2]) (RD_pick_f rfl (rfl) rfl) rfl ?_
  refine SQ_pu rfl (RD_pick_t rfl (by simp [hf2]) rfl) rfl ?_
  refine SQ_pu rfl (RD_move rfl) rfl ?_
  refine SQ_one (SA_call rfl (.mk rfl rfl (by simp [hf2, TxD.same_iff])) Try.call33 (.nil) (tx_awake) (lts rfl) ?_)
  rintro _ L9 ⟨rfl, hL9⟩
  refine ⟨.lands hL9 (.h (Has.ces (cs := f.1.cells ++ [.bool f.2]) (form_tx f)) (.h Has.wh (.h (Has.ce rfl) (.h (Has.ce rfl) (.h (Has.ce rfl) (.h (Has.ces (cs := f.1.cells ++ [.bool f.2]) (form_tx f)) (.nil))))))), ?_⟩
  refine SQ.lands hL9 ?_
  refine SQ_pu rfl (RD_pick_t rfl (by simp [hf2, TxD.same_iff]) rfl) rfl ?_
  refine SQ_pu rfl (RD_assign rfl) rfl ?_
  refine SQ_nil ?_
  refine SN.le (l := [(2, _)]) ?_ (.cons rfl (.nil))
  refine SN_seq ?_
  refine SC_ret1 rfl rfl ?_
  exact ⟨rfl, .fin⟩

theorem law_TxForms_no {W : World} {F : List HProp} [Abs F] (at_ : Int) (k : Nat) (hk : at_ % 256 % 22 = (k : Int)) (f : TxD × Bool) (hf : forms[k]? = some f) (hw : f.1.Wf) (hok : f.1.ok = false) (hf2 : f.2 = false) :
    CallsK W Try.prog 8 #[.int .i64 at_] (F) (fun v L => v = .bool true ∧ Lands L F) := by
  refine CallsK_enter (n := 109) Try.func8 rfl rfl rfl ?_
  refine SC_seq ?_
  refine SC_region ?_
  refine SR_pu (RD_assign rfl) rfl ?_
  refine SR_nil ?_
  refine SN.le (l := [(0, _)]) ?_ (.cons rfl (.nil))
  refine SN_seq ?_
  refine SC_seq ?_
  refine SC_region ?_
  refine SR_pu (RD_build (.nil) built54) rfl ?_
  refine SR_pu (RD_build (.cons rfl (.cons rfl (.nil))) built55_0_1) rfl ?_
  refine SR_pu (RD_build (.cons rfl (.nil)) built54_0) rfl ?_
  refine SR_pu (RD_build (.cons rfl (.cons rfl (.nil))) built55_0_1) rfl ?_
  refine SR_pu (RD_build (.cons rfl (.nil)) built54_0) rfl ?_
  refine SR_pu (RD_build (.cons rfl (.cons rfl (.nil))) built55_0_1) rfl ?_
  refine SR_pu (RD_build (.cons rfl (.nil)) built54_0) rfl ?_
  refine SR_pu (RD_build (.cons rfl (.cons rfl (.nil))) built55_0_1) rfl ?_
  refine SR_pu (RD_build (.cons rfl (.cons rfl (.cons rfl (.nil)))) built54_0_1_5) rfl ?_
  refine SR_pu (RD_build (.cons rfl (.cons rfl (.nil))) built55_0_1) rfl ?_
  refine SR_pu (RD_build (.cons rfl (.cons rfl (.nil))) built54_0_1) rfl ?_
  refine SR_pu (RD_build (.cons rfl (.cons rfl (.nil))) built55_0_1) rfl ?_
  refine SR_pu (RD_build (.cons rfl (.cons rfl (.nil))) built54_0_1) rfl ?_
  refine SR_pu (RD_build (.cons rfl (.cons rfl (.nil))) built55_0_1) rfl ?_
  refine SR_pu (RD_build (.cons rfl (.cons rfl (.nil))) built54_0_2) rfl ?_
  refine SR_pu (RD_build (.cons rfl (.cons rfl (.nil))) built55_0_1) rfl ?_
  refine SR_pu (RD_build (.cons rfl (.cons rfl (.nil))) built54_0_4) rfl ?_
  refine SR_pu (RD_build (.cons rfl (.cons rfl (.nil))) built55_0_1) rfl ?_
  refine SR_pu (RD_build (.cons rfl (.cons rfl (.nil))) built54_0_5) rfl ?_
  refine SR_pu (RD_build (.cons rfl (.cons rfl (.nil))) built55_0_1) rfl ?_
  refine SR_pu (RD_build (.cons rfl (.cons rfl (.cons rfl (.cons rfl (.nil))))) built54_0_2_1_5) rfl ?_
  refine SR_pu (RD_build (.cons rfl (.cons rfl (.nil))) built55_0_1) rfl ?_
  refine SR_pu (RD_build (.cons rfl (.cons rfl (.nil))) built54_0_2) rfl ?_
  refine SR_pu (RD_build (.cons rfl (.cons rfl (.nil))) built55_0_1) rfl ?_
  refine SR_pu (RD_build (.cons rfl (.cons rfl (.nil))) built54_0_2) rfl ?_
  refine SR_pu (RD_build (.cons rfl (.cons rfl (.nil))) built55_0_1) rfl ?_
  refine SR_pu (RD_build (.cons rfl (.cons rfl (.nil))) built54_0_6) rfl ?_
  refine SR_pu (RD_build (.cons rfl (.cons rfl (.nil))) built55_0_1) rfl ?_
  refine SR_pu (RD_build (.cons rfl (.cons rfl (.cons rfl (.cons rfl (.nil))))) built54_0_3_4_5) rfl ?_
  refine SR_pu (RD_build (.cons rfl (.cons rfl (.nil))) built55_0_1) rfl ?_
  refine SR_pu (RD_build (.cons rfl (.cons rfl (.nil))) built54_0_1) rfl ?_
  refine SR_pu (RD_build (.cons rfl (.cons rfl (.nil))) built55_0_1) rfl ?_
  refine SR_pu (RD_build (.cons rfl (.cons rfl (.cons rfl (.nil)))) built54_0_4_5) rfl ?_
  refine SR_pu (RD_build (.cons rfl (.cons rfl (.nil))) built55_0_1) rfl ?_
  refine SR_pu (RD_build (.cons rfl (.cons rfl (.nil))) built54_0_6) rfl ?_
  refine SR_pu (RD_build (.cons rfl (.cons rfl (.nil))) built55_0_1) rfl ?_
  refine SR_pu (RD_build (.cons rfl (.cons rfl (.nil))) built54_0_6) rfl ?_
  refine SR_pu (RD_build (.cons rfl (.cons rfl (.nil))) built55_0_1) rfl ?_
  refine SR_pu (RD_build (.cons rfl (.cons rfl (.nil))) built54_0_6) rfl ?_
  refine SR_pu (RD_build (.cons rfl (.cons rfl (.nil))) built55_0_1) rfl ?_
  refine SR_pu (RD_build (.cons rfl (.cons rfl (.nil))) built54_0_6) rfl ?_
  refine SR_pu (RD_build (.cons rfl (.cons rfl (.nil))) built55_0_1) rfl ?_
  refine SR_pu (RD_build (.cons rfl (.cons rfl (.nil))) built54_0_3) rfl ?_
  refine SR_pu (RD_build (.cons rfl (.cons rfl (.nil))) built55_0_1) rfl ?_
  refine SR_ox (OX_lit Try.underlying56 Try.type55 rfl rfl rfl rfl (.cons rfl (.cons rfl (.cons rfl (.cons rfl (.cons rfl (.cons rfl (.cons rfl (.cons rfl (.cons rfl (.cons rfl (.cons rfl (.cons rfl (.cons rfl (.cons rfl (.cons rfl (.cons rfl (.cons rfl (.cons rfl (.cons rfl (.cons rfl (.cons rfl (.cons rfl (.nil))))))))))))))))))))))) (.cons rfl rfl (.cons rfl rfl (.cons rfl rfl (.cons rfl rfl (.cons rfl rfl (.cons rfl rfl (.cons rfl rfl (.cons rfl rfl (.cons rfl rfl (.cons rfl rfl (.cons rfl rfl (.cons rfl rfl (.cons rfl rfl (.cons rfl rfl (.cons rfl rfl (.cons rfl rfl (.cons rfl rfl (.cons rfl rfl (.cons rfl rfl (.cons rfl rfl (.cons rfl rfl (.cons rfl rfl (.nil)))))))))))))))))))))))) rfl ?_
  rintro _ _ ⟨b53, rfl, rfl⟩
  refine SR_pu (RD_assign rfl) rfl ?_
  refine SR_nil ?_
  refine SN.le (l := [(0, _), (3, _)]) ?_ (.cons rfl (.cons rfl (.nil)))
  refine SN_seq ?_
  refine SC_seq ?_
  refine SC_region ?_
  refine SR_pu (RD_move rfl) rfl ?_
  refine SR_pu (RD_move rfl) rfl ?_
  refine SR_pu (RD_mask 8 rfl rfl rfl (by decide) 256 rfl) rfl ?_
  refine SR_pu (RD_move rfl) rfl ?_
  refine SR_pu (RD_len Try.runUnderlying56 rfl) rfl ?_
  refine SR_pu (RD_remk rfl rfl (by omega) (by omega) hk) rfl ?_
  refine SR_rd (RD_ixO (cs := forms.flatMap formV) Try.runUnderlying56 Try.sizeOf55 rfl rfl rfl (by omega) (by have := lt_forms hf; omega)) Has.ro rfl ?_
  refine SR_rd (RD_loadAO (vs := f.1.cells ++ [.bool f.2]) (cs := forms.flatMap formV) Try.isAgg55 Try.sizeOf55 rfl rfl (by decide) (forms_at hf)) Has.ro rfl ?_
  refine SR_ox (OX_alloc Try.zeroValue55 rfl) rfl ?_
  rintro _ _ ⟨b4, rfl, rfl⟩
  refine SR_ox0 (OX_stA Try.sizeOf55 rfl rfl rfl rfl) ?_
  rintro _ _ rfl
  refine SR_nil ?_
  refine SN.le (l := [(4, _)]) ?_ (.cons rfl (.nil))
  refine SN_seq ?_
  refine SC_seq ?_
  refine SC_region ?_
  first
    | refine SR_pu (RD_fieldAddr0 Try.runUnderlying55 rfl rfl Try.sizeOf54 rfl) rfl ?_
    | refine SR_rd (RD_fieldAddrO 0 Try.runUnderlying55 rfl rfl Try.sizeOf54 rfl (by simp <;> omega)) Has.ro rfl ?_
  refine SR_rd (RD_loadA (vs := f.1.cells) Try.isAgg54 Try.sizeOf54 rfl rfl) (Has.ces (cs := f.1.cells ++ [.bool f.2]) (form_tx f)) rfl ?_
  refine SR_call Try.call30 (.cons rfl (.nil)) (tx_Code_no f.1 hok) (lts rfl) ?_
  rintro _ L1 ⟨rfl, hL1⟩
  refine SR.lands hL1 ?_
  refine SR_pu (RD_move rfl) rfl ?_
  refine SR_pu (RD_extract rfl rfl) rfl ?_
  refine SR_pu (RD_extract rfl rfl) rfl ?_
  refine SR_pu (RD_assign rfl) rfl ?_
  refine SR_pu (RD_assign rfl) rfl ?_
  refine SR_nil ?_
  refine SN.le (l := [(4, _), (5, _), (6, _)]) ?_ (.cons rfl (.cons rfl (.cons rfl (.nil))))
  refine SN_seq ?_
  refine SC_seq ?_
  refine SC_region ?_
  refine SR_pu (RD_move rfl) rfl ?_
  refine SR_call Try.call31 (.cons rfl (.nil)) (tx_Parse [] none 0 0 rfl rfl (by decide)) (lts rfl) ?_
  rintro _ L2 ⟨rfl, hL2⟩
  rw [parse_nil]
  refine SR.lands hL2 ?_
  refine SR_pu (RD_move rfl) rfl ?_
  refine SR_pu (RD_extract rfl rfl) rfl ?_
  refine SR_pu (RD_extract rfl rfl) rfl ?_
  refine SR_ox (OX_alloc Try.zeroValue54 rfl) rfl ?_
  rintro _ _ ⟨b7, rfl, rfl⟩
  refine SR_ox0 (OX_stA Try.sizeOf54 rfl rfl rfl rfl) ?_
  rintro _ _ rfl
  refine SR_pu (RD_assign rfl) rfl ?_
  refine SR_nil ?_
  refine SN.le (l := [(4, _), (5, _), (6, _), (7, _), (8, _)]) ?_ (.cons rfl (.cons rfl (.cons rfl (.cons rfl (.cons rfl (.nil))))))
  refine SN_seq ?_
  refine SC_seq ?_
  refine SC_drawn (.cons 0 true (.cons 1 true (.cons 3 true (.cons 4 true (.cons 2 false (.cons 5 true (.cons 6 true (.cons 7 true (.cons 8 true (.cons 9 true (.cons 10 true (.cons 11 true (.cons 12 true (.cons 13 true (.cons 14 true (.cons 15 true (.cons 16 true (.cons 17 true (.cons 18 true (.cons 19 true (.cons 20 true (.cons 21 true (.cons 22 true (.cons 23 true (.cons 24 true (.cons 25 true (.cons 26 true (.cons 27 true (.cons 28 true (.cons 29 true (.cons 30 true (.cons 31 true (.cons 32 true (.cons 33 true (.cons 34 false (.cons 35 true (.cons 36 true (.nil)))))))))))))))))))))))))))))))))))))) (by kernel_rfl) (by kernel_rfl) ?_
  first
    | refine SQ_pu rfl (RD_fieldAddr0 Try.runUnderlying55 rfl rfl Try.sizeOf54 rfl) rfl ?_
    | refine SQ_rd rfl (RD_fieldAddrO 0 Try.runUnderlying55 rfl rfl Try.sizeOf54 rfl (by simp <;> omega)) Has.ro rfl ?_
  refine SQ_rd rfl (RD_loadA (vs := f.1.cells) Try.isAgg54 Try.sizeOf54 rfl rfl) (Has.ces (cs := f.1.cells ++ [.bool f.2]) (form_tx f)) rfl ?_
  first
    | refine SQ_pu rfl (RD_fieldAddr 7 Try.runUnderlying55 rfl rfl Try.sizeOf4 rfl) rfl ?_
    | refine SQ_rd rfl (RD_fieldAddrO 7 Try.runUnderlying55 rfl rfl Try.sizeOf4 rfl (by simp <;> omega)) Has.ro rfl ?_
  refine SQ_rd rfl (RD_load Try.isAgg4 rfl) (Has.ce rfl) rfl ?_
  refine SQ_call rfl Try.call32 (.cons rfl (.nil)) (tx_Ok f.1) (lts rfl) ?_
  rintro _ L3 ⟨rfl, hL3⟩
  refine ⟨.lands hL3 (.h (Has.ce rfl) (.w rfl (.nil))), ?_⟩
  rw [hok]
  refine SQ.lands hL3 ?_
  refine SQ_pu rfl (RD_eqlB Try.underlying4 rfl rfl) rfl ?_
  refine SQ_pu rfl (RD_move rfl) rfl ?_
  refine SQ_pyes rfl rfl rfl (by simp [hf2]) (RD_move rfl) rfl ?_
  first
    | refine SQ_pyes rfl rfl rfl (by simp [hf2]) (RD_fieldAddr 7 Try.runUnderlying55 rfl rfl Try.sizeOf4 rfl) rfl ?_
    | refine SQ_yes rfl rfl rfl (by simp [hf2]) (RD_fieldAddrO 7 Try.runUnderlying55 rfl rfl Try.sizeOf4 rfl (by simp <;> omega)) Has.ro rfl ?_
  refine SQ_yes rfl rfl rfl (by simp [hf2]) (RD_load Try.isAgg4 rfl) (Has.ce rfl) rfl ?_
  refine SQ_pyes rfl rfl rfl (by simp [hf2]) (RD_eqlB Try.underlying4 rfl rfl) rfl ?_
  refine SQ_pu rfl (RD_pick_t rfl (by simp [hf2]) rfl) rfl ?_
  refine SQ_pu rfl (RD_move rfl) rfl ?_
  refine SQ_pyes rfl rfl rfl (by simp [hf2]) (RD_move rfl) rfl ?_
  first
    | refine SQ_pyes rfl rfl rfl (by simp [hf2]) (RD_fieldAddr 7 Try.runUnderlying55 rfl rfl Try.sizeOf4 rfl) rfl ?_
    | refine SQ_yes rfl rfl rfl (by simp [hf2]) (RD_fieldAddrO 7 Try.runUnderlying55 rfl rfl Try.sizeOf4 rfl (by simp <;> omega)) Has.ro rfl ?_
  refine SQ_yes rfl rfl rfl (by simp [hf2]) (RD_load Try.isAgg4 rfl) (Has.ce rfl) rfl ?_
  refine SQ_pyes rfl rfl rfl (by simp [hf2]) (RD_eqlB Try.underlying4 rfl rfl) rfl ?_
  refine SQ_pu rfl (RD_pick_t rfl (by simp [hf2]) rfl) rfl ?_
  refine SQ_pu rfl (RD_move rfl) rfl ?_
  refine SQ_pyes rfl rfl rfl (by simp [hf2]) (RD_move rfl) rfl ?_
  refine SQ_pyes rfl rfl rfl (by simp [hf2]) (RD_not rfl) rfl ?_
  refine SQ_pyes rfl rfl rfl (by simp [hf2]) (RD_move rfl) rfl ?_
  refine SQ_no rfl rfl rfl (rfl) (lts rfl) ?_
  refine SQ_no rfl rfl rfl (rfl) (lts rfl) ?_
  refine SQ_no rfl rfl rfl (rfl) (lts rfl) ?_
  refine SQ_no rfl rfl rfl (rfl) (lts rfl) ?_
  refine SQ_nou rfl rfl rfl (lts rfl) ?_
  refine SQ_nou rfl rfl rfl (lts rfl) ?_
  refine SQ_nou rfl rfl rfl (lts rfl) ?_
  refine SQ_nou rfl rfl rfl (lts rfl) ?_
  refine SQ_no rfl rfl rfl (rfl) (lts rfl) ?_
  refine SQ_pyes rfl rfl rfl (by simp [hf2]) (RD_pick_t rfl (rfl) rfl) rfl ?_
  refine SQ_pu rfl (RD_pick_t rfl (by simp [hf2]) rfl) rfl ?_
  refine SQ_pu rfl (RD_move rfl) rfl ?_
  refine SQ_one (SA_call rfl (.mk rfl rfl (by simp [hf2])) Try.call33 (.nil) (tx_awake) (lts rfl) ?_)
  rintro _ L9 ⟨rfl, hL9⟩
  refine ⟨.lands hL9 (.h (Has.ce rfl) (.h (Has.ce rfl) (.h (Has.ce rfl) (.h (Has.ces (cs := f.1.cells ++ [.bool f.2]) (form_tx f)) (.nil))))), ?_⟩
  refine SQ.lands hL9 ?_
  refine SQ_pu rfl (RD_pick_t rfl (by simp [hf2]) rfl) rfl ?_
  refine SQ_pu rfl (RD_assign rfl) rfl ?_
  refine SQ_nil ?_
  refine SN.le (l := [(2, _)]) ?_ (.cons rfl (.nil))
  refine SN_seq ?_
  refine SC_ret1 rfl rfl ?_
  exact ⟨rfl, .fin⟩

theorem law_TxForms {W : World} {F : List HProp} [Abs F] (at_ : Int) :
    CallsK W Try.prog 8 #[.int .i64 at_] (F) (fun v L => v = .bool true ∧ Lands L F) := by
  obtain ⟨k, hk⟩ : ∃ k : Nat, at_ % 256 % 22 = (k : Int) := ⟨(at_ % 256 % 22).toNat, by omega⟩
  have hk22 : k < forms.length := by show k < 22; omega
  have hf := List.getElem?_eq_getElem hk22
  have hm := List.getElem_mem hk22
  have hok := forms_ok _ hm
  cases h : forms[k].2 with
  | true => exact law_TxForms_ok at_ k hk _ hf (forms_wf _ hm) (hok.trans h) h
  | false => exact law_TxForms_no at_ k hk _ hf (forms_wf _ hm) (hok.trans h) h

end Go.Proofs.Ytdjkllhnkbobfaa
