/- The document's parse of a trade, its bytes of an envelope; an empty vault. -/
import Derived.Test.YtnifaajdiolbjaaEn6
namespace Go.Proofs.Ytnifaajdiolbjaa
open Go Go.Proofs
set_option maxRecDepth 100000
theorem fl_take (l : List Int) : ∀ (i : Nat) (z : Int), l[i]? = some z → (((l.flatMap bei).drop (8 * i)).take 8) = bei z := by
  induction l with
  | nil => intro i z h; simp at h
  | cons x l ih =>
    intro i z h
    cases i with
    | zero =>
      simp at h; subst h
      rw [List.flatMap_cons, Nat.mul_zero, List.drop_zero, List.take_append_of_le_length (by rw [bei_length]; omega), List.take_of_length_le (by rw [bei_length]; omega)]
    | succ i =>
      rw [List.flatMap_cons, show 8 * (i + 1) = (bei x).length + 8 * i by rw [bei_length]; omega, List.drop_length_add_append]
      exact ih i z (by simpa using h)
theorem fl_len (l : List Int) : (l.flatMap bei).length = 8 * l.length := by
  induction l with
  | nil => rfl
  | cons x l ih => rw [List.flatMap_cons, List.length_append, ih, bei_length, List.length_cons]; omega
theorem getAt_fl {l : List Int} {i : Nat} {z : Int} (h : l[i]? = some z) : getAt (l.flatMap bei) (8 * (i : Int)) = ((z % 18446744073709551616).toNat, true) := by
  have hi := (List.getElem?_eq_some_iff.1 h).1
  unfold getAt
  rw [if_neg (by rw [fl_len]; omega), show (8 * (i : Int)).toNat = 8 * i by omega, fl_take l i z h, unbe_bei]
/-- The trade that stands at the places. -/
def gtTx (bs : List UInt8) : TxD :=
  ⟨IntKind.i64.wrap ((getAt bs (8 * ((0 : Nat) : Int))).1 : Nat), IntKind.i64.wrap ((getAt bs (8 * ((1 : Nat) : Int))).1 : Nat), IntKind.i64.wrap ((getAt bs (8 * ((2 : Nat) : Int))).1 : Nat), decide ((((getAt bs (8 * ((3 : Nat) : Int))).1 : Nat) : Int) = 1), ((getAt bs (8 * ((4 : Nat) : Int))).1 : Nat), ((getAt bs (8 * ((5 : Nat) : Int))).1 : Nat), IntKind.i64.wrap ((getAt bs (8 * ((6 : Nat) : Int))).1 : Nat)⟩
theorem getAt_lt (bs : List UInt8) (i : Int) : (getAt bs i).1 < 18446744073709551616 := by
  unfold getAt
  split
  · omega
  · have := unbe_lt ((bs.drop i.toNat).take 8).length _ rfl
    have h2 : ((bs.drop i.toNat).take 8).length ≤ 8 := by simp; omega
    have h3 : (256 : Nat) ^ ((bs.drop i.toNat).take 8).length ≤ 256 ^ 8 := Nat.pow_le_pow_right (by omega) h2
    exact Nat.lt_of_lt_of_le this h3
theorem gtTx_wf (bs : List UInt8) : (gtTx bs).Wf := by
  have h4 := getAt_lt bs (8 * ((4 : Nat) : Int)); have h5 := getAt_lt bs (8 * ((5 : Nat) : Int))
  exact ⟨wrap_I64 _, wrap_I64 _, wrap_I64 _, ⟨Int.natCast_nonneg _, by show (((getAt bs (8 * ((4 : Nat) : Int))).1 : Nat) : Int) < _; omega⟩, ⟨Int.natCast_nonneg _, by show (((getAt bs (8 * ((5 : Nat) : Int))).1 : Nat) : Int) < _; omega⟩, wrap_I64 _⟩
theorem gtTx_code (t : TxD) (h : t.Wf) : gtTx t.code = t := by
  obtain ⟨k, a, to, b, p, q, i⟩ := t
  obtain ⟨h1, h2, h3, h4, h5, h6⟩ := h
  dsimp only at h1 h2 h3 h4 h5 h6
  unfold gtTx
  rw [← TxD.codeL_code]
  rw [getAt_fl (i := 0) rfl, getAt_fl (i := 1) rfl, getAt_fl (i := 2) rfl, getAt_fl (i := 3) rfl, getAt_fl (i := 4) rfl, getAt_fl (i := 5) rfl, getAt_fl (i := 6) rfl]
  dsimp only
  rw [IntKind.wrap_u64, IntKind.wrap_u64, IntKind.wrap_u64, IntKind.wrap_u64, Int.emod_emod, Int.emod_emod, Int.emod_emod, Int.emod_emod, wrap_emod h1, wrap_emod h2, wrap_emod h3, wrap_emod h6]
  have e1 : (((p % 18446744073709551616).toNat : Nat) : Int) = p := by omega
  have e2 : (((q % 18446744073709551616).toNat : Nat) : Int) = q := by omega
  rw [e1, e2]
  cases b <;> rfl
theorem gtTx_parse (bs : List UInt8) : (if (gtTx bs).ok = true ∧ (gtTx bs).code = bs then some (gtTx bs) else none) = parseTx bs := by
  by_cases h : (gtTx bs).ok = true ∧ (gtTx bs).code = bs
  · rw [if_pos h]
    have := parseTx_code (gtTx_wf bs) h.1
    rw [h.2] at this; exact this.symm
  · rw [if_neg h]
    unfold parseTx
    rw [if_neg]
    rintro ⟨h1, h2⟩
    have h3 := gtTx_code (rdTx bs) (rdTx_wf bs)
    rw [h2] at h3
    exact h ⟨by rw [h3]; exact h1, by rw [h3]; exact h2⟩
def gl (bs : List UInt8) (i : Nat) : List Value := (List.range 7).map fun j : Nat => .int .u64 (if j < i then ((getAt bs (8 * (j : Int))).1 : Nat) else 0)
theorem gl_len (bs : List UInt8) (i : Nat) : (gl bs i).length = 7 := by simp [gl]
instance (bs : List UInt8) (i : Nat) : Ones (gl bs i) := ⟨fun v hv => by
  obtain ⟨j, _, rfl⟩ := List.mem_map.1 hv
  exact (inferInstance : Ones [Value.int .u64 (if j < i then ((getAt bs (8 * (j : Int))).1 : Nat) else 0)]).h _ (by simp)⟩
theorem gl_set (bs : List UInt8) {i : Nat} (hi : i < 7) : SetAt (gl bs i) i (.int .u64 ((getAt bs (8 * (i : Int))).1 : Nat)) (gl bs (i + 1)) := ⟨by
  refine List.ext_getElem? fun j => ?_
  rw [List.getElem?_set]
  by_cases h : i = j
  · subst h
    rw [if_pos rfl, if_pos (by rw [gl_len]; exact hi)]
    simp [gl, hi]
  · rw [if_neg h]
    simp only [gl, List.getElem?_map]
    by_cases hj : j < 7
    · rw [List.getElem?_range hj]
      simp only [Option.map_some]
      congr 2
      by_cases h2 : j < i
      · rw [if_pos h2, if_pos (by omega)]
      · rw [if_neg h2, if_neg (by omega)]
    · rw [List.getElem?_eq_none (by simp; omega)]; rfl, by rw [gl_len]; exact hi⟩

theorem ref_TxParse_no {W : World} {F : List HProp} [Abs F] (a : Option Addr) (n c : Nat) (bs : List UInt8) [HasRow F a (bs.map byteV)] (hn : bs.length = n) (hb : n ≤ 1000000000000) (hok : (gtTx bs).ok = false) :
    CallsK W Try.prog 58 #[.slice a n c] (F) (fun v L => v = .tuple #[((parseTx bs).getD txZero).val, .bool (parseTx bs).isSome] ∧ Lands L F) := by
  refine CallsK_enter (n := 57) Try.func58 rfl rfl rfl ?_
  refine SC_seq ?_
  refine SC_region ?_
  refine SR_ox (OX_alloc Try.zeroValue87 rfl) rfl ?_
  rintro _ _ ⟨b2, rfl, rfl⟩
  refine SR_pu (RD_assign rfl) rfl ?_
  refine SR_nil ?_
  refine SN.le (l := [(0, _), (2, _)]) ?_ (.cons rfl (.cons rfl (.nil)))
  refine SN_seq ?_
  refine SC_seq ?_
  refine SC_region ?_
  refine SR_ox (OX_alloc Try.zeroValue137 rfl) rfl ?_
  rintro _ _ ⟨b4, rfl, rfl⟩
  refine SR_nil ?_
  refine SN.le (l := [(0, _), (2, _), (4, _)]) ?_ (.cons rfl (.cons rfl (.cons rfl (.nil))))
  refine SN_seq ?_
  refine SC_seq ?_
  refine SC_seq ?_
  refine SC_region ?_
  refine SR_pu (RD_assign rfl) rfl ?_
  refine SR_nil ?_
  refine SN.le (l := [(0, _), (2, _), (4, _), (5, _)]) ?_ (.cons rfl (.cons rfl (.cons rfl (.cons rfl (.nil)))))
  refine SN_seq ?_
  refine SC_block ?_
  refine SC_ind (X := Nat) (fun i => i ≤ 7) (fun i => 7 - i) (fun i => [(0, .slice a n c), (2, .pointer (some ⟨b2, 0, none⟩)), (4, .pointer (some ⟨b4, 0, none⟩)), (5, .int .i64 (i : Nat))]) (fun i => pt b4 (.cells (gl bs i).toArray 137) :: pt b2 (.cells txZero.cells.toArray 87) :: F) (0) (by omega) (.cons rfl (.cons rfl (.cons rfl (.cons rfl (.nil))))) ((show Lands _ (pt b4 (.cells [.int .u64 0, .int .u64 0, .int .u64 0, .int .u64 0, .int .u64 0, .int .u64 0, .int .u64 0].toArray 137) :: pt b2 (.cells [.int .i64 0, .int .i64 0, .int .i64 0, .bool false, .int .u64 0, .int .u64 0, .int .i64 0].toArray 87) :: F) from .fin)) ?_
  intro i hi ih
  have hi7 := hi
  refine SC_seq ?_
  refine SC_seq ?_
  refine SC_region ?_
  refine SR_pu (RD_move rfl) rfl ?_
  refine SR_pu (RD_lss rfl rfl) rfl ?_
  refine SR_nil ?_
  refine SN.le (l := [(0, _), (2, _), (4, _), (5, _), (10, _)]) ?_ (.cons rfl (.cons rfl (.cons rfl (.cons rfl (.cons rfl (.nil))))))
  refine SN_seq ?_
  refine SC_cond rfl (fun hc10 => ?_) (fun hc10 => ?_)
  · have hin : i < 7 := by simp at hc10; omega
    haveI := gl_set bs hin
    refine SC_skip ?_
    refine SN_seq ?_
    refine SC_seq ?_
    refine SC_block ?_
    refine SC_region ?_
    refine SR_pu (RD_move rfl) rfl ?_
    refine SR_pu (RD_move rfl) rfl ?_
    refine SR_pu (RD_move rfl) rfl ?_
    refine SR_pu (RD_muli rfl rfl (by omega) (by omega)) rfl ?_
    refine SR_call Try.call89 (.cons rfl (.cons rfl (.nil))) (ref_Get a n c bs hn hb (8 * (i : Int))) (lts rfl) ?_
    rintro _ L1 ⟨rfl, hL1⟩
    refine SR.lands hL1 ?_
    refine SR_pu (RD_move rfl) rfl ?_
    refine SR_pu (RD_extract (v := .int .u64 ((getAt bs (8 * (i : Int))).1 : Nat)) rfl rfl) rfl ?_
    refine SR_pu (RD_extract rfl rfl) rfl ?_
    refine SR_pu (RD_ixAk i Try.runUnderlying137 Try.sizeOf37 rfl rfl (by omega) (by omega) (by simp)) rfl ?_
    refine SR_ox0 (OX_st Try.sizeOf37 rfl rfl) ?_
    rintro _ _ rfl
    refine SR_nil ?_
    refine SN.le (l := [(0, _), (2, _), (4, _), (5, _)]) ?_ (.cons rfl (.cons rfl (.cons rfl (.cons rfl (.nil)))))
    refine SN_block ?_
    refine SN_seq ?_
    refine SC_region ?_
    refine SR_pu (RD_move rfl) rfl ?_
    refine SR_pu (RD_addi rfl rfl (by omega) (by omega)) rfl ?_
    refine SR_pu (RD_assign rfl) rfl ?_
    refine SR_nil ?_
    refine SN.le (l := [(0, _), (2, _), (4, _), (5, _)]) ?_ (.cons rfl (.cons rfl (.cons rfl (.cons rfl (.nil)))))
    refine SC_again (ih (i + 1) (by omega) (by omega)) (.fin) (.cons rfl (.cons rfl (.cons rfl (.cons' rfl (ie (by omega)) (.nil)))))
  · have hin : i = 7 := by simp at hc10; omega
    subst hin
    clear ih
    rw [show gl bs 7 = [.int .u64 ((getAt bs (8 * ((0 : Nat) : Int))).1 : Nat), .int .u64 ((getAt bs (8 * ((1 : Nat) : Int))).1 : Nat), .int .u64 ((getAt bs (8 * ((2 : Nat) : Int))).1 : Nat), .int .u64 ((getAt bs (8 * ((3 : Nat) : Int))).1 : Nat), .int .u64 ((getAt bs (8 * ((4 : Nat) : Int))).1 : Nat), .int .u64 ((getAt bs (8 * ((5 : Nat) : Int))).1 : Nat), .int .u64 ((getAt bs (8 * ((6 : Nat) : Int))).1 : Nat)] from rfl]
    refine SC_exit rfl ?_
    refine SN_seq ?_
    refine SC_seq ?_
    refine SC_region ?_
    refine SR_pu (RD_ixAk 0 Try.runUnderlying137 Try.sizeOf37 rfl rfl (by omega) (by omega) rfl) rfl ?_
    refine SR_rd (RD_load Try.isAgg37 rfl) (Has.ce rfl) rfl ?_
    first
      | refine SR_pu (RD_convi64 Try.runUnderlying37 Try.runUnderlying3 rfl (by omega) (by omega)) rfl ?_
      | refine SR_pu (RD_convI Try.runUnderlying37 Try.runUnderlying3 rfl) rfl ?_
    refine SR_pu (RD_ixAk 1 Try.runUnderlying137 Try.sizeOf37 rfl rfl (by omega) (by omega) rfl) rfl ?_
    refine SR_rd (RD_load Try.isAgg37 rfl) (Has.ce rfl) rfl ?_
    first
      | refine SR_pu (RD_convi64 Try.runUnderlying37 Try.runUnderlying3 rfl (by omega) (by omega)) rfl ?_
      | refine SR_pu (RD_convI Try.runUnderlying37 Try.runUnderlying3 rfl) rfl ?_
    refine SR_pu (RD_ixAk 2 Try.runUnderlying137 Try.sizeOf37 rfl rfl (by omega) (by omega) rfl) rfl ?_
    refine SR_rd (RD_load Try.isAgg37 rfl) (Has.ce rfl) rfl ?_
    first
      | refine SR_pu (RD_convi64 Try.runUnderlying37 Try.runUnderlying3 rfl (by omega) (by omega)) rfl ?_
      | refine SR_pu (RD_convI Try.runUnderlying37 Try.runUnderlying3 rfl) rfl ?_
    refine SR_pu (RD_ixAk 3 Try.runUnderlying137 Try.sizeOf37 rfl rfl (by omega) (by omega) rfl) rfl ?_
    refine SR_rd (RD_load Try.isAgg37 rfl) (Has.ce rfl) rfl ?_
    refine SR_pu (RD_eql rfl rfl) rfl ?_
    refine SR_pu (RD_ixAk 4 Try.runUnderlying137 Try.sizeOf37 rfl rfl (by omega) (by omega) rfl) rfl ?_
    refine SR_rd (RD_load Try.isAgg37 rfl) (Has.ce rfl) rfl ?_
    refine SR_pu (RD_ixAk 5 Try.runUnderlying137 Try.sizeOf37 rfl rfl (by omega) (by omega) rfl) rfl ?_
    refine SR_rd (RD_load Try.isAgg37 rfl) (Has.ce rfl) rfl ?_
    refine SR_pu (RD_ixAk 6 Try.runUnderlying137 Try.sizeOf37 rfl rfl (by omega) (by omega) rfl) rfl ?_
    refine SR_rd (RD_load Try.isAgg37 rfl) (Has.ce rfl) rfl ?_
    first
      | refine SR_pu (RD_convi64 Try.runUnderlying37 Try.runUnderlying3 rfl (by omega) (by omega)) rfl ?_
      | refine SR_pu (RD_convI Try.runUnderlying37 Try.runUnderlying3 rfl) rfl ?_
    refine SR_pu (RD_build (.cons rfl (.cons rfl (.cons rfl (.cons rfl (.cons rfl (.cons rfl (.cons rfl (.nil)))))))) built87_0_1_2_3_4_5_6) rfl ?_
    refine SR_ox (OX_alloc Try.zeroValue87 rfl) rfl ?_
    rintro _ _ ⟨b6, rfl, rfl⟩
    refine SR_ox0 (OX_stA (vs := (gtTx bs).cells) Try.sizeOf87 rfl rfl rfl rfl) ?_
    rintro _ _ rfl
    refine SR_nil ?_
    refine SN.le (l := [(0, _), (2, _), (6, _)]) ?_ (.cons rfl (.cons rfl (.cons rfl (.nil))))
    refine SN_seq ?_
    refine SC_seq ?_
    refine SC_region ?_
    refine SR_rd (RD_loadA (vs := (gtTx bs).cells) Try.isAgg87 Try.sizeOf87 rfl rfl) Has.wh rfl ?_
    refine SR_call Try.call50 (.cons rfl (.nil)) (ref_TxCode_no (gtTx bs) hok) (lts rfl) ?_
    rintro _ L2 ⟨rfl, hL2⟩
    refine SR.lands hL2 ?_
    refine SR_pu (RD_move rfl) rfl ?_
    refine SR_pu (RD_extract rfl rfl) rfl ?_
    refine SR_pu (RD_extract rfl rfl) rfl ?_
    refine SR_pu (RD_assign rfl) rfl ?_
    refine SR_pu (RD_assign rfl) rfl ?_
    refine SR_nil ?_
    refine SN.le (l := [(0, _), (2, _), (6, _), (7, _), (8, _)]) ?_ (.cons rfl (.cons rfl (.cons rfl (.cons rfl (.cons rfl (.nil))))))
    refine SN_seq ?_
    refine SC_seq ?_
    refine SC_seq ?_
    refine SC_region ?_
    refine SR_pu (RD_move rfl) rfl ?_
    refine SR_pu (RD_not rfl) rfl ?_
    refine SR_pu (RD_move rfl) rfl ?_
    refine SR_no rfl rfl (rfl) (lts rfl) ?_
    refine SR_no rfl rfl (rfl) (lts rfl) ?_
    refine SR_no rfl rfl (rfl) (lts rfl) ?_
    refine SR_no rfl rfl (rfl) (lts rfl) ?_
    refine SR_pu (RD_pick_t rfl (rfl) rfl) rfl ?_
    refine SR_nil ?_
    refine SN.le (l := [(2, _), (6, _), (54, _)]) ?_ (.cons rfl (.cons rfl (.cons rfl (.nil))))
    refine SN_seq ?_
    refine SC_cond_true rfl (rfl) ?_
    refine SC_seq ?_
    refine SC_region ?_
    refine SR_pu (RD_build (.nil) built87) rfl ?_
    refine SR_ox0 (OX_stA (vs := txZero.cells) Try.sizeOf87 rfl rfl rfl rfl) ?_
    rintro _ _ rfl
    refine SR_pu (RD_assign rfl) rfl ?_
    refine SR_nil ?_
    refine SN.le (l := [(2, _), (3, _)]) ?_ (.cons rfl (.cons rfl (.nil)))
    refine SN_seq ?_
    refine SC_retCT rfl Try.isAgg87 Try.sizeOf87 rfl rfl rfl Has.wh ?_
    have hp : parseTx bs = none := by rw [← gtTx_parse, if_neg (by rw [hok]; simp)]
    rw [hp]
    exact ⟨rfl, .fin⟩

theorem ref_TxParse_ok {W : World} {F : List HProp} [Abs F] (a : Option Addr) (n c : Nat) (bs : List UInt8) [HasRow F a (bs.map byteV)] (hn : bs.length = n) (hb : n ≤ 1000000000000) (hok : (gtTx bs).ok = true) :
    CallsK W Try.prog 58 #[.slice a n c] (F) (fun v L => v = .tuple #[((parseTx bs).getD txZero).val, .bool (parseTx bs).isSome] ∧ Lands L F) := by
  refine CallsK_enter (n := 57) Try.func58 rfl rfl rfl ?_
  refine SC_seq ?_
  refine SC_region ?_
  refine SR_ox (OX_alloc Try.zeroValue87 rfl) rfl ?_
  rintro _ _ ⟨b2, rfl, rfl⟩
  refine SR_pu (RD_assign rfl) rfl ?_
  refine SR_nil ?_
  refine SN.le (l := [(0, _), (2, _)]) ?_ (.cons rfl (.cons rfl (.nil)))
  refine SN_seq ?_
  refine SC_seq ?_
  refine SC_region ?_
  refine SR_ox (OX_alloc Try.zeroValue137 rfl) rfl ?_
  rintro _ _ ⟨b4, rfl, rfl⟩
  refine SR_nil ?_
  refine SN.le (l := [(0, _), (2, _), (4, _)]) ?_ (.cons rfl (.cons rfl (.cons rfl (.nil))))
  refine SN_seq ?_
  refine SC_seq ?_
  refine SC_seq ?_
  refine SC_region ?_
  refine SR_pu (RD_assign rfl) rfl ?_
  refine SR_nil ?_
  refine SN.le (l := [(0, _), (2, _), (4, _), (5, _)]) ?_ (.cons rfl (.cons rfl (.cons rfl (.cons rfl (.nil)))))
  refine SN_seq ?_
  refine SC_block ?_
  refine SC_ind (X := Nat) (fun i => i ≤ 7) (fun i => 7 - i) (fun i => [(0, .slice a n c), (2, .pointer (some ⟨b2, 0, none⟩)), (4, .pointer (some ⟨b4, 0, none⟩)), (5, .int .i64 (i : Nat))]) (fun i => pt b4 (.cells (gl bs i).toArray 137) :: pt b2 (.cells txZero.cells.toArray 87) :: F) (0) (by omega) (.cons rfl (.cons rfl (.cons rfl (.cons rfl (.nil))))) ((show Lands _ (pt b4 (.cells [.int .u64 0, .int .u64 0, .int .u64 0, .int .u64 0, .int .u64 0, .int .u64 0, .int .u64 0].toArray 137) :: pt b2 (.cells [.int .i64 0, .int .i64 0, .int .i64 0, .bool false, .int .u64 0, .int .u64 0, .int .i64 0].toArray 87) :: F) from .fin)) ?_
  intro i hi ih
  have hi7 := hi
  refine SC_seq ?_
  refine SC_seq ?_
  refine SC_region ?_
  refine SR_pu (RD_move rfl) rfl ?_
  refine SR_pu (RD_lss rfl rfl) rfl ?_
  refine SR_nil ?_
  refine SN.le (l := [(0, _), (2, _), (4, _), (5, _), (10, _)]) ?_ (.cons rfl (.cons rfl (.cons rfl (.cons rfl (.cons rfl (.nil))))))
  refine SN_seq ?_
  refine SC_cond rfl (fun hc10 => ?_) (fun hc10 => ?_)
  · have hin : i < 7 := by simp at hc10; omega
    haveI := gl_set bs hin
    refine SC_skip ?_
    refine SN_seq ?_
    refine SC_seq ?_
    refine SC_block ?_
    refine SC_region ?_
    refine SR_pu (RD_move rfl) rfl ?_
    refine SR_pu (RD_move rfl) rfl ?_
    refine SR_pu (RD_move rfl) rfl ?_
    refine SR_pu (RD_muli rfl rfl (by omega) (by omega)) rfl ?_
    refine SR_call Try.call89 (.cons rfl (.cons rfl (.nil))) (ref_Get a n c bs hn hb (8 * (i : Int))) (lts rfl) ?_
    rintro _ L1 ⟨rfl, hL1⟩
    refine SR.lands hL1 ?_
    refine SR_pu (RD_move rfl) rfl ?_
    refine SR_pu (RD_extract (v := .int .u64 ((getAt bs (8 * (i : Int))).1 : Nat)) rfl rfl) rfl ?_
    refine SR_pu (RD_extract rfl rfl) rfl ?_
    refine SR_pu (RD_ixAk i Try.runUnderlying137 Try.sizeOf37 rfl rfl (by omega) (by omega) (by simp)) rfl ?_
    refine SR_ox0 (OX_st Try.sizeOf37 rfl rfl) ?_
    rintro _ _ rfl
    refine SR_nil ?_
    refine SN.le (l := [(0, _), (2, _), (4, _), (5, _)]) ?_ (.cons rfl (.cons rfl (.cons rfl (.cons rfl (.nil)))))
    refine SN_block ?_
    refine SN_seq ?_
    refine SC_region ?_
    refine SR_pu (RD_move rfl) rfl ?_
    refine SR_pu (RD_addi rfl rfl (by omega) (by omega)) rfl ?_
    refine SR_pu (RD_assign rfl) rfl ?_
    refine SR_nil ?_
    refine SN.le (l := [(0, _), (2, _), (4, _), (5, _)]) ?_ (.cons rfl (.cons rfl (.cons rfl (.cons rfl (.nil)))))
    refine SC_again (ih (i + 1) (by omega) (by omega)) (.fin) (.cons rfl (.cons rfl (.cons rfl (.cons' rfl (ie (by omega)) (.nil)))))
  · have hin : i = 7 := by simp at hc10; omega
    subst hin
    clear ih
    rw [show gl bs 7 = [.int .u64 ((getAt bs (8 * ((0 : Nat) : Int))).1 : Nat), .int .u64 ((getAt bs (8 * ((1 : Nat) : Int))).1 : Nat), .int .u64 ((getAt bs (8 * ((2 : Nat) : Int))).1 : Nat), .int .u64 ((getAt bs (8 * ((3 : Nat) : Int))).1 : Nat), .int .u64 ((getAt bs (8 * ((4 : Nat) : Int))).1 : Nat), .int .u64 ((getAt bs (8 * ((5 : Nat) : Int))).1 : Nat), .int .u64 ((getAt bs (8 * ((6 : Nat) : Int))).1 : Nat)] from rfl]
    refine SC_exit rfl ?_
    refine SN_seq ?_
    refine SC_seq ?_
    refine SC_region ?_
    refine SR_pu (RD_ixAk 0 Try.runUnderlying137 Try.sizeOf37 rfl rfl (by omega) (by omega) rfl) rfl ?_
    refine SR_rd (RD_load Try.isAgg37 rfl) (Has.ce rfl) rfl ?_
    first
      | refine SR_pu (RD_convi64 Try.runUnderlying37 Try.runUnderlying3 rfl (by omega) (by omega)) rfl ?_
      | refine SR_pu (RD_convI Try.runUnderlying37 Try.runUnderlying3 rfl) rfl ?_
    refine SR_pu (RD_ixAk 1 Try.runUnderlying137 Try.sizeOf37 rfl rfl (by omega) (by omega) rfl) rfl ?_
    refine SR_rd (RD_load Try.isAgg37 rfl) (Has.ce rfl) rfl ?_
    first
      | refine SR_pu (RD_convi64 Try.runUnderlying37 Try.runUnderlying3 rfl (by omega) (by omega)) rfl ?_
      | refine SR_pu (RD_convI Try.runUnderlying37 Try.runUnderlying3 rfl) rfl ?_
    refine SR_pu (RD_ixAk 2 Try.runUnderlying137 Try.sizeOf37 rfl rfl (by omega) (by omega) rfl) rfl ?_
    refine SR_rd (RD_load Try.isAgg37 rfl) (Has.ce rfl) rfl ?_
    first
      | refine SR_pu (RD_convi64 Try.runUnderlying37 Try.runUnderlying3 rfl (by omega) (by omega)) rfl ?_
      | refine SR_pu (RD_convI Try.runUnderlying37 Try.runUnderlying3 rfl) rfl ?_
    refine SR_pu (RD_ixAk 3 Try.runUnderlying137 Try.sizeOf37 rfl rfl (by omega) (by omega) rfl) rfl ?_
    refine SR_rd (RD_load Try.isAgg37 rfl) (Has.ce rfl) rfl ?_
    refine SR_pu (RD_eql rfl rfl) rfl ?_
    refine SR_pu (RD_ixAk 4 Try.runUnderlying137 Try.sizeOf37 rfl rfl (by omega) (by omega) rfl) rfl ?_
    refine SR_rd (RD_load Try.isAgg37 rfl) (Has.ce rfl) rfl ?_
    refine SR_pu (RD_ixAk 5 Try.runUnderlying137 Try.sizeOf37 rfl rfl (by omega) (by omega) rfl) rfl ?_
    refine SR_rd (RD_load Try.isAgg37 rfl) (Has.ce rfl) rfl ?_
    refine SR_pu (RD_ixAk 6 Try.runUnderlying137 Try.sizeOf37 rfl rfl (by omega) (by omega) rfl) rfl ?_
    refine SR_rd (RD_load Try.isAgg37 rfl) (Has.ce rfl) rfl ?_
    first
      | refine SR_pu (RD_convi64 Try.runUnderlying37 Try.runUnderlying3 rfl (by omega) (by omega)) rfl ?_
      | refine SR_pu (RD_convI Try.runUnderlying37 Try.runUnderlying3 rfl) rfl ?_
    refine SR_pu (RD_build (.cons rfl (.cons rfl (.cons rfl (.cons rfl (.cons rfl (.cons rfl (.cons rfl (.nil)))))))) built87_0_1_2_3_4_5_6) rfl ?_
    refine SR_ox (OX_alloc Try.zeroValue87 rfl) rfl ?_
    rintro _ _ ⟨b6, rfl, rfl⟩
    refine SR_ox0 (OX_stA (vs := (gtTx bs).cells) Try.sizeOf87 rfl rfl rfl rfl) ?_
    rintro _ _ rfl
    refine SR_nil ?_
    refine SN.le (l := [(0, _), (2, _), (6, _)]) ?_ (.cons rfl (.cons rfl (.cons rfl (.nil))))
    refine SN_seq ?_
    refine SC_seq ?_
    refine SC_region ?_
    refine SR_rd (RD_loadA (vs := (gtTx bs).cells) Try.isAgg87 Try.sizeOf87 rfl rfl) Has.wh rfl ?_
    refine SR_call Try.call50 (.cons rfl (.nil)) (ref_TxCode_ok (gtTx bs) (gtTx_wf bs) hok) (lts rfl) ?_
    rintro _ L2 ⟨ka, kc, rfl, hL2⟩
    refine SR.lands hL2 ?_
    refine SR_pu (RD_move rfl) rfl ?_
    refine SR_pu (RD_extract rfl rfl) rfl ?_
    refine SR_pu (RD_extract rfl rfl) rfl ?_
    refine SR_pu (RD_assign rfl) rfl ?_
    refine SR_pu (RD_assign rfl) rfl ?_
    refine SR_nil ?_
    refine SN.le (l := [(0, _), (2, _), (6, _), (7, _), (8, _)]) ?_ (.cons rfl (.cons rfl (.cons rfl (.cons rfl (.cons rfl (.nil))))))
    refine SN_seq ?_
    refine SC_seq ?_
    refine SC_seq ?_
    refine SC_region ?_
    refine SR_pu (RD_move rfl) rfl ?_
    refine SR_pu (RD_not rfl) rfl ?_
    refine SR_pu (RD_move rfl) rfl ?_
    refine SR_yes rfl rfl (rfl) ?_
    refine SR_pu (RD_move rfl) rfl ?_
    refine SR_yes rfl rfl (rfl) ?_
    refine SR_pu (RD_move rfl) rfl ?_
    refine SR_yes rfl rfl (rfl) ?_
    refine SR_call Try.call31 (.cons rfl (.cons rfl (.nil))) (ref_Same ka 56 kc (gtTx bs).code rfl (TxD.code_len _) a n c bs rfl hn) (lts rfl) ?_
    rintro _ L3 ⟨rfl, hL3⟩
    refine SR.lands hL3 ?_
    refine SR_yes rfl rfl (rfl) ?_
    refine SR_pu (RD_not rfl) rfl ?_
    refine SR_pu (RD_pick_f rfl (rfl) rfl) rfl ?_
    refine SR_nil ?_
    refine SN.le (l := [(2, _), (6, _), (54, _)]) ?_ (.cons rfl (.cons rfl (.cons rfl (.nil))))
    refine SN_seq ?_
    refine SC_cond rfl (fun hcode => ?_) (fun hcode => ?_)
    · refine SC_seq ?_
      refine SC_region ?_
      refine SR_pu (RD_build (.nil) built87) rfl ?_
      refine SR_ox0 (OX_stA (vs := txZero.cells) Try.sizeOf87 rfl rfl rfl rfl) ?_
      rintro _ _ rfl
      refine SR_pu (RD_assign rfl) rfl ?_
      refine SR_nil ?_
      refine SN.le (l := [(2, _), (3, _)]) ?_ (.cons rfl (.cons rfl (.nil)))
      refine SN_seq ?_
      refine SC_retCT rfl Try.isAgg87 Try.sizeOf87 rfl rfl rfl Has.wh ?_
      have hp : parseTx bs = none := by rw [← gtTx_parse, if_neg (by simpa [hok] using hcode)]
      rw [hp]
      exact ⟨rfl, .fin⟩
    · refine SC_skip ?_
      refine SN_seq ?_
      refine SC_seq ?_
      refine SC_region ?_
      refine SR_rd (RD_loadA (vs := (gtTx bs).cells) Try.isAgg87 Try.sizeOf87 rfl rfl) Has.wh rfl ?_
      refine SR_ox0 (OX_stA (vs := (gtTx bs).cells) Try.sizeOf87 rfl rfl rfl rfl) ?_
      rintro _ _ rfl
      refine SR_pu (RD_assign rfl) rfl ?_
      refine SR_nil ?_
      refine SN.le (l := [(2, _), (3, _)]) ?_ (.cons rfl (.cons rfl (.nil)))
      refine SN_seq ?_
      refine SC_retCT rfl Try.isAgg87 Try.sizeOf87 rfl rfl rfl Has.wh ?_
      have hp : parseTx bs = some (gtTx bs) := by rw [← gtTx_parse, if_pos (by simpa [hok] using hcode)]
      rw [hp]
      exact ⟨rfl, .fin⟩

theorem ref_TxParse {W : World} {F : List HProp} [Abs F] (a : Option Addr) (n c : Nat) (bs : List UInt8) [HasRow F a (bs.map byteV)] (hn : bs.length = n) (hb : n ≤ 1000000000000) : CallsK W Try.prog 58 #[.slice a n c] (F) (fun v L => v = .tuple #[((parseTx bs).getD txZero).val, .bool (parseTx bs).isSome] ∧ Lands L F) := by
  cases hok : (gtTx bs).ok with
  | false => exact ref_TxParse_no a n c bs hn hb hok
  | true => exact ref_TxParse_ok a n c bs hn hb hok

theorem seal_Len0 {W : World} {F : List HProp} [Abs F] (q : Nat) (need : Int) :
    CallsK W Try.prog 55 #[.pointer (some ⟨q, 0, none⟩)] (pt q (.cells [.int .i64 need, .slice none 0 0].toArray 142) :: F) (fun v L => v = .int .i64 0 ∧ Lands L (pt q (.cells [.int .i64 need, .slice none 0 0].toArray 142) :: F)) := by
  refine CallsK_enter (n := 8) Try.func55 rfl rfl rfl ?_
  refine SC_seq ?_
  refine SC_region ?_
  refine SR_pu (RD_assign rfl) rfl ?_
  refine SR_nil ?_
  refine SN.le (l := [(0, _)]) ?_ (.cons rfl (.nil))
  refine SN_seq ?_
  refine SC_seq ?_
  refine SC_region ?_
  refine SR_pu (RD_move rfl) rfl ?_
  first
    | refine SR_pu (RD_nilCheck rfl) rfl ?_
    | refine SR_pu (RD_nilCheckF rfl) rfl ?_
  first
    | refine SR_pu (RD_fieldAddr 1 Try.runUnderlying142 rfl rfl Try.sizeOf140 rfl) rfl ?_
    | refine SR_rd (RD_fieldAddrO 1 Try.runUnderlying142 rfl rfl Try.sizeOf140 rfl (by simp <;> omega)) Has.ro rfl ?_
  refine SR_rd (RD_load Try.isAgg140 rfl) (Has.ce rfl) rfl ?_
  refine SR_pu (RD_len Try.runUnderlying140 rfl) rfl ?_
  refine SR_pu (RD_assign rfl) rfl ?_
  refine SR_nil ?_
  refine SN.le (l := [(2, _)]) ?_ (.cons rfl (.nil))
  refine SN_seq ?_
  refine SC_ret1 rfl rfl ?_
  exact ⟨rfl, .fin⟩

theorem ref_Int {W : World} {F : List HProp} [Abs F] (x : Int) :
    CallsK W Try.prog 26 #[.int .i64 x] (F) (fun v L => ∃ a c, v = .slice a 8 c ∧ Lands L (rowP 5 1 a 8 c ((bei x).map byteV) :: F)) := by
  refine CallsK_enter (n := 6) Try.func26 rfl rfl rfl ?_
  refine SC_seq ?_
  refine SC_region ?_
  refine SR_pu (RD_assign rfl) rfl ?_
  refine SR_nil ?_
  refine SN.le (l := [(0, _)]) ?_ (.cons rfl (.nil))
  refine SN_seq ?_
  refine SC_seq ?_
  refine SC_region ?_
  refine SR_pu (RD_move rfl) rfl ?_
  refine SR_pu (RD_convI Try.runUnderlying3 Try.runUnderlying37 rfl) rfl ?_
  refine SR_call Try.call63 (.cons rfl (.nil)) (ref_Num (IntKind.u64.wrap x) (by rw [IntKind.wrap_u64]; omega)) (lts rfl) ?_
  rintro _ L1 ⟨na, nc, rfl, hL1⟩
  rw [bei_wrap] at hL1
  refine SR.lands hL1 ?_
  refine SR_pu (RD_assign rfl) rfl ?_
  refine SR_nil ?_
  refine SN.le (l := [(2, _)]) ?_ (.cons rfl (.nil))
  refine SN_seq ?_
  refine SC_ret1 rfl rfl ?_
  exact ⟨na, nc, rfl, .fin⟩

theorem law13_Digest {W : World} {F : List HProp} [Abs F] (e : EnvD) (he : e.Ok) :
    CallsK W Try.prog 56 #[e.val] (F) (fun v L => ∃ a c, v = .slice a (envB e).length c ∧ Lands L (rowP 5 1 a (envB e).length c ((envB e).map byteV) :: F)) := by
  refine CallsK_enter (n := 25) Try.func56 rfl rfl rfl ?_
  obtain ⟨he1, he2⟩ := he
  refine SC_seq ?_
  refine SC_region ?_
  refine SR_ox (OX_box rfl rfl) rfl ?_
  rintro _ _ ⟨b1, rfl, rfl⟩
  refine SR_pu (RD_assign rfl) rfl ?_
  refine SR_nil ?_
  refine SN.le (l := [(1, _)]) ?_ (.cons rfl (.nil))
  refine SN_seq ?_
  refine SC_seq ?_
  refine SC_region ?_
  refine SR_ox (OX_lit1 Try.underlying53 Try.type5 rfl rfl rfl rfl (.cons rfl (.cons rfl (.cons rfl (.nil)))) (.cons rfl (.cons rfl (.cons rfl (.nil))))) rfl ?_
  rintro _ _ ⟨b4, rfl, rfl⟩
  refine SR_ox (OX_mark Try.underlying53 Try.underlying5 rfl) rfl ?_
  rintro _ _ ⟨fz5, rfl, rfl⟩
  refine SR_call Try.call25 (.cons rfl (.nil)) (ref_Text (some ⟨b4, 0, none⟩) 3 3 [101, 110, 118] (cs := [.int .u8 101, .int .u8 110, .int .u8 118]) rfl rfl (by omega)) (lts rfl) ?_
  rintro _ L1 ⟨ta, tc, rfl, hL1⟩
  refine SR.lands hL1 ?_
  refine SR_pu (RD_assign rfl) rfl ?_
  refine SR_nil ?_
  refine SN.le (l := [(1, _), (3, _)]) ?_ (.cons rfl (.cons rfl (.nil)))
  refine SN_seq ?_
  refine SC_seq ?_
  refine SC_drawn (.cons 0 true (.cons 1 true (.cons 2 true (.cons 5 true (.cons 6 true (.cons 3 false (.cons 4 false (.cons 7 false (.cons 8 false (.cons 9 true (.nil))))))))))) (by kernel_rfl) (by kernel_rfl) ?_
  refine SQ_pu rfl (RD_move rfl) rfl ?_
  first
    | refine SQ_pu rfl (RD_fieldAddr0 Try.runUnderlying39 rfl rfl Try.sizeOf3 rfl) rfl ?_
    | refine SQ_rd rfl (RD_fieldAddrO 0 Try.runUnderlying39 rfl rfl Try.sizeOf3 rfl (by simp <;> omega)) Has.ro rfl ?_
  refine SQ_rd rfl (RD_load Try.isAgg3 rfl) (Has.ce rfl) rfl ?_
  first
    | refine SQ_pu rfl (RD_fieldAddr 1 Try.runUnderlying39 rfl rfl Try.sizeOf37 rfl) rfl ?_
    | refine SQ_rd rfl (RD_fieldAddrO 1 Try.runUnderlying39 rfl rfl Try.sizeOf37 rfl (by simp <;> omega)) Has.ro rfl ?_
  refine SQ_rd rfl (RD_load Try.isAgg37 rfl) (Has.ce rfl) rfl ?_
  refine SQ_call rfl Try.call26 (.cons rfl (.nil)) (ref_Int e.client) (lts rfl) ?_
  rintro _ L2 ⟨na2, nc2, rfl, hL2⟩
  refine ⟨.lands hL2 (.h (Has.ce rfl) (.w rfl (.nil))), ?_⟩
  refine SQ.lands hL2 ?_
  refine SQ_ox rfl (OX_app 1 Try.underlying53 Try.underlying53 Try.type5 rfl rfl rfl rfl rfl (by first | rfl | simp; done | (simp; omega)) 1 rfl (by omega) (by omega)) rfl ?_
  rintro _ _ ⟨a11, c11, rfl, rfl⟩
  refine ⟨.h (Has.ce rfl) (.h (Has.ce rfl) (.nil)), ?_⟩
  refine SQ_call rfl Try.call63 (.cons rfl (.nil)) (ref_Num e.nonce (by omega)) (lts rfl) ?_
  rintro _ L3 ⟨na3, nc3, rfl, hL3⟩
  refine ⟨.lands hL3 (.w rfl (.h (Has.ce rfl) (.nil))), ?_⟩
  refine SQ.lands hL3 ?_
  refine SQ_ox rfl (OX_app 1 Try.underlying53 Try.underlying53 Try.type5 rfl rfl rfl rfl rfl (by first | rfl | simp; done | (simp; omega)) 1 rfl (by omega) (by omega)) rfl ?_
  rintro _ _ ⟨a15, c15, rfl, rfl⟩
  refine ⟨.h (Has.ce rfl) (.h (Has.ce rfl) (.nil)), ?_⟩
  refine SQ_pu rfl (RD_assign rfl) rfl ?_
  refine SQ_nil ?_
  refine SN.le (l := [(1, _), (3, _)]) ?_ (.cons rfl (.cons rfl (.nil)))
  refine SN_seq ?_
  refine SC_seq ?_
  refine SC_drawn (.cons 0 true (.cons 1 true (.cons 2 true (.cons 5 true (.cons 6 true (.cons 3 false (.cons 4 false (.cons 7 false (.cons 8 false (.cons 9 true (.nil))))))))))) (by kernel_rfl) (by kernel_rfl) ?_
  refine SQ_pu rfl (RD_move rfl) rfl ?_
  first
    | refine SQ_pu rfl (RD_fieldAddr 2 Try.runUnderlying39 rfl rfl Try.sizeOf37 rfl) rfl ?_
    | refine SQ_rd rfl (RD_fieldAddrO 2 Try.runUnderlying39 rfl rfl Try.sizeOf37 rfl (by simp <;> omega)) Has.ro rfl ?_
  refine SQ_rd rfl (RD_load Try.isAgg37 rfl) (Has.ce rfl) rfl ?_
  first
    | refine SQ_pu rfl (RD_fieldAddr 3 Try.runUnderlying39 rfl rfl Try.sizeOf3 rfl) rfl ?_
    | refine SQ_rd rfl (RD_fieldAddrO 3 Try.runUnderlying39 rfl rfl Try.sizeOf3 rfl (by simp <;> omega)) Has.ro rfl ?_
  refine SQ_rd rfl (RD_load Try.isAgg3 rfl) (Has.ce rfl) rfl ?_
  refine SQ_call rfl Try.call63 (.cons rfl (.nil)) (ref_Num e.fee (by omega)) (lts rfl) ?_
  rintro _ L4 ⟨na4, nc4, rfl, hL4⟩
  refine ⟨.lands hL4 (.h (Has.ce rfl) (.w rfl (.nil))), ?_⟩
  refine SQ.lands hL4 ?_
  refine SQ_ox rfl (OX_app 1 Try.underlying53 Try.underlying53 Try.type5 rfl rfl rfl rfl rfl (by first | rfl | simp; done | (simp; omega)) 1 rfl (by omega) (by omega)) rfl ?_
  rintro _ _ ⟨a20, c20, rfl, rfl⟩
  refine ⟨.h (Has.ce rfl) (.h (Has.ce rfl) (.nil)), ?_⟩
  refine SQ_call rfl Try.call26 (.cons rfl (.nil)) (ref_Int e.cipher) (lts rfl) ?_
  rintro _ L5 ⟨na5, nc5, rfl, hL5⟩
  refine ⟨.lands hL5 (.w rfl (.h (Has.ce rfl) (.nil))), ?_⟩
  refine SQ.lands hL5 ?_
  refine SQ_ox rfl (OX_app 1 Try.underlying53 Try.underlying53 Try.type5 rfl rfl rfl rfl rfl (by first | rfl | simp; done | (simp; omega)) 1 rfl (by omega) (by omega)) rfl ?_
  rintro _ _ ⟨a24, c24, rfl, rfl⟩
  refine ⟨.h (Has.ce rfl) (.h (Has.ce rfl) (.nil)), ?_⟩
  refine SQ_pu rfl (RD_assign rfl) rfl ?_
  refine SQ_nil ?_
  refine SN.le (l := [(2, _)]) ?_ (.cons rfl (.nil))
  refine SN_seq ?_
  refine SC_ret1 rfl rfl ?_
  have hlen : (envB e).length = 8 + 3 + 8 + 8 + 8 + 8 := by unfold envB; rw [tagB_len]; rfl
  have hcs : (envB e).map byteV = (bei ((3 : Nat) : Int) ++ [101, 110, 118]).map byteV ++ (bei e.client).map byteV ++ (bei e.nonce).map byteV ++ (bei e.fee).map byteV ++ (bei e.cipher).map byteV := by simp [envB, tagB]
  rw [hlen, hcs]
  exact ⟨_, _, rfl, .fin⟩

end Go.Proofs.Ytnifaajdiolbjaa
