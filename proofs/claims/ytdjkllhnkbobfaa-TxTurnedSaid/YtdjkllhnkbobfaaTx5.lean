/- The trades' forms: one field turned, one byte turned. -/
import Derived.Test.YtdjkllhnkbobfaaTx4
namespace Go.Proofs.Ytdjkllhnkbobfaa
open Go Go.Proofs
set_option maxRecDepth 100000
theorem turn_set {bs : List UInt8} {k : Nat} {x b : UInt8} (hx : bs[k]? = some x) : bs.set k (x ^^^ b) = bs ↔ b = 0 := by
  have hk := (List.getElem?_eq_some_iff.1 hx).1
  constructor
  · intro h
    have h1 : (bs.set k (x ^^^ b))[k]? = bs[k]? := by rw [h]
    rw [List.getElem?_set_self hk, hx] at h1
    have h2 := Option.some.inj h1
    have h3 := congrArg UInt8.toBitVec h2
    have : b.toBitVec = 0 := by
      have : x.toBitVec ^^^ b.toBitVec = x.toBitVec := by simpa using h3
      have h4 := congrArg (x.toBitVec ^^^ ·) this
      simpa [← BitVec.xor_assoc] using h4
    exact UInt8.toBitVec_inj.1 this
  · rintro rfl
    simp
    have : bs[k] = x := by rw [List.getElem?_eq_getElem hk] at hx; exact Option.some.inj hx
    rw [← this]
    simp
theorem set_byteY {bs : List UInt8} {k : Nat} {y : UInt8} : (bs.set k y).map byteV = (bs.map byteV).set ((k : Int).toNat * (0 + 1)) (byteV y) := by
  rw [List.map_set]; simp

instance (t : TxD) (v : Int) : SetAt t.cells 0 (.int .i64 v) (TxD.cells { t with kind := v }) := ⟨rfl, by show 0 < 7; omega⟩
instance (t : TxD) (v : Int) : SetAt t.cells (0 + 1) (.int .i64 v) (TxD.cells { t with asset := v }) := ⟨rfl, by show 0 + 1 < 7; omega⟩
instance (t : TxD) (v : Int) : SetAt t.cells (0 + 2) (.int .i64 v) (TxD.cells { t with to := v }) := ⟨rfl, by show 0 + 2 < 7; omega⟩
instance (t : TxD) (v : Bool) : SetAt t.cells (0 + 3) (.bool v) (TxD.cells { t with buy := v }) := ⟨rfl, by show 0 + 3 < 7; omega⟩
instance (t : TxD) (v : Int) : SetAt t.cells (0 + 4) (.int .u64 v) (TxD.cells { t with price := v }) := ⟨rfl, by show 0 + 4 < 7; omega⟩
instance (t : TxD) (v : Int) : SetAt t.cells (0 + 5) (.int .u64 v) (TxD.cells { t with qty := v }) := ⟨rfl, by show 0 + 5 < 7; omega⟩
instance (t : TxD) (v : Int) : SetAt t.cells (0 + 6) (.int .i64 v) (TxD.cells { t with id := v }) := ⟨rfl, by show 0 + 6 < 7; omega⟩
/-- A code with one byte turned: what is read back of it. -/
theorem turned {t : TxD} (ht : t.Wf) (hok : t.ok = true) {k : Nat} {x b : UInt8} (hx : t.code[k]? = some x) :
    (parseTx (t.code.set k (x ^^^ b)) = none ∧ b ≠ 0) ∨ (∃ u : TxD, parseTx (t.code.set k (x ^^^ b)) = some u ∧ u.Wf ∧ u.ok = true ∧ u.code = t.code.set k (x ^^^ b) ∧ (u.same t == decide (b = 0)) = true) := by
  cases e : parseTx (t.code.set k (x ^^^ b)) with
  | none =>
    refine .inl ⟨rfl, fun hb => ?_⟩
    rw [(turn_set hx).2 hb, parseTx_code ht hok] at e
    cases e
  | some u =>
    obtain ⟨h1, h2⟩ := parseTx_len e
    have hu : u.Wf := by
      have h3 : u = rdTx (t.code.set k (x ^^^ b)) := by
        unfold parseTx at e
        split at e
        · exact (Option.some.inj e).symm
        · cases e
      rw [h3]; exact rdTx_wf _
    refine .inr ⟨u, rfl, hu, h1, h2, ?_⟩
    have : u.same t = decide (b = 0) := by
      rw [Bool.eq_iff_iff, decide_eq_true_eq, TxD.same_iff, ← code_inj hu ht, h2, turn_set hx]
    rw [this]; simp

theorem law_TxTurned {W : World} {F : List HProp} [Abs F] (x y : Int) (wh z at_ : Int) (b : UInt8) (hx : 0 ≤ x ∧ x < 18446744073709551616) (hy : 0 ≤ y ∧ y < 18446744073709551616) (hz : 0 ≤ z ∧ z < 18446744073709551616) :
    CallsK W Try.prog 9 #[.int .u64 x, .int .u64 y, .int .i64 wh, .int .u64 z, .int .i64 at_, byteV b] (F) (fun v L => v = .bool true ∧ Lands L F) := by
  refine CallsK_enter (n := 148) Try.func9 rfl rfl rfl ?_
  refine SC_seq ?_
  refine SC_region ?_
  refine SR_pu (RD_assign rfl) rfl ?_
  refine SR_nil ?_
  refine SN.le (l := [(0, _), (1, _), (2, _), (3, _), (4, _), (5, _)]) ?_ (.cons rfl (.cons rfl (.cons rfl (.cons rfl (.cons rfl (.cons rfl (.nil)))))))
  refine SN_seq ?_
  refine SC_seq ?_
  refine SC_region ?_
  refine SR_pu (RD_move rfl) rfl ?_
  refine SR_pu (RD_move rfl) rfl ?_
  refine SR_call Try.call34 (.cons rfl (.cons rfl (.nil))) (law_Tx x y hx hy) (lts rfl) ?_
  rintro _ La ⟨t, rfl, hwt, hLa⟩
  refine SR.lands hLa ?_
  refine SR_ox (OX_alloc Try.zeroValue54 rfl) rfl ?_
  rintro _ _ ⟨b13, rfl, rfl⟩
  refine SR_ox0 (OX_stA Try.sizeOf54 rfl rfl rfl rfl) ?_
  rintro _ _ rfl
  refine SR_nil ?_
  refine SN.le (l := [(2, _), (3, _), (4, _), (5, _), (13, _)]) ?_ (.cons rfl (.cons rfl (.cons rfl (.cons rfl (.cons rfl (.nil))))))
  refine SN_seq ?_
  refine SC_seq ?_
  by_cases hokt : t.ok = true
  · refine SC_region ?_
    refine SR_rd (RD_loadA Try.isAgg54 Try.sizeOf54 rfl rfl) Has.wh rfl ?_
    refine SR_call Try.call30 (.cons rfl (.nil)) (tx_Code_ok t hwt hokt) (lts rfl) ?_
    rintro _ L1 ⟨a1, c1, rfl, hL1⟩
    refine SR.lands hL1 ?_
    refine SR_pu (RD_move rfl) rfl ?_
    refine SR_pu (RD_extract rfl rfl) rfl ?_
    refine SR_pu (RD_extract rfl rfl) rfl ?_
    refine SR_pu (RD_assign rfl) rfl ?_
    refine SR_pu (RD_assign rfl) rfl ?_
    refine SR_nil ?_
    refine SN.le (l := [(2, _), (3, _), (4, _), (5, _), (13, _), (14, _), (15, _)]) ?_ (.cons rfl (.cons rfl (.cons rfl (.cons rfl (.cons rfl (.cons rfl (.cons rfl (.nil))))))))
    refine SN_seq ?_
    refine SC_seq ?_
    refine SC_seq ?_
    refine SC_region ?_
    refine SR_pu (RD_move rfl) rfl ?_
    refine SR_pu (RD_not rfl) rfl ?_
    refine SR_nil ?_
    refine SN.le (l := [(2, _), (3, _), (4, _), (5, _), (13, _), (14, _), (33, _)]) ?_ (.cons rfl (.cons rfl (.cons rfl (.cons rfl (.cons rfl (.cons rfl (.cons rfl (.nil))))))))
    refine SN_seq ?_
    refine SC_cond_false rfl (rfl) ?_
    refine SC_skip ?_
    refine SN_seq ?_
    refine SC_seq ?_
    refine SC_region ?_
    refine SR_rd (RD_loadA Try.isAgg54 Try.sizeOf54 rfl rfl) Has.wh rfl ?_
    refine SR_ox (OX_alloc Try.zeroValue54 rfl) rfl ?_
    rintro _ _ ⟨b16, rfl, rfl⟩
    refine SR_ox0 (OX_stA Try.sizeOf54 rfl rfl rfl rfl) ?_
    rintro _ _ rfl
    refine SR_nil ?_
    refine SN.le (l := [(2, _), (3, _), (4, _), (5, _), (13, _), (14, _), (16, _)]) ?_ (.cons rfl (.cons rfl (.cons rfl (.cons rfl (.cons rfl (.cons rfl (.cons rfl (.nil))))))))
    refine SN_seq ?_
    refine SC_seq ?_
    refine SC_seq ?_
    refine SC_join2 (X := {u : TxD // u.Wf}) (fun x => [(4, .int .i64 at_), (5, byteV b), (13, .pointer (some ⟨b13, 0, none⟩)), (14, .slice a1 56 c1), (16, .pointer (some ⟨b16, 0, none⟩))]) (fun x => pt b16 (.cells x.1.cells.toArray 54) :: pt b13 (.cells t.cells.toArray 54) :: rowP 5 1 a1 56 c1 (t.code.map byteV) :: F) (fun x => ?_) (fun J0 => ?_)
    · obtain ⟨u, hwu⟩ := x
      dsimp only
      refine SN_seq ?_
      refine SC_seq ?_
      by_cases hoku : u.ok = true
      · refine SC_region ?_
        refine SR_rd (RD_loadA Try.isAgg54 Try.sizeOf54 rfl rfl) Has.wh rfl ?_
        refine SR_call Try.call30 (.cons rfl (.nil)) (tx_Code_ok u hwu hoku) (lts rfl) ?_
        rintro _ L2 ⟨a2, c2, rfl, hL2⟩
        refine SR.lands hL2 ?_
        refine SR_pu (RD_move rfl) rfl ?_
        refine SR_pu (RD_extract rfl rfl) rfl ?_
        refine SR_pu (RD_extract rfl rfl) rfl ?_
        refine SR_pu (RD_assign rfl) rfl ?_
        refine SR_pu (RD_assign rfl) rfl ?_
        refine SR_nil ?_
        refine SN.le (l := [(4, _), (5, _), (13, _), (14, _), (16, _), (17, _), (18, _)]) ?_ (.cons rfl (.cons rfl (.cons rfl (.cons rfl (.cons rfl (.cons rfl (.cons rfl (.nil))))))))
        refine SN_seq ?_
        refine SC_seq ?_
        refine SC_seq ?_
        refine SC_drawn (.cons 0 true (.cons 1 true (.cons 2 true (.cons 3 true (.cons 4 true (.cons 5 true (.cons 6 true (.cons 7 true (.cons 8 true (.cons 9 true (.cons 10 true (.cons 11 true (.nil))))))))))))) (by kernel_rfl) (by kernel_rfl) ?_
        refine SQ_pu rfl (RD_move rfl) rfl ?_
        refine SQ_pu rfl (RD_move rfl) rfl ?_
        refine SQ_pyes rfl rfl rfl (rfl) (RD_move rfl) rfl ?_
        refine SQ_yes rfl rfl rfl (rfl) (RD_b2s (bs := t.code) Try.underlying25 Try.underlying9 Try.underlying5 rfl t.code_len) Has.ro rfl ?_
        refine SQ_pyes rfl rfl rfl (rfl) (RD_move rfl) rfl ?_
        refine SQ_yes rfl rfl rfl (rfl) (RD_b2s (bs := u.code) Try.underlying25 Try.underlying9 Try.underlying5 rfl u.code_len) Has.ro rfl ?_
        refine SQ_pyes rfl rfl rfl (rfl) (RD_eqlS rfl rfl) rfl ?_
        refine SQ_yes rfl rfl rfl (rfl) (RD_loadA Try.isAgg54 Try.sizeOf54 rfl rfl) Has.wh rfl ?_
        refine SQ_yes rfl rfl rfl (rfl) (RD_loadA Try.isAgg54 Try.sizeOf54 rfl rfl) Has.wh rfl ?_
        refine SQ_pyes rfl rfl rfl (rfl) (RD_eqlTx t u rfl rfl rfl) rfl ?_
        refine SQ_pyes rfl rfl rfl (rfl) (RD_neqB Try.underlying4 rfl rfl) rfl ?_
        refine SQ_pu rfl (RD_pick_t rfl (rfl) rfl) rfl ?_
        refine SQ_nil ?_
        refine SN.le (l := [(4, _), (5, _), (13, _), (14, _), (95, _)]) ?_ (.cons rfl (.cons rfl (.cons rfl (.cons rfl (.cons rfl (.nil))))))
        refine SN_seq ?_
        refine SC_cond_false rfl (by have := code_same hwt hwu; simpa using this) ?_
        refine SC_skip ?_
        refine SN_seq ?_
        refine SC_seq ?_
        refine SC_region ?_
        refine SR_ox (OX_buildSlice0 Try.runUnderlying25 Try.sizeOf5) rfl ?_
        rintro _ _ ⟨b96, rfl, rfl⟩
        refine SR_pu (RD_move rfl) rfl ?_
        refine SR_ox (OX_app0 1 Try.underlying25 Try.underlying25 Try.type5 rfl rfl rfl rfl rfl (by simp [TxD.code_len]) 1 rfl (by omega) (by omega)) rfl ?_
        rintro _ _ ⟨a98, c98, rfl, rfl⟩
        refine SR_pu (RD_assign rfl) rfl ?_
        refine SR_nil ?_
        refine SN.le (l := [(4, _), (5, _), (13, _), (19, _)]) ?_ (.cons rfl (.cons rfl (.cons rfl (.cons rfl (.nil)))))
        refine SN_seq ?_
        refine SC_seq ?_
        refine SC_seq ?_
        refine SC_region ?_
        refine SR_pu (RD_move rfl) rfl ?_
        refine SR_pu (RD_len Try.runUnderlying25 rfl) rfl ?_
        refine SR_pu (RD_eql rfl rfl) rfl ?_
        refine SR_nil ?_
        refine SN.le (l := [(4, _), (5, _), (13, _), (19, _), (101, _)]) ?_ (.cons rfl (.cons rfl (.cons rfl (.cons rfl (.cons rfl (.nil))))))
        refine SN_seq ?_
        refine SC_cond_false rfl (rfl) ?_
        refine SC_skip ?_
        refine SN_seq ?_
        refine SC_seq ?_
        obtain ⟨k, hk⟩ : ∃ k : Nat, at_ % 256 % 56 = (k : Int) := ⟨(at_ % 256 % 56).toNat, by omega⟩
        obtain ⟨xb, hxb⟩ : ∃ xb, t.code[k]? = some xb := ⟨_, List.getElem?_eq_getElem (by rw [t.code_len]; omega)⟩
        refine SC_region ?_
        refine SR_pu (RD_move rfl) rfl ?_
        refine SR_pu (RD_move rfl) rfl ?_
        refine SR_pu (RD_mask 8 rfl rfl rfl (by decide) 256 rfl) rfl ?_
        refine SR_pu (RD_move rfl) rfl ?_
        refine SR_pu (RD_len Try.runUnderlying25 rfl) rfl ?_
        refine SR_pu (RD_remk rfl rfl (by omega) (by omega) hk) rfl ?_
        refine SR_rd (RD_ixO (cs := t.code.map byteV) Try.runUnderlying25 Try.sizeOf5 rfl rfl (by simp [TxD.code_len]) (by omega) (by omega)) Has.ro rfl ?_
        refine SR_rd (RD_loadO (v := byteV xb) (cs := t.code.map byteV) Try.isAgg5 rfl (by simp [hxb])) Has.ro rfl ?_
        refine SR_pu (RD_move rfl) rfl ?_
        refine SR_pu (RD_xor8 rfl rfl) rfl ?_
        refine SR_rd (RD_ixO (cs := t.code.map byteV) Try.runUnderlying25 Try.sizeOf5 rfl rfl (by simp [TxD.code_len]) (by omega) (by omega)) Has.ro rfl ?_
        refine SR_ox0 (OX_stRow Try.sizeOf5 rfl rfl (by simp [TxD.code_len]; omega)) ?_
        rintro _ _ rfl
        refine SR_nil ?_
        refine SN.le (l := [(5, _), (13, _), (19, _)]) ?_ (.cons rfl (.cons rfl (.cons rfl (.nil))))
        refine SN_seq ?_
        refine SC_seq ?_
        rcases turned (b := b) hwt hokt hxb with ⟨hpar, hb0⟩ | ⟨w, hpar, hww, hokw, hwc, hsame⟩
        · refine SC_region ?_
          refine SR_pu (RD_move rfl) rfl ?_
          refine SR_call Try.call31 (.cons rfl (.nil)) (tx_Parse (t.code.set k (xb ^^^ b)) _ 56 _ (by rw [set_byteY]) (by simp [TxD.code_len]) (by decide)) (lts rfl) ?_
          rintro _ L4 ⟨rfl, hL4⟩
          rw [hpar]
          refine SR.lands hL4 ?_
          refine SR_pu (RD_move rfl) rfl ?_
          refine SR_pu (RD_extract rfl rfl) rfl ?_
          refine SR_pu (RD_extract rfl rfl) rfl ?_
          refine SR_ox (OX_alloc Try.zeroValue54 rfl) rfl ?_
          rintro _ _ ⟨b20, rfl, rfl⟩
          refine SR_ox0 (OX_stA Try.sizeOf54 rfl rfl rfl rfl) ?_
          rintro _ _ rfl
          refine SR_pu (RD_assign rfl) rfl ?_
          refine SR_nil ?_
          refine SN.le (l := [(5, _), (13, _), (19, _), (20, _), (21, _)]) ?_ (.cons rfl (.cons rfl (.cons rfl (.cons rfl (.cons rfl (.nil))))))
          refine SN_seq ?_
          refine SC_seq ?_
          refine SC_seq ?_
          refine SC_region ?_
          refine SR_pu (RD_move rfl) rfl ?_
          refine SR_nil ?_
          refine SN.le (l := [(5, _), (13, _), (19, _), (20, _), (118, _)]) ?_ (.cons rfl (.cons rfl (.cons rfl (.cons rfl (.cons rfl (.nil))))))
          refine SN_seq ?_
          refine SC_cond_false rfl (rfl) ?_
          refine SC_skip ?_
          refine SN_seq ?_
          refine SC_seq ?_
          refine SC_region ?_
          refine SR_pu (RD_move rfl) rfl ?_
          refine SR_pu (RD_neq rfl rfl) rfl ?_
          refine SR_pu (RD_move rfl) rfl ?_
          refine SR_yes rfl rfl (by have h0 : ¬ b.toNat = 0 := (fun h => hb0 (UInt8.toNat_inj.1 h)); simp [h0]) ?_
          refine SR_call Try.call33 (.nil) (tx_awake) (lts rfl) ?_
          rintro _ L9 ⟨rfl, hL9⟩
          refine SR.lands hL9 ?_
          refine SR_pu (RD_pick_t rfl (by have h0 : ¬ b.toNat = 0 := (fun h => hb0 (UInt8.toNat_inj.1 h)); simp [h0]) rfl) rfl ?_
          refine SR_pu (RD_assign rfl) rfl ?_
          refine SR_nil ?_
          refine SN.le (l := [(12, _)]) ?_ (.cons rfl (.nil))
          refine SN_seq ?_
          refine SC_ret1 rfl rfl ?_
          exact ⟨rfl, .fin⟩
        · refine SC_region ?_
          refine SR_pu (RD_move rfl) rfl ?_
          refine SR_call Try.call31 (.cons rfl (.nil)) (tx_Parse (t.code.set k (xb ^^^ b)) _ 56 _ (by rw [set_byteY]) (by simp [TxD.code_len]) (by decide)) (lts rfl) ?_
          rintro _ L4 ⟨rfl, hL4⟩
          rw [hpar]
          refine SR.lands hL4 ?_
          refine SR_pu (RD_move rfl) rfl ?_
          refine SR_pu (RD_extract rfl rfl) rfl ?_
          refine SR_pu (RD_extract rfl rfl) rfl ?_
          refine SR_ox (OX_alloc Try.zeroValue54 rfl) rfl ?_
          rintro _ _ ⟨b20, rfl, rfl⟩
          refine SR_ox0 (OX_stA Try.sizeOf54 rfl rfl rfl rfl) ?_
          rintro _ _ rfl
          refine SR_pu (RD_assign rfl) rfl ?_
          refine SR_nil ?_
          refine SN.le (l := [(5, _), (13, _), (19, _), (20, _), (21, _)]) ?_ (.cons rfl (.cons rfl (.cons rfl (.cons rfl (.cons rfl (.nil))))))
          refine SN_seq ?_
          refine SC_seq ?_
          refine SC_seq ?_
          refine SC_region ?_
          refine SR_pu (RD_move rfl) rfl ?_
          refine SR_nil ?_
          refine SN.le (l := [(5, _), (13, _), (19, _), (20, _), (118, _)]) ?_ (.cons rfl (.cons rfl (.cons rfl (.cons rfl (.cons rfl (.nil))))))
          refine SN_seq ?_
          refine SC_cond_true rfl (rfl) ?_
          refine SC_seq ?_
          refine SC_region ?_
          refine SR_rd (RD_loadA Try.isAgg54 Try.sizeOf54 rfl rfl) Has.wh rfl ?_
          refine SR_call Try.call30 (.cons rfl (.nil)) (tx_Code_ok w hww hokw) (lts rfl) ?_
          rintro _ L7 ⟨a7, c7, rfl, hL7⟩
          rw [hwc] at hL7
          refine SR.lands hL7 ?_
          refine SR_pu (RD_move rfl) rfl ?_
          refine SR_pu (RD_extract rfl rfl) rfl ?_
          refine SR_pu (RD_extract rfl rfl) rfl ?_
          refine SR_pu (RD_assign rfl) rfl ?_
          refine SR_pu (RD_assign rfl) rfl ?_
          refine SR_nil ?_
          refine SN.le (l := [(5, _), (13, _), (19, _), (20, _), (22, _), (23, _)]) ?_ (.cons rfl (.cons rfl (.cons rfl (.cons rfl (.cons rfl (.cons rfl (.nil)))))))
          refine SN_seq ?_
          refine SC_seq ?_
          refine SC_region ?_
          refine SR_pu (RD_move rfl) rfl ?_
          refine SR_pu (RD_move rfl) rfl ?_
          refine SR_yes rfl rfl (rfl) ?_
          refine SR_pu (RD_move rfl) rfl ?_
          refine SR_yes rfl rfl (rfl) ?_
          refine SR_rd (RD_b2s (bs := t.code.set k (xb ^^^ b)) Try.underlying25 Try.underlying9 Try.underlying5 rfl (by simp [TxD.code_len])) Has.ro rfl ?_
          refine SR_yes rfl rfl (rfl) ?_
          refine SR_pu (RD_move rfl) rfl ?_
          refine SR_yes rfl rfl (rfl) ?_
          refine SR_rd (RD_b2sc (t.code.set k (xb ^^^ b)) (by rw [set_byteY]) Try.underlying25 Try.underlying9 Try.underlying5 rfl (by simp [TxD.code_len])) Has.ro rfl ?_
          refine SR_yes rfl rfl (rfl) ?_
          refine SR_pu (RD_eqlS rfl rfl) rfl ?_
          refine SR_pu (RD_pick_t rfl (rfl) rfl) rfl ?_
          refine SR_pu (RD_move rfl) rfl ?_
          refine SR_yes rfl rfl (by simp) ?_
          refine SR_rd (RD_loadA Try.isAgg54 Try.sizeOf54 rfl rfl) Has.wh rfl ?_
          refine SR_yes rfl rfl (by simp) ?_
          refine SR_rd (RD_loadA Try.isAgg54 Try.sizeOf54 rfl rfl) Has.wh rfl ?_
          refine SR_yes rfl rfl (by simp) ?_
          refine SR_pu (RD_eqlTx w t rfl rfl rfl) rfl ?_
          refine SR_yes rfl rfl (by simp) ?_
          refine SR_pu (RD_move rfl) rfl ?_
          refine SR_yes rfl rfl (by simp) ?_
          refine SR_pu (RD_eqlB8 (y := 0) rfl rfl) rfl ?_
          refine SR_yes rfl rfl (by simp) ?_
          refine SR_pu (RD_eqlB Try.underlying4 rfl rfl) rfl ?_
          refine SR_pu (RD_pick_t rfl (by simp) rfl) rfl ?_
          refine SR_pu (RD_move rfl) rfl ?_
          refine SR_yes rfl rfl (hsame) ?_
          refine SR_call Try.call33 (.nil) (tx_awake) (lts rfl) ?_
          rintro _ L9 ⟨rfl, hL9⟩
          refine SR.lands hL9 ?_
          refine SR_pu (RD_pick_t rfl (hsame) rfl) rfl ?_
          refine SR_pu (RD_assign rfl) rfl ?_
          refine SR_nil ?_
          refine SN.le (l := [(12, _)]) ?_ (.cons rfl (.nil))
          refine SN_seq ?_
          refine SC_ret1 rfl rfl ?_
          exact ⟨rfl, .fin⟩
      · have hoku : u.ok = false := by simpa using hoku
        refine SC_region ?_
        refine SR_rd (RD_loadA Try.isAgg54 Try.sizeOf54 rfl rfl) Has.wh rfl ?_
        refine SR_call Try.call30 (.cons rfl (.nil)) (tx_Code_no u hoku) (lts rfl) ?_
        rintro _ L2 ⟨rfl, hL2⟩
        refine SR.lands hL2 ?_
        refine SR_pu (RD_move rfl) rfl ?_
        refine SR_pu (RD_extract rfl rfl) rfl ?_
        refine SR_pu (RD_extract rfl rfl) rfl ?_
        refine SR_pu (RD_assign rfl) rfl ?_
        refine SR_pu (RD_assign rfl) rfl ?_
        refine SR_nil ?_
        refine SN.le (l := [(4, _), (5, _), (13, _), (14, _), (16, _), (17, _), (18, _)]) ?_ (.cons rfl (.cons rfl (.cons rfl (.cons rfl (.cons rfl (.cons rfl (.cons rfl (.nil))))))))
        refine SN_seq ?_
        refine SC_seq ?_
        refine SC_seq ?_
        refine SC_drawn (.cons 0 true (.cons 1 true (.cons 2 true (.cons 3 true (.cons 4 true (.cons 5 true (.cons 6 true (.cons 7 true (.cons 8 true (.cons 9 true (.cons 10 true (.cons 11 true (.nil))))))))))))) (by kernel_rfl) (by kernel_rfl) ?_
        refine SQ_pu rfl (RD_move rfl) rfl ?_
        refine SQ_pu rfl (RD_move rfl) rfl ?_
        refine SQ_no rfl rfl rfl (rfl) (lts rfl) ?_
        refine SQ_no rfl rfl rfl (rfl) (lts rfl) ?_
        refine SQ_no rfl rfl rfl (rfl) (lts rfl) ?_
        refine SQ_no rfl rfl rfl (rfl) (lts rfl) ?_
        refine SQ_no rfl rfl rfl (rfl) (lts rfl) ?_
        refine SQ_no rfl rfl rfl (rfl) (lts rfl) ?_
        refine SQ_no rfl rfl rfl (rfl) (lts rfl) ?_
        refine SQ_no rfl rfl rfl (rfl) (lts rfl) ?_
        refine SQ_no rfl rfl rfl (rfl) (lts rfl) ?_
        refine SQ_pu rfl (RD_pick_f rfl (rfl) rfl) rfl ?_
        refine SQ_nil ?_
        refine SN.le (l := [(4, _), (5, _), (13, _), (14, _), (95, _)]) ?_ (.cons rfl (.cons rfl (.cons rfl (.cons rfl (.cons rfl (.nil))))))
        refine SN_seq ?_
        refine SC_cond_false rfl (rfl) ?_
        refine SC_skip ?_
        refine SN_seq ?_
        refine SC_seq ?_
        refine SC_region ?_
        refine SR_ox (OX_buildSlice0 Try.runUnderlying25 Try.sizeOf5) rfl ?_
        rintro _ _ ⟨b96, rfl, rfl⟩
        refine SR_pu (RD_move rfl) rfl ?_
        refine SR_ox (OX_app0 1 Try.underlying25 Try.underlying25 Try.type5 rfl rfl rfl rfl rfl (by simp [TxD.code_len]) 1 rfl (by omega) (by omega)) rfl ?_
        rintro _ _ ⟨a98, c98, rfl, rfl⟩
        refine SR_pu (RD_assign rfl) rfl ?_
        refine SR_nil ?_
        refine SN.le (l := [(4, _), (5, _), (13, _), (19, _)]) ?_ (.cons rfl (.cons rfl (.cons rfl (.cons rfl (.nil)))))
        refine SN_seq ?_
        refine SC_seq ?_
        refine SC_seq ?_
        refine SC_region ?_
        refine SR_pu (RD_move rfl) rfl ?_
        refine SR_pu (RD_len Try.runUnderlying25 rfl) rfl ?_
        refine SR_pu (RD_eql rfl rfl) rfl ?_
        refine SR_nil ?_
        refine SN.le (l := [(4, _), (5, _), (13, _), (19, _), (101, _)]) ?_ (.cons rfl (.cons rfl (.cons rfl (.cons rfl (.cons rfl (.nil))))))
        refine SN_seq ?_
        refine SC_cond_false rfl (rfl) ?_
        refine SC_skip ?_
        refine SN_seq ?_
        refine SC_seq ?_
        obtain ⟨k, hk⟩ : ∃ k : Nat, at_ % 256 % 56 = (k : Int) := ⟨(at_ % 256 % 56).toNat, by omega⟩
        obtain ⟨xb, hxb⟩ : ∃ xb, t.code[k]? = some xb := ⟨_, List.getElem?_eq_getElem (by rw [t.code_len]; omega)⟩
        refine SC_region ?_
        refine SR_pu (RD_move rfl) rfl ?_
        refine SR_pu (RD_move rfl) rfl ?_
        refine SR_pu (RD_mask 8 rfl rfl rfl (by decide) 256 rfl) rfl ?_
        refine SR_pu (RD_move rfl) rfl ?_
        refine SR_pu (RD_len Try.runUnderlying25 rfl) rfl ?_
        refine SR_pu (RD_remk rfl rfl (by omega) (by omega) hk) rfl ?_
        refine SR_rd (RD_ixO (cs := t.code.map byteV) Try.runUnderlying25 Try.sizeOf5 rfl rfl (by simp [TxD.code_len]) (by omega) (by omega)) Has.ro rfl ?_
        refine SR_rd (RD_loadO (v := byteV xb) (cs := t.code.map byteV) Try.isAgg5 rfl (by simp [hxb])) Has.ro rfl ?_
        refine SR_pu (RD_move rfl) rfl ?_
        refine SR_pu (RD_xor8 rfl rfl) rfl ?_
        refine SR_rd (RD_ixO (cs := t.code.map byteV) Try.runUnderlying25 Try.sizeOf5 rfl rfl (by simp [TxD.code_len]) (by omega) (by omega)) Has.ro rfl ?_
        refine SR_ox0 (OX_stRow Try.sizeOf5 rfl rfl (by simp [TxD.code_len]; omega)) ?_
        rintro _ _ rfl
        refine SR_nil ?_
        refine SN.le (l := [(5, _), (13, _), (19, _)]) ?_ (.cons rfl (.cons rfl (.cons rfl (.nil))))
        refine SN_seq ?_
        refine SC_seq ?_
        rcases turned (b := b) hwt hokt hxb with ⟨hpar, hb0⟩ | ⟨w, hpar, hww, hokw, hwc, hsame⟩
        · refine SC_region ?_
          refine SR_pu (RD_move rfl) rfl ?_
          refine SR_call Try.call31 (.cons rfl (.nil)) (tx_Parse (t.code.set k (xb ^^^ b)) _ 56 _ (by rw [set_byteY]) (by simp [TxD.code_len]) (by decide)) (lts rfl) ?_
          rintro _ L4 ⟨rfl, hL4⟩
          rw [hpar]
          refine SR.lands hL4 ?_
          refine SR_pu (RD_move rfl) rfl ?_
          refine SR_pu (RD_extract rfl rfl) rfl ?_
          refine SR_pu (RD_extract rfl rfl) rfl ?_
          refine SR_ox (OX_alloc Try.zeroValue54 rfl) rfl ?_
          rintro _ _ ⟨b20, rfl, rfl⟩
          refine SR_ox0 (OX_stA Try.sizeOf54 rfl rfl rfl rfl) ?_
          rintro _ _ rfl
          refine SR_pu (RD_assign rfl) rfl ?_
          refine SR_nil ?_
          refine SN.le (l := [(5, _), (13, _), (19, _), (20, _), (21, _)]) ?_ (.cons rfl (.cons rfl (.cons rfl (.cons rfl (.cons rfl (.nil))))))
          refine SN_seq ?_
          refine SC_seq ?_
          refine SC_seq ?_
          refine SC_region ?_
          refine SR_pu (RD_move rfl) rfl ?_
          refine SR_nil ?_
          refine SN.le (l := [(5, _), (13, _), (19, _), (20, _), (118, _)]) ?_ (.cons rfl (.cons rfl (.cons rfl (.cons rfl (.cons rfl (.nil))))))
          refine SN_seq ?_
          refine SC_cond_false rfl (rfl) ?_
          refine SC_skip ?_
          refine SN_seq ?_
          refine SC_seq ?_
          refine SC_region ?_
          refine SR_pu (RD_move rfl) rfl ?_
          refine SR_pu (RD_neq rfl rfl) rfl ?_
          refine SR_pu (RD_move rfl) rfl ?_
          refine SR_yes rfl rfl (by have h0 : ¬ b.toNat = 0 := (fun h => hb0 (UInt8.toNat_inj.1 h)); simp [h0]) ?_
          refine SR_call Try.call33 (.nil) (tx_awake) (lts rfl) ?_
          rintro _ L9 ⟨rfl, hL9⟩
          refine SR.lands hL9 ?_
          refine SR_pu (RD_pick_t rfl (by have h0 : ¬ b.toNat = 0 := (fun h => hb0 (UInt8.toNat_inj.1 h)); simp [h0]) rfl) rfl ?_
          refine SR_pu (RD_assign rfl) rfl ?_
          refine SR_nil ?_
          refine SN.le (l := [(12, _)]) ?_ (.cons rfl (.nil))
          refine SN_seq ?_
          refine SC_ret1 rfl rfl ?_
          exact ⟨rfl, .fin⟩
        · refine SC_region ?_
          refine SR_pu (RD_move rfl) rfl ?_
          refine SR_call Try.call31 (.cons rfl (.nil)) (tx_Parse (t.code.set k (xb ^^^ b)) _ 56 _ (by rw [set_byteY]) (by simp [TxD.code_len]) (by decide)) (lts rfl) ?_
          rintro _ L4 ⟨rfl, hL4⟩
          rw [hpar]
          refine SR.lands hL4 ?_
          refine SR_pu (RD_move rfl) rfl ?_
          refine SR_pu (RD_extract rfl rfl) rfl ?_
          refine SR_pu (RD_extract rfl rfl) rfl ?_
          refine SR_ox (OX_alloc Try.zeroValue54 rfl) rfl ?_
          rintro _ _ ⟨b20, rfl, rfl⟩
          refine SR_ox0 (OX_stA Try.sizeOf54 rfl rfl rfl rfl) ?_
          rintro _ _ rfl
          refine SR_pu (RD_assign rfl) rfl ?_
          refine SR_nil ?_
          refine SN.le (l := [(5, _), (13, _), (19, _), (20, _), (21, _)]) ?_ (.cons rfl (.cons rfl (.cons rfl (.cons rfl (.cons rfl (.nil))))))
          refine SN_seq ?_
          refine SC_seq ?_
          refine SC_seq ?_
          refine SC_region ?_
          refine SR_pu (RD_move rfl) rfl ?_
          refine SR_nil ?_
          refine SN.le (l := [(5, _), (13, _), (19, _), (20, _), (118, _)]) ?_ (.cons rfl (.cons rfl (.cons rfl (.cons rfl (.cons rfl (.nil))))))
          refine SN_seq ?_
          refine SC_cond_true rfl (rfl) ?_
          refine SC_seq ?_
          refine SC_region ?_
          refine SR_rd (RD_loadA Try.isAgg54 Try.sizeOf54 rfl rfl) Has.wh rfl ?_
          refine SR_call Try.call30 (.cons rfl (.nil)) (tx_Code_ok w hww hokw) (lts rfl) ?_
          rintro _ L7 ⟨a7, c7, rfl, hL7⟩
          rw [hwc] at hL7
          refine SR.lands hL7 ?_
          refine SR_pu (RD_move rfl) rfl ?_
          refine SR_pu (RD_extract rfl rfl) rfl ?_
          refine SR_pu (RD_extract rfl rfl) rfl ?_
          refine SR_pu (RD_assign rfl) rfl ?_
          refine SR_pu (RD_assign rfl) rfl ?_
          refine SR_nil ?_
          refine SN.le (l := [(5, _), (13, _), (19, _), (20, _), (22, _), (23, _)]) ?_ (.cons rfl (.cons rfl (.cons rfl (.cons rfl (.cons rfl (.cons rfl (.nil)))))))
          refine SN_seq ?_
          refine SC_seq ?_
          refine SC_region ?_
          refine SR_pu (RD_move rfl) rfl ?_
          refine SR_pu (RD_move rfl) rfl ?_
          refine SR_yes rfl rfl (rfl) ?_
          refine SR_pu (RD_move rfl) rfl ?_
          refine SR_yes rfl rfl (rfl) ?_
          refine SR_rd (RD_b2s (bs := t.code.set k (xb ^^^ b)) Try.underlying25 Try.underlying9 Try.underlying5 rfl (by simp [TxD.code_len])) Has.ro rfl ?_
          refine SR_yes rfl rfl (rfl) ?_
          refine SR_pu (RD_move rfl) rfl ?_
          refine SR_yes rfl rfl (rfl) ?_
          refine SR_rd (RD_b2sc (t.code.set k (xb ^^^ b)) (by rw [set_byteY]) Try.underlying25 Try.underlying9 Try.underlying5 rfl (by simp [TxD.code_len])) Has.ro rfl ?_
          refine SR_yes rfl rfl (rfl) ?_
          refine SR_pu (RD_eqlS rfl rfl) rfl ?_
          refine SR_pu (RD_pick_t rfl (rfl) rfl) rfl ?_
          refine SR_pu (RD_move rfl) rfl ?_
          refine SR_yes rfl rfl (by simp) ?_
          refine SR_rd (RD_loadA Try.isAgg54 Try.sizeOf54 rfl rfl) Has.wh rfl ?_
          refine SR_yes rfl rfl (by simp) ?_
          refine SR_rd (RD_loadA Try.isAgg54 Try.sizeOf54 rfl rfl) Has.wh rfl ?_
          refine SR_yes rfl rfl (by simp) ?_
          refine SR_pu (RD_eqlTx w t rfl rfl rfl) rfl ?_
          refine SR_yes rfl rfl (by simp) ?_
          refine SR_pu (RD_move rfl) rfl ?_
          refine SR_yes rfl rfl (by simp) ?_
          refine SR_pu (RD_eqlB8 (y := 0) rfl rfl) rfl ?_
          refine SR_yes rfl rfl (by simp) ?_
          refine SR_pu (RD_eqlB Try.underlying4 rfl rfl) rfl ?_
          refine SR_pu (RD_pick_t rfl (by simp) rfl) rfl ?_
          refine SR_pu (RD_move rfl) rfl ?_
          refine SR_yes rfl rfl (hsame) ?_
          refine SR_call Try.call33 (.nil) (tx_awake) (lts rfl) ?_
          rintro _ L9 ⟨rfl, hL9⟩
          refine SR.lands hL9 ?_
          refine SR_pu (RD_pick_t rfl (hsame) rfl) rfl ?_
          refine SR_pu (RD_assign rfl) rfl ?_
          refine SR_nil ?_
          refine SN.le (l := [(12, _)]) ?_ (.cons rfl (.nil))
          refine SN_seq ?_
          refine SC_ret1 rfl rfl ?_
          exact ⟨rfl, .fin⟩
    · refine SC_region ?_
      refine SR_pu (RD_move rfl) rfl ?_
      refine SR_pu (RD_mask 3 rfl rfl rfl (by decide) 8 rfl) rfl ?_
      refine SR_nil ?_
      refine SN.le (l := [(3, _), (4, _), (5, _), (13, _), (14, _), (16, _), (42, _)]) ?_ (.cons rfl (.cons rfl (.cons rfl (.cons rfl (.cons rfl (.cons rfl (.cons rfl (.nil))))))))
      refine SN_seq ?_
      refine SC_block ?_
      refine SC_seq ?_
      refine SC_region ?_
      refine SR_pu (RD_eql rfl rfl) rfl ?_
      refine SR_pu (RD_assign rfl) rfl ?_
      refine SR_nil ?_
      refine SN.le (l := [(3, _), (4, _), (5, _), (13, _), (14, _), (16, _), (42, _), (47, _)]) ?_ (.cons rfl (.cons rfl (.cons rfl (.cons rfl (.cons rfl (.cons rfl (.cons rfl (.cons rfl (.nil)))))))))
      refine SN_seq ?_
      refine SC_cond rfl (fun hc47 => ?_) (fun hc47 => ?_)
      · refine SC_region ?_
        refine SR_pu (RD_move rfl) rfl ?_
        refine SR_pu (RD_and rfl rfl) rfl ?_
        first
          | refine SR_pu (RD_convi64 Try.runUnderlying23 Try.runUnderlying3 rfl (by omega) (by omega)) rfl ?_
          | refine SR_pu (RD_convI Try.runUnderlying23 Try.runUnderlying3 rfl) rfl ?_
        first
          | refine SR_pu (RD_fieldAddr0 Try.runUnderlying54 rfl rfl Try.sizeOf3 rfl) rfl ?_
          | refine SR_rd (RD_fieldAddrO 0 Try.runUnderlying54 rfl rfl Try.sizeOf3 rfl (by simp <;> omega)) Has.ro rfl ?_
        refine SR_ox0 (OX_st Try.sizeOf3 rfl rfl) ?_
        rintro _ _ rfl
        refine SR_nil ?_
        refine SN.le (l := [(4, _), (5, _), (13, _), (14, _), (16, _)]) ?_ (.cons rfl (.cons rfl (.cons rfl (.cons rfl (.cons rfl (.nil))))))
        refine SN_block ?_
        exact J0 (⟨{ t with kind := IntKind.i64.wrap (band .u64 z 7) }, ⟨wrap_I64 _, hwt.asset, hwt.to, hwt.price, hwt.qty, hwt.id⟩⟩) _ _ (.cons rfl (.cons rfl (.cons rfl (.cons rfl (.cons rfl (.nil)))))) (.fin)
      · refine SC_seq ?_
        refine SC_region ?_
        refine SR_pu (RD_eql rfl rfl) rfl ?_
        refine SR_pu (RD_assign rfl) rfl ?_
        refine SR_nil ?_
        refine SN.le (l := [(3, _), (4, _), (5, _), (13, _), (14, _), (16, _), (42, _), (53, _)]) ?_ (.cons rfl (.cons rfl (.cons rfl (.cons rfl (.cons rfl (.cons rfl (.cons rfl (.cons rfl (.nil)))))))))
        refine SN_seq ?_
        refine SC_cond rfl (fun hc53 => ?_) (fun hc53 => ?_)
        · refine SC_region ?_
          refine SR_pu (RD_move rfl) rfl ?_
          refine SR_pu (RD_and rfl rfl) rfl ?_
          first
            | refine SR_pu (RD_convi64 Try.runUnderlying23 Try.runUnderlying3 rfl (by omega) (by omega)) rfl ?_
            | refine SR_pu (RD_convI Try.runUnderlying23 Try.runUnderlying3 rfl) rfl ?_
          first
            | refine SR_pu (RD_fieldAddr 1 Try.runUnderlying54 rfl rfl Try.sizeOf3 rfl) rfl ?_
            | refine SR_rd (RD_fieldAddrO 1 Try.runUnderlying54 rfl rfl Try.sizeOf3 rfl (by simp <;> omega)) Has.ro rfl ?_
          refine SR_ox0 (OX_st Try.sizeOf3 rfl rfl) ?_
          rintro _ _ rfl
          refine SR_nil ?_
          refine SN.le (l := [(4, _), (5, _), (13, _), (14, _), (16, _)]) ?_ (.cons rfl (.cons rfl (.cons rfl (.cons rfl (.cons rfl (.nil))))))
          refine SN_block ?_
          exact J0 (⟨{ t with asset := IntKind.i64.wrap (band .u64 z 3) }, ⟨hwt.kind, wrap_I64 _, hwt.to, hwt.price, hwt.qty, hwt.id⟩⟩) _ _ (.cons rfl (.cons rfl (.cons rfl (.cons rfl (.cons rfl (.nil)))))) (.fin)
        · refine SC_seq ?_
          refine SC_region ?_
          refine SR_pu (RD_eql rfl rfl) rfl ?_
          refine SR_pu (RD_assign rfl) rfl ?_
          refine SR_nil ?_
          refine SN.le (l := [(3, _), (4, _), (5, _), (13, _), (14, _), (16, _), (42, _), (59, _)]) ?_ (.cons rfl (.cons rfl (.cons rfl (.cons rfl (.cons rfl (.cons rfl (.cons rfl (.cons rfl (.nil)))))))))
          refine SN_seq ?_
          refine SC_cond rfl (fun hc59 => ?_) (fun hc59 => ?_)
          · refine SC_region ?_
            refine SR_pu (RD_move rfl) rfl ?_
            refine SR_pu (RD_and rfl rfl) rfl ?_
            first
              | refine SR_pu (RD_convi64 Try.runUnderlying23 Try.runUnderlying3 rfl (by omega) (by omega)) rfl ?_
              | refine SR_pu (RD_convI Try.runUnderlying23 Try.runUnderlying3 rfl) rfl ?_
            first
              | refine SR_pu (RD_fieldAddr 2 Try.runUnderlying54 rfl rfl Try.sizeOf3 rfl) rfl ?_
              | refine SR_rd (RD_fieldAddrO 2 Try.runUnderlying54 rfl rfl Try.sizeOf3 rfl (by simp <;> omega)) Has.ro rfl ?_
            refine SR_ox0 (OX_st Try.sizeOf3 rfl rfl) ?_
            rintro _ _ rfl
            refine SR_nil ?_
            refine SN.le (l := [(4, _), (5, _), (13, _), (14, _), (16, _)]) ?_ (.cons rfl (.cons rfl (.cons rfl (.cons rfl (.cons rfl (.nil))))))
            refine SN_block ?_
            exact J0 (⟨{ t with to := IntKind.i64.wrap (band .u64 z 255) }, ⟨hwt.kind, hwt.asset, wrap_I64 _, hwt.price, hwt.qty, hwt.id⟩⟩) _ _ (.cons rfl (.cons rfl (.cons rfl (.cons rfl (.cons rfl (.nil)))))) (.fin)
          · refine SC_seq ?_
            refine SC_region ?_
            refine SR_pu (RD_eql rfl rfl) rfl ?_
            refine SR_pu (RD_assign rfl) rfl ?_
            refine SR_nil ?_
            refine SN.le (l := [(3, _), (4, _), (5, _), (13, _), (14, _), (16, _), (42, _), (65, _)]) ?_ (.cons rfl (.cons rfl (.cons rfl (.cons rfl (.cons rfl (.cons rfl (.cons rfl (.cons rfl (.nil)))))))))
            refine SN_seq ?_
            refine SC_cond rfl (fun hc65 => ?_) (fun hc65 => ?_)
            · refine SC_region ?_
              first
                | refine SR_pu (RD_fieldAddr 3 Try.runUnderlying54 rfl rfl Try.sizeOf4 rfl) rfl ?_
                | refine SR_rd (RD_fieldAddrO 3 Try.runUnderlying54 rfl rfl Try.sizeOf4 rfl (by simp <;> omega)) Has.ro rfl ?_
              refine SR_rd (RD_load Try.isAgg4 rfl) (Has.ce rfl) rfl ?_
              refine SR_pu (RD_not rfl) rfl ?_
              first
                | refine SR_pu (RD_fieldAddr 3 Try.runUnderlying54 rfl rfl Try.sizeOf4 rfl) rfl ?_
                | refine SR_rd (RD_fieldAddrO 3 Try.runUnderlying54 rfl rfl Try.sizeOf4 rfl (by simp <;> omega)) Has.ro rfl ?_
              refine SR_ox0 (OX_st Try.sizeOf4 rfl rfl) ?_
              rintro _ _ rfl
              refine SR_nil ?_
              refine SN.le (l := [(4, _), (5, _), (13, _), (14, _), (16, _)]) ?_ (.cons rfl (.cons rfl (.cons rfl (.cons rfl (.cons rfl (.nil))))))
              refine SN_block ?_
              exact J0 (⟨{ t with buy := !t.buy }, ⟨hwt.kind, hwt.asset, hwt.to, hwt.price, hwt.qty, hwt.id⟩⟩) _ _ (.cons rfl (.cons rfl (.cons rfl (.cons rfl (.cons rfl (.nil)))))) (.fin)
            · refine SC_seq ?_
              refine SC_region ?_
              refine SR_pu (RD_eql rfl rfl) rfl ?_
              refine SR_pu (RD_assign rfl) rfl ?_
              refine SR_nil ?_
              refine SN.le (l := [(3, _), (4, _), (5, _), (13, _), (14, _), (16, _), (42, _), (71, _)]) ?_ (.cons rfl (.cons rfl (.cons rfl (.cons rfl (.cons rfl (.cons rfl (.cons rfl (.cons rfl (.nil)))))))))
              refine SN_seq ?_
              refine SC_cond rfl (fun hc71 => ?_) (fun hc71 => ?_)
              · refine SC_region ?_
                refine SR_pu (RD_move rfl) rfl ?_
                first
                  | refine SR_pu (RD_fieldAddr 4 Try.runUnderlying54 rfl rfl Try.sizeOf23 rfl) rfl ?_
                  | refine SR_rd (RD_fieldAddrO 4 Try.runUnderlying54 rfl rfl Try.sizeOf23 rfl (by simp <;> omega)) Has.ro rfl ?_
                refine SR_ox0 (OX_st Try.sizeOf23 rfl rfl) ?_
                rintro _ _ rfl
                refine SR_nil ?_
                refine SN.le (l := [(4, _), (5, _), (13, _), (14, _), (16, _)]) ?_ (.cons rfl (.cons rfl (.cons rfl (.cons rfl (.cons rfl (.nil))))))
                refine SN_block ?_
                exact J0 (⟨{ t with price := z }, ⟨hwt.kind, hwt.asset, hwt.to, hz, hwt.qty, hwt.id⟩⟩) _ _ (.cons rfl (.cons rfl (.cons rfl (.cons rfl (.cons rfl (.nil)))))) (.fin)
              · refine SC_seq ?_
                refine SC_region ?_
                refine SR_pu (RD_eql rfl rfl) rfl ?_
                refine SR_pu (RD_assign rfl) rfl ?_
                refine SR_nil ?_
                refine SN.le (l := [(3, _), (4, _), (5, _), (13, _), (14, _), (16, _), (75, _)]) ?_ (.cons rfl (.cons rfl (.cons rfl (.cons rfl (.cons rfl (.cons rfl (.cons rfl (.nil))))))))
                refine SN_seq ?_
                refine SC_cond rfl (fun hc75 => ?_) (fun hc75 => ?_)
                · refine SC_region ?_
                  refine SR_pu (RD_move rfl) rfl ?_
                  first
                    | refine SR_pu (RD_fieldAddr 5 Try.runUnderlying54 rfl rfl Try.sizeOf23 rfl) rfl ?_
                    | refine SR_rd (RD_fieldAddrO 5 Try.runUnderlying54 rfl rfl Try.sizeOf23 rfl (by simp <;> omega)) Has.ro rfl ?_
                  refine SR_ox0 (OX_st Try.sizeOf23 rfl rfl) ?_
                  rintro _ _ rfl
                  refine SR_nil ?_
                  refine SN.le (l := [(4, _), (5, _), (13, _), (14, _), (16, _)]) ?_ (.cons rfl (.cons rfl (.cons rfl (.cons rfl (.cons rfl (.nil))))))
                  refine SN_block ?_
                  exact J0 (⟨{ t with qty := z }, ⟨hwt.kind, hwt.asset, hwt.to, hwt.price, hz, hwt.id⟩⟩) _ _ (.cons rfl (.cons rfl (.cons rfl (.cons rfl (.cons rfl (.nil)))))) (.fin)
                · refine SC_region ?_
                  refine SR_pu (RD_move rfl) rfl ?_
                  refine SR_pu (RD_and rfl rfl) rfl ?_
                  first
                    | refine SR_pu (RD_convi64 Try.runUnderlying23 Try.runUnderlying3 rfl (by omega) (by omega)) rfl ?_
                    | refine SR_pu (RD_convI Try.runUnderlying23 Try.runUnderlying3 rfl) rfl ?_
                  first
                    | refine SR_pu (RD_fieldAddr 6 Try.runUnderlying54 rfl rfl Try.sizeOf3 rfl) rfl ?_
                    | refine SR_rd (RD_fieldAddrO 6 Try.runUnderlying54 rfl rfl Try.sizeOf3 rfl (by simp <;> omega)) Has.ro rfl ?_
                  refine SR_ox0 (OX_st Try.sizeOf3 rfl rfl) ?_
                  rintro _ _ rfl
                  refine SR_nil ?_
                  refine SN.le (l := [(4, _), (5, _), (13, _), (14, _), (16, _)]) ?_ (.cons rfl (.cons rfl (.cons rfl (.cons rfl (.cons rfl (.nil))))))
                  refine SN_block ?_
                  exact J0 (⟨{ t with id := IntKind.i64.wrap (band .u64 z 255) }, ⟨hwt.kind, hwt.asset, hwt.to, hwt.price, hwt.qty, wrap_I64 _⟩⟩) _ _ (.cons rfl (.cons rfl (.cons rfl (.cons rfl (.cons rfl (.nil)))))) (.fin)
  · have hokt : t.ok = false := by simpa using hokt
    refine SC_region ?_
    refine SR_rd (RD_loadA Try.isAgg54 Try.sizeOf54 rfl rfl) Has.wh rfl ?_
    refine SR_call Try.call30 (.cons rfl (.nil)) (tx_Code_no t hokt) (lts rfl) ?_
    rintro _ L1 ⟨rfl, hL1⟩
    refine SR.lands hL1 ?_
    refine SR_pu (RD_move rfl) rfl ?_
    refine SR_pu (RD_extract rfl rfl) rfl ?_
    refine SR_pu (RD_extract rfl rfl) rfl ?_
    refine SR_pu (RD_assign rfl) rfl ?_
    refine SR_pu (RD_assign rfl) rfl ?_
    refine SR_nil ?_
    refine SN.le (l := [(2, _), (3, _), (4, _), (5, _), (13, _), (14, _), (15, _)]) ?_ (.cons rfl (.cons rfl (.cons rfl (.cons rfl (.cons rfl (.cons rfl (.cons rfl (.nil))))))))
    refine SN_seq ?_
    refine SC_seq ?_
    refine SC_seq ?_
    refine SC_region ?_
    refine SR_pu (RD_move rfl) rfl ?_
    refine SR_pu (RD_not rfl) rfl ?_
    refine SR_nil ?_
    refine SN.le (l := [(2, _), (3, _), (4, _), (5, _), (13, _), (14, _), (33, _)]) ?_ (.cons rfl (.cons rfl (.cons rfl (.cons rfl (.cons rfl (.cons rfl (.cons rfl (.nil))))))))
    refine SN_seq ?_
    refine SC_cond_true rfl (rfl) ?_
    refine SC_seq ?_
    refine SC_region ?_
    refine SR_rd (RD_loadA Try.isAgg54 Try.sizeOf54 rfl rfl) Has.wh rfl ?_
    refine SR_call Try.call32 (.cons rfl (.nil)) (tx_Ok t) (lts rfl) ?_
    rintro _ L3 ⟨rfl, hL3⟩
    rw [hokt]
    refine SR.lands hL3 ?_
    refine SR_pu (RD_not rfl) rfl ?_
    refine SR_pu (RD_move rfl) rfl ?_
    refine SR_yes rfl rfl (rfl) ?_
    refine SR_call Try.call33 (.nil) (tx_awake) (lts rfl) ?_
    rintro _ L9 ⟨rfl, hL9⟩
    refine SR.lands hL9 ?_
    refine SR_pu (RD_pick_t rfl (rfl) rfl) rfl ?_
    refine SR_pu (RD_assign rfl) rfl ?_
    refine SR_nil ?_
    refine SN.le (l := [(12, _)]) ?_ (.cons rfl (.nil))
    refine SN_seq ?_
    refine SC_ret1 rfl rfl ?_
    exact ⟨rfl, .fin⟩

end Go.Proofs.Ytdjkllhnkbobfaa
