/- The document's own answer on certificates of timeouts; a Config of numbers. -/
import Derived.Test.YtmigjpmadhebfaaCk1
namespace Go.Proofs.Ytmigjpmadhebfaa
open Go Go.Proofs
set_option maxRecDepth 100000
theorem most_zero {l : List Int} (h0 : 0 < l.length) (h : ∀ x ∈ l, 0 ≤ x) : most l = l.foldl max 0 := by
  cases l with
  | nil => simp at h0
  | cons x r =>
    have hx := h x (by simp)
    show r.foldl max x = r.foldl max (max 0 x)
    rw [show max 0 x = x by omega]
theorem fold_max {l : List Int} {i : Nat} {x : Int} (h : l[i]? = some x) : (l.take (i + 1)).foldl max 0 = max ((l.take i).foldl max 0) x := by
  rw [List.take_add_one, h, List.foldl_append]; rfl
theorem tcOk_no {c : CfgD} {l : List (List UInt8)} {S : List (Int × List Int)} {t : TcD} (h : ¬ c.tcA l S t.view t.by_.l t.highs.l t.high.view) : c.tcOk l S t = false := by
  unfold CfgD.tcOk; rw [decide_eq_false h]; rfl

theorem law15_Config2 {W : World} {F : List HProp} [Abs F] (n : Int) :
    CallsK W Try.prog 21 #[.int .i64 n] (F) (fun v L => ∃ c : CfgD, v = c.val ∧ (c.f = n % 4 ∧ c.n = 3 * (n % 4) + 1) ∧ Lands L F) := by
  refine CallsK_enter (n := 37) Try.func21 rfl rfl rfl ?_
  refine SC_seq ?_
  refine SC_region ?_
  refine SR_ox (OX_alloc Try.zeroValue23 rfl) rfl ?_
  rintro _ _ ⟨b2, rfl, rfl⟩
  refine SR_nil ?_
  refine SN.le (l := [(0, _), (2, _)]) ?_ (.cons rfl (.cons rfl (.nil)))
  refine SN_seq ?_
  refine SC_seq ?_
  refine SC_region ?_
  refine SR_pu (RD_move rfl) rfl ?_
  refine SR_pu (RD_mask 2 rfl rfl rfl (by decide) 4 rfl) rfl ?_
  refine SR_pu (RD_assign rfl) rfl ?_
  refine SR_nil ?_
  refine SN.le (l := [(0, _), (2, _), (3, _)]) ?_ (.cons rfl (.cons rfl (.cons rfl (.nil))))
  refine SN_seq ?_
  refine SC_seq ?_
  refine SC_region ?_
  refine SR_pu (RD_move rfl) rfl ?_
  refine SR_pu (RD_move rfl) rfl ?_
  refine SR_pu (RD_muli rfl rfl (by omega) (by omega)) rfl ?_
  refine SR_pu (RD_addi rfl rfl (by omega) (by omega)) rfl ?_
  refine SR_pu (RD_move rfl) rfl ?_
  refine SR_pu (RD_shr rfl rfl (by omega)) rfl ?_
  refine SR_pu (RD_mask 2 rfl rfl rfl (by decide) 4 rfl) rfl ?_
  refine SR_pu (RD_addi rfl rfl (by omega) (by omega)) rfl ?_
  refine SR_pu (RD_move rfl) rfl ?_
  refine SR_pu (RD_shr rfl rfl (by omega)) rfl ?_
  refine SR_pu (RD_mask 2 rfl rfl rfl (by decide) 4 rfl) rfl ?_
  refine SR_pu (RD_addi rfl rfl (by omega) (by omega)) rfl ?_
  refine SR_pu (RD_move rfl) rfl ?_
  refine SR_pu (RD_shr rfl rfl (by omega)) rfl ?_
  refine SR_pu (RD_mask 3 rfl rfl rfl (by decide) 8 rfl) rfl ?_
  refine SR_pu (RD_addi rfl rfl (by omega) (by omega)) rfl ?_
  refine SR_pu (RD_move rfl) rfl ?_
  refine SR_pu (RD_shr rfl rfl (by omega)) rfl ?_
  refine SR_pu (RD_mask 2 rfl rfl rfl (by decide) 4 rfl) rfl ?_
  refine SR_pu (RD_addi rfl rfl (by omega) (by omega)) rfl ?_
  refine SR_pu (RD_move rfl) rfl ?_
  refine SR_pu (RD_shr rfl rfl (by omega)) rfl ?_
  refine SR_pu (RD_mask 3 rfl rfl rfl (by decide) 8 rfl) rfl ?_
  refine SR_pu (RD_addi rfl rfl (by omega) (by omega)) rfl ?_
  refine SR_pu (RD_move rfl) rfl ?_
  refine SR_pu (RD_shr rfl rfl (by omega)) rfl ?_
  refine SR_pu (RD_mask 2 rfl rfl rfl (by decide) 4 rfl) rfl ?_
  refine SR_pu (RD_addi rfl rfl (by omega) (by omega)) rfl ?_
  refine SR_pu (RD_build (.cons rfl (.cons rfl (.cons rfl (.cons rfl (.cons rfl (.cons rfl (.cons rfl (.cons rfl (.nil))))))))) built23_0_1_2_3_4_5_6_7) rfl ?_
  refine SR_ox (OX_alloc Try.zeroValue23 rfl) rfl ?_
  rintro _ _ ⟨b4, rfl, rfl⟩
  refine SR_ox0 (OX_stA (vs := CfgD.cells ⟨n % 4, 3 * (n % 4) + 1, n.fdiv (2 ^ min (2 : Int).toNat IntKind.i64.bits) % 4 + 1, 10 + n.fdiv (2 ^ min (4 : Int).toNat IntKind.i64.bits) % 4, 14 + n.fdiv (2 ^ min (6 : Int).toNat IntKind.i64.bits) % 8, n.fdiv (2 ^ min (9 : Int).toNat IntKind.i64.bits) % 4 + 1, n.fdiv (2 ^ min (11 : Int).toNat IntKind.i64.bits) % 8 + 2, n.fdiv (2 ^ min (14 : Int).toNat IntKind.i64.bits) % 4 + 1⟩) Try.sizeOf23 rfl rfl rfl rfl) ?_
  rintro _ _ rfl
  refine SR_nil ?_
  refine SN.le (l := [(2, _), (4, _)]) ?_ (.cons rfl (.cons rfl (.nil)))
  refine SN_seq ?_
  refine SC_seq ?_
  refine SC_region ?_
  refine SR_rd (RD_loadA (vs := CfgD.cells ⟨n % 4, 3 * (n % 4) + 1, n.fdiv (2 ^ min (2 : Int).toNat IntKind.i64.bits) % 4 + 1, 10 + n.fdiv (2 ^ min (4 : Int).toNat IntKind.i64.bits) % 4, 14 + n.fdiv (2 ^ min (6 : Int).toNat IntKind.i64.bits) % 8, n.fdiv (2 ^ min (9 : Int).toNat IntKind.i64.bits) % 4 + 1, n.fdiv (2 ^ min (11 : Int).toNat IntKind.i64.bits) % 8 + 2, n.fdiv (2 ^ min (14 : Int).toNat IntKind.i64.bits) % 4 + 1⟩) Try.isAgg23 Try.sizeOf23 rfl rfl) Has.wh rfl ?_
  refine SR_ox0 (OX_stA (vs := CfgD.cells ⟨n % 4, 3 * (n % 4) + 1, n.fdiv (2 ^ min (2 : Int).toNat IntKind.i64.bits) % 4 + 1, 10 + n.fdiv (2 ^ min (4 : Int).toNat IntKind.i64.bits) % 4, 14 + n.fdiv (2 ^ min (6 : Int).toNat IntKind.i64.bits) % 8, n.fdiv (2 ^ min (9 : Int).toNat IntKind.i64.bits) % 4 + 1, n.fdiv (2 ^ min (11 : Int).toNat IntKind.i64.bits) % 8 + 2, n.fdiv (2 ^ min (14 : Int).toNat IntKind.i64.bits) % 4 + 1⟩) Try.sizeOf23 rfl rfl rfl rfl) ?_
  rintro _ _ rfl
  refine SR_nil ?_
  refine SN.le (l := [(2, _)]) ?_ (.cons rfl (.nil))
  refine SN_seq ?_
  refine SC_retC rfl Try.isAgg23 Try.sizeOf23 rfl rfl Has.wh ?_
  exact ⟨⟨n % 4, 3 * (n % 4) + 1, n.fdiv (2 ^ min (2 : Int).toNat IntKind.i64.bits) % 4 + 1, 10 + n.fdiv (2 ^ min (4 : Int).toNat IntKind.i64.bits) % 4, 14 + n.fdiv (2 ^ min (6 : Int).toNat IntKind.i64.bits) % 8, n.fdiv (2 ^ min (9 : Int).toNat IntKind.i64.bits) % 4 + 1, n.fdiv (2 ^ min (11 : Int).toNat IntKind.i64.bits) % 8 + 2, n.fdiv (2 ^ min (14 : Int).toNat IntKind.i64.bits) % 4 + 1⟩, rfl, ⟨rfl, rfl⟩, .fin⟩

theorem law15_tc {W : World} {F : List HProp} [Abs F] (k : WK) (s : WS) (hI : Inv s.l s.S) (c : CfgD) (t : TcD) [HasRow F t.by_.a (t.by_.l.map intV)] [HasRow F t.highs.a (t.highs.l.map intV)] [HasRow F t.high.by_.a (t.high.by_.l.map intV)] (hn : t.by_.l.length = t.by_.n) (hm : t.highs.l.length = t.highs.n) (hh : t.high.by_.l.length = t.high.by_.n) (hb : t.by_.n ≤ 100000) (hbm : t.highs.n ≤ 100000) (hbh : t.high.by_.n ≤ 100000) (hl : s.l.length ≤ 800000000) (hw : c.n < 9223372036854775808) :
    CallsK W Try.prog 11 #[.pointer (some ⟨k.p, 0, none⟩), c.val, t.val] (At worldI k s :: F) (fun v L => ∃ l', Ext s.l l' ∧ l'.length ≤ s.l.length + t.highs.n + 1 ∧ v = .bool (c.tcOk l' s.S t) ∧ Lands L (At worldI k ⟨l', s.S⟩ :: F)) := by
  refine CallsK_enter (n := 103) Try.func11 rfl rfl rfl ?_
  refine SC_seq ?_
  refine SC_region ?_
  refine SR_ox (OX_box rfl rfl) rfl ?_
  rintro _ _ ⟨b4, rfl, rfl⟩
  refine SR_ox (OX_box rfl rfl) rfl ?_
  rintro _ _ ⟨b5, rfl, rfl⟩
  refine SR_pu (RD_assign rfl) rfl ?_
  refine SR_nil ?_
  refine SN.le (l := [(0, _), (4, _), (5, _)]) ?_ (.cons rfl (.cons rfl (.cons rfl (.nil))))
  refine SN_seq ?_
  refine SC_seq ?_
  refine SC_seq ?_
  refine SC_region ?_
  refine SR_rd (RD_loadA (vs := c.cells) Try.isAgg23 Try.sizeOf23 rfl rfl) Has.wh rfl ?_
  refine SR_call Try.call47 (.cons rfl (.nil)) (law15_sane c hw) (lts rfl) ?_
  rintro _ L1 ⟨rfl, hL1⟩
  refine SR.lands hL1 ?_
  refine SR_pu (RD_not rfl) rfl ?_
  refine SR_pu (RD_move rfl) rfl ?_
  refine SR_guard rfl rfl (fun hg1_3 => ?_) (fun hg1_3 => ?_)
  · have hfit : c.fits = true := by simpa using hg1_3
    have hff := fits_f hfit
    refine SR_yes rfl rfl (hg1_3) ?_
    first
      | refine SR_pu (RD_fieldAddr0 Try.runUnderlying28 rfl rfl Try.sizeOf3 rfl) rfl ?_
      | refine SR_rd (RD_fieldAddrO 0 Try.runUnderlying28 rfl rfl Try.sizeOf3 rfl (by simp <;> omega)) Has.ro rfl ?_
    refine SR_yes rfl rfl (hg1_3) ?_
    refine SR_rd (RD_load Try.isAgg3 rfl) (Has.ce rfl) rfl ?_
    refine SR_yes rfl rfl (hg1_3) ?_
    refine SR_pu (RD_lss rfl rfl) rfl ?_
    refine SR_pu (RD_pick_f rfl (hg1_3) rfl) rfl ?_
    refine SR_pu (RD_move rfl) rfl ?_
    refine SR_guard rfl rfl (fun hg1_8 => ?_) (fun hg1_8 => ?_)
    · have hvw := of_decide_eq_false hg1_8
      refine SR_yes rfl rfl (hg1_8) ?_
      first
        | refine SR_pu (RD_fieldAddr 1 Try.runUnderlying28 rfl rfl Try.sizeOf24 rfl) rfl ?_
        | refine SR_rd (RD_fieldAddrO 1 Try.runUnderlying28 rfl rfl Try.sizeOf24 rfl (by simp <;> omega)) Has.ro rfl ?_
      refine SR_yes rfl rfl (hg1_8) ?_
      refine SR_rd (RD_load Try.isAgg24 rfl) (Has.ce rfl) rfl ?_
      refine SR_yes rfl rfl (hg1_8) ?_
      first
        | refine SR_pu (RD_fieldAddr 1 Try.runUnderlying23 rfl rfl Try.sizeOf3 rfl) rfl ?_
        | refine SR_rd (RD_fieldAddrO 1 Try.runUnderlying23 rfl rfl Try.sizeOf3 rfl (by simp <;> omega)) Has.ro rfl ?_
      refine SR_yes rfl rfl (hg1_8) ?_
      refine SR_rd (RD_load Try.isAgg3 rfl) (Has.ce rfl) rfl ?_
      refine SR_yes rfl rfl (hg1_8) ?_
      first
        | refine SR_pu (RD_fieldAddr0 Try.runUnderlying23 rfl rfl Try.sizeOf3 rfl) rfl ?_
        | refine SR_rd (RD_fieldAddrO 0 Try.runUnderlying23 rfl rfl Try.sizeOf3 rfl (by simp <;> omega)) Has.ro rfl ?_
      refine SR_yes rfl rfl (hg1_8) ?_
      refine SR_rd (RD_load Try.isAgg3 rfl) (Has.ce rfl) rfl ?_
      refine SR_yes rfl rfl (hg1_8) ?_
      refine SR_pu (RD_muli rfl rfl (by omega) (by omega)) rfl ?_
      refine SR_yes rfl rfl (hg1_8) ?_
      refine SR_pu (RD_addi rfl rfl (by omega) (by omega)) rfl ?_
      refine SR_yes rfl rfl (hg1_8) ?_
      refine SR_call Try.call48 (.cons rfl (.cons rfl (.cons rfl (.nil)))) (law15_rise t.by_.a t.by_.n t.by_.c t.by_.l hn (by omega) c.n (2 * c.f + 1)) (lts rfl) ?_
      rintro _ L2 ⟨rfl, hL2⟩
      refine SR.lands hL2 ?_
      refine SR_yes rfl rfl (hg1_8) ?_
      refine SR_pu (RD_not rfl) rfl ?_
      refine SR_pu (RD_pick_f rfl (hg1_8) rfl) rfl ?_
      refine SR_pu (RD_move rfl) rfl ?_
      refine SR_guard rfl rfl (fun hg1_20 => ?_) (fun hg1_20 => ?_)
      · have hri : (decide (rises c.n t.by_.l) && decide (2 * c.f + 1 ≤ (t.by_.l.length : Int))) = true := by
          cases hB : (decide (rises c.n t.by_.l) && decide (2 * c.f + 1 ≤ (t.by_.l.length : Int))) with
          | true => rfl
          | false => rw [hB] at hg1_20; simp at hg1_20
        have hmany : c.many t.by_.l = true := by rw [many_iff hfit]; exact hri
        refine SR_yes rfl rfl (hg1_20) ?_
        first
          | refine SR_pu (RD_fieldAddr 2 Try.runUnderlying28 rfl rfl Try.sizeOf24 rfl) rfl ?_
          | refine SR_rd (RD_fieldAddrO 2 Try.runUnderlying28 rfl rfl Try.sizeOf24 rfl (by simp <;> omega)) Has.ro rfl ?_
        refine SR_yes rfl rfl (hg1_20) ?_
        refine SR_rd (RD_load Try.isAgg24 rfl) (Has.ce rfl) rfl ?_
        refine SR_yes rfl rfl (hg1_20) ?_
        refine SR_pu (RD_len Try.runUnderlying24 rfl) rfl ?_
        refine SR_yes rfl rfl (hg1_20) ?_
        first
          | refine SR_pu (RD_fieldAddr 1 Try.runUnderlying28 rfl rfl Try.sizeOf24 rfl) rfl ?_
          | refine SR_rd (RD_fieldAddrO 1 Try.runUnderlying28 rfl rfl Try.sizeOf24 rfl (by simp <;> omega)) Has.ro rfl ?_
        refine SR_yes rfl rfl (hg1_20) ?_
        refine SR_rd (RD_load Try.isAgg24 rfl) (Has.ce rfl) rfl ?_
        refine SR_yes rfl rfl (hg1_20) ?_
        refine SR_pu (RD_len Try.runUnderlying24 rfl) rfl ?_
        refine SR_yes rfl rfl (hg1_20) ?_
        refine SR_pu (RD_neq rfl rfl) rfl ?_
        refine SR_pu (RD_pick_f rfl (hg1_20) rfl) rfl ?_
        refine SR_pu (RD_move rfl) rfl ?_
        refine SR_guard rfl rfl (fun hg1_29 => ?_) (fun hg1_29 => ?_)
        · have hle : t.highs.n = t.by_.n := by simp at hg1_29; omega
          refine SR_yes rfl rfl (hg1_29) ?_
          refine SR_pu (RD_move rfl) rfl ?_
          refine SR_yes rfl rfl (hg1_29) ?_
          refine SR_rd (RD_loadA (vs := c.cells) Try.isAgg23 Try.sizeOf23 rfl rfl) Has.wh rfl ?_
          refine SR_yes rfl rfl (hg1_29) ?_
          first
            | refine SR_pu (RD_fieldAddr 3 Try.runUnderlying28 rfl rfl Try.sizeOf26 rfl) rfl ?_
            | refine SR_rd (RD_fieldAddrO 3 Try.runUnderlying28 rfl rfl Try.sizeOf26 rfl (by simp <;> omega)) Has.ro rfl ?_
          refine SR_yes rfl rfl (hg1_29) ?_
          refine SR_rd (RD_loadA (vs := t.high.cells) Try.isAgg26 Try.sizeOf26 rfl rfl) (Has.ces (cs := t.cells) fun j v h => by rcases j with _ | _ | _ | j <;> simp [QcD.cells, TcD.cells] at h ⊢ <;> exact h) rfl ?_
          refine SR_yes rfl rfl (hg1_29) ?_
          refine SR_call Try.call9 (.cons rfl (.cons rfl (.cons rfl (.nil)))) (CallsK.at (law15_qc k s hI c t.high hh hbh (by omega) hw)) (lts rfl) ?_
          rintro _ L3 ⟨l1, hx1, hl1, hrt, rfl, hL3⟩
          refine SR.lands hL3 ?_
          refine SR_yes rfl rfl (hg1_29) ?_
          refine SR_pu (RD_not rfl) rfl ?_
          refine SR_pu (RD_pick_f rfl (hg1_29) rfl) rfl ?_
          refine SR_nil ?_
          refine SN.le (l := [(0, _), (5, _), (45, _)]) ?_ (.cons rfl (.cons rfl (.cons rfl (.nil))))
          refine SN_seq ?_
          refine SC_cond rfl (fun hc45 => ?_) (fun hc45 => ?_)
          · have hq0 : c.qcOk l1 s.S t.high.view t.high.block t.high.by_.l = false := by simpa using hc45
            refine SC_seq ?_
            refine SC_region ?_
            refine SR_pu (RD_assign rfl) rfl ?_
            refine SR_nil ?_
            refine SN.le (l := [(6, _)]) ?_ (.cons rfl (.nil))
            refine SN_seq ?_
            refine SC_ret1 rfl rfl ?_
            exact ⟨l1, hx1, by omega, by unfold CfgD.tcOk; rw [hq0, Bool.and_false], .fin⟩
          · have hq0 : c.qcOk l1 s.S t.high.view t.high.block t.high.by_.l = true := by simpa using hc45
            refine SC_skip ?_
            refine SN_seq ?_
            refine SC_seq ?_
            refine SC_region ?_
            refine SR_pu (RD_assign rfl) rfl ?_
            refine SR_nil ?_
            refine SN.le (l := [(0, _), (5, _), (7, _)]) ?_ (.cons rfl (.cons rfl (.cons rfl (.nil))))
            refine SN_seq ?_
            refine SC_seq ?_
            refine SC_seq ?_
            refine SC_region ?_
            refine SR_pu (RD_assign rfl) rfl ?_
            refine SR_nil ?_
            refine SN.le (l := [(0, _), (5, _), (7, _), (8, _)]) ?_ (.cons rfl (.cons rfl (.cons rfl (.cons rfl (.nil)))))
            refine SN_seq ?_
            refine SC_block ?_
            refine SC_ind (X := Nat × Int × List (List UInt8)) (fun x => (x.1 ≤ t.by_.n ∧ x.2.1 = (t.highs.l.take x.1).foldl max 0) ∧ Ext l1 x.2.2 ∧ x.2.2.length ≤ l1.length + x.1 ∧ ∀ j, j < x.1 → tOk x.2.2 s.S t.view t.by_.l t.highs.l j) (fun x => t.by_.n - x.1) (fun x => [(0, .pointer (some ⟨k.p, 0, none⟩)), (5, .pointer (some ⟨b5, 0, none⟩)), (7, .int .i64 x.2.1), (8, .int .i64 (x.1 : Nat))]) (fun x => pt b5 (.cells t.cells.toArray 28) :: At worldI k ⟨x.2.2, s.S⟩ :: F) ((0, 0, l1)) (⟨⟨by simp, rfl⟩, Ext.same, by simp, fun j hj => by dsimp only at hj; omega⟩) (.cons rfl (.cons rfl (.cons rfl (.cons rfl (.nil))))) (.fin) ?_
            intro ⟨i, mx, l2⟩ hi ih
            obtain ⟨⟨hi1, hmx⟩, hx2, hl2, hok⟩ := hi
            dsimp only at hi1 hmx hx2 hl2 hok ih ⊢
            refine SC_seq ?_
            refine SC_seq ?_
            refine SC_region ?_
            refine SR_pu (RD_move rfl) rfl ?_
            first
              | refine SR_pu (RD_fieldAddr 1 Try.runUnderlying28 rfl rfl Try.sizeOf24 rfl) rfl ?_
              | refine SR_rd (RD_fieldAddrO 1 Try.runUnderlying28 rfl rfl Try.sizeOf24 rfl (by simp <;> omega)) Has.ro rfl ?_
            refine SR_rd (RD_load Try.isAgg24 rfl) (Has.ce rfl) rfl ?_
            refine SR_pu (RD_len Try.runUnderlying24 rfl) rfl ?_
            refine SR_pu (RD_lss rfl rfl) rfl ?_
            refine SR_nil ?_
            refine SN.le (l := [(0, _), (5, _), (7, _), (8, _), (50, _)]) ?_ (.cons rfl (.cons rfl (.cons rfl (.cons rfl (.cons rfl (.nil))))))
            refine SN_seq ?_
            refine SC_cond rfl (fun hc50 => ?_) (fun hc50 => ?_)
            · have hin : i < t.by_.n := by simp at hc50; omega
              obtain ⟨w, hw1⟩ : ∃ x, t.by_.l[i]? = some x := ⟨_, List.getElem?_eq_getElem (by omega)⟩
              obtain ⟨h, hh1⟩ : ∃ x, t.highs.l[i]? = some x := ⟨_, List.getElem?_eq_getElem (by omega)⟩
              have hwd : t.by_.l.getD i 0 = w := by simp [List.getD, hw1]
              have hhd : t.highs.l.getD i 0 = h := by simp [List.getD, hh1]
              have hfm := fold_max hh1
              rw [← hmx] at hfm
              obtain ⟨l3, hl3⟩ : ∃ l3, dput l2 (outB t.view h) = l3 := ⟨_, rfl⟩
              obtain ⟨d, hd⟩ : ∃ d, dnum l3 (outB t.view h) = d := ⟨_, rfl⟩
              have hx3 : Ext l2 l3 := by rw [← hl3]; exact Ext.put _ _
              have hl3n : l3.length ≤ l2.length + 1 := by rw [← hl3]; exact dput_len _ _
              have hI2 : Inv l2 s.S := (hI.ext hx1).ext hx2
              refine SC_skip ?_
              refine SN_seq ?_
              refine SC_seq ?_
              refine SC_block ?_
              refine SC_seq ?_
              refine SC_seq ?_
              refine SC_drawn (.cons 0 true (.cons 1 true (.cons 2 true (.cons 3 true (.cons 4 true (.cons 5 true (.cons 6 true (.cons 7 true (.cons 8 true (.cons 9 true (.cons 10 true (.cons 11 true (.cons 12 true (.cons 13 true (.cons 14 true (.cons 15 true (.cons 16 true (.cons 17 true (.cons 19 true (.cons 20 true (.cons 21 true (.cons 22 true (.cons 23 true (.cons 24 true (.cons 26 true (.cons 27 true (.cons 28 true (.cons 29 true (.cons 30 true (.cons 31 true (.cons 32 true (.cons 18 false (.cons 25 false (.cons 33 false (.cons 34 false (.cons 35 false (.cons 36 true (.cons 37 true (.nil))))))))))))))))))))))))))))))))))))))) (by kernel_rfl) (by kernel_rfl) ?_
              first
                | refine SQ_pu rfl (RD_fieldAddr 2 Try.runUnderlying28 rfl rfl Try.sizeOf24 rfl) rfl ?_
                | refine SQ_rd rfl (RD_fieldAddrO 2 Try.runUnderlying28 rfl rfl Try.sizeOf24 rfl (by simp <;> omega)) Has.ro rfl ?_
              refine SQ_rd rfl (RD_load Try.isAgg24 rfl) (Has.ce rfl) rfl ?_
              refine SQ_pu rfl (RD_move rfl) rfl ?_
              refine SQ_rd rfl (RD_ixO (i := (i : Nat)) (cs := t.highs.l.map intV) Try.runUnderlying24 Try.sizeOf3 rfl rfl (by simpa using hm) (by omega) (by omega)) Has.ro rfl ?_
              refine SQ_rd rfl (RD_loadO (v := intV h) (cs := t.highs.l.map intV) Try.isAgg3 rfl (by simp [hh1])) Has.ro rfl ?_
              refine SQ_pu rfl (RD_lss rfl rfl) rfl ?_
              refine SQ_pu rfl (RD_move rfl) rfl ?_
              refine SQ_guard (i := 7) rfl rfl rfl (fun hg7_6 => ?_) (fun hg7_6 => ?_)
              · have hA := of_decide_eq_false hg7_6
                first
                  | refine SQ_pyes rfl rfl rfl (hg7_6) (RD_fieldAddr 2 Try.runUnderlying28 rfl rfl Try.sizeOf24 rfl) rfl ?_
                  | refine SQ_yes rfl rfl rfl (hg7_6) (RD_fieldAddrO 2 Try.runUnderlying28 rfl rfl Try.sizeOf24 rfl (by simp <;> omega)) Has.ro rfl ?_
                refine SQ_yes rfl rfl rfl (hg7_6) (RD_load Try.isAgg24 rfl) (Has.ce rfl) rfl ?_
                refine SQ_pyes rfl rfl rfl (hg7_6) (RD_move rfl) rfl ?_
                refine SQ_yes rfl rfl rfl (hg7_6) (RD_ixO (i := (i : Nat)) (cs := t.highs.l.map intV) Try.runUnderlying24 Try.sizeOf3 rfl rfl (by simpa using hm) (by omega) (by omega)) Has.ro rfl ?_
                refine SQ_yes rfl rfl rfl (hg7_6) (RD_loadO (v := intV h) (cs := t.highs.l.map intV) Try.isAgg3 rfl (by simp [hh1])) Has.ro rfl ?_
                first
                  | refine SQ_pyes rfl rfl rfl (hg7_6) (RD_fieldAddr0 Try.runUnderlying28 rfl rfl Try.sizeOf3 rfl) rfl ?_
                  | refine SQ_yes rfl rfl rfl (hg7_6) (RD_fieldAddrO 0 Try.runUnderlying28 rfl rfl Try.sizeOf3 rfl (by simp <;> omega)) Has.ro rfl ?_
                refine SQ_yes rfl rfl rfl (hg7_6) (RD_load Try.isAgg3 rfl) (Has.ce rfl) rfl ?_
                refine SQ_pyes rfl rfl rfl (hg7_6) (RD_geq rfl rfl) rfl ?_
                refine SQ_pu rfl (RD_pick_f rfl (hg7_6) rfl) rfl ?_
                refine SQ_pu rfl (RD_move rfl) rfl ?_
                refine SQ_guard (i := 17) rfl rfl rfl (fun hg7_16 => ?_) (fun hg7_16 => ?_)
                · have hB := of_decide_eq_false hg7_16
                  refine SQ_pyes rfl rfl rfl (hg7_16) (RD_move rfl) rfl ?_
                  first
                    | refine SQ_pyes rfl rfl rfl (hg7_16) (RD_fieldAddr 1 Try.runUnderlying28 rfl rfl Try.sizeOf24 rfl) rfl ?_
                    | refine SQ_yes rfl rfl rfl (hg7_16) (RD_fieldAddrO 1 Try.runUnderlying28 rfl rfl Try.sizeOf24 rfl (by simp <;> omega)) Has.ro rfl ?_
                  refine SQ_yes rfl rfl rfl (hg7_16) (RD_load Try.isAgg24 rfl) (Has.ce rfl) rfl ?_
                  refine SQ_pyes rfl rfl rfl (hg7_16) (RD_move rfl) rfl ?_
                  refine SQ_yes rfl rfl rfl (hg7_16) (RD_ixO (i := (i : Nat)) (cs := t.by_.l.map intV) Try.runUnderlying24 Try.sizeOf3 rfl rfl (by simpa using hn) (by omega) (by omega)) Has.ro rfl ?_
                  refine SQ_yes rfl rfl rfl (hg7_16) (RD_loadO (v := intV w) (cs := t.by_.l.map intV) Try.isAgg3 rfl (by simp [hw1])) Has.ro rfl ?_
                  refine SQ_pyes rfl rfl rfl (hg7_16) (RD_move rfl) rfl ?_
                  first
                    | refine SQ_pyes rfl rfl rfl (hg7_16) (RD_fieldAddr0 Try.runUnderlying28 rfl rfl Try.sizeOf3 rfl) rfl ?_
                    | refine SQ_yes rfl rfl rfl (hg7_16) (RD_fieldAddrO 0 Try.runUnderlying28 rfl rfl Try.sizeOf3 rfl (by simp <;> omega)) Has.ro rfl ?_
                  refine SQ_yes rfl rfl rfl (hg7_16) (RD_load Try.isAgg3 rfl) (Has.ce rfl) rfl ?_
                  first
                    | refine SQ_pyes rfl rfl rfl (hg7_16) (RD_fieldAddr 2 Try.runUnderlying28 rfl rfl Try.sizeOf24 rfl) rfl ?_
                    | refine SQ_yes rfl rfl rfl (hg7_16) (RD_fieldAddrO 2 Try.runUnderlying28 rfl rfl Try.sizeOf24 rfl (by simp <;> omega)) Has.ro rfl ?_
                  refine SQ_yes rfl rfl rfl (hg7_16) (RD_load Try.isAgg24 rfl) (Has.ce rfl) rfl ?_
                  refine SQ_pyes rfl rfl rfl (hg7_16) (RD_move rfl) rfl ?_
                  refine SQ_yes rfl rfl rfl (hg7_16) (RD_ixO (i := (i : Nat)) (cs := t.highs.l.map intV) Try.runUnderlying24 Try.sizeOf3 rfl rfl (by simpa using hm) (by omega) (by omega)) Has.ro rfl ?_
                  refine SQ_yes rfl rfl rfl (hg7_16) (RD_loadO (v := intV h) (cs := t.highs.l.map intV) Try.isAgg3 rfl (by simp [hh1])) Has.ro rfl ?_
                  refine SQ_one (SA_call rfl (.mk rfl rfl (hg7_16)) Try.call22 (.cons rfl (.nil)) (CallsK.at (w_Signs k ⟨l2, s.S⟩)) (lts rfl) ?_)
                  rintro _ L4 ⟨rfl, hL4⟩
                  refine ⟨.lands hL4 (.h Has.ro (.h Has.ro (.h (Has.ce rfl) (.h (Has.ce rfl) (.h Has.ro (.h Has.ro (.h (Has.ce rfl) (.h (Has.ce rfl) (.h Has.ro (.h Has.ro (.h (Has.ce rfl) (.h Has.ro (.h Has.ro (.h (Has.ce rfl) (.nil))))))))))))))), ?_⟩
                  refine SQ.lands hL4 ?_
                  refine SQ_one (SA_call rfl (.mk rfl rfl (hg7_16)) Try.call14 (.cons rfl (.nil)) (CallsK.at (w_Terms k ⟨l2, s.S⟩)) (lts rfl) ?_)
                  rintro _ L5 ⟨rfl, hL5⟩
                  refine ⟨.lands hL5 (.h Has.ro (.h Has.ro (.h (Has.ce rfl) (.h (Has.ce rfl) (.h Has.ro (.h Has.ro (.h (Has.ce rfl) (.h (Has.ce rfl) (.h Has.ro (.h Has.ro (.h (Has.ce rfl) (.h Has.ro (.h Has.ro (.h (Has.ce rfl) (.nil))))))))))))))), ?_⟩
                  refine SQ.lands hL5 ?_
                  refine SQ_one (SA_call rfl (.mk rfl rfl (hg7_16)) Try.call18 (.cons rfl (.cons rfl (.nil))) (law15_Out t.view h) (lts rfl) ?_)
                  rintro _ L6 ⟨va, vc, rfl, hL6⟩
                  refine ⟨.lands hL6 (.w rfl (.h Has.ro (.h (Has.ce rfl) (.w rfl (.h Has.ro (.h Has.ro (.h (Has.ce rfl) (.h (Has.ce rfl) (.h Has.ro (.h Has.ro (.h (Has.ce rfl) (.h Has.ro (.h Has.ro (.h (Has.ce rfl) (.nil))))))))))))))), ?_⟩
                  refine SQ.lands hL6 ?_
                  refine SQ_one (SA_call rfl (.mk rfl rfl (hg7_16)) Try.call15 (.cons rfl (.cons rfl (.nil))) (CallsK.at (w_Digest k ⟨l2, s.S⟩ va _ vc (outB t.view h) rfl rfl (by dsimp only; omega) l3 d hl3 hd)) (lts rfl) ?_)
                  rintro _ L7 ⟨rfl, hL7⟩
                  refine ⟨.lands hL7 (.h Has.ro (.h Has.ro (.h (Has.ce rfl) (.h (Has.ce rfl) (.h Has.ro (.h Has.ro (.h (Has.ce rfl) (.h (Has.ce rfl) (.h Has.ro (.h Has.ro (.h (Has.ce rfl) (.h Has.ro (.h Has.ro (.h (Has.ce rfl) (.nil))))))))))))))), ?_⟩
                  refine SQ.lands hL7 ?_
                  refine SQ_one (SA_call rfl (.mk rfl rfl (hg7_16)) Try.call46 (.cons rfl (.cons rfl (.cons rfl (.nil)))) (CallsK.at (w_Has k ⟨l3, s.S⟩ w (d : Nat))) (lts rfl) ?_)
                  rintro _ L8 ⟨rfl, hL8⟩
                  refine ⟨.lands hL8 (.h Has.ro (.h Has.ro (.h (Has.ce rfl) (.h (Has.ce rfl) (.w rfl (.h Has.ro (.h (Has.ce rfl) (.h (Has.ce rfl) (.h Has.ro (.h Has.ro (.h (Has.ce rfl) (.h Has.ro (.h Has.ro (.h (Has.ce rfl) (.nil))))))))))))))), ?_⟩
                  refine SQ.lands hL8 ?_
                  refine SQ_pyes rfl rfl rfl (hg7_16) (RD_not rfl) rfl ?_
                  refine SQ_pu rfl (RD_pick_f rfl (hg7_16) rfl) rfl ?_
                  refine SQ_nil ?_
                  refine SN.le (l := [(0, _), (5, _), (7, _), (8, _), (90, _)]) ?_ (.cons rfl (.cons rfl (.cons rfl (.cons rfl (.cons rfl (.nil))))))
                  refine SN_seq ?_
                  refine SC_cond rfl (fun hc90 => ?_) (fun hc90 => ?_)
                  · refine SC_seq ?_
                    refine SC_region ?_
                    refine SR_pu (RD_assign rfl) rfl ?_
                    refine SR_nil ?_
                    refine SN.le (l := [(6, _)]) ?_ (.cons rfl (.nil))
                    refine SN_seq ?_
                    refine SC_ret1 rfl rfl ?_
                    have hno : ¬ tOk l3 s.S t.view t.by_.l t.highs.l i := fun q => by
                      unfold tOk at q
                      rw [hwd, hhd] at q
                      unfold sg at q
                      rw [hd] at q
                      have hns : w ∉ signers s.S (d : Nat) := by simpa using hc90
                      exact hns q.2.2
                    exact ⟨l3, (hx1.trans hx2).trans hx3, by omega, by rw [tcOk_no fun q => hno (q.2.2.2.1 i (by omega))], .fin⟩
                  · have hyes : w ∈ signers s.S (d : Nat) := by simpa using hc90
                    have hti : tOk l3 s.S t.view t.by_.l t.highs.l i := by unfold tOk sg; rw [hwd, hhd, hd]; exact ⟨by omega, by omega, hyes⟩
                    refine SC_skip ?_
                    refine SN_seq ?_
                    refine SC_region ?_
                    refine SR_pu (RD_move rfl) rfl ?_
                    first
                      | refine SR_pu (RD_fieldAddr 2 Try.runUnderlying28 rfl rfl Try.sizeOf24 rfl) rfl ?_
                      | refine SR_rd (RD_fieldAddrO 2 Try.runUnderlying28 rfl rfl Try.sizeOf24 rfl (by simp <;> omega)) Has.ro rfl ?_
                    refine SR_rd (RD_load Try.isAgg24 rfl) (Has.ce rfl) rfl ?_
                    refine SR_pu (RD_move rfl) rfl ?_
                    refine SR_rd (RD_ixO (i := (i : Nat)) (cs := t.highs.l.map intV) Try.runUnderlying24 Try.sizeOf3 rfl rfl (by simpa using hm) (by omega) (by omega)) Has.ro rfl ?_
                    refine SR_rd (RD_loadO (v := intV h) (cs := t.highs.l.map intV) Try.isAgg3 rfl (by simp [hh1])) Has.ro rfl ?_
                    refine SR_pu (RD_max rfl rfl) rfl ?_
                    refine SR_pu (RD_assign rfl) rfl ?_
                    refine SR_nil ?_
                    refine SN.le (l := [(0, _), (5, _), (7, _), (8, _)]) ?_ (.cons rfl (.cons rfl (.cons rfl (.cons rfl (.nil)))))
                    refine SN_block ?_
                    refine SN_seq ?_
                    refine SC_region ?_
                    refine SR_pu (RD_move rfl) rfl ?_
                    refine SR_pu (RD_addi rfl rfl (by omega) (by omega)) rfl ?_
                    refine SR_pu (RD_assign rfl) rfl ?_
                    refine SR_nil ?_
                    refine SN.le (l := [(0, _), (5, _), (7, _), (8, _)]) ?_ (.cons rfl (.cons rfl (.cons rfl (.cons rfl (.nil)))))
                    refine SC_again (ih ((i + 1, max mx h, l3)) (⟨⟨by dsimp only; omega, hfm.symm⟩, hx2.trans hx3, by dsimp only; omega, fun j hj => by
                      dsimp only at hj
                      rcases Nat.lt_succ_iff_lt_or_eq.1 hj with q | q
                      · exact (tOk_ext hI2 hx3).2 (hok j q)
                      · subst q; exact hti⟩) (by dsimp only; omega)) (.fin) (.cons rfl (.cons rfl (.cons' rfl (ie (by dsimp only; split <;> omega)) (.cons' rfl (ie (by dsimp only; omega)) (.nil)))))
                · have hB := of_decide_eq_true hg7_16
                  refine SQ_no rfl rfl rfl (hg7_16) (lts rfl) ?_
                  refine SQ_no rfl rfl rfl (hg7_16) (lts rfl) ?_
                  refine SQ_no rfl rfl rfl (hg7_16) (lts rfl) ?_
                  refine SQ_no rfl rfl rfl (hg7_16) (lts rfl) ?_
                  refine SQ_no rfl rfl rfl (hg7_16) (lts rfl) ?_
                  refine SQ_no rfl rfl rfl (hg7_16) (lts rfl) ?_
                  refine SQ_no rfl rfl rfl (hg7_16) (lts rfl) ?_
                  refine SQ_no rfl rfl rfl (hg7_16) (lts rfl) ?_
                  refine SQ_no rfl rfl rfl (hg7_16) (lts rfl) ?_
                  refine SQ_no rfl rfl rfl (hg7_16) (lts rfl) ?_
                  refine SQ_no rfl rfl rfl (hg7_16) (lts rfl) ?_
                  refine SQ_no rfl rfl rfl (hg7_16) (lts rfl) ?_
                  refine SQ_no rfl rfl rfl (hg7_16) (lts rfl) ?_
                  refine SQ_no rfl rfl rfl (hg7_16) (lts rfl) ?_
                  refine SQ_no1 rfl rfl rfl (hg7_16) (lts rfl) ?_
                  refine SQ_no1 rfl rfl rfl (hg7_16) (lts rfl) ?_
                  refine SQ_no1 rfl rfl rfl (hg7_16) (lts rfl) ?_
                  refine SQ_no1 rfl rfl rfl (hg7_16) (lts rfl) ?_
                  refine SQ_no1 rfl rfl rfl (hg7_16) (lts rfl) ?_
                  refine SQ_no rfl rfl rfl (hg7_16) (lts rfl) ?_
                  refine SQ_pu rfl (RD_pick_t rfl (hg7_16) rfl) rfl ?_
                  refine SQ_nil ?_
                  refine SN.le (l := [(0, _), (5, _), (7, _), (8, _), (90, _)]) ?_ (.cons rfl (.cons rfl (.cons rfl (.cons rfl (.cons rfl (.nil))))))
                  refine SN_seq ?_
                  refine SC_cond_true rfl (rfl) ?_
                  refine SC_seq ?_
                  refine SC_region ?_
                  refine SR_pu (RD_assign rfl) rfl ?_
                  refine SR_nil ?_
                  refine SN.le (l := [(6, _)]) ?_ (.cons rfl (.nil))
                  refine SN_seq ?_
                  refine SC_ret1 rfl rfl ?_
                  have hno : ¬ tOk l2 s.S t.view t.by_.l t.highs.l i := fun q => by
                    unfold tOk at q
                    rw [hwd, hhd] at q
                    omega
                  exact ⟨l2, hx1.trans hx2, by omega, by rw [tcOk_no fun q => hno (q.2.2.2.1 i (by omega))], .fin⟩
              · have hA := of_decide_eq_true hg7_6
                refine SQ_no rfl rfl rfl (hg7_6) (lts rfl) ?_
                refine SQ_no rfl rfl rfl (hg7_6) (lts rfl) ?_
                refine SQ_no rfl rfl rfl (hg7_6) (lts rfl) ?_
                refine SQ_no rfl rfl rfl (hg7_6) (lts rfl) ?_
                refine SQ_no rfl rfl rfl (hg7_6) (lts rfl) ?_
                refine SQ_no rfl rfl rfl (hg7_6) (lts rfl) ?_
                refine SQ_no rfl rfl rfl (hg7_6) (lts rfl) ?_
                refine SQ_no rfl rfl rfl (hg7_6) (lts rfl) ?_
                refine SQ_pu rfl (RD_pick_t rfl (hg7_6) rfl) rfl ?_
                refine SQ_pu rfl (RD_move rfl) rfl ?_
                refine SQ_no rfl rfl rfl (rfl) (lts rfl) ?_
                refine SQ_no rfl rfl rfl (rfl) (lts rfl) ?_
                refine SQ_no rfl rfl rfl (rfl) (lts rfl) ?_
                refine SQ_no rfl rfl rfl (rfl) (lts rfl) ?_
                refine SQ_no rfl rfl rfl (rfl) (lts rfl) ?_
                refine SQ_no rfl rfl rfl (rfl) (lts rfl) ?_
                refine SQ_no rfl rfl rfl (rfl) (lts rfl) ?_
                refine SQ_no rfl rfl rfl (rfl) (lts rfl) ?_
                refine SQ_no rfl rfl rfl (rfl) (lts rfl) ?_
                refine SQ_no rfl rfl rfl (rfl) (lts rfl) ?_
                refine SQ_no rfl rfl rfl (rfl) (lts rfl) ?_
                refine SQ_no rfl rfl rfl (rfl) (lts rfl) ?_
                refine SQ_no rfl rfl rfl (rfl) (lts rfl) ?_
                refine SQ_no rfl rfl rfl (rfl) (lts rfl) ?_
                refine SQ_no1 rfl rfl rfl (rfl) (lts rfl) ?_
                refine SQ_no1 rfl rfl rfl (rfl) (lts rfl) ?_
                refine SQ_no1 rfl rfl rfl (rfl) (lts rfl) ?_
                refine SQ_no1 rfl rfl rfl (rfl) (lts rfl) ?_
                refine SQ_no1 rfl rfl rfl (rfl) (lts rfl) ?_
                refine SQ_no rfl rfl rfl (rfl) (lts rfl) ?_
                refine SQ_pu rfl (RD_pick_t rfl (rfl) rfl) rfl ?_
                refine SQ_nil ?_
                refine SN.le (l := [(0, _), (5, _), (7, _), (8, _), (90, _)]) ?_ (.cons rfl (.cons rfl (.cons rfl (.cons rfl (.cons rfl (.nil))))))
                refine SN_seq ?_
                refine SC_cond_true rfl (rfl) ?_
                refine SC_seq ?_
                refine SC_region ?_
                refine SR_pu (RD_assign rfl) rfl ?_
                refine SR_nil ?_
                refine SN.le (l := [(6, _)]) ?_ (.cons rfl (.nil))
                refine SN_seq ?_
                refine SC_ret1 rfl rfl ?_
                have hno : ¬ tOk l2 s.S t.view t.by_.l t.highs.l i := fun q => by
                  unfold tOk at q
                  rw [hwd, hhd] at q
                  omega
                exact ⟨l2, hx1.trans hx2, by omega, by rw [tcOk_no fun q => hno (q.2.2.2.1 i (by omega))], .fin⟩
            · have hin : i = t.by_.n := by simp at hc50; omega
              clear ih
              refine SC_exit rfl ?_
              refine SN_seq ?_
              refine SC_seq ?_
              refine SC_region ?_
              refine SR_pu (RD_move rfl) rfl ?_
              first
                | refine SR_pu (RD_fieldAddr 3 Try.runUnderlying28 rfl rfl Try.sizeOf26 rfl) rfl ?_
                | refine SR_rd (RD_fieldAddrO 3 Try.runUnderlying28 rfl rfl Try.sizeOf26 rfl (by simp <;> omega)) Has.ro rfl ?_
              first
                | refine SR_pu (RD_fieldAddr0 Try.runUnderlying26 rfl rfl Try.sizeOf3 rfl) rfl ?_
                | refine SR_rd (RD_fieldAddrO 0 Try.runUnderlying26 rfl rfl Try.sizeOf3 rfl (by simp <;> omega)) Has.ro rfl ?_
              refine SR_rd (RD_load Try.isAgg3 rfl) (Has.ce rfl) rfl ?_
              refine SR_pu (RD_eql rfl rfl) rfl ?_
              refine SR_pu (RD_assign rfl) rfl ?_
              refine SR_nil ?_
              refine SN.le (l := [(6, _)]) ?_ (.cons rfl (.nil))
              refine SN_seq ?_
              refine SC_ret1 rfl rfl ?_
              refine ⟨l2, hx1.trans hx2, by omega, congrArg Value.bool ?_, .fin⟩
              subst hin
              have hpos : 0 < t.highs.l.length := by
                have h3 := hri
                simp only [Bool.and_eq_true, decide_eq_true_eq] at h3
                omega
              have hnn : ∀ x ∈ t.highs.l, 0 ≤ x := fun x hx => by
                obtain ⟨j, hj⟩ := List.getElem?_of_mem hx
                have hjl := (List.getElem?_eq_some_iff.1 hj).1
                have := (hok j (by omega)).1
                rw [show t.highs.l.getD j 0 = x by simp [List.getD, hj]] at this
                exact this
              have hms : most t.highs.l = mx := by rw [most_zero hpos hnn, hmx, List.take_of_length_le (by omega)]
              unfold CfgD.tcOk
              rw [qcOk_same (hI.ext hx1) hx2 (fun hf hv => hrt hf hv), hq0, Bool.and_true]
              refine decide_eq_decide.2 ⟨fun q => ⟨by omega, hmany, by omega, fun j hj => hok j (by omega), by rw [hms]; exact q⟩, fun q => by rw [← hms]; exact q.2.2.2.2⟩
        · have hle : ¬ (t.highs.n = t.by_.n) := by simp at hg1_29; omega
          refine SR_no rfl rfl (hg1_29) (lts rfl) ?_
          refine SR_no rfl rfl (hg1_29) (lts rfl) ?_
          refine SR_no rfl rfl (hg1_29) (lts rfl) ?_
          refine SR_no rfl rfl (hg1_29) (lts rfl) ?_
          refine SR_no rfl rfl (hg1_29) (lts rfl) ?_
          refine SR_no rfl rfl (hg1_29) (lts rfl) ?_
          refine SR_pu (RD_pick_t rfl (hg1_29) rfl) rfl ?_
          refine SR_nil ?_
          refine SN.le (l := [(0, _), (5, _), (45, _)]) ?_ (.cons rfl (.cons rfl (.cons rfl (.nil))))
          refine SN_seq ?_
          refine SC_cond_true rfl (rfl) ?_
          refine SC_seq ?_
          refine SC_region ?_
          refine SR_pu (RD_assign rfl) rfl ?_
          refine SR_nil ?_
          refine SN.le (l := [(6, _)]) ?_ (.cons rfl (.nil))
          refine SN_seq ?_
          refine SC_ret1 rfl rfl ?_
          exact ⟨s.l, Ext.same, by omega, by rw [tcOk_no fun h => by have := h.2.2.1; omega], .fin⟩
      · have hri : (decide (rises c.n t.by_.l) && decide (2 * c.f + 1 ≤ (t.by_.l.length : Int))) = false := by
          cases hB : (decide (rises c.n t.by_.l) && decide (2 * c.f + 1 ≤ (t.by_.l.length : Int))) with
          | true => rw [hB] at hg1_20; simp at hg1_20
          | false => rfl
        have hmany : c.many t.by_.l = false := by rw [many_iff hfit]; exact hri
        refine SR_no rfl rfl (hg1_20) (lts rfl) ?_
        refine SR_no rfl rfl (hg1_20) (lts rfl) ?_
        refine SR_no rfl rfl (hg1_20) (lts rfl) ?_
        refine SR_no rfl rfl (hg1_20) (lts rfl) ?_
        refine SR_no rfl rfl (hg1_20) (lts rfl) ?_
        refine SR_no rfl rfl (hg1_20) (lts rfl) ?_
        refine SR_no rfl rfl (hg1_20) (lts rfl) ?_
        refine SR_pu (RD_pick_t rfl (hg1_20) rfl) rfl ?_
        refine SR_pu (RD_move rfl) rfl ?_
        refine SR_no rfl rfl (rfl) (lts rfl) ?_
        refine SR_no rfl rfl (rfl) (lts rfl) ?_
        refine SR_no rfl rfl (rfl) (lts rfl) ?_
        refine SR_no rfl rfl (rfl) (lts rfl) ?_
        refine SR_no rfl rfl (rfl) (lts rfl) ?_
        refine SR_no rfl rfl (rfl) (lts rfl) ?_
        refine SR_pu (RD_pick_t rfl (rfl) rfl) rfl ?_
        refine SR_nil ?_
        refine SN.le (l := [(0, _), (5, _), (45, _)]) ?_ (.cons rfl (.cons rfl (.cons rfl (.nil))))
        refine SN_seq ?_
        refine SC_cond_true rfl (rfl) ?_
        refine SC_seq ?_
        refine SC_region ?_
        refine SR_pu (RD_assign rfl) rfl ?_
        refine SR_nil ?_
        refine SN.le (l := [(6, _)]) ?_ (.cons rfl (.nil))
        refine SN_seq ?_
        refine SC_ret1 rfl rfl ?_
        exact ⟨s.l, Ext.same, by omega, by rw [tcOk_no fun h => by have h2 := h.2.1; rw [hmany] at h2; exact absurd h2 (by simp)], .fin⟩
    · have hvw := of_decide_eq_true hg1_8
      refine SR_no rfl rfl (hg1_8) (lts rfl) ?_
      refine SR_no rfl rfl (hg1_8) (lts rfl) ?_
      refine SR_no rfl rfl (hg1_8) (lts rfl) ?_
      refine SR_no rfl rfl (hg1_8) (lts rfl) ?_
      refine SR_no rfl rfl (hg1_8) (lts rfl) ?_
      refine SR_no rfl rfl (hg1_8) (lts rfl) ?_
      refine SR_no rfl rfl (hg1_8) (lts rfl) ?_
      refine SR_no rfl rfl (hg1_8) (lts rfl) ?_
      refine SR_no rfl rfl (hg1_8) (lts rfl) ?_
      refine SR_no rfl rfl (hg1_8) (lts rfl) ?_
      refine SR_pu (RD_pick_t rfl (hg1_8) rfl) rfl ?_
      refine SR_pu (RD_move rfl) rfl ?_
      refine SR_no rfl rfl (rfl) (lts rfl) ?_
      refine SR_no rfl rfl (rfl) (lts rfl) ?_
      refine SR_no rfl rfl (rfl) (lts rfl) ?_
      refine SR_no rfl rfl (rfl) (lts rfl) ?_
      refine SR_no rfl rfl (rfl) (lts rfl) ?_
      refine SR_no rfl rfl (rfl) (lts rfl) ?_
      refine SR_no rfl rfl (rfl) (lts rfl) ?_
      refine SR_pu (RD_pick_t rfl (rfl) rfl) rfl ?_
      refine SR_pu (RD_move rfl) rfl ?_
      refine SR_no rfl rfl (rfl) (lts rfl) ?_
      refine SR_no rfl rfl (rfl) (lts rfl) ?_
      refine SR_no rfl rfl (rfl) (lts rfl) ?_
      refine SR_no rfl rfl (rfl) (lts rfl) ?_
      refine SR_no rfl rfl (rfl) (lts rfl) ?_
      refine SR_no rfl rfl (rfl) (lts rfl) ?_
      refine SR_pu (RD_pick_t rfl (rfl) rfl) rfl ?_
      refine SR_nil ?_
      refine SN.le (l := [(0, _), (5, _), (45, _)]) ?_ (.cons rfl (.cons rfl (.cons rfl (.nil))))
      refine SN_seq ?_
      refine SC_cond_true rfl (rfl) ?_
      refine SC_seq ?_
      refine SC_region ?_
      refine SR_pu (RD_assign rfl) rfl ?_
      refine SR_nil ?_
      refine SN.le (l := [(6, _)]) ?_ (.cons rfl (.nil))
      refine SN_seq ?_
      refine SC_ret1 rfl rfl ?_
      exact ⟨s.l, Ext.same, by omega, by rw [tcOk_no fun h => by have := h.1; omega], .fin⟩
  · have hfit : c.fits = false := by simpa using hg1_3
    refine SR_no rfl rfl (hg1_3) (lts rfl) ?_
    refine SR_no rfl rfl (hg1_3) (lts rfl) ?_
    refine SR_no rfl rfl (hg1_3) (lts rfl) ?_
    refine SR_pu (RD_pick_t rfl (hg1_3) rfl) rfl ?_
    refine SR_pu (RD_move rfl) rfl ?_
    refine SR_no rfl rfl (rfl) (lts rfl) ?_
    refine SR_no rfl rfl (rfl) (lts rfl) ?_
    refine SR_no rfl rfl (rfl) (lts rfl) ?_
    refine SR_no rfl rfl (rfl) (lts rfl) ?_
    refine SR_no rfl rfl (rfl) (lts rfl) ?_
    refine SR_no rfl rfl (rfl) (lts rfl) ?_
    refine SR_no rfl rfl (rfl) (lts rfl) ?_
    refine SR_no rfl rfl (rfl) (lts rfl) ?_
    refine SR_no rfl rfl (rfl) (lts rfl) ?_
    refine SR_no rfl rfl (rfl) (lts rfl) ?_
    refine SR_pu (RD_pick_t rfl (rfl) rfl) rfl ?_
    refine SR_pu (RD_move rfl) rfl ?_
    refine SR_no rfl rfl (rfl) (lts rfl) ?_
    refine SR_no rfl rfl (rfl) (lts rfl) ?_
    refine SR_no rfl rfl (rfl) (lts rfl) ?_
    refine SR_no rfl rfl (rfl) (lts rfl) ?_
    refine SR_no rfl rfl (rfl) (lts rfl) ?_
    refine SR_no rfl rfl (rfl) (lts rfl) ?_
    refine SR_no rfl rfl (rfl) (lts rfl) ?_
    refine SR_pu (RD_pick_t rfl (rfl) rfl) rfl ?_
    refine SR_pu (RD_move rfl) rfl ?_
    refine SR_no rfl rfl (rfl) (lts rfl) ?_
    refine SR_no rfl rfl (rfl) (lts rfl) ?_
    refine SR_no rfl rfl (rfl) (lts rfl) ?_
    refine SR_no rfl rfl (rfl) (lts rfl) ?_
    refine SR_no rfl rfl (rfl) (lts rfl) ?_
    refine SR_no rfl rfl (rfl) (lts rfl) ?_
    refine SR_pu (RD_pick_t rfl (rfl) rfl) rfl ?_
    refine SR_nil ?_
    refine SN.le (l := [(0, _), (5, _), (45, _)]) ?_ (.cons rfl (.cons rfl (.cons rfl (.nil))))
    refine SN_seq ?_
    refine SC_cond_true rfl (rfl) ?_
    refine SC_seq ?_
    refine SC_region ?_
    refine SR_pu (RD_assign rfl) rfl ?_
    refine SR_nil ?_
    refine SN.le (l := [(6, _)]) ?_ (.cons rfl (.nil))
    refine SN_seq ?_
    refine SC_ret1 rfl rfl ?_
    exact ⟨s.l, Ext.same, by omega, by rw [tcOk_no fun h => by have := h.2.1; unfold CfgD.many at this; rw [hfit] at this; simp at this], .fin⟩

end Go.Proofs.Ytmigjpmadhebfaa
