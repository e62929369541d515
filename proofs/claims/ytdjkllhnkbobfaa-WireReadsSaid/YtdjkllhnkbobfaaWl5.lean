/- The statement on the reader: what it reads of any bytes. -/
import Derived.Test.YtdjkllhnkbobfaaWl1
namespace Go.Proofs.Ytdjkllhnkbobfaa
open Go Go.Proofs
set_option maxRecDepth 100000
theorem getAt_ok {bs : List UInt8} {i : Nat} (h : i + 8 ≤ bs.length) : getAt bs (i : Int) = (unbe ((bs.drop i).take 8), true) := by
  unfold getAt; rw [if_neg (by omega)]; simp
theorem getAt_no {bs : List UInt8} {i : Nat} (h : bs.length < i + 8) : getAt bs (i : Int) = (0, false) := by
  unfold getAt; rw [if_pos (by omega)]
theorem rds_bad (sb : List UInt8) : rdNum (sb, true) = (0, (sb, true)) ∧ rdText (sb, true) = ([], (sb, true)) := by
  have h : rdNum (sb, true) = (0, (sb, true)) := by simp [rdNum]
  exact ⟨h, by unfold rdText; rw [h]; simp⟩
theorem rds_short {sb : List UInt8} (h : sb.length < 8) : rdNum (sb, false) = (0, (sb, true)) ∧ rdText (sb, false) = ([], (sb, true)) := by
  have h : rdNum (sb, false) = (0, (sb, true)) := by simp [rdNum, h]
  exact ⟨h, by unfold rdText; rw [h]; simp⟩
theorem rds_num {bs : List UInt8} {i : Nat} (h : i + 8 ≤ bs.length) : rdNum (bs.drop i, false) = (unbe ((bs.drop i).take 8), (bs.drop (i + 8), false)) := by
  unfold rdNum; rw [if_neg (by simp; omega)]; simp
theorem rds_text {bs : List UInt8} {i v : Nat} (h : i + 8 ≤ bs.length) (hv : unbe ((bs.drop i).take 8) = v) (h2 : i + 8 + v ≤ bs.length) : rdText (bs.drop i, false) = ((bs.drop (i + 8)).take v, (bs.drop (i + 8 + v), false)) := by
  unfold rdText; rw [rds_num h, hv]; dsimp only; rw [if_neg (by simp; omega)]; simp
theorem rds_long {bs : List UInt8} {i v : Nat} (h : i + 8 ≤ bs.length) (hv : unbe ((bs.drop i).take 8) = v) (h2 : bs.length < i + 8 + v) : rdText (bs.drop i, false) = ([], (bs.drop (i + 8), true)) := by
  unfold rdText; rw [rds_num h, hv]; dsimp only; rw [if_pos (by simp; omega)]
theorem RD_cutLHn {P : Program} {l : Env} {ty : TypeId} {x lo hi : Operand} {t e z m c : Nat} {a : Option Addr} {kl kh : IntKind} {il ih : Int} (d k : Nat) (hs : ∀ w, (underlying t).run P w = .ok (.slice e) w) (hz : ∀ w, (sizeOf e).run P w = .ok z w)
    (hx : ev l x = some (.slice a m c)) (hl : ev l lo = some (.int kl il)) (hh : ev l hi = some (.int kh ih)) (e1 : il = (d : Int)) (e2 : ih = ((d + k : Nat) : Int)) (h2 : d + k ≤ c) : RD P l (.slice t x (some lo) (some hi) none) ty RU (.slice (sBase a d z c) k (c - d)) := by
  subst e1; subst e2
  have := RD_slice (P := P) (l := l) (ty := ty) (km := .i64) (im := c) hs hz hx (.inr ⟨lo, rfl, hl⟩) (.inr ⟨hi, rfl, hh⟩) (.inl ⟨rfl, rfl⟩) (by omega) (by omega) (by omega) (Int.le_refl _)
  have e3 : ((d + k : Nat) : Int).toNat - (d : Int).toNat = k := by omega
  rw [e3] at this
  simpa using this
theorem hasRow_slice {L : List HProp} {a : Option Addr} {cs : List Value} {c : Nat} [h : HasRow L a cs] (d k : Nat) (hk : d + k ≤ c) : HasRow L (sBase a d 1 c) ((cs.drop d).take k) := by
  by_cases hc : c = d
  · obtain rfl : k = 0 := by omega
    have e : sBase a d 1 c = a := if_pos hc
    rw [e]
    exact hasRow_take 0 (by simp)
  · have e : sBase a d 1 c = a.map (·.add (d * 1)) := if_neg hc
    rw [e, Nat.mul_one]
    exact ⟨⟨rowR.up, fun q hq => rowR_slice (h.r.2 q hq) d k⟩⟩

theorem law_WireReads {W : World} {F : List HProp} [Abs F] (a : Option Addr) (n c : Nat) (bs : List UInt8) [HasRow F a (bs.map byteV)] (hn : bs.length = n) (hcap : n ≤ c) (a2 : Option Addr) (n2 c2 : Nat) (ask : List Int) [HasRow F a2 (ask.map intV)] (hask : ask.length = n2) :
    CallsK W Try.prog 7 #[.slice a n c, .slice a2 n2 c2] (F) (fun v L => v = .bool true ∧ Lands L F) := by
  refine CallsK_enter (n := 118) Try.func7 rfl rfl rfl ?_
  have hcl : bs.length = n := hn
  refine SC_seq ?_
  refine SC_region ?_
  refine SR_pu (RD_assign rfl) rfl ?_
  refine SR_nil ?_
  refine SN.le (l := [(0, _), (1, _)]) ?_ (.cons rfl (.cons rfl (.nil)))
  refine SN_seq ?_
  refine SC_seq ?_
  refine SC_seq ?_
  refine SC_region ?_
  refine SR_pu (RD_move rfl) rfl ?_
  refine SR_pu (RD_len Try.runUnderlying25 rfl) rfl ?_
  refine SR_pu (RD_gtr rfl rfl) rfl ?_
  refine SR_nil ?_
  refine SN.le (l := [(0, _), (1, _), (15, _)]) ?_ (.cons rfl (.cons rfl (.cons rfl (.nil))))
  refine SN_seq ?_
  refine SC_cond rfl (fun hc15 => ?_) (fun hc15 => ?_)
  · refine SC_seq ?_
    refine SC_region ?_
    refine SR_call Try.call15 (.nil) (wire_awake) (lts rfl) ?_
    rintro _ L9 ⟨rfl, hL9⟩
    refine SR.lands hL9 ?_
    refine SR_pu (RD_assign rfl) rfl ?_
    refine SR_nil ?_
    refine SN.le (l := [(4, _)]) ?_ (.cons rfl (.nil))
    refine SN_seq ?_
    refine SC_ret1 rfl rfl ?_
    exact ⟨rfl, .fin⟩
  · have h500 : n ≤ 500 := by simp at hc15; omega
    refine SC_skip ?_
    refine SN_seq ?_
    refine SC_seq ?_
    refine SC_region ?_
    refine SR_pu (RD_move rfl) rfl ?_
    refine SR_call Try.call23 (.cons rfl (.nil)) (wire_Read bs a n c rfl hn (by omega)) (lts rfl) ?_
    rintro _ L0 ⟨q, rfl, hL0⟩
    refine SR.lands hL0 ?_
    refine SR_pu (RD_assign rfl) rfl ?_
    refine SR_nil ?_
    refine SN.le (l := [(0, _), (1, _), (5, _)]) ?_ (.cons rfl (.cons rfl (.cons rfl (.nil))))
    refine SN_seq ?_
    refine SC_seq ?_
    refine SC_seq ?_
    refine SC_region ?_
    refine SR_pu (RD_move rfl) rfl ?_
    refine SR_pu (RD_eqlP Try.underlying38 rfl rfl) rfl ?_
    refine SR_nil ?_
    refine SN.le (l := [(0, _), (1, _), (5, _), (20, _)]) ?_ (.cons rfl (.cons rfl (.cons rfl (.cons rfl (.nil)))))
    refine SN_seq ?_
    refine SC_cond_false rfl (rfl) ?_
    refine SC_skip ?_
    refine SN_seq ?_
    refine SC_seq ?_
    refine SC_region ?_
    refine SR_pu (RD_assign rfl) rfl ?_
    refine SR_pu (RD_assign rfl) rfl ?_
    refine SR_nil ?_
    refine SN.le (l := [(0, _), (1, _), (5, _), (6, _), (7, _)]) ?_ (.cons rfl (.cons rfl (.cons rfl (.cons rfl (.cons rfl (.nil))))))
    refine SN_seq ?_
    refine SC_seq ?_
    refine SC_seq ?_
    refine SC_region ?_
    refine SR_pu (RD_assign rfl) rfl ?_
    refine SR_nil ?_
    refine SN.le (l := [(0, _), (1, _), (5, _), (6, _), (7, _), (8, _)]) ?_ (.cons rfl (.cons rfl (.cons rfl (.cons rfl (.cons rfl (.cons rfl (.nil)))))))
    refine SN_seq ?_
    refine SC_block ?_
    refine SC_ind (X := Nat × Nat × Bool × (List UInt8 × Bool)) (fun x => x.1 ≤ 40 ∧ x.2.1 ≤ 500 + 8 * x.1 ∧ x.2.2.2.1.length ≤ bs.length ∧ ((x.2.2.1 = false ∧ x.2.1 ≤ bs.length ∧ x.2.2.2 = (bs.drop x.2.1, false)) ∨ (x.2.2.1 = true ∧ x.2.2.2.2 = true))) (fun x => 40 - x.1) (fun x => [(0, .slice a n c), (1, .slice a2 n2 c2), (5, .pointer (some ⟨q, 0, none⟩)), (6, .int .i64 (x.2.1 : Nat)), (7, .bool x.2.2.1), (8, .int .i64 (x.1 : Nat))]) (fun x => At readerI q x.2.2.2 :: F) ((0, 0, false, (bs, false))) (⟨by show 0 ≤ 40; omega, by show 0 ≤ _; omega, Nat.le_refl _, .inl ⟨rfl, Nat.zero_le _, by simp⟩⟩) (.cons rfl (.cons rfl (.cons rfl (.cons rfl (.cons rfl (.cons rfl (.nil))))))) (.fin) ?_
    intro x hi ih
    obtain ⟨i, o, bad, s⟩ := x
    dsimp only at hi ih ⊢
    obtain ⟨hi1, ho, hsl, hst⟩ := hi
    refine SC_seq ?_
    refine SC_seq ?_
    refine SC_region ?_
    refine SR_pu (RD_move rfl) rfl ?_
    refine SR_pu (RD_move rfl) rfl ?_
    refine SR_pu (RD_len Try.runUnderlying49 rfl) rfl ?_
    refine SR_pu (RD_lss rfl rfl) rfl ?_
    refine SR_pu (RD_move rfl) rfl ?_
    refine SR_guard rfl rfl (fun hg8_4 => ?_) (fun hg8_4 => ?_)
    · refine SR_yes rfl rfl (hg8_4) ?_
      refine SR_pu (RD_move rfl) rfl ?_
      refine SR_yes rfl rfl (hg8_4) ?_
      refine SR_pu (RD_lss rfl rfl) rfl ?_
      refine SR_pu (RD_pick_t rfl (hg8_4) rfl) rfl ?_
      refine SR_nil ?_
      refine SN.le (l := [(0, _), (1, _), (5, _), (6, _), (7, _), (8, _), (28, _)]) ?_ (.cons rfl (.cons rfl (.cons rfl (.cons rfl (.cons rfl (.cons rfl (.cons rfl (.nil))))))))
      refine SN_seq ?_
      refine SC_cond rfl (fun hc28 => ?_) (fun hc28 => ?_)
      · have hil : i < ask.length := by simp at hg8_4; omega
        have hi40 : i < 40 := by simp at hc28; omega
        obtain ⟨y, hy⟩ : ∃ y, ask[i]? = some y := ⟨_, List.getElem?_eq_getElem hil⟩
        obtain ⟨u, hu⟩ : ∃ u, getAt bs (o : Int) = u := ⟨_, rfl⟩
        rcases (show (bad = true ∧ ∃ sb, s = (sb, true)) ∨ (bad = false ∧ s = (bs.drop o, false) ∧ o + 8 ≤ bs.length) ∨ (bad = false ∧ s = (bs.drop o, false) ∧ o ≤ bs.length ∧ bs.length < o + 8) from by
          rcases hst with ⟨h1, h2, h3⟩ | ⟨h1, h2⟩
          · by_cases h : o + 8 ≤ bs.length
            · exact .inr (.inl ⟨h1, h3, h⟩)
            · exact .inr (.inr ⟨h1, h3, h2, by omega⟩)
          · exact .inl ⟨h1, s.1, by rw [← h2]⟩) with ⟨rfl, sb, rfl⟩ | ⟨rfl, rfl, h8⟩ | ⟨rfl, rfl, ho2, h8⟩
        · obtain ⟨hN, hT⟩ := rds_bad sb
          refine SC_skip ?_
          refine SN_seq ?_
          refine SC_seq ?_
          refine SC_block ?_
          refine SC_seq ?_
          refine SC_region ?_
          refine SR_pu (RD_move rfl) rfl ?_
          refine SR_pu (RD_move rfl) rfl ?_
          refine SR_call Try.call29 (.cons rfl (.cons rfl (.nil))) (ref_Get a n c bs hn (by omega) (o : Int)) (lts rfl) ?_
          rintro _ L1 ⟨rfl, hL1⟩
          rw [hu]
          try dsimp only
          refine SR.lands hL1 ?_
          refine SR_pu (RD_move rfl) rfl ?_
          refine SR_pu (RD_extract rfl rfl) rfl ?_
          refine SR_pu (RD_extract rfl rfl) rfl ?_
          refine SR_pu (RD_assign rfl) rfl ?_
          refine SR_pu (RD_assign rfl) rfl ?_
          refine SR_nil ?_
          refine SN.le (l := [(0, _), (1, _), (5, _), (6, _), (7, _), (8, _), (9, _), (10, _)]) ?_ (.cons rfl (.cons rfl (.cons rfl (.cons rfl (.cons rfl (.cons rfl (.cons rfl (.cons rfl (.nil)))))))))
          refine SN_seq ?_
          refine SC_seq ?_
          refine SC_seq ?_
          refine SC_region ?_
          refine SR_pu (RD_move rfl) rfl ?_
          refine SR_nil ?_
          refine SN.le (l := [(0, _), (1, _), (5, _), (6, _), (7, _), (8, _), (9, _), (10, _), (37, _)]) ?_ (.cons rfl (.cons rfl (.cons rfl (.cons rfl (.cons rfl (.cons rfl (.cons rfl (.cons rfl (.cons rfl (.nil))))))))))
          refine SN_seq ?_
          refine SC_cond_true rfl (rfl) ?_
          refine SC_region ?_
          refine SR_pu (RD_assign rfl) rfl ?_
          refine SR_pu (RD_assign rfl) rfl ?_
          refine SR_nil ?_
          refine SN.le (l := [(0, _), (1, _), (5, _), (6, _), (7, _), (8, _), (9, _), (10, _)]) ?_ (.cons rfl (.cons rfl (.cons rfl (.cons rfl (.cons rfl (.cons rfl (.cons rfl (.cons rfl (.nil)))))))))
          refine SN_seq ?_
          refine SC_seq ?_
          refine SC_region ?_
          refine SR_pu (RD_move rfl) rfl ?_
          refine SR_pu (RD_move rfl) rfl ?_
          refine SR_rd (RD_ixO (cs := ask.map intV) Try.runUnderlying49 Try.sizeOf3 rfl rfl (by simpa using hask) (by omega) (by omega)) Has.ro rfl ?_
          refine SR_rd (RD_loadO (v := intV y) (cs := ask.map intV) Try.isAgg3 rfl (by simp [hy])) Has.ro rfl ?_
          refine SR_pu (RD_mask 2 rfl rfl rfl (by decide) 4 rfl) rfl ?_
          refine SR_pu (RD_gtr rfl rfl) rfl ?_
          refine SR_pu (RD_assign rfl) rfl ?_
          refine SR_nil ?_
          refine SN.le (l := [(0, _), (1, _), (5, _), (6, _), (7, _), (8, _), (9, _), (10, _), (11, _)]) ?_ (.cons rfl (.cons rfl (.cons rfl (.cons rfl (.cons rfl (.cons rfl (.cons rfl (.cons rfl (.cons rfl (.nil))))))))))
          refine SN_seq ?_
          refine SC_seq ?_
          refine SC_seq ?_
          refine SC_region ?_
          refine SR_pu (RD_move rfl) rfl ?_
          refine SR_pu (RD_move rfl) rfl ?_
          refine SR_guard rfl rfl (fun hg14_1 => ?_) (fun hg14_1 => ?_)
          · refine SR_yes rfl rfl (hg14_1) ?_
            refine SR_pu (RD_move rfl) rfl ?_
            refine SR_yes rfl rfl (hg14_1) ?_
            refine SR_pu (RD_not rfl) rfl ?_
            refine SR_yes rfl rfl (hg14_1) ?_
            refine SR_pu (RD_move rfl) rfl ?_
            refine SR_no rfl rfl (rfl) (lts rfl) ?_
            refine SR_no rfl rfl (rfl) (lts rfl) ?_
            refine SR_no rfl rfl (rfl) (lts rfl) ?_
            refine SR_no rfl rfl (rfl) (lts rfl) ?_
            refine SR_no rfl rfl (rfl) (lts rfl) ?_
            refine SR_no rfl rfl (rfl) (lts rfl) ?_
            refine SR_no rfl rfl (rfl) (lts rfl) ?_
            refine SR_no rfl rfl (rfl) (lts rfl) ?_
            refine SR_yes rfl rfl (hg14_1) ?_
            refine SR_pu (RD_pick_t rfl (rfl) rfl) rfl ?_
            refine SR_pu (RD_pick_t rfl (hg14_1) rfl) rfl ?_
            refine SR_nil ?_
            refine SN.le (l := [(0, _), (1, _), (5, _), (6, _), (7, _), (8, _), (9, _), (10, _), (11, _), (58, _)]) ?_ (.cons rfl (.cons rfl (.cons rfl (.cons rfl (.cons rfl (.cons rfl (.cons rfl (.cons rfl (.cons rfl (.cons rfl (.nil)))))))))))
            refine SN_seq ?_
            refine SC_cond_true rfl (rfl) ?_
            refine SC_region ?_
            refine SR_pu (RD_assign rfl) rfl ?_
            refine SR_pu (RD_assign rfl) rfl ?_
            refine SR_nil ?_
            refine SN.le (l := [(0, _), (1, _), (5, _), (6, _), (7, _), (8, _), (9, _), (10, _), (11, _)]) ?_ (.cons rfl (.cons rfl (.cons rfl (.cons rfl (.cons rfl (.cons rfl (.cons rfl (.cons rfl (.cons rfl (.nil))))))))))
            refine SN_seq ?_
            refine SC_seq ?_
            refine SC_region ?_
            refine SR_pu (RD_move rfl) rfl ?_
            refine SR_pu (RD_move rfl) rfl ?_
            refine SR_no rfl rfl (rfl) (lts rfl) ?_
            refine SR_no rfl rfl (rfl) (lts rfl) ?_
            refine SR_pu (RD_pick_t rfl (rfl) rfl) rfl ?_
            refine SR_pu (RD_assign rfl) rfl ?_
            refine SR_nil ?_
            refine SN.le (l := [(0, _), (1, _), (5, _), (6, _), (7, _), (8, _), (9, _), (10, _), (11, _)]) ?_ (.cons rfl (.cons rfl (.cons rfl (.cons rfl (.cons rfl (.cons rfl (.cons rfl (.cons rfl (.cons rfl (.nil))))))))))
            refine SN_seq ?_
            refine SC_seq ?_
            refine SC_block ?_
            refine SC_seq ?_
            refine SC_region ?_
            refine SR_pu (RD_move rfl) rfl ?_
            refine SR_pu (RD_assign rfl) rfl ?_
            refine SR_nil ?_
            refine SN.le (l := [(0, _), (1, _), (5, _), (6, _), (7, _), (8, _), (9, _), (10, _), (71, _)]) ?_ (.cons rfl (.cons rfl (.cons rfl (.cons rfl (.cons rfl (.cons rfl (.cons rfl (.cons rfl (.cons rfl (.nil))))))))))
            refine SN_seq ?_
            refine SC_cond_true rfl (hg14_1) ?_
            refine SC_seq ?_
            refine SC_region ?_
            refine SR_pu (RD_assign rfl) rfl ?_
            refine SR_nil ?_
            refine SN.le (l := [(0, _), (1, _), (5, _), (6, _), (7, _), (8, _), (9, _), (10, _), (12, _)]) ?_ (.cons rfl (.cons rfl (.cons rfl (.cons rfl (.cons rfl (.cons rfl (.cons rfl (.cons rfl (.cons rfl (.nil))))))))))
            refine SN_seq ?_
            refine SC_seq ?_
            refine SC_seq ?_
            refine SC_region ?_
            refine SR_pu (RD_move rfl) rfl ?_
            refine SR_nil ?_
            refine SN.le (l := [(0, _), (1, _), (5, _), (6, _), (7, _), (8, _), (9, _), (12, _), (73, _)]) ?_ (.cons rfl (.cons rfl (.cons rfl (.cons rfl (.cons rfl (.cons rfl (.cons rfl (.cons rfl (.cons rfl (.nil))))))))))
            refine SN_seq ?_
            refine SC_cond_false rfl (rfl) ?_
            refine SC_skip ?_
            refine SN_seq ?_
            refine SC_seq ?_
            refine SC_region ?_
            refine SR_pu (RD_move rfl) rfl ?_
            refine SR_call Try.call24 (.cons rfl (.nil)) (CallsK.at (reader_Text q (sb, true) (by (try dsimp only); simp at hsl ⊢ <;> omega))) (lts rfl) ?_
            rintro _ L2 ⟨a6, c6, rfl, hL2⟩
            rw [hT] at hL2 ⊢
            dsimp only at hL2 ⊢
            refine SR.lands hL2 ?_
            refine SR_pu (RD_move rfl) rfl ?_
            refine SR_call Try.call21 (.cons rfl (.cons rfl (.nil))) (ref_Same a6 0 c6 [] rfl rfl none 0 0 [] rfl rfl) (lts rfl) ?_
            rintro _ L3 ⟨rfl, hL3⟩
            refine SR.lands hL3 ?_
            refine SR_pu (RD_not rfl) rfl ?_
            refine SR_nil ?_
            refine SN.le (l := [(0, _), (1, _), (5, _), (6, _), (7, _), (8, _), (92, _)]) ?_ (.cons rfl (.cons rfl (.cons rfl (.cons rfl (.cons rfl (.cons rfl (.cons rfl (.nil))))))))
            refine SN_seq ?_
            refine SC_cond_false rfl (by simp) ?_
            refine SC_skip ?_
            refine SN_block ?_
            refine SN_seq ?_
            refine SC_seq ?_
            refine SC_region ?_
            refine SR_pu (RD_move rfl) rfl ?_
            refine SR_call Try.call25 (.cons rfl (.nil)) (CallsK.at (reader_Done q (sb, true))) (lts rfl) ?_
            rintro _ L4 ⟨rfl, hL4⟩
            refine SR.lands hL4 ?_
            refine SR_pu (RD_move rfl) rfl ?_
            refine SR_pu (RD_not rfl) rfl ?_
            refine SR_pu (RD_move rfl) rfl ?_
            refine SR_no rfl rfl (rfl) (lts rfl) ?_
            refine SR_no rfl rfl (rfl) (lts rfl) ?_
            refine SR_no rfl rfl (rfl) (lts rfl) ?_
            refine SR_no rfl rfl (rfl) (lts rfl) ?_
            refine SR_pu (RD_pick_f rfl (rfl) rfl) rfl ?_
            refine SR_pu (RD_neqB Try.underlying4 rfl rfl) rfl ?_
            refine SR_nil ?_
            refine SN.le (l := [(0, _), (1, _), (5, _), (6, _), (7, _), (8, _), (116, _)]) ?_ (.cons rfl (.cons rfl (.cons rfl (.cons rfl (.cons rfl (.cons rfl (.cons rfl (.nil))))))))
            refine SN_seq ?_
            refine SC_cond_false rfl (by simp [rdDone]) ?_
            refine SC_skip ?_
            refine SN_block ?_
            refine SN_seq ?_
            refine SC_region ?_
            refine SR_pu (RD_move rfl) rfl ?_
            refine SR_pu (RD_addi rfl rfl (by omega) (by omega)) rfl ?_
            refine SR_pu (RD_assign rfl) rfl ?_
            refine SR_nil ?_
            refine SN.le (l := [(0, _), (1, _), (5, _), (6, _), (7, _), (8, _)]) ?_ (.cons rfl (.cons rfl (.cons rfl (.cons rfl (.cons rfl (.cons rfl (.nil)))))))
            refine SC_again (ih ((i + 1, o, true, (sb, true))) (⟨by show i + 1 ≤ 40; omega, by dsimp only; omega, by (try dsimp only); simp at hsl ⊢ <;> omega, .inr ⟨rfl, rfl⟩⟩) (by dsimp only; omega)) (.fin) (.cons rfl (.cons rfl (.cons rfl (.cons' rfl (ie (by (try dsimp only) <;> omega)) (.cons rfl (.cons' rfl (ie (by dsimp only; omega)) (.nil)))))))
          · refine SR_no rfl rfl (hg14_1) (lts rfl) ?_
            refine SR_no rfl rfl (hg14_1) (lts rfl) ?_
            refine SR_no rfl rfl (hg14_1) (lts rfl) ?_
            refine SR_nou  rfl rfl (lts rfl) ?_
            refine SR_nou  rfl rfl (lts rfl) ?_
            refine SR_nou  rfl rfl (lts rfl) ?_
            refine SR_nou  rfl rfl (lts rfl) ?_
            refine SR_nou  rfl rfl (lts rfl) ?_
            refine SR_nou  rfl rfl (lts rfl) ?_
            refine SR_nou  rfl rfl (lts rfl) ?_
            refine SR_nou  rfl rfl (lts rfl) ?_
            refine SR_no rfl rfl (hg14_1) (lts rfl) ?_
            refine SR_pu (RD_pick_f rfl (hg14_1) rfl) rfl ?_
            refine SR_nil ?_
            refine SN.le (l := [(0, _), (1, _), (5, _), (6, _), (7, _), (8, _), (9, _), (10, _), (11, _), (58, _)]) ?_ (.cons rfl (.cons rfl (.cons rfl (.cons rfl (.cons rfl (.cons rfl (.cons rfl (.cons rfl (.cons rfl (.cons rfl (.nil)))))))))))
            refine SN_seq ?_
            refine SC_cond_false rfl (rfl) ?_
            refine SC_skip ?_
            refine SN_seq ?_
            refine SC_seq ?_
            refine SC_region ?_
            refine SR_pu (RD_move rfl) rfl ?_
            refine SR_pu (RD_move rfl) rfl ?_
            refine SR_no rfl rfl (rfl) (lts rfl) ?_
            refine SR_no rfl rfl (rfl) (lts rfl) ?_
            refine SR_pu (RD_pick_t rfl (rfl) rfl) rfl ?_
            refine SR_pu (RD_assign rfl) rfl ?_
            refine SR_nil ?_
            refine SN.le (l := [(0, _), (1, _), (5, _), (6, _), (7, _), (8, _), (9, _), (10, _), (11, _)]) ?_ (.cons rfl (.cons rfl (.cons rfl (.cons rfl (.cons rfl (.cons rfl (.cons rfl (.cons rfl (.cons rfl (.nil))))))))))
            refine SN_seq ?_
            refine SC_seq ?_
            refine SC_block ?_
            refine SC_seq ?_
            refine SC_region ?_
            refine SR_pu (RD_move rfl) rfl ?_
            refine SR_pu (RD_assign rfl) rfl ?_
            refine SR_nil ?_
            refine SN.le (l := [(0, _), (1, _), (5, _), (6, _), (7, _), (8, _), (9, _), (10, _), (71, _)]) ?_ (.cons rfl (.cons rfl (.cons rfl (.cons rfl (.cons rfl (.cons rfl (.cons rfl (.cons rfl (.cons rfl (.nil))))))))))
            refine SN_seq ?_
            refine SC_cond_false rfl (hg14_1) ?_
            refine SC_seq ?_
            refine SC_region ?_
            refine SR_pu (RD_move rfl) rfl ?_
            refine SR_pu (RD_move rfl) rfl ?_
            refine SR_rd (RD_ixO (cs := ask.map intV) Try.runUnderlying49 Try.sizeOf3 rfl rfl (by simpa using hask) (by omega) (by omega)) Has.ro rfl ?_
            refine SR_rd (RD_loadO (v := intV y) (cs := ask.map intV) Try.isAgg3 rfl (by simp [hy])) Has.ro rfl ?_
            refine SR_pu (RD_mask 2 rfl rfl rfl (by decide) 4 rfl) rfl ?_
            refine SR_pu (RD_eql rfl rfl) rfl ?_
            refine SR_pu (RD_assign rfl) rfl ?_
            refine SR_nil ?_
            refine SN.le (l := [(0, _), (1, _), (5, _), (6, _), (7, _), (8, _), (9, _), (93, _)]) ?_ (.cons rfl (.cons rfl (.cons rfl (.cons rfl (.cons rfl (.cons rfl (.cons rfl (.cons rfl (.nil)))))))))
            refine SN_seq ?_
            refine SC_cond rfl (fun hc93 => ?_) (fun hc93 => ?_)
            · refine SC_seq ?_
              refine SC_region ?_
              refine SR_pu (RD_move rfl) rfl ?_
              refine SR_pu (RD_addi rfl rfl (by omega) (by omega)) rfl ?_
              refine SR_pu (RD_assign rfl) rfl ?_
              refine SR_nil ?_
              refine SN.le (l := [(0, _), (1, _), (5, _), (6, _), (7, _), (8, _), (9, _)]) ?_ (.cons rfl (.cons rfl (.cons rfl (.cons rfl (.cons rfl (.cons rfl (.cons rfl (.nil))))))))
              refine SN_seq ?_
              refine SC_seq ?_
              refine SC_region ?_
              refine SR_pu (RD_move rfl) rfl ?_
              refine SR_call Try.call27 (.cons rfl (.nil)) (CallsK.at (reader_Num q (sb, true) (by (try dsimp only); simp at hsl ⊢ <;> omega))) (lts rfl) ?_
              rintro _ L2 ⟨rfl, hL2⟩
              rw [hN] at hL2 ⊢
              dsimp only at hL2 ⊢
              refine SR.lands hL2 ?_
              refine SR_pu (RD_move rfl) rfl ?_
              refine SR_pu (RD_neq rfl rfl) rfl ?_
              refine SR_nil ?_
              refine SN.le (l := [(0, _), (1, _), (5, _), (6, _), (7, _), (8, _), (105, _)]) ?_ (.cons rfl (.cons rfl (.cons rfl (.cons rfl (.cons rfl (.cons rfl (.cons rfl (.nil))))))))
              refine SN_seq ?_
              refine SC_cond_false rfl (by simp) ?_
              refine SC_skip ?_
              refine SN_block ?_
              refine SN_seq ?_
              refine SC_seq ?_
              refine SC_region ?_
              refine SR_pu (RD_move rfl) rfl ?_
              refine SR_call Try.call25 (.cons rfl (.nil)) (CallsK.at (reader_Done q (sb, true))) (lts rfl) ?_
              rintro _ L4 ⟨rfl, hL4⟩
              refine SR.lands hL4 ?_
              refine SR_pu (RD_move rfl) rfl ?_
              refine SR_pu (RD_not rfl) rfl ?_
              refine SR_pu (RD_move rfl) rfl ?_
              refine SR_no rfl rfl (rfl) (lts rfl) ?_
              refine SR_no rfl rfl (rfl) (lts rfl) ?_
              refine SR_no rfl rfl (rfl) (lts rfl) ?_
              refine SR_no rfl rfl (rfl) (lts rfl) ?_
              refine SR_pu (RD_pick_f rfl (rfl) rfl) rfl ?_
              refine SR_pu (RD_neqB Try.underlying4 rfl rfl) rfl ?_
              refine SR_nil ?_
              refine SN.le (l := [(0, _), (1, _), (5, _), (6, _), (7, _), (8, _), (116, _)]) ?_ (.cons rfl (.cons rfl (.cons rfl (.cons rfl (.cons rfl (.cons rfl (.cons rfl (.nil))))))))
              refine SN_seq ?_
              refine SC_cond_false rfl (by simp [rdDone]) ?_
              refine SC_skip ?_
              refine SN_block ?_
              refine SN_seq ?_
              refine SC_region ?_
              refine SR_pu (RD_move rfl) rfl ?_
              refine SR_pu (RD_addi rfl rfl (by omega) (by omega)) rfl ?_
              refine SR_pu (RD_assign rfl) rfl ?_
              refine SR_nil ?_
              refine SN.le (l := [(0, _), (1, _), (5, _), (6, _), (7, _), (8, _)]) ?_ (.cons rfl (.cons rfl (.cons rfl (.cons rfl (.cons rfl (.cons rfl (.nil)))))))
              refine SC_again (ih ((i + 1, o + 8, true, (sb, true))) (⟨by show i + 1 ≤ 40; omega, by dsimp only; omega, by (try dsimp only); simp at hsl ⊢ <;> omega, .inr ⟨rfl, rfl⟩⟩) (by dsimp only; omega)) (.fin) (.cons rfl (.cons rfl (.cons rfl (.cons' rfl (ie (by (try dsimp only) <;> omega)) (.cons rfl (.cons' rfl (ie (by dsimp only; omega)) (.nil)))))))
            · refine SC_seq ?_
              refine SC_region ?_
              refine SR_pu (RD_move rfl) rfl ?_
              refine SR_pu (RD_addi rfl rfl (by omega) (by omega)) rfl ?_
              refine SR_pu (RD_assign rfl) rfl ?_
              refine SR_nil ?_
              refine SN.le (l := [(0, _), (1, _), (5, _), (6, _), (7, _), (8, _), (9, _)]) ?_ (.cons rfl (.cons rfl (.cons rfl (.cons rfl (.cons rfl (.cons rfl (.cons rfl (.nil))))))))
              refine SN_seq ?_
              refine SC_seq ?_
              refine SC_region ?_
              refine SR_pu (RD_move rfl) rfl ?_
              refine SR_call Try.call28 (.cons rfl (.nil)) (CallsK.at (reader_Int q (sb, true) (by (try dsimp only); simp at hsl ⊢ <;> omega))) (lts rfl) ?_
              rintro _ L2 ⟨rfl, hL2⟩
              rw [hN] at hL2 ⊢
              dsimp only at hL2 ⊢
              refine SR.lands hL2 ?_
              refine SR_pu (RD_move rfl) rfl ?_
              refine SR_pu (RD_convI Try.runUnderlying23 Try.runUnderlying3 rfl) rfl ?_
              refine SR_pu (RD_neq rfl rfl) rfl ?_
              refine SR_nil ?_
              refine SN.le (l := [(0, _), (1, _), (5, _), (6, _), (7, _), (8, _), (70, _)]) ?_ (.cons rfl (.cons rfl (.cons rfl (.cons rfl (.cons rfl (.cons rfl (.cons rfl (.nil))))))))
              refine SN_seq ?_
              refine SC_cond_false rfl (by simp) ?_
              refine SC_skip ?_
              refine SN_block ?_
              refine SN_seq ?_
              refine SC_seq ?_
              refine SC_region ?_
              refine SR_pu (RD_move rfl) rfl ?_
              refine SR_call Try.call25 (.cons rfl (.nil)) (CallsK.at (reader_Done q (sb, true))) (lts rfl) ?_
              rintro _ L4 ⟨rfl, hL4⟩
              refine SR.lands hL4 ?_
              refine SR_pu (RD_move rfl) rfl ?_
              refine SR_pu (RD_not rfl) rfl ?_
              refine SR_pu (RD_move rfl) rfl ?_
              refine SR_no rfl rfl (rfl) (lts rfl) ?_
              refine SR_no rfl rfl (rfl) (lts rfl) ?_
              refine SR_no rfl rfl (rfl) (lts rfl) ?_
              refine SR_no rfl rfl (rfl) (lts rfl) ?_
              refine SR_pu (RD_pick_f rfl (rfl) rfl) rfl ?_
              refine SR_pu (RD_neqB Try.underlying4 rfl rfl) rfl ?_
              refine SR_nil ?_
              refine SN.le (l := [(0, _), (1, _), (5, _), (6, _), (7, _), (8, _), (116, _)]) ?_ (.cons rfl (.cons rfl (.cons rfl (.cons rfl (.cons rfl (.cons rfl (.cons rfl (.nil))))))))
              refine SN_seq ?_
              refine SC_cond_false rfl (by simp [rdDone]) ?_
              refine SC_skip ?_
              refine SN_block ?_
              refine SN_seq ?_
              refine SC_region ?_
              refine SR_pu (RD_move rfl) rfl ?_
              refine SR_pu (RD_addi rfl rfl (by omega) (by omega)) rfl ?_
              refine SR_pu (RD_assign rfl) rfl ?_
              refine SR_nil ?_
              refine SN.le (l := [(0, _), (1, _), (5, _), (6, _), (7, _), (8, _)]) ?_ (.cons rfl (.cons rfl (.cons rfl (.cons rfl (.cons rfl (.cons rfl (.nil)))))))
              refine SC_again (ih ((i + 1, o + 8, true, (sb, true))) (⟨by show i + 1 ≤ 40; omega, by dsimp only; omega, by (try dsimp only); simp at hsl ⊢ <;> omega, .inr ⟨rfl, rfl⟩⟩) (by dsimp only; omega)) (.fin) (.cons rfl (.cons rfl (.cons rfl (.cons' rfl (ie (by (try dsimp only) <;> omega)) (.cons rfl (.cons' rfl (ie (by dsimp only; omega)) (.nil)))))))
        · have hN := rds_num h8
          rw [getAt_ok h8] at hu
          obtain ⟨v, hv⟩ : ∃ v, unbe ((bs.drop o).take 8) = v := ⟨_, rfl⟩
          have hvl : v < 18446744073709551616 := by have := unbe_lt 8 ((bs.drop o).take 8) (by simp; omega); rw [hv] at this; simpa using this
          rw [hv] at hu hN
          subst hu
          refine SC_skip ?_
          refine SN_seq ?_
          refine SC_seq ?_
          refine SC_block ?_
          refine SC_seq ?_
          refine SC_region ?_
          refine SR_pu (RD_move rfl) rfl ?_
          refine SR_pu (RD_move rfl) rfl ?_
          refine SR_call Try.call29 (.cons rfl (.cons rfl (.nil))) (ref_Get a n c bs hn (by omega) (o : Int)) (lts rfl) ?_
          rintro _ L1 ⟨rfl, hL1⟩
          rw [getAt_ok h8, hv]
          try dsimp only
          refine SR.lands hL1 ?_
          refine SR_pu (RD_move rfl) rfl ?_
          refine SR_pu (RD_extract rfl rfl) rfl ?_
          refine SR_pu (RD_extract rfl rfl) rfl ?_
          refine SR_pu (RD_assign rfl) rfl ?_
          refine SR_pu (RD_assign rfl) rfl ?_
          refine SR_nil ?_
          refine SN.le (l := [(0, _), (1, _), (5, _), (6, _), (7, _), (8, _), (9, _), (10, _)]) ?_ (.cons rfl (.cons rfl (.cons rfl (.cons rfl (.cons rfl (.cons rfl (.cons rfl (.cons rfl (.nil)))))))))
          refine SN_seq ?_
          refine SC_seq ?_
          refine SC_seq ?_
          refine SC_region ?_
          refine SR_pu (RD_move rfl) rfl ?_
          refine SR_nil ?_
          refine SN.le (l := [(0, _), (1, _), (5, _), (6, _), (7, _), (8, _), (9, _), (10, _), (37, _)]) ?_ (.cons rfl (.cons rfl (.cons rfl (.cons rfl (.cons rfl (.cons rfl (.cons rfl (.cons rfl (.cons rfl (.nil))))))))))
          refine SN_seq ?_
          refine SC_cond_false rfl (rfl) ?_
          refine SC_skip ?_
          refine SN_seq ?_
          refine SC_seq ?_
          refine SC_region ?_
          refine SR_pu (RD_move rfl) rfl ?_
          refine SR_pu (RD_move rfl) rfl ?_
          refine SR_rd (RD_ixO (cs := ask.map intV) Try.runUnderlying49 Try.sizeOf3 rfl rfl (by simpa using hask) (by omega) (by omega)) Has.ro rfl ?_
          refine SR_rd (RD_loadO (v := intV y) (cs := ask.map intV) Try.isAgg3 rfl (by simp [hy])) Has.ro rfl ?_
          refine SR_pu (RD_mask 2 rfl rfl rfl (by decide) 4 rfl) rfl ?_
          refine SR_pu (RD_gtr rfl rfl) rfl ?_
          refine SR_pu (RD_assign rfl) rfl ?_
          refine SR_nil ?_
          refine SN.le (l := [(0, _), (1, _), (5, _), (6, _), (7, _), (8, _), (9, _), (10, _), (11, _)]) ?_ (.cons rfl (.cons rfl (.cons rfl (.cons rfl (.cons rfl (.cons rfl (.cons rfl (.cons rfl (.cons rfl (.nil))))))))))
          refine SN_seq ?_
          refine SC_seq ?_
          refine SC_seq ?_
          refine SC_region ?_
          refine SR_pu (RD_move rfl) rfl ?_
          refine SR_pu (RD_move rfl) rfl ?_
          refine SR_guard rfl rfl (fun hg14_1 => ?_) (fun hg14_1 => ?_)
          · refine SR_yes rfl rfl (hg14_1) ?_
            refine SR_pu (RD_move rfl) rfl ?_
            refine SR_yes rfl rfl (hg14_1) ?_
            refine SR_pu (RD_not rfl) rfl ?_
            refine SR_yes rfl rfl (hg14_1) ?_
            refine SR_pu (RD_move rfl) rfl ?_
            refine SR_yes rfl rfl (rfl) ?_
            refine SR_pu (RD_move rfl) rfl ?_
            refine SR_yes rfl rfl (rfl) ?_
            refine SR_pu (RD_move rfl) rfl ?_
            refine SR_yes rfl rfl (rfl) ?_
            refine SR_pu (RD_len Try.runUnderlying25 rfl) rfl ?_
            refine SR_yes rfl rfl (rfl) ?_
            refine SR_pu (RD_move rfl) rfl ?_
            refine SR_yes rfl rfl (rfl) ?_
            refine SR_pu (RD_subi rfl rfl (by omega) (by omega)) rfl ?_
            refine SR_yes rfl rfl (rfl) ?_
            refine SR_pu (RD_subi rfl rfl (by omega) (by omega)) rfl ?_
            refine SR_yes rfl rfl (rfl) ?_
            first
              | refine SR_pu (RD_conv64 Try.runUnderlying3 Try.runUnderlying23 rfl (by omega) (by omega)) rfl ?_
              | refine SR_pu (RD_convI Try.runUnderlying3 Try.runUnderlying23 rfl) rfl ?_
            refine SR_yes rfl rfl (rfl) ?_
            refine SR_pu (RD_gtr rfl rfl) rfl ?_
            refine SR_yes rfl rfl (hg14_1) ?_
            refine SR_pu (RD_pick_f rfl (rfl) rfl) rfl ?_
            refine SR_pu (RD_pick_t rfl (hg14_1) rfl) rfl ?_
            refine SR_nil ?_
            refine SN.le (l := [(0, _), (1, _), (5, _), (6, _), (7, _), (8, _), (9, _), (10, _), (11, _), (58, _)]) ?_ (.cons rfl (.cons rfl (.cons rfl (.cons rfl (.cons rfl (.cons rfl (.cons rfl (.cons rfl (.cons rfl (.cons rfl (.nil)))))))))))
            refine SN_seq ?_
            refine SC_cond rfl (fun hc58 => ?_) (fun hc58 => ?_)
            · have hlong : bs.length < o + 8 + v := by simp at hc58; omega
              have hT := rds_long h8 hv hlong
              refine SC_region ?_
              refine SR_pu (RD_assign rfl) rfl ?_
              refine SR_pu (RD_assign rfl) rfl ?_
              refine SR_nil ?_
              refine SN.le (l := [(0, _), (1, _), (5, _), (6, _), (7, _), (8, _), (9, _), (10, _), (11, _)]) ?_ (.cons rfl (.cons rfl (.cons rfl (.cons rfl (.cons rfl (.cons rfl (.cons rfl (.cons rfl (.cons rfl (.nil))))))))))
              refine SN_seq ?_
              refine SC_seq ?_
              refine SC_region ?_
              refine SR_pu (RD_move rfl) rfl ?_
              refine SR_pu (RD_move rfl) rfl ?_
              refine SR_yes rfl rfl (rfl) ?_
              refine SR_pu (RD_move rfl) rfl ?_
              refine SR_yes rfl rfl (rfl) ?_
              refine SR_pu (RD_not rfl) rfl ?_
              refine SR_pu (RD_pick_f rfl (rfl) rfl) rfl ?_
              refine SR_pu (RD_assign rfl) rfl ?_
              refine SR_nil ?_
              refine SN.le (l := [(0, _), (1, _), (5, _), (6, _), (7, _), (8, _), (9, _), (10, _), (11, _)]) ?_ (.cons rfl (.cons rfl (.cons rfl (.cons rfl (.cons rfl (.cons rfl (.cons rfl (.cons rfl (.cons rfl (.nil))))))))))
              refine SN_seq ?_
              refine SC_seq ?_
              refine SC_block ?_
              refine SC_seq ?_
              refine SC_region ?_
              refine SR_pu (RD_move rfl) rfl ?_
              refine SR_pu (RD_assign rfl) rfl ?_
              refine SR_nil ?_
              refine SN.le (l := [(0, _), (1, _), (5, _), (6, _), (7, _), (8, _), (9, _), (10, _), (71, _)]) ?_ (.cons rfl (.cons rfl (.cons rfl (.cons rfl (.cons rfl (.cons rfl (.cons rfl (.cons rfl (.cons rfl (.nil))))))))))
              refine SN_seq ?_
              refine SC_cond_true rfl (hg14_1) ?_
              refine SC_seq ?_
              refine SC_region ?_
              refine SR_pu (RD_assign rfl) rfl ?_
              refine SR_nil ?_
              refine SN.le (l := [(0, _), (1, _), (5, _), (6, _), (7, _), (8, _), (9, _), (10, _), (12, _)]) ?_ (.cons rfl (.cons rfl (.cons rfl (.cons rfl (.cons rfl (.cons rfl (.cons rfl (.cons rfl (.cons rfl (.nil))))))))))
              refine SN_seq ?_
              refine SC_seq ?_
              refine SC_seq ?_
              refine SC_region ?_
              refine SR_pu (RD_move rfl) rfl ?_
              refine SR_nil ?_
              refine SN.le (l := [(0, _), (1, _), (5, _), (6, _), (7, _), (8, _), (9, _), (12, _), (73, _)]) ?_ (.cons rfl (.cons rfl (.cons rfl (.cons rfl (.cons rfl (.cons rfl (.cons rfl (.cons rfl (.cons rfl (.nil))))))))))
              refine SN_seq ?_
              refine SC_cond_false rfl (rfl) ?_
              refine SC_skip ?_
              refine SN_seq ?_
              refine SC_seq ?_
              refine SC_region ?_
              refine SR_pu (RD_move rfl) rfl ?_
              refine SR_call Try.call24 (.cons rfl (.nil)) (CallsK.at (reader_Text q (bs.drop o, false) (by (try dsimp only); simp at hsl ⊢ <;> omega))) (lts rfl) ?_
              rintro _ L2 ⟨a6, c6, rfl, hL2⟩
              rw [hT] at hL2 ⊢
              dsimp only at hL2 ⊢
              refine SR.lands hL2 ?_
              refine SR_pu (RD_move rfl) rfl ?_
              refine SR_call Try.call21 (.cons rfl (.cons rfl (.nil))) (ref_Same a6 0 c6 [] rfl rfl none 0 0 [] rfl rfl) (lts rfl) ?_
              rintro _ L3 ⟨rfl, hL3⟩
              refine SR.lands hL3 ?_
              refine SR_pu (RD_not rfl) rfl ?_
              refine SR_nil ?_
              refine SN.le (l := [(0, _), (1, _), (5, _), (6, _), (7, _), (8, _), (92, _)]) ?_ (.cons rfl (.cons rfl (.cons rfl (.cons rfl (.cons rfl (.cons rfl (.cons rfl (.nil))))))))
              refine SN_seq ?_
              refine SC_cond_false rfl (by simp) ?_
              refine SC_skip ?_
              refine SN_block ?_
              refine SN_seq ?_
              refine SC_seq ?_
              refine SC_region ?_
              refine SR_pu (RD_move rfl) rfl ?_
              refine SR_call Try.call25 (.cons rfl (.nil)) (CallsK.at (reader_Done q (bs.drop (o + 8), true))) (lts rfl) ?_
              rintro _ L4 ⟨rfl, hL4⟩
              refine SR.lands hL4 ?_
              refine SR_pu (RD_move rfl) rfl ?_
              refine SR_pu (RD_not rfl) rfl ?_
              refine SR_pu (RD_move rfl) rfl ?_
              refine SR_no rfl rfl (rfl) (lts rfl) ?_
              refine SR_no rfl rfl (rfl) (lts rfl) ?_
              refine SR_no rfl rfl (rfl) (lts rfl) ?_
              refine SR_no rfl rfl (rfl) (lts rfl) ?_
              refine SR_pu (RD_pick_f rfl (rfl) rfl) rfl ?_
              refine SR_pu (RD_neqB Try.underlying4 rfl rfl) rfl ?_
              refine SR_nil ?_
              refine SN.le (l := [(0, _), (1, _), (5, _), (6, _), (7, _), (8, _), (116, _)]) ?_ (.cons rfl (.cons rfl (.cons rfl (.cons rfl (.cons rfl (.cons rfl (.cons rfl (.nil))))))))
              refine SN_seq ?_
              refine SC_cond_false rfl (by simp [rdDone]) ?_
              refine SC_skip ?_
              refine SN_block ?_
              refine SN_seq ?_
              refine SC_region ?_
              refine SR_pu (RD_move rfl) rfl ?_
              refine SR_pu (RD_addi rfl rfl (by omega) (by omega)) rfl ?_
              refine SR_pu (RD_assign rfl) rfl ?_
              refine SR_nil ?_
              refine SN.le (l := [(0, _), (1, _), (5, _), (6, _), (7, _), (8, _)]) ?_ (.cons rfl (.cons rfl (.cons rfl (.cons rfl (.cons rfl (.cons rfl (.nil)))))))
              refine SC_again (ih ((i + 1, o, true, (bs.drop (o + 8), true))) (⟨by show i + 1 ≤ 40; omega, by dsimp only; omega, by (try dsimp only); simp at hsl ⊢ <;> omega, .inr ⟨rfl, rfl⟩⟩) (by dsimp only; omega)) (.fin) (.cons rfl (.cons rfl (.cons rfl (.cons' rfl (ie (by (try dsimp only) <;> omega)) (.cons rfl (.cons' rfl (ie (by dsimp only; omega)) (.nil)))))))
            · have hfit : o + 8 + v ≤ bs.length := by simp at hc58; omega
              have hT := rds_text h8 hv hfit
              refine SC_skip ?_
              refine SN_seq ?_
              refine SC_seq ?_
              refine SC_region ?_
              refine SR_pu (RD_move rfl) rfl ?_
              refine SR_pu (RD_move rfl) rfl ?_
              refine SR_yes rfl rfl (rfl) ?_
              refine SR_pu (RD_move rfl) rfl ?_
              refine SR_yes rfl rfl (rfl) ?_
              refine SR_pu (RD_not rfl) rfl ?_
              refine SR_pu (RD_pick_f rfl (rfl) rfl) rfl ?_
              refine SR_pu (RD_assign rfl) rfl ?_
              refine SR_nil ?_
              refine SN.le (l := [(0, _), (1, _), (5, _), (6, _), (7, _), (8, _), (9, _), (10, _), (11, _)]) ?_ (.cons rfl (.cons rfl (.cons rfl (.cons rfl (.cons rfl (.cons rfl (.cons rfl (.cons rfl (.cons rfl (.nil))))))))))
              refine SN_seq ?_
              refine SC_seq ?_
              refine SC_block ?_
              refine SC_seq ?_
              refine SC_region ?_
              refine SR_pu (RD_move rfl) rfl ?_
              refine SR_pu (RD_assign rfl) rfl ?_
              refine SR_nil ?_
              refine SN.le (l := [(0, _), (1, _), (5, _), (6, _), (7, _), (8, _), (9, _), (10, _), (71, _)]) ?_ (.cons rfl (.cons rfl (.cons rfl (.cons rfl (.cons rfl (.cons rfl (.cons rfl (.cons rfl (.cons rfl (.nil))))))))))
              refine SN_seq ?_
              refine SC_cond_true rfl (hg14_1) ?_
              refine SC_seq ?_
              refine SC_region ?_
              refine SR_pu (RD_assign rfl) rfl ?_
              refine SR_nil ?_
              refine SN.le (l := [(0, _), (1, _), (5, _), (6, _), (7, _), (8, _), (9, _), (10, _), (12, _)]) ?_ (.cons rfl (.cons rfl (.cons rfl (.cons rfl (.cons rfl (.cons rfl (.cons rfl (.cons rfl (.cons rfl (.nil))))))))))
              refine SN_seq ?_
              refine SC_seq ?_
              refine SC_seq ?_
              refine SC_region ?_
              refine SR_pu (RD_move rfl) rfl ?_
              refine SR_nil ?_
              refine SN.le (l := [(0, _), (1, _), (5, _), (6, _), (7, _), (8, _), (9, _), (12, _), (73, _)]) ?_ (.cons rfl (.cons rfl (.cons rfl (.cons rfl (.cons rfl (.cons rfl (.cons rfl (.cons rfl (.cons rfl (.nil))))))))))
              refine SN_seq ?_
              refine SC_cond_true rfl (rfl) ?_
              refine SC_seq ?_
              refine SC_region ?_
              refine SR_pu (RD_move rfl) rfl ?_
              refine SR_pu (RD_move rfl) rfl ?_
              refine SR_pu (RD_addi rfl rfl (by omega) (by omega)) rfl ?_
              refine SR_pu (RD_move rfl) rfl ?_
              refine SR_pu (RD_addi rfl rfl (by omega) (by omega)) rfl ?_
              refine SR_pu (RD_move rfl) rfl ?_
              first
                | refine SR_pu (RD_convi64 Try.runUnderlying23 Try.runUnderlying3 rfl (by omega) (by omega)) rfl ?_
                | refine SR_pu (RD_convI Try.runUnderlying23 Try.runUnderlying3 rfl) rfl ?_
              refine SR_pu (RD_addi rfl rfl (by omega) (by omega)) rfl ?_
              refine SR_pu (RD_cutLHn (o + 8) v Try.runUnderlying25 Try.sizeOf5 rfl rfl rfl (by omega) (by omega) (by omega)) rfl ?_
              refine SR_pu (RD_assign rfl) rfl ?_
              refine SR_nil ?_
              refine SN.le (l := [(0, _), (1, _), (5, _), (6, _), (7, _), (8, _), (9, _), (12, _)]) ?_ (.cons rfl (.cons rfl (.cons rfl (.cons rfl (.cons rfl (.cons rfl (.cons rfl (.cons rfl (.nil)))))))))
              refine SN_seq ?_
              refine SC_region ?_
              refine SR_pu (RD_move rfl) rfl ?_
              refine SR_pu (RD_addi rfl rfl (by omega) (by omega)) rfl ?_
              refine SR_pu (RD_move rfl) rfl ?_
              first
                | refine SR_pu (RD_convi64 Try.runUnderlying23 Try.runUnderlying3 rfl (by omega) (by omega)) rfl ?_
                | refine SR_pu (RD_convI Try.runUnderlying23 Try.runUnderlying3 rfl) rfl ?_
              refine SR_pu (RD_addi rfl rfl (by omega) (by omega)) rfl ?_
              refine SR_pu (RD_assign rfl) rfl ?_
              refine SR_nil ?_
              refine SN.le (l := [(0, _), (1, _), (5, _), (6, _), (7, _), (8, _), (12, _)]) ?_ (.cons rfl (.cons rfl (.cons rfl (.cons rfl (.cons rfl (.cons rfl (.cons rfl (.nil))))))))
              refine SN_seq ?_
              refine SC_seq ?_
              refine SC_region ?_
              refine SR_pu (RD_move rfl) rfl ?_
              refine SR_call Try.call24 (.cons rfl (.nil)) (CallsK.at (reader_Text q (bs.drop o, false) (by (try dsimp only); simp at hsl ⊢ <;> omega))) (lts rfl) ?_
              rintro _ L2 ⟨a6, c6, rfl, hL2⟩
              rw [hT] at hL2 ⊢
              dsimp only at hL2 ⊢
              refine SR.lands hL2 ?_
              refine SR_pu (RD_move rfl) rfl ?_
              refine SR_call Try.call21 (.cons rfl (.cons rfl (.nil))) (haveI := hasRow_slice (L := rowP 5 1 a6 ((bs.drop (o + 8)).take v).length c6 (((bs.drop (o + 8)).take v).map byteV) :: At readerI q (bs.drop (o + 8 + v), false) :: F) (a := a) (cs := bs.map byteV) (c := c) (o + 8) v (by omega); ref_Same a6 _ c6 ((bs.drop (o + 8)).take v) rfl rfl _ _ _ ((bs.drop (o + 8)).take v) (by simp [List.map_take, List.map_drop]) (by simp; omega)) (lts rfl) ?_
              rintro _ L3 ⟨rfl, hL3⟩
              refine SR.lands hL3 ?_
              refine SR_pu (RD_not rfl) rfl ?_
              refine SR_nil ?_
              refine SN.le (l := [(0, _), (1, _), (5, _), (6, _), (7, _), (8, _), (92, _)]) ?_ (.cons rfl (.cons rfl (.cons rfl (.cons rfl (.cons rfl (.cons rfl (.cons rfl (.nil))))))))
              refine SN_seq ?_
              refine SC_cond_false rfl (by simp) ?_
              refine SC_skip ?_
              refine SN_block ?_
              refine SN_seq ?_
              refine SC_seq ?_
              refine SC_region ?_
              refine SR_pu (RD_move rfl) rfl ?_
              refine SR_call Try.call25 (.cons rfl (.nil)) (CallsK.at (reader_Done q (bs.drop (o + 8 + v), false))) (lts rfl) ?_
              rintro _ L4 ⟨rfl, hL4⟩
              refine SR.lands hL4 ?_
              refine SR_pu (RD_move rfl) rfl ?_
              refine SR_pu (RD_not rfl) rfl ?_
              refine SR_pu (RD_move rfl) rfl ?_
              refine SR_yes rfl rfl (rfl) ?_
              refine SR_pu (RD_move rfl) rfl ?_
              refine SR_yes rfl rfl (rfl) ?_
              refine SR_pu (RD_move rfl) rfl ?_
              refine SR_yes rfl rfl (rfl) ?_
              refine SR_pu (RD_len Try.runUnderlying25 rfl) rfl ?_
              refine SR_yes rfl rfl (rfl) ?_
              refine SR_pu (RD_eql rfl rfl) rfl ?_
              refine SR_pu (RD_pick_t rfl (rfl) rfl) rfl ?_
              refine SR_pu (RD_neqB Try.underlying4 rfl rfl) rfl ?_
              refine SR_nil ?_
              refine SN.le (l := [(0, _), (1, _), (5, _), (6, _), (7, _), (8, _), (116, _)]) ?_ (.cons rfl (.cons rfl (.cons rfl (.cons rfl (.cons rfl (.cons rfl (.cons rfl (.nil))))))))
              refine SN_seq ?_
              refine SC_cond_false rfl (by simp [rdDone]; try omega) ?_
              refine SC_skip ?_
              refine SN_block ?_
              refine SN_seq ?_
              refine SC_region ?_
              refine SR_pu (RD_move rfl) rfl ?_
              refine SR_pu (RD_addi rfl rfl (by omega) (by omega)) rfl ?_
              refine SR_pu (RD_assign rfl) rfl ?_
              refine SR_nil ?_
              refine SN.le (l := [(0, _), (1, _), (5, _), (6, _), (7, _), (8, _)]) ?_ (.cons rfl (.cons rfl (.cons rfl (.cons rfl (.cons rfl (.cons rfl (.nil)))))))
              refine SC_again (ih ((i + 1, o + 8 + v, false, (bs.drop (o + 8 + v), false))) (⟨by show i + 1 ≤ 40; omega, by dsimp only; omega, by (try dsimp only); simp at hsl ⊢ <;> omega, .inl ⟨rfl, by dsimp only; omega, rfl⟩⟩) (by dsimp only; omega)) (.fin) (.cons rfl (.cons rfl (.cons rfl (.cons' rfl (ie (by (try dsimp only) <;> omega)) (.cons rfl (.cons' rfl (ie (by dsimp only; omega)) (.nil)))))))
          · refine SR_no rfl rfl (hg14_1) (lts rfl) ?_
            refine SR_no rfl rfl (hg14_1) (lts rfl) ?_
            refine SR_no rfl rfl (hg14_1) (lts rfl) ?_
            refine SR_nou  rfl rfl (lts rfl) ?_
            refine SR_nou  rfl rfl (lts rfl) ?_
            refine SR_nou  rfl rfl (lts rfl) ?_
            refine SR_nou  rfl rfl (lts rfl) ?_
            refine SR_nou  rfl rfl (lts rfl) ?_
            refine SR_nou  rfl rfl (lts rfl) ?_
            refine SR_nou  rfl rfl (lts rfl) ?_
            refine SR_nou  rfl rfl (lts rfl) ?_
            refine SR_no rfl rfl (hg14_1) (lts rfl) ?_
            refine SR_pu (RD_pick_f rfl (hg14_1) rfl) rfl ?_
            refine SR_nil ?_
            refine SN.le (l := [(0, _), (1, _), (5, _), (6, _), (7, _), (8, _), (9, _), (10, _), (11, _), (58, _)]) ?_ (.cons rfl (.cons rfl (.cons rfl (.cons rfl (.cons rfl (.cons rfl (.cons rfl (.cons rfl (.cons rfl (.cons rfl (.nil)))))))))))
            refine SN_seq ?_
            refine SC_cond_false rfl (rfl) ?_
            refine SC_skip ?_
            refine SN_seq ?_
            refine SC_seq ?_
            refine SC_region ?_
            refine SR_pu (RD_move rfl) rfl ?_
            refine SR_pu (RD_move rfl) rfl ?_
            refine SR_yes rfl rfl (rfl) ?_
            refine SR_pu (RD_move rfl) rfl ?_
            refine SR_yes rfl rfl (rfl) ?_
            refine SR_pu (RD_not rfl) rfl ?_
            refine SR_pu (RD_pick_f rfl (rfl) rfl) rfl ?_
            refine SR_pu (RD_assign rfl) rfl ?_
            refine SR_nil ?_
            refine SN.le (l := [(0, _), (1, _), (5, _), (6, _), (7, _), (8, _), (9, _), (10, _), (11, _)]) ?_ (.cons rfl (.cons rfl (.cons rfl (.cons rfl (.cons rfl (.cons rfl (.cons rfl (.cons rfl (.cons rfl (.nil))))))))))
            refine SN_seq ?_
            refine SC_seq ?_
            refine SC_block ?_
            refine SC_seq ?_
            refine SC_region ?_
            refine SR_pu (RD_move rfl) rfl ?_
            refine SR_pu (RD_assign rfl) rfl ?_
            refine SR_nil ?_
            refine SN.le (l := [(0, _), (1, _), (5, _), (6, _), (7, _), (8, _), (9, _), (10, _), (71, _)]) ?_ (.cons rfl (.cons rfl (.cons rfl (.cons rfl (.cons rfl (.cons rfl (.cons rfl (.cons rfl (.cons rfl (.nil))))))))))
            refine SN_seq ?_
            refine SC_cond_false rfl (hg14_1) ?_
            refine SC_seq ?_
            refine SC_region ?_
            refine SR_pu (RD_move rfl) rfl ?_
            refine SR_pu (RD_move rfl) rfl ?_
            refine SR_rd (RD_ixO (cs := ask.map intV) Try.runUnderlying49 Try.sizeOf3 rfl rfl (by simpa using hask) (by omega) (by omega)) Has.ro rfl ?_
            refine SR_rd (RD_loadO (v := intV y) (cs := ask.map intV) Try.isAgg3 rfl (by simp [hy])) Has.ro rfl ?_
            refine SR_pu (RD_mask 2 rfl rfl rfl (by decide) 4 rfl) rfl ?_
            refine SR_pu (RD_eql rfl rfl) rfl ?_
            refine SR_pu (RD_assign rfl) rfl ?_
            refine SR_nil ?_
            refine SN.le (l := [(0, _), (1, _), (5, _), (6, _), (7, _), (8, _), (9, _), (93, _)]) ?_ (.cons rfl (.cons rfl (.cons rfl (.cons rfl (.cons rfl (.cons rfl (.cons rfl (.cons rfl (.nil)))))))))
            refine SN_seq ?_
            refine SC_cond rfl (fun hc93 => ?_) (fun hc93 => ?_)
            · refine SC_seq ?_
              refine SC_region ?_
              refine SR_pu (RD_move rfl) rfl ?_
              refine SR_pu (RD_addi rfl rfl (by omega) (by omega)) rfl ?_
              refine SR_pu (RD_assign rfl) rfl ?_
              refine SR_nil ?_
              refine SN.le (l := [(0, _), (1, _), (5, _), (6, _), (7, _), (8, _), (9, _)]) ?_ (.cons rfl (.cons rfl (.cons rfl (.cons rfl (.cons rfl (.cons rfl (.cons rfl (.nil))))))))
              refine SN_seq ?_
              refine SC_seq ?_
              refine SC_region ?_
              refine SR_pu (RD_move rfl) rfl ?_
              refine SR_call Try.call27 (.cons rfl (.nil)) (CallsK.at (reader_Num q (bs.drop o, false) (by (try dsimp only); simp at hsl ⊢ <;> omega))) (lts rfl) ?_
              rintro _ L2 ⟨rfl, hL2⟩
              rw [hN] at hL2 ⊢
              dsimp only at hL2 ⊢
              refine SR.lands hL2 ?_
              refine SR_pu (RD_move rfl) rfl ?_
              refine SR_pu (RD_neq rfl rfl) rfl ?_
              refine SR_nil ?_
              refine SN.le (l := [(0, _), (1, _), (5, _), (6, _), (7, _), (8, _), (105, _)]) ?_ (.cons rfl (.cons rfl (.cons rfl (.cons rfl (.cons rfl (.cons rfl (.cons rfl (.nil))))))))
              refine SN_seq ?_
              refine SC_cond_false rfl (by simp) ?_
              refine SC_skip ?_
              refine SN_block ?_
              refine SN_seq ?_
              refine SC_seq ?_
              refine SC_region ?_
              refine SR_pu (RD_move rfl) rfl ?_
              refine SR_call Try.call25 (.cons rfl (.nil)) (CallsK.at (reader_Done q (bs.drop (o + 8), false))) (lts rfl) ?_
              rintro _ L4 ⟨rfl, hL4⟩
              refine SR.lands hL4 ?_
              refine SR_pu (RD_move rfl) rfl ?_
              refine SR_pu (RD_not rfl) rfl ?_
              refine SR_pu (RD_move rfl) rfl ?_
              refine SR_yes rfl rfl (rfl) ?_
              refine SR_pu (RD_move rfl) rfl ?_
              refine SR_yes rfl rfl (rfl) ?_
              refine SR_pu (RD_move rfl) rfl ?_
              refine SR_yes rfl rfl (rfl) ?_
              refine SR_pu (RD_len Try.runUnderlying25 rfl) rfl ?_
              refine SR_yes rfl rfl (rfl) ?_
              refine SR_pu (RD_eql rfl rfl) rfl ?_
              refine SR_pu (RD_pick_t rfl (rfl) rfl) rfl ?_
              refine SR_pu (RD_neqB Try.underlying4 rfl rfl) rfl ?_
              refine SR_nil ?_
              refine SN.le (l := [(0, _), (1, _), (5, _), (6, _), (7, _), (8, _), (116, _)]) ?_ (.cons rfl (.cons rfl (.cons rfl (.cons rfl (.cons rfl (.cons rfl (.cons rfl (.nil))))))))
              refine SN_seq ?_
              refine SC_cond_false rfl (by simp [rdDone]; try omega) ?_
              refine SC_skip ?_
              refine SN_block ?_
              refine SN_seq ?_
              refine SC_region ?_
              refine SR_pu (RD_move rfl) rfl ?_
              refine SR_pu (RD_addi rfl rfl (by omega) (by omega)) rfl ?_
              refine SR_pu (RD_assign rfl) rfl ?_
              refine SR_nil ?_
              refine SN.le (l := [(0, _), (1, _), (5, _), (6, _), (7, _), (8, _)]) ?_ (.cons rfl (.cons rfl (.cons rfl (.cons rfl (.cons rfl (.cons rfl (.nil)))))))
              refine SC_again (ih ((i + 1, o + 8, false, (bs.drop (o + 8), false))) (⟨by show i + 1 ≤ 40; omega, by dsimp only; omega, by (try dsimp only); simp at hsl ⊢ <;> omega, .inl ⟨rfl, by dsimp only; omega, rfl⟩⟩) (by dsimp only; omega)) (.fin) (.cons rfl (.cons rfl (.cons rfl (.cons' rfl (ie (by (try dsimp only) <;> omega)) (.cons rfl (.cons' rfl (ie (by dsimp only; omega)) (.nil)))))))
            · refine SC_seq ?_
              refine SC_region ?_
              refine SR_pu (RD_move rfl) rfl ?_
              refine SR_pu (RD_addi rfl rfl (by omega) (by omega)) rfl ?_
              refine SR_pu (RD_assign rfl) rfl ?_
              refine SR_nil ?_
              refine SN.le (l := [(0, _), (1, _), (5, _), (6, _), (7, _), (8, _), (9, _)]) ?_ (.cons rfl (.cons rfl (.cons rfl (.cons rfl (.cons rfl (.cons rfl (.cons rfl (.nil))))))))
              refine SN_seq ?_
              refine SC_seq ?_
              refine SC_region ?_
              refine SR_pu (RD_move rfl) rfl ?_
              refine SR_call Try.call28 (.cons rfl (.nil)) (CallsK.at (reader_Int q (bs.drop o, false) (by (try dsimp only); simp at hsl ⊢ <;> omega))) (lts rfl) ?_
              rintro _ L2 ⟨rfl, hL2⟩
              rw [hN] at hL2 ⊢
              dsimp only at hL2 ⊢
              refine SR.lands hL2 ?_
              refine SR_pu (RD_move rfl) rfl ?_
              refine SR_pu (RD_convI Try.runUnderlying23 Try.runUnderlying3 rfl) rfl ?_
              refine SR_pu (RD_neq rfl rfl) rfl ?_
              refine SR_nil ?_
              refine SN.le (l := [(0, _), (1, _), (5, _), (6, _), (7, _), (8, _), (70, _)]) ?_ (.cons rfl (.cons rfl (.cons rfl (.cons rfl (.cons rfl (.cons rfl (.cons rfl (.nil))))))))
              refine SN_seq ?_
              refine SC_cond_false rfl (by simp) ?_
              refine SC_skip ?_
              refine SN_block ?_
              refine SN_seq ?_
              refine SC_seq ?_
              refine SC_region ?_
              refine SR_pu (RD_move rfl) rfl ?_
              refine SR_call Try.call25 (.cons rfl (.nil)) (CallsK.at (reader_Done q (bs.drop (o + 8), false))) (lts rfl) ?_
              rintro _ L4 ⟨rfl, hL4⟩
              refine SR.lands hL4 ?_
              refine SR_pu (RD_move rfl) rfl ?_
              refine SR_pu (RD_not rfl) rfl ?_
              refine SR_pu (RD_move rfl) rfl ?_
              refine SR_yes rfl rfl (rfl) ?_
              refine SR_pu (RD_move rfl) rfl ?_
              refine SR_yes rfl rfl (rfl) ?_
              refine SR_pu (RD_move rfl) rfl ?_
              refine SR_yes rfl rfl (rfl) ?_
              refine SR_pu (RD_len Try.runUnderlying25 rfl) rfl ?_
              refine SR_yes rfl rfl (rfl) ?_
              refine SR_pu (RD_eql rfl rfl) rfl ?_
              refine SR_pu (RD_pick_t rfl (rfl) rfl) rfl ?_
              refine SR_pu (RD_neqB Try.underlying4 rfl rfl) rfl ?_
              refine SR_nil ?_
              refine SN.le (l := [(0, _), (1, _), (5, _), (6, _), (7, _), (8, _), (116, _)]) ?_ (.cons rfl (.cons rfl (.cons rfl (.cons rfl (.cons rfl (.cons rfl (.cons rfl (.nil))))))))
              refine SN_seq ?_
              refine SC_cond_false rfl (by simp [rdDone]; try omega) ?_
              refine SC_skip ?_
              refine SN_block ?_
              refine SN_seq ?_
              refine SC_region ?_
              refine SR_pu (RD_move rfl) rfl ?_
              refine SR_pu (RD_addi rfl rfl (by omega) (by omega)) rfl ?_
              refine SR_pu (RD_assign rfl) rfl ?_
              refine SR_nil ?_
              refine SN.le (l := [(0, _), (1, _), (5, _), (6, _), (7, _), (8, _)]) ?_ (.cons rfl (.cons rfl (.cons rfl (.cons rfl (.cons rfl (.cons rfl (.nil)))))))
              refine SC_again (ih ((i + 1, o + 8, false, (bs.drop (o + 8), false))) (⟨by show i + 1 ≤ 40; omega, by dsimp only; omega, by (try dsimp only); simp at hsl ⊢ <;> omega, .inl ⟨rfl, by dsimp only; omega, rfl⟩⟩) (by dsimp only; omega)) (.fin) (.cons rfl (.cons rfl (.cons rfl (.cons' rfl (ie (by (try dsimp only) <;> omega)) (.cons rfl (.cons' rfl (ie (by dsimp only; omega)) (.nil)))))))
        · obtain ⟨hN, hT⟩ := rds_short (sb := bs.drop o) (by simp; omega)
          rw [getAt_no h8] at hu
          subst hu
          refine SC_skip ?_
          refine SN_seq ?_
          refine SC_seq ?_
          refine SC_block ?_
          refine SC_seq ?_
          refine SC_region ?_
          refine SR_pu (RD_move rfl) rfl ?_
          refine SR_pu (RD_move rfl) rfl ?_
          refine SR_call Try.call29 (.cons rfl (.cons rfl (.nil))) (ref_Get a n c bs hn (by omega) (o : Int)) (lts rfl) ?_
          rintro _ L1 ⟨rfl, hL1⟩
          rw [getAt_no h8]
          try dsimp only
          refine SR.lands hL1 ?_
          refine SR_pu (RD_move rfl) rfl ?_
          refine SR_pu (RD_extract rfl rfl) rfl ?_
          refine SR_pu (RD_extract rfl rfl) rfl ?_
          refine SR_pu (RD_assign rfl) rfl ?_
          refine SR_pu (RD_assign rfl) rfl ?_
          refine SR_nil ?_
          refine SN.le (l := [(0, _), (1, _), (5, _), (6, _), (7, _), (8, _), (9, _), (10, _)]) ?_ (.cons rfl (.cons rfl (.cons rfl (.cons rfl (.cons rfl (.cons rfl (.cons rfl (.cons rfl (.nil)))))))))
          refine SN_seq ?_
          refine SC_seq ?_
          refine SC_seq ?_
          refine SC_region ?_
          refine SR_pu (RD_move rfl) rfl ?_
          refine SR_nil ?_
          refine SN.le (l := [(0, _), (1, _), (5, _), (6, _), (7, _), (8, _), (9, _), (10, _), (37, _)]) ?_ (.cons rfl (.cons rfl (.cons rfl (.cons rfl (.cons rfl (.cons rfl (.cons rfl (.cons rfl (.cons rfl (.nil))))))))))
          refine SN_seq ?_
          refine SC_cond_false rfl (rfl) ?_
          refine SC_skip ?_
          refine SN_seq ?_
          refine SC_seq ?_
          refine SC_region ?_
          refine SR_pu (RD_move rfl) rfl ?_
          refine SR_pu (RD_move rfl) rfl ?_
          refine SR_rd (RD_ixO (cs := ask.map intV) Try.runUnderlying49 Try.sizeOf3 rfl rfl (by simpa using hask) (by omega) (by omega)) Has.ro rfl ?_
          refine SR_rd (RD_loadO (v := intV y) (cs := ask.map intV) Try.isAgg3 rfl (by simp [hy])) Has.ro rfl ?_
          refine SR_pu (RD_mask 2 rfl rfl rfl (by decide) 4 rfl) rfl ?_
          refine SR_pu (RD_gtr rfl rfl) rfl ?_
          refine SR_pu (RD_assign rfl) rfl ?_
          refine SR_nil ?_
          refine SN.le (l := [(0, _), (1, _), (5, _), (6, _), (7, _), (8, _), (9, _), (10, _), (11, _)]) ?_ (.cons rfl (.cons rfl (.cons rfl (.cons rfl (.cons rfl (.cons rfl (.cons rfl (.cons rfl (.cons rfl (.nil))))))))))
          refine SN_seq ?_
          refine SC_seq ?_
          refine SC_seq ?_
          refine SC_region ?_
          refine SR_pu (RD_move rfl) rfl ?_
          refine SR_pu (RD_move rfl) rfl ?_
          refine SR_guard rfl rfl (fun hg14_1 => ?_) (fun hg14_1 => ?_)
          · refine SR_yes rfl rfl (hg14_1) ?_
            refine SR_pu (RD_move rfl) rfl ?_
            refine SR_yes rfl rfl (hg14_1) ?_
            refine SR_pu (RD_not rfl) rfl ?_
            refine SR_yes rfl rfl (hg14_1) ?_
            refine SR_pu (RD_move rfl) rfl ?_
            refine SR_no rfl rfl (rfl) (lts rfl) ?_
            refine SR_no rfl rfl (rfl) (lts rfl) ?_
            refine SR_no rfl rfl (rfl) (lts rfl) ?_
            refine SR_no rfl rfl (rfl) (lts rfl) ?_
            refine SR_no rfl rfl (rfl) (lts rfl) ?_
            refine SR_no rfl rfl (rfl) (lts rfl) ?_
            refine SR_no rfl rfl (rfl) (lts rfl) ?_
            refine SR_no rfl rfl (rfl) (lts rfl) ?_
            refine SR_yes rfl rfl (hg14_1) ?_
            refine SR_pu (RD_pick_t rfl (rfl) rfl) rfl ?_
            refine SR_pu (RD_pick_t rfl (hg14_1) rfl) rfl ?_
            refine SR_nil ?_
            refine SN.le (l := [(0, _), (1, _), (5, _), (6, _), (7, _), (8, _), (9, _), (10, _), (11, _), (58, _)]) ?_ (.cons rfl (.cons rfl (.cons rfl (.cons rfl (.cons rfl (.cons rfl (.cons rfl (.cons rfl (.cons rfl (.cons rfl (.nil)))))))))))
            refine SN_seq ?_
            refine SC_cond_true rfl (rfl) ?_
            refine SC_region ?_
            refine SR_pu (RD_assign rfl) rfl ?_
            refine SR_pu (RD_assign rfl) rfl ?_
            refine SR_nil ?_
            refine SN.le (l := [(0, _), (1, _), (5, _), (6, _), (7, _), (8, _), (9, _), (10, _), (11, _)]) ?_ (.cons rfl (.cons rfl (.cons rfl (.cons rfl (.cons rfl (.cons rfl (.cons rfl (.cons rfl (.cons rfl (.nil))))))))))
            refine SN_seq ?_
            refine SC_seq ?_
            refine SC_region ?_
            refine SR_pu (RD_move rfl) rfl ?_
            refine SR_pu (RD_move rfl) rfl ?_
            refine SR_yes rfl rfl (rfl) ?_
            refine SR_pu (RD_move rfl) rfl ?_
            refine SR_yes rfl rfl (rfl) ?_
            refine SR_pu (RD_not rfl) rfl ?_
            refine SR_pu (RD_pick_f rfl (rfl) rfl) rfl ?_
            refine SR_pu (RD_assign rfl) rfl ?_
            refine SR_nil ?_
            refine SN.le (l := [(0, _), (1, _), (5, _), (6, _), (7, _), (8, _), (9, _), (10, _), (11, _)]) ?_ (.cons rfl (.cons rfl (.cons rfl (.cons rfl (.cons rfl (.cons rfl (.cons rfl (.cons rfl (.cons rfl (.nil))))))))))
            refine SN_seq ?_
            refine SC_seq ?_
            refine SC_block ?_
            refine SC_seq ?_
            refine SC_region ?_
            refine SR_pu (RD_move rfl) rfl ?_
            refine SR_pu (RD_assign rfl) rfl ?_
            refine SR_nil ?_
            refine SN.le (l := [(0, _), (1, _), (5, _), (6, _), (7, _), (8, _), (9, _), (10, _), (71, _)]) ?_ (.cons rfl (.cons rfl (.cons rfl (.cons rfl (.cons rfl (.cons rfl (.cons rfl (.cons rfl (.cons rfl (.nil))))))))))
            refine SN_seq ?_
            refine SC_cond_true rfl (hg14_1) ?_
            refine SC_seq ?_
            refine SC_region ?_
            refine SR_pu (RD_assign rfl) rfl ?_
            refine SR_nil ?_
            refine SN.le (l := [(0, _), (1, _), (5, _), (6, _), (7, _), (8, _), (9, _), (10, _), (12, _)]) ?_ (.cons rfl (.cons rfl (.cons rfl (.cons rfl (.cons rfl (.cons rfl (.cons rfl (.cons rfl (.cons rfl (.nil))))))))))
            refine SN_seq ?_
            refine SC_seq ?_
            refine SC_seq ?_
            refine SC_region ?_
            refine SR_pu (RD_move rfl) rfl ?_
            refine SR_nil ?_
            refine SN.le (l := [(0, _), (1, _), (5, _), (6, _), (7, _), (8, _), (9, _), (12, _), (73, _)]) ?_ (.cons rfl (.cons rfl (.cons rfl (.cons rfl (.cons rfl (.cons rfl (.cons rfl (.cons rfl (.cons rfl (.nil))))))))))
            refine SN_seq ?_
            refine SC_cond_false rfl (rfl) ?_
            refine SC_skip ?_
            refine SN_seq ?_
            refine SC_seq ?_
            refine SC_region ?_
            refine SR_pu (RD_move rfl) rfl ?_
            refine SR_call Try.call24 (.cons rfl (.nil)) (CallsK.at (reader_Text q (bs.drop o, false) (by (try dsimp only); simp at hsl ⊢ <;> omega))) (lts rfl) ?_
            rintro _ L2 ⟨a6, c6, rfl, hL2⟩
            rw [hT] at hL2 ⊢
            dsimp only at hL2 ⊢
            refine SR.lands hL2 ?_
            refine SR_pu (RD_move rfl) rfl ?_
            refine SR_call Try.call21 (.cons rfl (.cons rfl (.nil))) (ref_Same a6 0 c6 [] rfl rfl none 0 0 [] rfl rfl) (lts rfl) ?_
            rintro _ L3 ⟨rfl, hL3⟩
            refine SR.lands hL3 ?_
            refine SR_pu (RD_not rfl) rfl ?_
            refine SR_nil ?_
            refine SN.le (l := [(0, _), (1, _), (5, _), (6, _), (7, _), (8, _), (92, _)]) ?_ (.cons rfl (.cons rfl (.cons rfl (.cons rfl (.cons rfl (.cons rfl (.cons rfl (.nil))))))))
            refine SN_seq ?_
            refine SC_cond_false rfl (by simp) ?_
            refine SC_skip ?_
            refine SN_block ?_
            refine SN_seq ?_
            refine SC_seq ?_
            refine SC_region ?_
            refine SR_pu (RD_move rfl) rfl ?_
            refine SR_call Try.call25 (.cons rfl (.nil)) (CallsK.at (reader_Done q (bs.drop o, true))) (lts rfl) ?_
            rintro _ L4 ⟨rfl, hL4⟩
            refine SR.lands hL4 ?_
            refine SR_pu (RD_move rfl) rfl ?_
            refine SR_pu (RD_not rfl) rfl ?_
            refine SR_pu (RD_move rfl) rfl ?_
            refine SR_no rfl rfl (rfl) (lts rfl) ?_
            refine SR_no rfl rfl (rfl) (lts rfl) ?_
            refine SR_no rfl rfl (rfl) (lts rfl) ?_
            refine SR_no rfl rfl (rfl) (lts rfl) ?_
            refine SR_pu (RD_pick_f rfl (rfl) rfl) rfl ?_
            refine SR_pu (RD_neqB Try.underlying4 rfl rfl) rfl ?_
            refine SR_nil ?_
            refine SN.le (l := [(0, _), (1, _), (5, _), (6, _), (7, _), (8, _), (116, _)]) ?_ (.cons rfl (.cons rfl (.cons rfl (.cons rfl (.cons rfl (.cons rfl (.cons rfl (.nil))))))))
            refine SN_seq ?_
            refine SC_cond_false rfl (by simp [rdDone]) ?_
            refine SC_skip ?_
            refine SN_block ?_
            refine SN_seq ?_
            refine SC_region ?_
            refine SR_pu (RD_move rfl) rfl ?_
            refine SR_pu (RD_addi rfl rfl (by omega) (by omega)) rfl ?_
            refine SR_pu (RD_assign rfl) rfl ?_
            refine SR_nil ?_
            refine SN.le (l := [(0, _), (1, _), (5, _), (6, _), (7, _), (8, _)]) ?_ (.cons rfl (.cons rfl (.cons rfl (.cons rfl (.cons rfl (.cons rfl (.nil)))))))
            refine SC_again (ih ((i + 1, o, true, (bs.drop o, true))) (⟨by show i + 1 ≤ 40; omega, by dsimp only; omega, by (try dsimp only); simp at hsl ⊢ <;> omega, .inr ⟨rfl, rfl⟩⟩) (by dsimp only; omega)) (.fin) (.cons rfl (.cons rfl (.cons rfl (.cons' rfl (ie (by (try dsimp only) <;> omega)) (.cons rfl (.cons' rfl (ie (by dsimp only; omega)) (.nil)))))))
          · refine SR_no rfl rfl (hg14_1) (lts rfl) ?_
            refine SR_no rfl rfl (hg14_1) (lts rfl) ?_
            refine SR_no rfl rfl (hg14_1) (lts rfl) ?_
            refine SR_nou  rfl rfl (lts rfl) ?_
            refine SR_nou  rfl rfl (lts rfl) ?_
            refine SR_nou  rfl rfl (lts rfl) ?_
            refine SR_nou  rfl rfl (lts rfl) ?_
            refine SR_nou  rfl rfl (lts rfl) ?_
            refine SR_nou  rfl rfl (lts rfl) ?_
            refine SR_nou  rfl rfl (lts rfl) ?_
            refine SR_nou  rfl rfl (lts rfl) ?_
            refine SR_no rfl rfl (hg14_1) (lts rfl) ?_
            refine SR_pu (RD_pick_f rfl (hg14_1) rfl) rfl ?_
            refine SR_nil ?_
            refine SN.le (l := [(0, _), (1, _), (5, _), (6, _), (7, _), (8, _), (9, _), (10, _), (11, _), (58, _)]) ?_ (.cons rfl (.cons rfl (.cons rfl (.cons rfl (.cons rfl (.cons rfl (.cons rfl (.cons rfl (.cons rfl (.cons rfl (.nil)))))))))))
            refine SN_seq ?_
            refine SC_cond_false rfl (rfl) ?_
            refine SC_skip ?_
            refine SN_seq ?_
            refine SC_seq ?_
            refine SC_region ?_
            refine SR_pu (RD_move rfl) rfl ?_
            refine SR_pu (RD_move rfl) rfl ?_
            refine SR_yes rfl rfl (rfl) ?_
            refine SR_pu (RD_move rfl) rfl ?_
            refine SR_yes rfl rfl (rfl) ?_
            refine SR_pu (RD_not rfl) rfl ?_
            refine SR_pu (RD_pick_f rfl (rfl) rfl) rfl ?_
            refine SR_pu (RD_assign rfl) rfl ?_
            refine SR_nil ?_
            refine SN.le (l := [(0, _), (1, _), (5, _), (6, _), (7, _), (8, _), (9, _), (10, _), (11, _)]) ?_ (.cons rfl (.cons rfl (.cons rfl (.cons rfl (.cons rfl (.cons rfl (.cons rfl (.cons rfl (.cons rfl (.nil))))))))))
            refine SN_seq ?_
            refine SC_seq ?_
            refine SC_block ?_
            refine SC_seq ?_
            refine SC_region ?_
            refine SR_pu (RD_move rfl) rfl ?_
            refine SR_pu (RD_assign rfl) rfl ?_
            refine SR_nil ?_
            refine SN.le (l := [(0, _), (1, _), (5, _), (6, _), (7, _), (8, _), (9, _), (10, _), (71, _)]) ?_ (.cons rfl (.cons rfl (.cons rfl (.cons rfl (.cons rfl (.cons rfl (.cons rfl (.cons rfl (.cons rfl (.nil))))))))))
            refine SN_seq ?_
            refine SC_cond_false rfl (hg14_1) ?_
            refine SC_seq ?_
            refine SC_region ?_
            refine SR_pu (RD_move rfl) rfl ?_
            refine SR_pu (RD_move rfl) rfl ?_
            refine SR_rd (RD_ixO (cs := ask.map intV) Try.runUnderlying49 Try.sizeOf3 rfl rfl (by simpa using hask) (by omega) (by omega)) Has.ro rfl ?_
            refine SR_rd (RD_loadO (v := intV y) (cs := ask.map intV) Try.isAgg3 rfl (by simp [hy])) Has.ro rfl ?_
            refine SR_pu (RD_mask 2 rfl rfl rfl (by decide) 4 rfl) rfl ?_
            refine SR_pu (RD_eql rfl rfl) rfl ?_
            refine SR_pu (RD_assign rfl) rfl ?_
            refine SR_nil ?_
            refine SN.le (l := [(0, _), (1, _), (5, _), (6, _), (7, _), (8, _), (9, _), (93, _)]) ?_ (.cons rfl (.cons rfl (.cons rfl (.cons rfl (.cons rfl (.cons rfl (.cons rfl (.cons rfl (.nil)))))))))
            refine SN_seq ?_
            refine SC_cond rfl (fun hc93 => ?_) (fun hc93 => ?_)
            · refine SC_seq ?_
              refine SC_region ?_
              refine SR_pu (RD_move rfl) rfl ?_
              refine SR_pu (RD_addi rfl rfl (by omega) (by omega)) rfl ?_
              refine SR_pu (RD_assign rfl) rfl ?_
              refine SR_nil ?_
              refine SN.le (l := [(0, _), (1, _), (5, _), (6, _), (7, _), (8, _), (9, _)]) ?_ (.cons rfl (.cons rfl (.cons rfl (.cons rfl (.cons rfl (.cons rfl (.cons rfl (.nil))))))))
              refine SN_seq ?_
              refine SC_seq ?_
              refine SC_region ?_
              refine SR_pu (RD_move rfl) rfl ?_
              refine SR_call Try.call27 (.cons rfl (.nil)) (CallsK.at (reader_Num q (bs.drop o, false) (by (try dsimp only); simp at hsl ⊢ <;> omega))) (lts rfl) ?_
              rintro _ L2 ⟨rfl, hL2⟩
              rw [hN] at hL2 ⊢
              dsimp only at hL2 ⊢
              refine SR.lands hL2 ?_
              refine SR_pu (RD_move rfl) rfl ?_
              refine SR_pu (RD_neq rfl rfl) rfl ?_
              refine SR_nil ?_
              refine SN.le (l := [(0, _), (1, _), (5, _), (6, _), (7, _), (8, _), (105, _)]) ?_ (.cons rfl (.cons rfl (.cons rfl (.cons rfl (.cons rfl (.cons rfl (.cons rfl (.nil))))))))
              refine SN_seq ?_
              refine SC_cond_false rfl (by simp) ?_
              refine SC_skip ?_
              refine SN_block ?_
              refine SN_seq ?_
              refine SC_seq ?_
              refine SC_region ?_
              refine SR_pu (RD_move rfl) rfl ?_
              refine SR_call Try.call25 (.cons rfl (.nil)) (CallsK.at (reader_Done q (bs.drop o, true))) (lts rfl) ?_
              rintro _ L4 ⟨rfl, hL4⟩
              refine SR.lands hL4 ?_
              refine SR_pu (RD_move rfl) rfl ?_
              refine SR_pu (RD_not rfl) rfl ?_
              refine SR_pu (RD_move rfl) rfl ?_
              refine SR_no rfl rfl (rfl) (lts rfl) ?_
              refine SR_no rfl rfl (rfl) (lts rfl) ?_
              refine SR_no rfl rfl (rfl) (lts rfl) ?_
              refine SR_no rfl rfl (rfl) (lts rfl) ?_
              refine SR_pu (RD_pick_f rfl (rfl) rfl) rfl ?_
              refine SR_pu (RD_neqB Try.underlying4 rfl rfl) rfl ?_
              refine SR_nil ?_
              refine SN.le (l := [(0, _), (1, _), (5, _), (6, _), (7, _), (8, _), (116, _)]) ?_ (.cons rfl (.cons rfl (.cons rfl (.cons rfl (.cons rfl (.cons rfl (.cons rfl (.nil))))))))
              refine SN_seq ?_
              refine SC_cond_false rfl (by simp [rdDone]) ?_
              refine SC_skip ?_
              refine SN_block ?_
              refine SN_seq ?_
              refine SC_region ?_
              refine SR_pu (RD_move rfl) rfl ?_
              refine SR_pu (RD_addi rfl rfl (by omega) (by omega)) rfl ?_
              refine SR_pu (RD_assign rfl) rfl ?_
              refine SR_nil ?_
              refine SN.le (l := [(0, _), (1, _), (5, _), (6, _), (7, _), (8, _)]) ?_ (.cons rfl (.cons rfl (.cons rfl (.cons rfl (.cons rfl (.cons rfl (.nil)))))))
              refine SC_again (ih ((i + 1, o + 8, true, (bs.drop o, true))) (⟨by show i + 1 ≤ 40; omega, by dsimp only; omega, by (try dsimp only); simp at hsl ⊢ <;> omega, .inr ⟨rfl, rfl⟩⟩) (by dsimp only; omega)) (.fin) (.cons rfl (.cons rfl (.cons rfl (.cons' rfl (ie (by (try dsimp only) <;> omega)) (.cons rfl (.cons' rfl (ie (by dsimp only; omega)) (.nil)))))))
            · refine SC_seq ?_
              refine SC_region ?_
              refine SR_pu (RD_move rfl) rfl ?_
              refine SR_pu (RD_addi rfl rfl (by omega) (by omega)) rfl ?_
              refine SR_pu (RD_assign rfl) rfl ?_
              refine SR_nil ?_
              refine SN.le (l := [(0, _), (1, _), (5, _), (6, _), (7, _), (8, _), (9, _)]) ?_ (.cons rfl (.cons rfl (.cons rfl (.cons rfl (.cons rfl (.cons rfl (.cons rfl (.nil))))))))
              refine SN_seq ?_
              refine SC_seq ?_
              refine SC_region ?_
              refine SR_pu (RD_move rfl) rfl ?_
              refine SR_call Try.call28 (.cons rfl (.nil)) (CallsK.at (reader_Int q (bs.drop o, false) (by (try dsimp only); simp at hsl ⊢ <;> omega))) (lts rfl) ?_
              rintro _ L2 ⟨rfl, hL2⟩
              rw [hN] at hL2 ⊢
              dsimp only at hL2 ⊢
              refine SR.lands hL2 ?_
              refine SR_pu (RD_move rfl) rfl ?_
              refine SR_pu (RD_convI Try.runUnderlying23 Try.runUnderlying3 rfl) rfl ?_
              refine SR_pu (RD_neq rfl rfl) rfl ?_
              refine SR_nil ?_
              refine SN.le (l := [(0, _), (1, _), (5, _), (6, _), (7, _), (8, _), (70, _)]) ?_ (.cons rfl (.cons rfl (.cons rfl (.cons rfl (.cons rfl (.cons rfl (.cons rfl (.nil))))))))
              refine SN_seq ?_
              refine SC_cond_false rfl (by simp) ?_
              refine SC_skip ?_
              refine SN_block ?_
              refine SN_seq ?_
              refine SC_seq ?_
              refine SC_region ?_
              refine SR_pu (RD_move rfl) rfl ?_
              refine SR_call Try.call25 (.cons rfl (.nil)) (CallsK.at (reader_Done q (bs.drop o, true))) (lts rfl) ?_
              rintro _ L4 ⟨rfl, hL4⟩
              refine SR.lands hL4 ?_
              refine SR_pu (RD_move rfl) rfl ?_
              refine SR_pu (RD_not rfl) rfl ?_
              refine SR_pu (RD_move rfl) rfl ?_
              refine SR_no rfl rfl (rfl) (lts rfl) ?_
              refine SR_no rfl rfl (rfl) (lts rfl) ?_
              refine SR_no rfl rfl (rfl) (lts rfl) ?_
              refine SR_no rfl rfl (rfl) (lts rfl) ?_
              refine SR_pu (RD_pick_f rfl (rfl) rfl) rfl ?_
              refine SR_pu (RD_neqB Try.underlying4 rfl rfl) rfl ?_
              refine SR_nil ?_
              refine SN.le (l := [(0, _), (1, _), (5, _), (6, _), (7, _), (8, _), (116, _)]) ?_ (.cons rfl (.cons rfl (.cons rfl (.cons rfl (.cons rfl (.cons rfl (.cons rfl (.nil))))))))
              refine SN_seq ?_
              refine SC_cond_false rfl (by simp [rdDone]) ?_
              refine SC_skip ?_
              refine SN_block ?_
              refine SN_seq ?_
              refine SC_region ?_
              refine SR_pu (RD_move rfl) rfl ?_
              refine SR_pu (RD_addi rfl rfl (by omega) (by omega)) rfl ?_
              refine SR_pu (RD_assign rfl) rfl ?_
              refine SR_nil ?_
              refine SN.le (l := [(0, _), (1, _), (5, _), (6, _), (7, _), (8, _)]) ?_ (.cons rfl (.cons rfl (.cons rfl (.cons rfl (.cons rfl (.cons rfl (.nil)))))))
              refine SC_again (ih ((i + 1, o + 8, true, (bs.drop o, true))) (⟨by show i + 1 ≤ 40; omega, by dsimp only; omega, by (try dsimp only); simp at hsl ⊢ <;> omega, .inr ⟨rfl, rfl⟩⟩) (by dsimp only; omega)) (.fin) (.cons rfl (.cons rfl (.cons rfl (.cons' rfl (ie (by (try dsimp only) <;> omega)) (.cons rfl (.cons' rfl (ie (by dsimp only; omega)) (.nil)))))))
      · refine SC_exit rfl ?_
        refine SN_seq ?_
        refine SC_seq ?_
        refine SC_region ?_
        refine SR_call Try.call15 (.nil) (wire_awake) (lts rfl) ?_
        rintro _ L9 ⟨rfl, hL9⟩
        refine SR.lands hL9 ?_
        refine SR_pu (RD_assign rfl) rfl ?_
        refine SR_nil ?_
        refine SN.le (l := [(4, _)]) ?_ (.cons rfl (.nil))
        refine SN_seq ?_
        refine SC_ret1 rfl rfl ?_
        exact ⟨rfl, .fin⟩
    · refine SR_no rfl rfl (hg8_4) (lts rfl) ?_
      refine SR_no rfl rfl (hg8_4) (lts rfl) ?_
      refine SR_pu (RD_pick_f rfl (hg8_4) rfl) rfl ?_
      refine SR_nil ?_
      refine SN.le (l := [(0, _), (1, _), (5, _), (6, _), (7, _), (8, _), (28, _)]) ?_ (.cons rfl (.cons rfl (.cons rfl (.cons rfl (.cons rfl (.cons rfl (.cons rfl (.nil))))))))
      refine SN_seq ?_
      refine SC_cond_false rfl (rfl) ?_
      refine SC_exit rfl ?_
      refine SN_seq ?_
      refine SC_seq ?_
      refine SC_region ?_
      refine SR_call Try.call15 (.nil) (wire_awake) (lts rfl) ?_
      rintro _ L9 ⟨rfl, hL9⟩
      refine SR.lands hL9 ?_
      refine SR_pu (RD_assign rfl) rfl ?_
      refine SR_nil ?_
      refine SN.le (l := [(4, _)]) ?_ (.cons rfl (.nil))
      refine SN_seq ?_
      refine SC_ret1 rfl rfl ?_
      exact ⟨rfl, .fin⟩

end Go.Proofs.Ytdjkllhnkbobfaa
