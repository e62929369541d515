/- The statements on digests. -/
import Derived.Test.YtmhldhlldlmdgaaTe1
import Derived.Test.YtmhldhlldlmdgaaSl12
namespace Go.Proofs.Ytmhldhlldlmdgaa
open Go Go.Proofs
set_option maxRecDepth 100000

theorem law_TermOwn_short {W : World} {F : List HProp} [Abs F] (a : Option Addr) (n c : Nat) (bs : List UInt8) [HasRow F a (bs.map byteV)] (hn : bs.length = n) (at_ : Int) (h : n = 0 ∨ 200 < n) :
    CallsK W Try.prog 6 #[.slice a n c, .int .i64 at_] (F) (fun v L => v = .bool true ∧ Lands L F) := by
  refine CallsK_enter (n := 103) Try.func6 rfl rfl rfl ?_
  refine SC_seq ?_
  refine SC_region ?_
  refine SR_pu (RD_assign rfl) rfl ?_
  refine SR_nil ?_
  refine SN.le (l := [(0, _), (1, _)]) ?_ (.cons rfl (.cons rfl (.nil)))
  refine SN_seq ?_
  refine SC_seq ?_
  refine SC_region ?_
  refine SR_call Try.call7 (.nil) (term_New) (lts rfl) ?_
  rintro _ L0 ⟨p, rfl, hL0⟩
  refine SR.lands hL0 ?_
  refine SR_pu (RD_assign rfl) rfl ?_
  refine SR_nil ?_
  refine SN.le (l := [(0, _), (1, _), (5, _)]) ?_ (.cons rfl (.cons rfl (.cons rfl (.nil))))
  refine SN_seq ?_
  refine SC_seq ?_
  refine SC_seq ?_
  refine SC_region ?_
  refine SR_pu (RD_move rfl) rfl ?_
  refine SR_pu (RD_eqlP Try.underlying23 rfl rfl) rfl ?_
  refine SR_pu (RD_move rfl) rfl ?_
  refine SR_yes rfl rfl (rfl) ?_
  refine SR_pu (RD_move rfl) rfl ?_
  refine SR_yes rfl rfl (rfl) ?_
  refine SR_pu (RD_len Try.runUnderlying26 rfl) rfl ?_
  refine SR_yes rfl rfl (rfl) ?_
  refine SR_pu (RD_eql rfl rfl) rfl ?_
  refine SR_pu (RD_pick_f rfl (rfl) rfl) rfl ?_
  refine SR_pu (RD_move rfl) rfl ?_
  refine SR_guard rfl rfl (fun hg2_7 => ?_) (fun hg2_7 => ?_)
  · refine SR_yes rfl rfl (hg2_7) ?_
    refine SR_pu (RD_move rfl) rfl ?_
    refine SR_yes rfl rfl (hg2_7) ?_
    refine SR_pu (RD_len Try.runUnderlying26 rfl) rfl ?_
    refine SR_yes rfl rfl (hg2_7) ?_
    refine SR_pu (RD_gtr rfl rfl) rfl ?_
    refine SR_pu (RD_pick_f rfl (hg2_7) rfl) rfl ?_
    refine SR_nil ?_
    refine SN.le (l := [(0, _), (1, _), (5, _), (24, _)]) ?_ (.cons rfl (.cons rfl (.cons rfl (.cons rfl (.nil)))))
    refine SN_seq ?_
    refine SC_cond_true rfl (by first | rfl | (simp at *; omega)) ?_
    refine SC_seq ?_
    refine SC_region ?_
    refine SR_pu (RD_move rfl) rfl ?_
    refine SR_pu (RD_neqP Try.underlying23 rfl rfl) rfl ?_
    refine SR_pu (RD_move rfl) rfl ?_
    refine SR_yes rfl rfl (rfl) ?_
    refine SR_call Try.call10 (.nil) (term_awake) (lts rfl) ?_
    rintro _ L9 ⟨rfl, hL9⟩
    refine SR.lands hL9 ?_
    refine SR_pu (RD_pick_t rfl (rfl) rfl) rfl ?_
    refine SR_pu (RD_assign rfl) rfl ?_
    refine SR_nil ?_
    refine SN.le (l := [(4, _)]) ?_ (.cons rfl (.nil))
    refine SN_seq ?_
    refine SC_ret1 rfl rfl ?_
    exact ⟨rfl, .fin⟩
  · refine SR_no rfl rfl (hg2_7) (lts rfl) ?_
    refine SR_no rfl rfl (hg2_7) (lts rfl) ?_
    refine SR_no rfl rfl (hg2_7) (lts rfl) ?_
    refine SR_pu (RD_pick_t rfl (hg2_7) rfl) rfl ?_
    refine SR_nil ?_
    refine SN.le (l := [(0, _), (1, _), (5, _), (24, _)]) ?_ (.cons rfl (.cons rfl (.cons rfl (.cons rfl (.nil)))))
    refine SN_seq ?_
    refine SC_cond_true rfl (by first | rfl | (simp at *; omega)) ?_
    refine SC_seq ?_
    refine SC_region ?_
    refine SR_pu (RD_move rfl) rfl ?_
    refine SR_pu (RD_neqP Try.underlying23 rfl rfl) rfl ?_
    refine SR_pu (RD_move rfl) rfl ?_
    refine SR_yes rfl rfl (rfl) ?_
    refine SR_call Try.call10 (.nil) (term_awake) (lts rfl) ?_
    rintro _ L9 ⟨rfl, hL9⟩
    refine SR.lands hL9 ?_
    refine SR_pu (RD_pick_t rfl (rfl) rfl) rfl ?_
    refine SR_pu (RD_assign rfl) rfl ?_
    refine SR_nil ?_
    refine SN.le (l := [(4, _)]) ?_ (.cons rfl (.nil))
    refine SN_seq ?_
    refine SC_ret1 rfl rfl ?_
    exact ⟨rfl, .fin⟩

theorem set_byte {bs : List UInt8} {k : Nat} {x : UInt8} (hx : bs[k]? = some x) : (bs.set k (x + 1)).map byteV = (bs.map byteV).set ((k : Int).toNat * (0 + 1)) (.int .u8 (IntKind.u8.wrap ((x.toNat : Int) + 1))) := by
  have : Value.int .u8 (IntKind.u8.wrap ((x.toNat : Int) + 1)) = byteV (x + 1) := by
    unfold byteV; rw [IntKind.wrap_u8]; congr 1
  rw [this, List.map_set]; simp
theorem set_ne {bs : List UInt8} {k : Nat} {x : UInt8} (hx : bs[k]? = some x) : bs.set k (x + 1) ≠ bs := by
  intro h
  have h1 : (bs.set k (x + 1))[k]? = bs[k]? := by rw [h]
  rw [List.getElem?_set_self (List.getElem?_eq_some_iff.1 hx).1, hx] at h1
  have := congrArg UInt8.toNat (Option.some.inj h1)
  rw [UInt8.toNat_add] at this
  have h3 := x.toNat_lt
  have h4 : (1 : UInt8).toNat = 1 := rfl
  rw [h4] at this
  omega
theorem dnum_two {bs cs : List UInt8} (h : cs ≠ bs) : dput [bs] cs = [bs, cs] ∧ dnum [bs, cs] cs = 2 := by
  constructor
  · simp [dput, h]
  · simp [dnum, h]
theorem dnum_one (bs : List UInt8) : dput [] bs = [bs] ∧ dnum [bs] bs = 1 ∧ dput [bs] bs = [bs] := by simp [dput, dnum]

theorem law_TermOwn_long {W : World} {F : List HProp} [Abs F] (a : Option Addr) (n c : Nat) (bs : List UInt8) [HasRow F a (bs.map byteV)] (hn : bs.length = n) (at_ : Int) (h0 : 0 < n) (h2 : n ≤ 200) :
    CallsK W Try.prog 6 #[.slice a n c, .int .i64 at_] (F) (fun v L => v = .bool true ∧ Lands L F) := by
  refine CallsK_enter (n := 103) Try.func6 rfl rfl rfl ?_
  subst hn
  obtain ⟨k, hk⟩ : ∃ k : Nat, at_ % 256 % (bs.length : Int) = (k : Int) := ⟨(at_ % 256 % (bs.length : Int)).toNat, by rw [Int.toNat_of_nonneg (Int.emod_nonneg _ (by omega))]⟩
  have hkb : k < bs.length := by have := Int.emod_lt_of_pos (at_ % 256) (show (0 : Int) < bs.length by omega); omega
  obtain ⟨x, hx⟩ : ∃ x, bs[k]? = some x := ⟨_, List.getElem?_eq_getElem hkb⟩
  refine SC_seq ?_
  refine SC_region ?_
  refine SR_pu (RD_assign rfl) rfl ?_
  refine SR_nil ?_
  refine SN.le (l := [(0, _), (1, _)]) ?_ (.cons rfl (.cons rfl (.nil)))
  refine SN_seq ?_
  refine SC_seq ?_
  refine SC_region ?_
  refine SR_call Try.call7 (.nil) (term_New) (lts rfl) ?_
  rintro _ L0 ⟨p, rfl, hL0⟩
  refine SR.lands hL0 ?_
  refine SR_pu (RD_assign rfl) rfl ?_
  refine SR_nil ?_
  refine SN.le (l := [(0, _), (1, _), (5, _)]) ?_ (.cons rfl (.cons rfl (.cons rfl (.nil))))
  refine SN_seq ?_
  refine SC_seq ?_
  refine SC_seq ?_
  refine SC_region ?_
  refine SR_pu (RD_move rfl) rfl ?_
  refine SR_pu (RD_eqlP Try.underlying23 rfl rfl) rfl ?_
  refine SR_pu (RD_move rfl) rfl ?_
  refine SR_yes rfl rfl (rfl) ?_
  refine SR_pu (RD_move rfl) rfl ?_
  refine SR_yes rfl rfl (rfl) ?_
  refine SR_pu (RD_len Try.runUnderlying26 rfl) rfl ?_
  refine SR_yes rfl rfl (rfl) ?_
  refine SR_pu (RD_eql rfl rfl) rfl ?_
  refine SR_pu (RD_pick_f rfl (rfl) rfl) rfl ?_
  refine SR_pu (RD_move rfl) rfl ?_
  refine SR_yes rfl rfl (by first | rfl | exact decide_eq_true (by omega) | exact decide_eq_false (by omega) | decide | (simp; done) | (simp; omega)) ?_
  refine SR_pu (RD_move rfl) rfl ?_
  refine SR_yes rfl rfl (by first | rfl | exact decide_eq_true (by omega) | exact decide_eq_false (by omega) | decide | (simp; done) | (simp; omega)) ?_
  refine SR_pu (RD_len Try.runUnderlying26 rfl) rfl ?_
  refine SR_yes rfl rfl (by first | rfl | exact decide_eq_true (by omega) | exact decide_eq_false (by omega) | decide | (simp; done) | (simp; omega)) ?_
  refine SR_pu (RD_gtr rfl rfl) rfl ?_
  refine SR_pu (RD_pick_f rfl (by first | rfl | exact decide_eq_true (by omega) | exact decide_eq_false (by omega) | decide | (simp; done) | (simp; omega)) rfl) rfl ?_
  refine SR_nil ?_
  refine SN.le (l := [(0, _), (1, _), (5, _), (24, _)]) ?_ (.cons rfl (.cons rfl (.cons rfl (.cons rfl (.nil)))))
  refine SN_seq ?_
  refine SC_cond_false rfl (by first | rfl | exact decide_eq_true (by omega) | exact decide_eq_false (by omega) | decide | (simp; done) | (simp; omega)) ?_
  refine SC_skip ?_
  refine SN_seq ?_
  refine SC_seq ?_
  refine SC_region ?_
  refine SR_pu (RD_move rfl) rfl ?_
  refine SR_rd (RD_b2s (bs := bs) Try.underlying26 Try.underlying9 Try.underlying5 rfl (rfl)) Has.ro rfl ?_
  refine SR_pu (RD_assign rfl) rfl ?_
  refine SR_nil ?_
  refine SN.le (l := [(0, _), (1, _), (5, _), (6, _)]) ?_ (.cons rfl (.cons rfl (.cons rfl (.cons rfl (.nil)))))
  refine SN_seq ?_
  refine SC_seq ?_
  refine SC_region ?_
  refine SR_ox (OX_buildSlice0 Try.runUnderlying26 Try.sizeOf5) rfl ?_
  rintro _ _ ⟨b32, rfl, rfl⟩
  refine SR_pu (RD_move rfl) rfl ?_
  refine SR_ox (OX_app0 1 Try.underlying26 Try.underlying26 Try.type5 rfl rfl rfl rfl rfl (by simp) 1 rfl (by omega) (by omega)) rfl ?_
  rintro _ _ ⟨a34, c34, rfl, rfl⟩
  refine SR_pu (RD_assign rfl) rfl ?_
  refine SR_nil ?_
  refine SN.le (l := [(0, _), (1, _), (5, _), (6, _)]) ?_ (.cons rfl (.cons rfl (.cons rfl (.cons rfl (.nil)))))
  refine SN_seq ?_
  refine SC_seq ?_
  refine SC_region ?_
  refine SR_pu (RD_move rfl) rfl ?_
  refine SR_pu (RD_move rfl) rfl ?_
  refine SR_call Try.call8 (.cons rfl (.cons rfl (.nil))) (CallsK.at (term_Digest p [] _ _ _ bs (rfl) ((by simp)) (by first | decide | (simp; done) | (simp; omega)) [bs] 1 ((dnum_one bs).1) ((dnum_one bs).2.1))) (lts rfl) ?_
  rintro _ L1 ⟨rfl, hL1⟩
  refine SR.lands hL1 ?_
  refine SR_pu (RD_assign rfl) rfl ?_
  refine SR_nil ?_
  refine SN.le (l := [(0, _), (1, _), (5, _), (6, _), (7, _)]) ?_ (.cons rfl (.cons rfl (.cons rfl (.cons rfl (.cons rfl (.nil))))))
  refine SN_seq ?_
  refine SC_seq ?_
  refine SC_region ?_
  refine SR_pu (RD_move rfl) rfl ?_
  refine SR_pu (RD_move rfl) rfl ?_
  refine SR_pu (RD_mask 8 rfl rfl rfl (by decide) 256 rfl) rfl ?_
  refine SR_pu (RD_move rfl) rfl ?_
  refine SR_pu (RD_len Try.runUnderlying26 rfl) rfl ?_
  refine SR_pu (RD_remk rfl rfl (by omega) (by omega) hk) rfl ?_
  refine SR_rd (RD_ixO (cs := bs.map byteV) Try.runUnderlying26 Try.sizeOf5 rfl rfl (by simp <;> omega) (by omega) (by omega)) Has.ro rfl ?_
  refine SR_rd (RD_loadO (v := byteV x) (cs := bs.map byteV) Try.isAgg5 rfl (by simp [hx])) Has.ro rfl ?_
  refine SR_pu (RD_add rfl rfl) rfl ?_
  refine SR_rd (RD_ixO (cs := bs.map byteV) Try.runUnderlying26 Try.sizeOf5 rfl rfl (by simp <;> omega) (by omega) (by omega)) Has.ro rfl ?_
  refine SR_ox0 (OX_stRow Try.sizeOf5 rfl rfl (by simp <;> omega)) ?_
  rintro _ _ rfl
  refine SR_nil ?_
  refine SN.le (l := [(0, _), (1, _), (5, _), (6, _), (7, _)]) ?_ (.cons rfl (.cons rfl (.cons rfl (.cons rfl (.cons rfl (.nil))))))
  refine SN_seq ?_
  refine SC_seq ?_
  refine SC_region ?_
  refine SR_pu (RD_move rfl) rfl ?_
  refine SR_pu (RD_move rfl) rfl ?_
  refine SR_call Try.call11 (.cons rfl (.cons rfl (.nil))) (CallsK.at (term_Of_ok p [bs] 0 bs rfl (by decide))) (lts rfl) ?_
  rintro _ L2 ⟨a2, c2, rfl, hL2⟩
  refine SR.lands hL2 ?_
  refine SR_pu (RD_move rfl) rfl ?_
  refine SR_pu (RD_extract rfl rfl) rfl ?_
  refine SR_pu (RD_extract rfl rfl) rfl ?_
  refine SR_pu (RD_assign rfl) rfl ?_
  refine SR_pu (RD_assign rfl) rfl ?_
  refine SR_nil ?_
  refine SN.le (l := [(0, _), (1, _), (5, _), (6, _), (7, _), (8, _), (9, _)]) ?_ (.cons rfl (.cons rfl (.cons rfl (.cons rfl (.cons rfl (.cons rfl (.cons rfl (.nil))))))))
  refine SN_seq ?_
  refine SC_seq ?_
  refine SC_seq ?_
  refine SC_region ?_
  refine SR_pu (RD_move rfl) rfl ?_
  refine SR_pu (RD_not rfl) rfl ?_
  refine SR_pu (RD_move rfl) rfl ?_
  refine SR_yes rfl rfl (by first | rfl | exact decide_eq_true (by omega) | exact decide_eq_false (by omega) | decide | (simp; done) | (simp; omega)) ?_
  refine SR_pu (RD_move rfl) rfl ?_
  refine SR_yes rfl rfl (by first | rfl | exact decide_eq_true (by omega) | exact decide_eq_false (by omega) | decide | (simp; done) | (simp; omega)) ?_
  refine SR_rd (RD_b2s (bs := bs) Try.underlying26 Try.underlying9 Try.underlying5 rfl (rfl)) Has.ro rfl ?_
  refine SR_yes rfl rfl (by first | rfl | exact decide_eq_true (by omega) | exact decide_eq_false (by omega) | decide | (simp; done) | (simp; omega)) ?_
  refine SR_pu (RD_move rfl) rfl ?_
  refine SR_yes rfl rfl (by first | rfl | exact decide_eq_true (by omega) | exact decide_eq_false (by omega) | decide | (simp; done) | (simp; omega)) ?_
  refine SR_pu (RD_neqS rfl rfl) rfl ?_
  refine SR_pu (RD_pick_f rfl (by first | rfl | exact decide_eq_true (by omega) | exact decide_eq_false (by omega) | decide | (simp; done) | (simp; omega)) rfl) rfl ?_
  refine SR_nil ?_
  refine SN.le (l := [(0, _), (1, _), (5, _), (6, _), (7, _), (8, _), (61, _)]) ?_ (.cons rfl (.cons rfl (.cons rfl (.cons rfl (.cons rfl (.cons rfl (.cons rfl (.nil))))))))
  refine SN_seq ?_
  refine SC_cond_false rfl (by simp) ?_
  refine SC_skip ?_
  refine SN_seq ?_
  refine SC_seq ?_
  refine SC_region ?_
  refine SR_pu (RD_move rfl) rfl ?_
  refine SR_pu (RD_move rfl) rfl ?_
  refine SR_pu (RD_mask 8 rfl rfl rfl (by decide) 256 rfl) rfl ?_
  refine SR_pu (RD_move rfl) rfl ?_
  refine SR_pu (RD_len Try.runUnderlying26 rfl) rfl ?_
  refine SR_pu (RD_remk rfl rfl (by omega) (by omega) hk) rfl ?_
  refine SR_rd (RD_ixO (cs := bs.map byteV) Try.runUnderlying26 Try.sizeOf5 rfl rfl (by simp <;> omega) (by omega) (by omega)) Has.ro rfl ?_
  refine SR_rd (RD_loadO (v := byteV x) (cs := bs.map byteV) Try.isAgg5 rfl (by simp [hx])) Has.ro rfl ?_
  refine SR_pu (RD_add rfl rfl) rfl ?_
  refine SR_rd (RD_ixO (cs := bs.map byteV) Try.runUnderlying26 Try.sizeOf5 rfl rfl (by simp <;> omega) (by omega) (by omega)) Has.ro rfl ?_
  refine SR_ox0 (OX_stRow Try.sizeOf5 rfl rfl (by simp <;> omega)) ?_
  rintro _ _ rfl
  refine SR_nil ?_
  refine SN.le (l := [(0, _), (5, _), (6, _), (7, _)]) ?_ (.cons rfl (.cons rfl (.cons rfl (.cons rfl (.nil)))))
  refine SN_seq ?_
  refine SC_seq ?_
  refine SC_region ?_
  refine SR_pu (RD_move rfl) rfl ?_
  refine SR_pu (RD_move rfl) rfl ?_
  refine SR_call Try.call11 (.cons rfl (.cons rfl (.nil))) (CallsK.at (term_Of_ok p [bs] 0 bs rfl (by decide))) (lts rfl) ?_
  rintro _ L3 ⟨a3, c3, rfl, hL3⟩
  refine SR.lands hL3 ?_
  refine SR_pu (RD_move rfl) rfl ?_
  refine SR_pu (RD_extract rfl rfl) rfl ?_
  refine SR_pu (RD_extract rfl rfl) rfl ?_
  refine SR_pu (RD_assign rfl) rfl ?_
  refine SR_pu (RD_assign rfl) rfl ?_
  refine SR_nil ?_
  refine SN.le (l := [(0, _), (5, _), (6, _), (7, _), (10, _), (11, _)]) ?_ (.cons rfl (.cons rfl (.cons rfl (.cons rfl (.cons rfl (.cons rfl (.nil)))))))
  refine SN_seq ?_
  refine SC_seq ?_
  refine SC_region ?_
  refine SR_pu (RD_move rfl) rfl ?_
  refine SR_pu (RD_move rfl) rfl ?_
  refine SR_yes rfl rfl (by first | rfl | exact decide_eq_true (by omega) | exact decide_eq_false (by omega) | decide | (simp; done) | (simp; omega)) ?_
  refine SR_pu (RD_move rfl) rfl ?_
  refine SR_yes rfl rfl (by first | rfl | exact decide_eq_true (by omega) | exact decide_eq_false (by omega) | decide | (simp; done) | (simp; omega)) ?_
  refine SR_rd (RD_b2s (bs := bs) Try.underlying26 Try.underlying9 Try.underlying5 rfl (rfl)) Has.ro rfl ?_
  refine SR_yes rfl rfl (by first | rfl | exact decide_eq_true (by omega) | exact decide_eq_false (by omega) | decide | (simp; done) | (simp; omega)) ?_
  refine SR_pu (RD_move rfl) rfl ?_
  refine SR_yes rfl rfl (by first | rfl | exact decide_eq_true (by omega) | exact decide_eq_false (by omega) | decide | (simp; done) | (simp; omega)) ?_
  refine SR_pu (RD_eqlS rfl rfl) rfl ?_
  refine SR_pu (RD_pick_t rfl (by first | rfl | exact decide_eq_true (by omega) | exact decide_eq_false (by omega) | decide | (simp; done) | (simp; omega)) rfl) rfl ?_
  refine SR_pu (RD_move rfl) rfl ?_
  refine SR_yes rfl rfl (by first | rfl | exact decide_eq_true (by omega) | exact decide_eq_false (by omega) | decide | (simp; done) | (simp; omega)) ?_
  refine SR_pu (RD_move rfl) rfl ?_
  refine SR_yes rfl rfl (by first | rfl | exact decide_eq_true (by omega) | exact decide_eq_false (by omega) | decide | (simp; done) | (simp; omega)) ?_
  refine SR_pu (RD_move rfl) rfl ?_
  refine SR_yes rfl rfl (by first | rfl | exact decide_eq_true (by omega) | exact decide_eq_false (by omega) | decide | (simp; done) | (simp; omega)) ?_
  refine SR_ox (OX_s2b Try.underlying9 Try.underlying26 Try.underlying5 rfl) rfl ?_
  rintro _ _ ⟨b88, c88, rfl, rfl⟩
  refine SR_yes rfl rfl (by first | rfl | exact decide_eq_true (by omega) | exact decide_eq_false (by omega) | decide | (simp; done) | (simp; omega)) ?_
  refine SR_call Try.call8 (.cons rfl (.cons rfl (.nil))) (CallsK.at (term_Digest p [bs] _ _ _ bs (rfl) (rfl) (by first | decide | (simp; done) | (simp; omega)) [bs] 1 ((dnum_one bs).2.2) ((dnum_one bs).2.1))) (lts rfl) ?_
  rintro _ L4 ⟨rfl, hL4⟩
  refine SR.lands hL4 ?_
  refine SR_yes rfl rfl (by first | rfl | exact decide_eq_true (by omega) | exact decide_eq_false (by omega) | decide | (simp; done) | (simp; omega)) ?_
  refine SR_pu (RD_move rfl) rfl ?_
  refine SR_yes rfl rfl (by first | rfl | exact decide_eq_true (by omega) | exact decide_eq_false (by omega) | decide | (simp; done) | (simp; omega)) ?_
  refine SR_pu (RD_eql rfl rfl) rfl ?_
  refine SR_pu (RD_pick_t rfl (by first | rfl | exact decide_eq_true (by omega) | exact decide_eq_false (by omega) | decide | (simp; done) | (simp; omega)) rfl) rfl ?_
  refine SR_pu (RD_move rfl) rfl ?_
  refine SR_yes rfl rfl (by first | rfl | exact decide_eq_true (by omega) | exact decide_eq_false (by omega) | decide | (simp; done) | (simp; omega)) ?_
  refine SR_pu (RD_move rfl) rfl ?_
  refine SR_yes rfl rfl (by first | rfl | exact decide_eq_true (by omega) | exact decide_eq_false (by omega) | decide | (simp; done) | (simp; omega)) ?_
  refine SR_pu (RD_move rfl) rfl ?_
  refine SR_yes rfl rfl (by first | rfl | exact decide_eq_true (by omega) | exact decide_eq_false (by omega) | decide | (simp; done) | (simp; omega)) ?_
  refine SR_call Try.call8 (.cons rfl (.cons rfl (.nil))) (CallsK.at (term_Digest p [bs] _ _ _ (bs.set k (x + 1)) ((by rw [set_byte hx])) ((by simp)) (by first | decide | (simp; done) | (simp; omega)) [bs, bs.set k (x + 1)] 2 ((dnum_two (set_ne hx)).1) ((dnum_two (set_ne hx)).2))) (lts rfl) ?_
  rintro _ L5 ⟨rfl, hL5⟩
  refine SR.lands hL5 ?_
  refine SR_yes rfl rfl (by first | rfl | exact decide_eq_true (by omega) | exact decide_eq_false (by omega) | decide | (simp; done) | (simp; omega)) ?_
  refine SR_pu (RD_move rfl) rfl ?_
  refine SR_yes rfl rfl (by first | rfl | exact decide_eq_true (by omega) | exact decide_eq_false (by omega) | decide | (simp; done) | (simp; omega)) ?_
  refine SR_pu (RD_neq rfl rfl) rfl ?_
  refine SR_pu (RD_pick_t rfl (by first | rfl | exact decide_eq_true (by omega) | exact decide_eq_false (by omega) | decide | (simp; done) | (simp; omega)) rfl) rfl ?_
  refine SR_pu (RD_move rfl) rfl ?_
  refine SR_yes rfl rfl (by first | rfl | exact decide_eq_true (by omega) | exact decide_eq_false (by omega) | decide | (simp; done) | (simp; omega)) ?_
  refine SR_call Try.call10 (.nil) (term_awake) (lts rfl) ?_
  rintro _ L9 ⟨rfl, hL9⟩
  refine SR.lands hL9 ?_
  refine SR_pu (RD_pick_t rfl (by first | rfl | exact decide_eq_true (by omega) | exact decide_eq_false (by omega) | decide | (simp; done) | (simp; omega)) rfl) rfl ?_
  refine SR_pu (RD_assign rfl) rfl ?_
  refine SR_nil ?_
  refine SN.le (l := [(4, _)]) ?_ (.cons rfl (.nil))
  refine SN_seq ?_
  refine SC_ret1 rfl rfl ?_
  exact ⟨rfl, .fin⟩

theorem law_TermOwn {W : World} {F : List HProp} [Abs F] (a : Option Addr) (n c : Nat) (bs : List UInt8) [HasRow F a (bs.map byteV)] (hn : bs.length = n) (at_ : Int) :
    CallsK W Try.prog 6 #[.slice a n c, .int .i64 at_] (F) (fun v L => v = .bool true ∧ Lands L F) := by
  by_cases h : n = 0 ∨ 200 < n
  · exact law_TermOwn_short a n c bs hn at_ h
  · exact law_TermOwn_long a n c bs hn at_ (by omega) (by omega)

def dall (l : List BSl) : List (List UInt8) := l.foldl (fun r s => dput r s.bs) []
theorem dall_snoc (l : List BSl) (s : BSl) : dall (l ++ [s]) = dput (dall l) s.bs := by simp [dall]
theorem dput_len (l : List (List UInt8)) (s : List UInt8) : (dput l s).length ≤ l.length + 1 := by unfold dput; split <;> simp
theorem dall_take (l : List BSl) (i : Nat) (s : BSl) (h : l[i]? = some s) : dall (l.take (i + 1)) = dput (dall (l.take i)) s.bs := by
  rw [List.take_add_one, h]; exact dall_snoc _ _

theorem law_TermTells {W : World} {F : List HProp} [Abs F] (a : Option Addr) (n c : Nat) (l : List BSl) [HasRow F a (l.map BSl.val)] (hln : l.length = n) (hl : ∀ s ∈ l, s.Ok F) (a2 : Option Addr) (n2 c2 : Nat) (ask : List Int) [HasRow F a2 (ask.map intV)] (hask0 : ask.length = n2) :
    CallsK W Try.prog 5 #[.slice a n c, .slice a2 n2 c2] (F) (fun v L => v = .bool true ∧ Lands L F) := by
  refine CallsK_enter (n := 110) Try.func5 rfl rfl rfl ?_
  refine SC_seq ?_
  refine SC_region ?_
  refine SR_pu (RD_assign rfl) rfl ?_
  refine SR_nil ?_
  refine SN.le (l := [(0, _), (1, _)]) ?_ (.cons rfl (.cons rfl (.nil)))
  refine SN_seq ?_
  refine SC_seq ?_
  refine SC_region ?_
  refine SR_call Try.call7 (.nil) (term_New) (lts rfl) ?_
  rintro _ L0 ⟨p, rfl, hL0⟩
  refine SR.lands hL0 ?_
  refine SR_pu (RD_assign rfl) rfl ?_
  refine SR_nil ?_
  refine SN.le (l := [(0, _), (1, _), (5, _)]) ?_ (.cons rfl (.cons rfl (.cons rfl (.nil))))
  refine SN_seq ?_
  refine SC_seq ?_
  refine SC_seq ?_
  refine SC_region ?_
  refine SR_pu (RD_move rfl) rfl ?_
  refine SR_pu (RD_eqlP Try.underlying23 rfl rfl) rfl ?_
  refine SR_nil ?_
  refine SN.le (l := [(0, _), (1, _), (5, _), (13, _)]) ?_ (.cons rfl (.cons rfl (.cons rfl (.cons rfl (.nil)))))
  refine SN_seq ?_
  refine SC_cond_false rfl (rfl) ?_
  refine SC_skip ?_
  refine SN_seq ?_
  refine SC_seq ?_
  refine SC_region ?_
  refine SR_pu (RD_build (.nil) built38) rfl ?_
  refine SR_ox (OX_box rfl rfl) rfl ?_
  rintro _ _ ⟨q, rfl, rfl⟩
  refine SR_pu (RD_assign rfl) rfl ?_
  refine SR_nil ?_
  refine SN.le (l := [(0, _), (1, _), (5, _), (6, _)]) ?_ (.cons rfl (.cons rfl (.cons rfl (.cons rfl (.nil)))))
  refine SN_seq ?_
  refine SC_seq ?_
  refine SC_seq ?_
  refine SC.lands ((row_new 9 1 none).trans ((close_ref (p := q) (l := []) rfl).trans .fin) : Lands _ (At arenaI p [] :: At refI q [] :: F)) ?_
  refine SC_region ?_
  refine SR_pu (RD_assign rfl) rfl ?_
  refine SR_nil ?_
  refine SN.le (l := [(0, _), (1, _), (5, _), (6, _), (7, _)]) ?_ (.cons rfl (.cons rfl (.cons rfl (.cons rfl (.cons rfl (.nil))))))
  refine SN_seq ?_
  refine SC_block ?_
  refine SC_ind (X := Nat) (fun i => i ≤ 40 ∧ (dall (l.take i)).length ≤ i) (fun i => 40 - i) (fun i => [(0, .slice a n c), (1, .slice a2 n2 c2), (5, .pointer (some ⟨p, 0, none⟩)), (6, .pointer (some ⟨q, 0, none⟩)), (7, .int .i64 (i : Nat))]) (fun i => At arenaI p (dall (l.take i)) :: At refI q (dall (l.take i)) :: F) (0) (⟨by omega, by simp [dall]⟩) (.cons rfl (.cons rfl (.cons rfl (.cons rfl (.cons rfl (.nil)))))) (by have e : dall (l.take 0) = [] := rfl; rw [e]; exact .fin) ?_
  intro i hi ih
  obtain ⟨hi1, hi2⟩ := hi
  refine SC_seq ?_
  refine SC_seq ?_
  refine SC_region ?_
  refine SR_pu (RD_move rfl) rfl ?_
  refine SR_pu (RD_move rfl) rfl ?_
  refine SR_pu (RD_len Try.runUnderlying34 rfl) rfl ?_
  refine SR_pu (RD_lss rfl rfl) rfl ?_
  refine SR_pu (RD_move rfl) rfl ?_
  refine SR_guard rfl rfl (fun hg6_4 => ?_) (fun hg6_4 => ?_)
  · refine SR_yes rfl rfl (hg6_4) ?_
    refine SR_pu (RD_move rfl) rfl ?_
    refine SR_yes rfl rfl (hg6_4) ?_
    refine SR_pu (RD_lss rfl rfl) rfl ?_
    refine SR_pu (RD_pick_t rfl (hg6_4) rfl) rfl ?_
    refine SR_nil ?_
    refine SN.le (l := [(0, _), (1, _), (5, _), (6, _), (7, _), (23, _)]) ?_ (.cons rfl (.cons rfl (.cons rfl (.cons rfl (.cons rfl (.cons rfl (.nil)))))))
    refine SN_seq ?_
    refine SC_cond rfl (fun hc23 => ?_) (fun hc23 => ?_)
    · have hil : i < l.length := by simp at hg6_4; omega
      have hi40 : i < 40 := by simp at hc23; omega
      obtain ⟨s, hs⟩ : ∃ s, l[i]? = some s := ⟨_, List.getElem?_eq_getElem hil⟩
      have hok := hl s (List.mem_of_getElem? hs)
      haveI := hok.r
      refine SC_skip ?_
      refine SN_seq ?_
      refine SC_seq ?_
      refine SC_block ?_
      refine SC_seq ?_
      refine SC_seq ?_
      refine SC_region ?_
      refine SR_pu (RD_move rfl) rfl ?_
      refine SR_pu (RD_move rfl) rfl ?_
      refine SR_rd (RD_ixO (cs := l.map BSl.val) Try.runUnderlying34 Try.sizeOf26 rfl rfl (by simpa using hln) (by omega) (by omega)) Has.ro rfl ?_
      refine SR_rd (RD_loadO (v := s.val) (cs := l.map BSl.val) Try.isAgg26 rfl (by simp [hs])) Has.ro rfl ?_
      refine SR_pu (RD_len Try.runUnderlying26 rfl) rfl ?_
      refine SR_pu (RD_gtr rfl rfl) rfl ?_
      refine SR_nil ?_
      refine SN.le (l := [(0, _), (1, _), (5, _), (6, _), (7, _), (31, _)]) ?_ (.cons rfl (.cons rfl (.cons rfl (.cons rfl (.cons rfl (.cons rfl (.nil)))))))
      refine SN_seq ?_
      refine SC_cond rfl (fun hc31 => ?_) (fun hc31 => ?_)
      · refine SC_seq ?_
        refine SC_region ?_
        refine SR_call Try.call10 (.nil) (term_awake) (lts rfl) ?_
        rintro _ L9 ⟨rfl, hL9⟩
        refine SR.lands hL9 ?_
        refine SR_pu (RD_assign rfl) rfl ?_
        refine SR_nil ?_
        refine SN.le (l := [(4, _)]) ?_ (.cons rfl (.nil))
        refine SN_seq ?_
        refine SC_ret1 rfl rfl ?_
        exact ⟨rfl, .fin⟩
      · have hs200 : s.n ≤ 200 := by simp at hc31; omega
        refine SC_skip ?_
        refine SN_seq ?_
        refine SC_seq ?_
        refine SC_seq ?_
        refine SC_drawn (.cons 0 true (.cons 1 true (.cons 2 true (.cons 3 true (.cons 4 true (.cons 6 true (.cons 7 true (.cons 8 true (.cons 9 true (.cons 10 true (.cons 5 false (.cons 11 false (.cons 12 true (.cons 13 true (.cons 14 true (.cons 16 true (.cons 17 true (.cons 18 true (.cons 19 true (.cons 20 true (.cons 15 false (.cons 21 true (.cons 22 true (.nil)))))))))))))))))))))))) (by kernel_rfl) (by kernel_rfl) ?_
        refine SQ_pu rfl (RD_move rfl) rfl ?_
        refine SQ_pu rfl (RD_move rfl) rfl ?_
        refine SQ_pu rfl (RD_move rfl) rfl ?_
        refine SQ_rd rfl (RD_ixO (cs := l.map BSl.val) Try.runUnderlying34 Try.sizeOf26 rfl rfl (by simpa using hln) (by omega) (by omega)) Has.ro rfl ?_
        refine SQ_rd rfl (RD_loadO (v := s.val) (cs := l.map BSl.val) Try.isAgg26 rfl (by simp [hs])) Has.ro rfl ?_
        refine SQ_pu rfl (RD_move rfl) rfl ?_
        refine SQ_pu rfl (RD_move rfl) rfl ?_
        refine SQ_pu rfl (RD_move rfl) rfl ?_
        refine SQ_rd rfl (RD_ixO (cs := l.map BSl.val) Try.runUnderlying34 Try.sizeOf26 rfl rfl (by simpa using hln) (by omega) (by omega)) Has.ro rfl ?_
        refine SQ_rd rfl (RD_loadO (v := s.val) (cs := l.map BSl.val) Try.isAgg26 rfl (by simp [hs])) Has.ro rfl ?_
        refine SQ_call rfl Try.call8 (.cons rfl (.cons rfl (.nil))) (CallsK.at (term_Digest p (dall (l.take i)) s.a s.n s.c s.bs rfl hok.hn (by omega) (dput (dall (l.take i)) s.bs) (dnum (dput (dall (l.take i)) s.bs) s.bs) rfl rfl)) (lts rfl) ?_
        rintro _ L2 ⟨rfl, hL2⟩
        refine ⟨.lands hL2 (.h Has.ro (.h Has.ro (.w rfl (.h Has.ro (.nil))))), ?_⟩
        refine SQ.lands hL2 ?_
        refine SQ_call rfl Try.call12 (.cons rfl (.cons rfl (.nil))) (CallsK.at (ref_Digest q (dall (l.take i)) s.a s.n s.c s.bs rfl hok.hn (by omega))) (lts rfl) ?_
        rintro _ L3 ⟨rfl, hL3⟩
        have hlen : (dput (dall (l.take i)) s.bs).length ≤ i + 1 := by have := dput_len (dall (l.take i)) s.bs; omega
        refine ⟨.lands hL3 (.w rfl (.h Has.ro (.h Has.ro (.h Has.ro (.nil))))), ?_⟩
        refine SQ.lands hL3 ?_
        refine SQ.op_ref (p := q) fun a3 n3 c3 hn3 => ?_
        refine SQ_pu rfl (RD_neq rfl rfl) rfl ?_
        refine SQ_pu rfl (RD_move rfl) rfl ?_
        refine SQ_pyes rfl rfl rfl (by simp) (RD_move rfl) rfl ?_
        refine SQ_pyes rfl rfl rfl (by simp) (RD_move rfl) rfl ?_
        refine SQ_pyes rfl rfl rfl (by simp) (RD_nilCheck rfl) rfl ?_
        first
          | refine SQ_pyes rfl rfl rfl (by simp) (RD_fieldAddr0 Try.runUnderlying38 rfl rfl Try.sizeOf36 rfl) rfl ?_
          | refine SQ_yes rfl rfl rfl (by simp) (RD_fieldAddrO 0 Try.runUnderlying38 rfl rfl Try.sizeOf36 rfl (by simp <;> omega)) Has.ro rfl ?_
        refine SQ_yes rfl rfl rfl (by simp) (RD_load Try.isAgg36 rfl) (Has.ce rfl) rfl ?_
        refine SQ_pyes rfl rfl rfl (by simp) (RD_len Try.runUnderlying36 rfl) rfl ?_
        refine SQ_one (SA_call rfl (.mk rfl rfl (by simp)) Try.call9 (.cons rfl (.nil)) (CallsK.at (term_Len p (dput (dall (l.take i)) s.bs))) (lts rfl) ?_)
        rintro _ L4 ⟨rfl, hL4⟩
        refine ⟨.lands hL4 (.h (Has.ce rfl) (.h Has.ro (.h Has.ro (.h Has.ro (.h Has.ro (.nil)))))), ?_⟩
        refine SQ.lands hL4 ?_
        refine SQ_pyes rfl rfl rfl (by simp) (RD_neq rfl rfl) rfl ?_
        refine SQ_pu rfl (RD_pick_f rfl (by simp) rfl) rfl ?_
        refine SQ_nil ?_
        refine SN.le (l := [(0, _), (1, _), (5, _), (6, _), (7, _), (55, _)]) ?_ (.cons rfl (.cons rfl (.cons rfl (.cons rfl (.cons rfl (.cons rfl (.nil)))))))
        refine SN_seq ?_
        refine SC_cond_false rfl (by simp; omega) ?_
        refine SC_skip ?_
        refine SN_seq ?_
        refine SC_seq ?_
        refine SC_region ?_
        refine SR_pu (RD_move rfl) rfl ?_
        refine SR_pu (RD_assign rfl) rfl ?_
        refine SR_nil ?_
        refine SN.le (l := [(0, _), (1, _), (5, _), (6, _), (7, _), (8, _)]) ?_ (.cons rfl (.cons rfl (.cons rfl (.cons rfl (.cons rfl (.cons rfl (.nil)))))))
        refine SN_seq ?_
        refine SC_seq ?_
        refine SC_seq ?_
        refine SC_region ?_
        refine SR_pu (RD_move rfl) rfl ?_
        refine SR_pu (RD_move rfl) rfl ?_
        refine SR_pu (RD_len Try.runUnderlying22 rfl) rfl ?_
        refine SR_pu (RD_lss rfl rfl) rfl ?_
        refine SR_nil ?_
        refine SN.le (l := [(0, _), (1, _), (5, _), (6, _), (7, _), (8, _), (60, _)]) ?_ (.cons rfl (.cons rfl (.cons rfl (.cons rfl (.cons rfl (.cons rfl (.cons rfl (.nil))))))))
        refine SN_seq ?_
        refine SC_join (X := Int) (fun d => [(0, .slice a n c), (1, .slice a2 n2 c2), (5, .pointer (some ⟨p, 0, none⟩)), (6, .pointer (some ⟨q, 0, none⟩)), (7, .int .i64 (i : Nat)), (8, .int .i64 d)]) (fun d => At refI q (dput (dall (l.take i)) s.bs) :: At arenaI p (dput (dall (l.take i)) s.bs) :: F) (fun d => ?_) (fun J0 => ?_)
        · rcases (show d < 1 ∨ ((dput (dall (l.take i)) s.bs).length : Int) < d ∨ ∃ k : Nat, d = ((k + 1 : Nat) : Int) ∧ k < (dput (dall (l.take i)) s.bs).length from by rcases Int.lt_or_le d 1 with h | h; exact .inl h; rcases Int.lt_or_le ((dput (dall (l.take i)) s.bs).length : Int) d with h2 | h2; exact .inr (.inl h2); exact .inr (.inr ⟨(d - 1).toNat, by omega, by omega⟩)) with hd | hd | ⟨k, rfl, hk⟩
          · refine SN_seq ?_
            refine SC_seq ?_
            refine SC_region ?_
            refine SR_pu (RD_move rfl) rfl ?_
            refine SR_pu (RD_move rfl) rfl ?_
            refine SR_call Try.call11 (.cons rfl (.cons rfl (.nil))) (CallsK.at (term_Of_no p (dput (dall (l.take i)) s.bs) d (by omega))) (lts rfl) ?_
            rintro _ L5 ⟨rfl, hL5⟩
            refine SR.lands hL5 ?_
            refine SR_pu (RD_move rfl) rfl ?_
            refine SR_pu (RD_extract rfl rfl) rfl ?_
            refine SR_pu (RD_extract rfl rfl) rfl ?_
            refine SR_pu (RD_assign rfl) rfl ?_
            refine SR_pu (RD_assign rfl) rfl ?_
            refine SR_nil ?_
            refine SN.le (l := [(0, _), (1, _), (5, _), (6, _), (7, _), (8, _), (9, _), (10, _)]) ?_ (.cons rfl (.cons rfl (.cons rfl (.cons rfl (.cons rfl (.cons rfl (.cons rfl (.cons rfl (.nil)))))))))
            refine SN_seq ?_
            refine SC_seq ?_
            refine SC.op_ref (p := q) fun a3 n3 c3 hn3 => ?_
            refine SC_drawn (.cons 0 true (.cons 1 true (.cons 2 true (.cons 3 true (.cons 4 true (.cons 5 true (.cons 6 true (.cons 7 true (.cons 8 true (.cons 9 true (.cons 10 true (.cons 11 true (.cons 12 true (.cons 13 true (.cons 14 true (.cons 15 true (.cons 16 true (.cons 17 true (.cons 18 true (.cons 19 true (.cons 20 true (.cons 21 true (.cons 22 true (.cons 23 true (.cons 24 true (.cons 25 true (.cons 26 true (.cons 27 true (.cons 28 true (.cons 29 true (.cons 30 true (.cons 31 true (.cons 32 true (.cons 33 true (.cons 34 true (.cons 35 true (.cons 36 true (.cons 37 true (.nil))))))))))))))))))))))))))))))))))))))) (by kernel_rfl) (by kernel_rfl) ?_
            refine SQ_pu rfl (RD_move rfl) rfl ?_
            refine SQ_pu rfl (RD_move rfl) rfl ?_
            refine SQ_pu rfl (RD_geq rfl rfl) rfl ?_
            refine SQ_pu rfl (RD_move rfl) rfl ?_
            refine SQ_no rfl rfl rfl (by first | rfl | exact decide_eq_true (by omega) | exact decide_eq_false (by omega) | decide | (simp; done) | (simp; omega)) (lts rfl) ?_
            refine SQ_no rfl rfl rfl (by first | rfl | exact decide_eq_true (by omega) | exact decide_eq_false (by omega) | decide | (simp; done) | (simp; omega)) (lts rfl) ?_
            refine SQ_no rfl rfl rfl (by first | rfl | exact decide_eq_true (by omega) | exact decide_eq_false (by omega) | decide | (simp; done) | (simp; omega)) (lts rfl) ?_
            refine SQ_no rfl rfl rfl (by first | rfl | exact decide_eq_true (by omega) | exact decide_eq_false (by omega) | decide | (simp; done) | (simp; omega)) (lts rfl) ?_
            refine SQ_no rfl rfl rfl (by first | rfl | exact decide_eq_true (by omega) | exact decide_eq_false (by omega) | decide | (simp; done) | (simp; omega)) (lts rfl) ?_
            refine SQ_no rfl rfl rfl (by first | rfl | exact decide_eq_true (by omega) | exact decide_eq_false (by omega) | decide | (simp; done) | (simp; omega)) (lts rfl) ?_
            refine SQ_no rfl rfl rfl (by first | rfl | exact decide_eq_true (by omega) | exact decide_eq_false (by omega) | decide | (simp; done) | (simp; omega)) (lts rfl) ?_
            refine SQ_pu rfl (RD_pick_f rfl (by first | rfl | exact decide_eq_true (by omega) | exact decide_eq_false (by omega) | decide | (simp; done) | (simp; omega)) rfl) rfl ?_
            refine SQ_pu rfl (RD_neqB Try.underlying4 rfl rfl) rfl ?_
            refine SQ_pu rfl (RD_move rfl) rfl ?_
            refine SQ_pyes rfl rfl rfl (by first | rfl | exact decide_eq_true (by omega) | exact decide_eq_false (by omega) | decide | (simp; done) | (simp; omega)) (RD_move rfl) rfl ?_
            refine SQ_pyes rfl rfl rfl (by first | rfl | exact decide_eq_true (by omega) | exact decide_eq_false (by omega) | decide | (simp; done) | (simp; omega)) (RD_move rfl) rfl ?_
            refine SQ_no rfl rfl rfl (rfl) (lts rfl) ?_
            refine SQ_no rfl rfl rfl (rfl) (lts rfl) ?_
            refine SQ_no rfl rfl rfl (rfl) (lts rfl) ?_
            refine SQ_no rfl rfl rfl (rfl) (lts rfl) ?_
            refine SQ_no rfl rfl rfl (rfl) (lts rfl) ?_
            refine SQ_no rfl rfl rfl (rfl) (lts rfl) ?_
            refine SQ_no rfl rfl rfl (rfl) (lts rfl) ?_
            refine SQ_no rfl rfl rfl (rfl) (lts rfl) ?_
            refine SQ_no rfl rfl rfl (rfl) (lts rfl) ?_
            refine SQ_no rfl rfl rfl (rfl) (lts rfl) ?_
            refine SQ_no rfl rfl rfl (rfl) (lts rfl) ?_
            refine SQ_pyes rfl rfl rfl (by first | rfl | exact decide_eq_true (by omega) | exact decide_eq_false (by omega) | decide | (simp; done) | (simp; omega)) (RD_pick_f rfl (rfl) rfl) rfl ?_
            refine SQ_pu rfl (RD_pick_f rfl (by first | rfl | exact decide_eq_true (by omega) | exact decide_eq_false (by omega) | decide | (simp; done) | (simp; omega)) rfl) rfl ?_
            refine SQ_pu rfl (RD_move rfl) rfl ?_
            refine SQ_pyes rfl rfl rfl (rfl) (RD_move rfl) rfl ?_
            refine SQ_pyes rfl rfl rfl (rfl) (RD_not rfl) rfl ?_
            refine SQ_pyes rfl rfl rfl (rfl) (RD_move rfl) rfl ?_
            refine SQ_pyes rfl rfl rfl (rfl) (RD_move rfl) rfl ?_
            refine SQ_pyes rfl rfl rfl (rfl) (RD_len Try.runUnderlying26 rfl) rfl ?_
            refine SQ_pyes rfl rfl rfl (rfl) (RD_gtr rfl rfl) rfl ?_
            refine SQ_pyes rfl rfl rfl (rfl) (RD_pick_t rfl (rfl) rfl) rfl ?_
            refine SQ_pu rfl (RD_pick_f rfl (rfl) rfl) rfl ?_
            refine SQ_nil ?_
            refine SN.le (l := [(0, _), (1, _), (5, _), (6, _), (7, _), (108, _)]) ?_ (.cons rfl (.cons rfl (.cons rfl (.cons rfl (.cons rfl (.cons rfl (.nil)))))))
            refine SN_seq ?_
            refine SC_cond_false rfl (by first | rfl | simp) ?_
            refine SC_skip ?_
            refine SN_block ?_
            refine SN_seq ?_
            refine SC_region ?_
            refine SR_pu (RD_move rfl) rfl ?_
            refine SR_pu (RD_addi rfl rfl (by omega) (by omega)) rfl ?_
            refine SR_pu (RD_assign rfl) rfl ?_
            refine SR_nil ?_
            refine SN.le (l := [(0, _), (1, _), (5, _), (6, _), (7, _)]) ?_ (.cons rfl (.cons rfl (.cons rfl (.cons rfl (.cons rfl (.nil))))))
            refine SC_again (ih (i + 1) (⟨by omega, by rw [dall_take l i s hs]; exact hlen⟩) (by omega)) (?_) (.cons rfl (.cons rfl (.cons rfl (.cons rfl (.cons' rfl (ie (by omega)) (.nil))))))
            rw [dall_take l i s hs]
            exact (close_ref (p := q) (l := (dput (dall (l.take i)) s.bs)) rfl).trans .fin
          · refine SN_seq ?_
            refine SC_seq ?_
            refine SC_region ?_
            refine SR_pu (RD_move rfl) rfl ?_
            refine SR_pu (RD_move rfl) rfl ?_
            refine SR_call Try.call11 (.cons rfl (.cons rfl (.nil))) (CallsK.at (term_Of_no p (dput (dall (l.take i)) s.bs) d (by omega))) (lts rfl) ?_
            rintro _ L5 ⟨rfl, hL5⟩
            refine SR.lands hL5 ?_
            refine SR_pu (RD_move rfl) rfl ?_
            refine SR_pu (RD_extract rfl rfl) rfl ?_
            refine SR_pu (RD_extract rfl rfl) rfl ?_
            refine SR_pu (RD_assign rfl) rfl ?_
            refine SR_pu (RD_assign rfl) rfl ?_
            refine SR_nil ?_
            refine SN.le (l := [(0, _), (1, _), (5, _), (6, _), (7, _), (8, _), (9, _), (10, _)]) ?_ (.cons rfl (.cons rfl (.cons rfl (.cons rfl (.cons rfl (.cons rfl (.cons rfl (.cons rfl (.nil)))))))))
            refine SN_seq ?_
            refine SC_seq ?_
            refine SC.op_ref (p := q) fun a3 n3 c3 hn3 => ?_
            refine SC_drawn (.cons 0 true (.cons 1 true (.cons 2 true (.cons 3 true (.cons 4 true (.cons 5 true (.cons 6 true (.cons 7 true (.cons 8 true (.cons 9 true (.cons 10 true (.cons 11 true (.cons 12 true (.cons 13 true (.cons 14 true (.cons 15 true (.cons 16 true (.cons 17 true (.cons 18 true (.cons 19 true (.cons 20 true (.cons 21 true (.cons 22 true (.cons 23 true (.cons 24 true (.cons 25 true (.cons 26 true (.cons 27 true (.cons 28 true (.cons 29 true (.cons 30 true (.cons 31 true (.cons 32 true (.cons 33 true (.cons 34 true (.cons 35 true (.cons 36 true (.cons 37 true (.nil))))))))))))))))))))))))))))))))))))))) (by kernel_rfl) (by kernel_rfl) ?_
            refine SQ_pu rfl (RD_move rfl) rfl ?_
            refine SQ_pu rfl (RD_move rfl) rfl ?_
            refine SQ_pu rfl (RD_geq rfl rfl) rfl ?_
            refine SQ_pu rfl (RD_move rfl) rfl ?_
            refine SQ_pyes rfl rfl rfl (by first | rfl | exact decide_eq_true (by omega) | exact decide_eq_false (by omega) | decide | (simp; done) | (simp; omega)) (RD_move rfl) rfl ?_
            refine SQ_pyes rfl rfl rfl (by first | rfl | exact decide_eq_true (by omega) | exact decide_eq_false (by omega) | decide | (simp; done) | (simp; omega)) (RD_move rfl) rfl ?_
            refine SQ_pyes rfl rfl rfl (by first | rfl | exact decide_eq_true (by omega) | exact decide_eq_false (by omega) | decide | (simp; done) | (simp; omega)) (RD_nilCheck rfl) rfl ?_
            first
              | refine SQ_pyes rfl rfl rfl (by first | rfl | exact decide_eq_true (by omega) | exact decide_eq_false (by omega) | decide | (simp; done) | (simp; omega)) (RD_fieldAddr0 Try.runUnderlying38 rfl rfl Try.sizeOf36 rfl) rfl ?_
              | refine SQ_yes rfl rfl rfl (by first | rfl | exact decide_eq_true (by omega) | exact decide_eq_false (by omega) | decide | (simp; done) | (simp; omega)) (RD_fieldAddrO 0 Try.runUnderlying38 rfl rfl Try.sizeOf36 rfl (by simp <;> omega)) Has.ro rfl ?_
            refine SQ_yes rfl rfl rfl (by first | rfl | exact decide_eq_true (by omega) | exact decide_eq_false (by omega) | decide | (simp; done) | (simp; omega)) (RD_load Try.isAgg36 rfl) (Has.ce rfl) rfl ?_
            refine SQ_pyes rfl rfl rfl (by first | rfl | exact decide_eq_true (by omega) | exact decide_eq_false (by omega) | decide | (simp; done) | (simp; omega)) (RD_len Try.runUnderlying36 rfl) rfl ?_
            refine SQ_pyes rfl rfl rfl (by first | rfl | exact decide_eq_true (by omega) | exact decide_eq_false (by omega) | decide | (simp; done) | (simp; omega)) (RD_leq rfl rfl) rfl ?_
            refine SQ_pu rfl (RD_pick_t rfl (by first | rfl | exact decide_eq_true (by omega) | exact decide_eq_false (by omega) | decide | (simp; done) | (simp; omega)) rfl) rfl ?_
            refine SQ_pu rfl (RD_neqB Try.underlying4 rfl rfl) rfl ?_
            refine SQ_pu rfl (RD_move rfl) rfl ?_
            refine SQ_pyes rfl rfl rfl (by simp; omega) (RD_move rfl) rfl ?_
            refine SQ_pyes rfl rfl rfl (by simp; omega) (RD_move rfl) rfl ?_
            refine SQ_no rfl rfl rfl (rfl) (lts rfl) ?_
            refine SQ_no rfl rfl rfl (rfl) (lts rfl) ?_
            refine SQ_no rfl rfl rfl (rfl) (lts rfl) ?_
            refine SQ_no rfl rfl rfl (rfl) (lts rfl) ?_
            refine SQ_no rfl rfl rfl (rfl) (lts rfl) ?_
            refine SQ_no rfl rfl rfl (rfl) (lts rfl) ?_
            refine SQ_no rfl rfl rfl (rfl) (lts rfl) ?_
            refine SQ_no rfl rfl rfl (rfl) (lts rfl) ?_
            refine SQ_no rfl rfl rfl (rfl) (lts rfl) ?_
            refine SQ_no rfl rfl rfl (rfl) (lts rfl) ?_
            refine SQ_no rfl rfl rfl (rfl) (lts rfl) ?_
            refine SQ_pyes rfl rfl rfl (by simp; omega) (RD_pick_f rfl (rfl) rfl) rfl ?_
            refine SQ_pu rfl (RD_pick_f rfl (by simp; omega) rfl) rfl ?_
            refine SQ_pu rfl (RD_move rfl) rfl ?_
            refine SQ_pyes rfl rfl rfl (rfl) (RD_move rfl) rfl ?_
            refine SQ_pyes rfl rfl rfl (rfl) (RD_not rfl) rfl ?_
            refine SQ_pyes rfl rfl rfl (rfl) (RD_move rfl) rfl ?_
            refine SQ_pyes rfl rfl rfl (rfl) (RD_move rfl) rfl ?_
            refine SQ_pyes rfl rfl rfl (rfl) (RD_len Try.runUnderlying26 rfl) rfl ?_
            refine SQ_pyes rfl rfl rfl (rfl) (RD_gtr rfl rfl) rfl ?_
            refine SQ_pyes rfl rfl rfl (rfl) (RD_pick_t rfl (rfl) rfl) rfl ?_
            refine SQ_pu rfl (RD_pick_f rfl (rfl) rfl) rfl ?_
            refine SQ_nil ?_
            refine SN.le (l := [(0, _), (1, _), (5, _), (6, _), (7, _), (108, _)]) ?_ (.cons rfl (.cons rfl (.cons rfl (.cons rfl (.cons rfl (.cons rfl (.nil)))))))
            refine SN_seq ?_
            refine SC_cond_false rfl (by first | rfl | simp) ?_
            refine SC_skip ?_
            refine SN_block ?_
            refine SN_seq ?_
            refine SC_region ?_
            refine SR_pu (RD_move rfl) rfl ?_
            refine SR_pu (RD_addi rfl rfl (by omega) (by omega)) rfl ?_
            refine SR_pu (RD_assign rfl) rfl ?_
            refine SR_nil ?_
            refine SN.le (l := [(0, _), (1, _), (5, _), (6, _), (7, _)]) ?_ (.cons rfl (.cons rfl (.cons rfl (.cons rfl (.cons rfl (.nil))))))
            refine SC_again (ih (i + 1) (⟨by omega, by rw [dall_take l i s hs]; exact hlen⟩) (by omega)) (?_) (.cons rfl (.cons rfl (.cons rfl (.cons rfl (.cons' rfl (ie (by omega)) (.nil))))))
            rw [dall_take l i s hs]
            exact (close_ref (p := q) (l := (dput (dall (l.take i)) s.bs)) rfl).trans .fin
          · obtain ⟨x, hx⟩ : ∃ x, (dput (dall (l.take i)) s.bs)[k]? = some x := ⟨_, List.getElem?_eq_getElem hk⟩
            refine SN_seq ?_
            refine SC_seq ?_
            refine SC_region ?_
            refine SR_pu (RD_move rfl) rfl ?_
            refine SR_pu (RD_move rfl) rfl ?_
            refine SR_call Try.call11 (.cons rfl (.cons rfl (.nil))) (CallsK.at (term_Of_ok p (dput (dall (l.take i)) s.bs) k x hx (by omega))) (lts rfl) ?_
            rintro _ L5 ⟨a9, c9, rfl, hL5⟩
            refine SR.lands hL5 ?_
            refine SR_pu (RD_move rfl) rfl ?_
            refine SR_pu (RD_extract rfl rfl) rfl ?_
            refine SR_pu (RD_extract rfl rfl) rfl ?_
            refine SR_pu (RD_assign rfl) rfl ?_
            refine SR_pu (RD_assign rfl) rfl ?_
            refine SR_nil ?_
            refine SN.le (l := [(0, _), (1, _), (5, _), (6, _), (7, _), (8, _), (9, _), (10, _)]) ?_ (.cons rfl (.cons rfl (.cons rfl (.cons rfl (.cons rfl (.cons rfl (.cons rfl (.cons rfl (.nil)))))))))
            refine SN_seq ?_
            refine SC_seq ?_
            refine SC.op_ref (p := q) fun a3 n3 c3 hn3 => ?_
            refine SC_drawn (.cons 0 true (.cons 1 true (.cons 2 true (.cons 3 true (.cons 4 true (.cons 5 true (.cons 6 true (.cons 7 true (.cons 8 true (.cons 9 true (.cons 10 true (.cons 11 true (.cons 12 true (.cons 13 true (.cons 14 true (.cons 15 true (.cons 16 true (.cons 17 true (.cons 18 true (.cons 19 true (.cons 20 true (.cons 21 true (.cons 22 true (.cons 23 true (.cons 24 true (.cons 25 true (.cons 26 true (.cons 27 true (.cons 28 true (.cons 29 true (.cons 30 true (.cons 31 true (.cons 32 true (.cons 33 true (.cons 34 true (.cons 35 true (.cons 36 true (.cons 37 true (.nil))))))))))))))))))))))))))))))))))))))) (by kernel_rfl) (by kernel_rfl) ?_
            refine SQ_pu rfl (RD_move rfl) rfl ?_
            refine SQ_pu rfl (RD_move rfl) rfl ?_
            refine SQ_pu rfl (RD_geq rfl rfl) rfl ?_
            refine SQ_pu rfl (RD_move rfl) rfl ?_
            refine SQ_pyes rfl rfl rfl (by first | rfl | exact decide_eq_true (by omega) | exact decide_eq_false (by omega) | decide | (simp; done) | (simp; omega)) (RD_move rfl) rfl ?_
            refine SQ_pyes rfl rfl rfl (by first | rfl | exact decide_eq_true (by omega) | exact decide_eq_false (by omega) | decide | (simp; done) | (simp; omega)) (RD_move rfl) rfl ?_
            refine SQ_pyes rfl rfl rfl (by first | rfl | exact decide_eq_true (by omega) | exact decide_eq_false (by omega) | decide | (simp; done) | (simp; omega)) (RD_nilCheck rfl) rfl ?_
            first
              | refine SQ_pyes rfl rfl rfl (by first | rfl | exact decide_eq_true (by omega) | exact decide_eq_false (by omega) | decide | (simp; done) | (simp; omega)) (RD_fieldAddr0 Try.runUnderlying38 rfl rfl Try.sizeOf36 rfl) rfl ?_
              | refine SQ_yes rfl rfl rfl (by first | rfl | exact decide_eq_true (by omega) | exact decide_eq_false (by omega) | decide | (simp; done) | (simp; omega)) (RD_fieldAddrO 0 Try.runUnderlying38 rfl rfl Try.sizeOf36 rfl (by simp <;> omega)) Has.ro rfl ?_
            refine SQ_yes rfl rfl rfl (by first | rfl | exact decide_eq_true (by omega) | exact decide_eq_false (by omega) | decide | (simp; done) | (simp; omega)) (RD_load Try.isAgg36 rfl) (Has.ce rfl) rfl ?_
            refine SQ_pyes rfl rfl rfl (by first | rfl | exact decide_eq_true (by omega) | exact decide_eq_false (by omega) | decide | (simp; done) | (simp; omega)) (RD_len Try.runUnderlying36 rfl) rfl ?_
            refine SQ_pyes rfl rfl rfl (by first | rfl | exact decide_eq_true (by omega) | exact decide_eq_false (by omega) | decide | (simp; done) | (simp; omega)) (RD_leq rfl rfl) rfl ?_
            refine SQ_pu rfl (RD_pick_t rfl (by first | rfl | exact decide_eq_true (by omega) | exact decide_eq_false (by omega) | decide | (simp; done) | (simp; omega)) rfl) rfl ?_
            refine SQ_pu rfl (RD_neqB Try.underlying4 rfl rfl) rfl ?_
            refine SQ_pu rfl (RD_move rfl) rfl ?_
            refine SQ_pyes rfl rfl rfl (by simp; omega) (RD_move rfl) rfl ?_
            refine SQ_pyes rfl rfl rfl (by simp; omega) (RD_move rfl) rfl ?_
            refine SQ_pyes rfl rfl rfl (rfl) (RD_move rfl) rfl ?_
            refine SQ_yes rfl rfl rfl (rfl) (RD_b2s (bs := x) Try.underlying26 Try.underlying9 Try.underlying5 rfl rfl) Has.ro rfl ?_
            refine SQ_pyes rfl rfl rfl (rfl) (RD_move rfl) rfl ?_
            refine SQ_pyes rfl rfl rfl (rfl) (RD_nilCheck rfl) rfl ?_
            first
              | refine SQ_pyes rfl rfl rfl (rfl) (RD_fieldAddr0 Try.runUnderlying38 rfl rfl Try.sizeOf36 rfl) rfl ?_
              | refine SQ_yes rfl rfl rfl (rfl) (RD_fieldAddrO 0 Try.runUnderlying38 rfl rfl Try.sizeOf36 rfl (by simp <;> omega)) Has.ro rfl ?_
            refine SQ_yes rfl rfl rfl (rfl) (RD_load Try.isAgg36 rfl) (Has.ce rfl) rfl ?_
            refine SQ_pyes rfl rfl rfl (rfl) (RD_move rfl) rfl ?_
            refine SQ_pyes rfl rfl rfl (rfl) (RD_subv (k : Nat) rfl rfl (by omega) (by omega) (by omega)) rfl ?_
            refine SQ_yes rfl rfl rfl (rfl) (RD_ixO (cs := (dput (dall (l.take i)) s.bs).map strV) Try.runUnderlying36 Try.sizeOf9 rfl rfl (by simpa using hn3) (by omega) (by omega)) Has.ro rfl ?_
            refine SQ_yes rfl rfl rfl (rfl) (RD_loadO (v := strV x) (cs := (dput (dall (l.take i)) s.bs).map strV) Try.isAgg9 rfl (by simp [hx])) Has.ro rfl ?_
            refine SQ_pyes rfl rfl rfl (rfl) (RD_neqS (a := bstr x) (b := bstr x) rfl rfl) rfl ?_
            refine SQ_pyes rfl rfl rfl (by simp; omega) (RD_pick_t rfl (rfl) rfl) rfl ?_
            refine SQ_pu rfl (RD_pick_f rfl (by simp; omega) rfl) rfl ?_
            refine SQ_pu rfl (RD_move rfl) rfl ?_
            refine SQ_pyes rfl rfl rfl (by simp) (RD_move rfl) rfl ?_
            refine SQ_pyes rfl rfl rfl (by simp) (RD_not rfl) rfl ?_
            refine SQ_pyes rfl rfl rfl (by simp) (RD_move rfl) rfl ?_
            refine SQ_no rfl rfl rfl (rfl) (lts rfl) ?_
            refine SQ_no rfl rfl rfl (rfl) (lts rfl) ?_
            refine SQ_no rfl rfl rfl (rfl) (lts rfl) ?_
            refine SQ_pyes rfl rfl rfl (by simp) (RD_pick_f rfl (rfl) rfl) rfl ?_
            refine SQ_pu rfl (RD_pick_f rfl (by simp) rfl) rfl ?_
            refine SQ_nil ?_
            refine SN.le (l := [(0, _), (1, _), (5, _), (6, _), (7, _), (108, _)]) ?_ (.cons rfl (.cons rfl (.cons rfl (.cons rfl (.cons rfl (.cons rfl (.nil)))))))
            refine SN_seq ?_
            refine SC_cond_false rfl (by first | rfl | simp) ?_
            refine SC_skip ?_
            refine SN_block ?_
            refine SN_seq ?_
            refine SC_region ?_
            refine SR_pu (RD_move rfl) rfl ?_
            refine SR_pu (RD_addi rfl rfl (by omega) (by omega)) rfl ?_
            refine SR_pu (RD_assign rfl) rfl ?_
            refine SR_nil ?_
            refine SN.le (l := [(0, _), (1, _), (5, _), (6, _), (7, _)]) ?_ (.cons rfl (.cons rfl (.cons rfl (.cons rfl (.cons rfl (.nil))))))
            refine SC_again (ih (i + 1) (⟨by omega, by rw [dall_take l i s hs]; exact hlen⟩) (by omega)) (?_) (.cons rfl (.cons rfl (.cons rfl (.cons rfl (.cons' rfl (ie (by omega)) (.nil))))))
            rw [dall_take l i s hs]
            exact (close_ref (p := q) (l := (dput (dall (l.take i)) s.bs)) rfl).trans .fin
        · refine SC_cond rfl (fun hc60 => ?_) (fun hc60 => ?_)
          · have hask : i < ask.length := by simp at hc60; omega
            obtain ⟨y, hy⟩ : ∃ y, ask[i]? = some y := ⟨_, List.getElem?_eq_getElem hask⟩
            refine SC_region ?_
            refine SR_pu (RD_move rfl) rfl ?_
            refine SR_pu (RD_move rfl) rfl ?_
            refine SR_rd (RD_ixO (cs := ask.map intV) Try.runUnderlying22 Try.sizeOf3 rfl rfl (by simpa using hask0) (by omega) (by omega)) Has.ro rfl ?_
            refine SR_rd (RD_loadO (v := intV y) (cs := ask.map intV) Try.isAgg3 rfl (by simp [hy])) Has.ro rfl ?_
            refine SR_pu (RD_assign rfl) rfl ?_
            refine SR_nil ?_
            refine SN.le (l := [(0, _), (1, _), (5, _), (6, _), (7, _), (8, _)]) ?_ (.cons rfl (.cons rfl (.cons rfl (.cons rfl (.cons rfl (.cons rfl (.nil)))))))
            exact J0 (y) _ _ (.cons rfl (.cons rfl (.cons rfl (.cons rfl (.cons rfl (.cons rfl (.nil))))))) ((close_ref (p := q) (l := (dput (dall (l.take i)) s.bs)) rfl).trans .fin)
          · refine SC_skip ?_
            exact J0 ((i : Int)) _ _ (.cons rfl (.cons rfl (.cons rfl (.cons rfl (.cons rfl (.cons rfl (.nil))))))) ((close_ref (p := q) (l := (dput (dall (l.take i)) s.bs)) rfl).trans .fin)
    · refine SC_exit rfl ?_
      refine SN_seq ?_
      refine SC_seq ?_
      refine SC_region ?_
      refine SR_call Try.call10 (.nil) (term_awake) (lts rfl) ?_
      rintro _ L9 ⟨rfl, hL9⟩
      refine SR.lands hL9 ?_
      refine SR_pu (RD_assign rfl) rfl ?_
      refine SR_nil ?_
      refine SN.le (l := [(4, _)]) ?_ (.cons rfl (.nil))
      refine SN_seq ?_
      refine SC_ret1 rfl rfl ?_
      exact ⟨rfl, .fin⟩
  · refine SR_no rfl rfl (hg6_4) (lts rfl) ?_
    refine SR_no rfl rfl (hg6_4) (lts rfl) ?_
    refine SR_pu (RD_pick_f rfl (hg6_4) rfl) rfl ?_
    refine SR_nil ?_
    refine SN.le (l := [(0, _), (1, _), (5, _), (6, _), (7, _), (23, _)]) ?_ (.cons rfl (.cons rfl (.cons rfl (.cons rfl (.cons rfl (.cons rfl (.nil)))))))
    refine SN_seq ?_
    refine SC_cond_false rfl (rfl) ?_
    refine SC_exit rfl ?_
    refine SN_seq ?_
    refine SC_seq ?_
    refine SC_region ?_
    refine SR_call Try.call10 (.nil) (term_awake) (lts rfl) ?_
    rintro _ L9 ⟨rfl, hL9⟩
    refine SR.lands hL9 ?_
    refine SR_pu (RD_assign rfl) rfl ?_
    refine SR_nil ?_
    refine SN.le (l := [(4, _)]) ?_ (.cons rfl (.nil))
    refine SN_seq ?_
    refine SC_ret1 rfl rfl ?_
    exact ⟨rfl, .fin⟩

def one (k : Nat) : List UInt8 := [UInt8.ofNat k]
theorem one_inj {j k : Nat} (hj : j < 256) (hk : k < 256) : one j = one k ↔ j = k := by
  constructor
  · intro h
    have := congrArg UInt8.toNat (List.head_eq_of_cons_eq h)
    simp at this; omega
  · rintro rfl; rfl
/-- Where a number stands in a row, from 1 on; 0: not. -/
def kidx : List Nat → Nat → Nat
  | [], _ => 0
  | x :: l, k => if k = x then 1 else if kidx l k = 0 then 0 else kidx l k + 1
theorem kidx_dnum (l : List Nat) (k : Nat) (hl : ∀ x ∈ l, x < 256) (hk : k < 256) : dnum (l.map one) (one k) = kidx l k := by
  induction l with
  | nil => rfl
  | cons x l ih =>
    have h1 := ih fun y hy => hl y (by simp [hy])
    have h2 := one_inj hk (hl x (by simp))
    simp only [List.map_cons, dnum, kidx, h1, h2]
theorem kidx_append (l : List Nat) (k : Nat) : kidx (l ++ [k]) k = if kidx l k = 0 then l.length + 1 else kidx l k := by
  induction l with
  | nil => simp [kidx]
  | cons x l ih =>
    by_cases h : k = x
    · simp [kidx, h]
    · simp only [List.cons_append, kidx, h, if_false, ih, List.length_cons]
      by_cases h0 : kidx l k = 0 <;> simp [h0]
theorem kidx_le (l : List Nat) (k : Nat) : kidx l k ≤ l.length := by
  induction l with
  | nil => simp [kidx]
  | cons x l ih => simp only [kidx, List.length_cons]; split; omega; split <;> omega
/-- The map of the numbers. -/
def skv : Nat → List Nat → List (Int × Value)
  | _, [] => []
  | i, k :: l => ((k : Int), .int .i64 ((i + 1 : Nat) : Int)) :: skv (i + 1) l
theorem skv_len (l : List Nat) : ∀ i, (skv i l).length = l.length := by
  induction l with
  | nil => intro i; rfl
  | cons x l ih => intro i; simp [skv, ih]
theorem mget_skv (l : List Nat) (k : Nat) : ∀ i, mget (skv i l) (k : Int) = if kidx l k = 0 then none else some (.int .i64 ((i + kidx l k : Nat) : Int)) := by
  induction l with
  | nil => intro i; simp [skv, mget, kidx]
  | cons x l ih =>
    intro i
    simp only [skv, mget, kidx]
    by_cases h : k = x
    · simp [h]
    · have h' : ¬ (k : Int) = (x : Int) := by omega
      simp only [h, h', if_false, ih (i + 1)]
      by_cases h0 : kidx l k = 0
      · simp [h0]
      · simp only [h0, if_false]
        rw [if_neg (by omega)]
        simp; omega
theorem mset_skv (l : List Nat) (k : Nat) (h : kidx l k = 0) : ∀ i, mset (skv i l) (k : Int) (.int .i64 ((i + l.length + 1 : Nat) : Int)) = skv i (l ++ [k]) := by
  induction l with
  | nil => intro i; simp [skv, mset]
  | cons x l ih =>
    intro i
    simp only [kidx] at h
    by_cases hx : k = x
    · simp [hx] at h
    · have h' : ¬ (k : Int) = (x : Int) := by omega
      simp only [hx, if_false] at h
      have h0 : kidx l k = 0 := by
        by_cases e : kidx l k = 0
        · exact e
        · simp [e] at h
      have := ih h0 (i + 1)
      simp only [skv, mset, h', if_false, List.cons_append]
      rw [← this, show i + (x :: l).length + 1 = i + 1 + l.length + 1 by simp; omega]
theorem iget_skv (l : List Nat) (k : Nat) : iget (skv 0 l) (k : Int) = (kidx l k : Int) := by
  unfold iget; rw [mget_skv]
  by_cases h : kidx l k = 0
  · simp [h]
  · simp [h]
def kput (l : List Nat) (k : Nat) : List Nat := if kidx l k = 0 then l ++ [k] else l
theorem kput_dput (l : List Nat) (k : Nat) (hl : ∀ x ∈ l, x < 256) (hk : k < 256) : dput (l.map one) (one k) = (kput l k).map one := by
  unfold dput kput
  have h := dnum_zero (l.map one) (one k)
  rw [kidx_dnum l k hl hk] at h
  by_cases h0 : kidx l k = 0
  · rw [if_neg (h.1 h0), if_pos h0]; simp
  · rw [if_neg h0, if_pos]; exact Classical.not_not.1 fun x => h0 (h.2 x)
theorem kput_kidx (l : List Nat) (k : Nat) : kidx (kput l k) k = if kidx l k = 0 then l.length + 1 else kidx l k := by
  unfold kput
  by_cases h0 : kidx l k = 0
  · simp [kidx_append, h0]
  · simp [h0]
theorem kput_lt {l : List Nat} {k m : Nat} (hl : ∀ x ∈ l, x < m) (hk : k < m) : ∀ x ∈ kput l k, x < m := by
  unfold kput; split
  · intro x hx; rcases List.mem_append.1 hx with h | h
    · exact hl x h
    · simp at h; omega
  · exact hl
theorem kput_len (l : List Nat) (k : Nat) : (kput l k).length ≤ l.length + 1 := by unfold kput; split <;> simp
theorem kidx_range (n k : Nat) : kidx (List.range n) k = if k < n then k + 1 else 0 := by
  induction n with
  | zero => simp [kidx]
  | succ n ih =>
    rw [List.range_succ]
    by_cases h : k = n
    · subst h; rw [kidx_append, ih]; simp
    · have : ∀ l : List Nat, kidx (l ++ [n]) k = kidx l k := by
        intro l
        induction l with
        | nil => simp [kidx, h]
        | cons x l ih2 => simp only [List.cons_append, kidx, ih2]
      rw [this, ih]
      by_cases h2 : k < n
      · rw [if_pos h2, if_pos (by omega)]
      · rw [if_neg h2, if_neg (by omega)]
theorem kput_range (n : Nat) : kput (List.range n) n = List.range (n + 1) := by
  simp [kput, kidx_range, List.range_succ]
theorem kput_in {n k : Nat} (h : k < n) : kput (List.range n) k = List.range n := by
  simp [kput, kidx_range, h]
theorem one_byteV (k : Nat) (h : k < 256) : [Value.int .u8 (IntKind.u8.wrap (k : Int))] = (one k).map byteV := by
  simp only [one, List.map_cons, List.map_nil, byteV]
  rw [IntKind.wrap_u8]
  congr 2

theorem law_TermMany {W : World} {F : List HProp} [Abs F] (nn : Int) (a2 : Option Addr) (n2 c2 : Nat) (ask : List Int) [HasRow F a2 (ask.map intV)] (hask0 : ask.length = n2) :
    CallsK W Try.prog 3 #[.int .i64 nn, .slice a2 n2 c2] (F) (fun v L => v = .bool true ∧ Lands L F) := by
  refine CallsK_enter (n := 93) Try.func3 rfl rfl rfl ?_
  obtain ⟨m, hm⟩ : ∃ m : Nat, nn % 32 + 1 = (m : Int) := ⟨(nn % 32 + 1).toNat, by rw [Int.toNat_of_nonneg (by omega)]⟩
  have hm1 : 1 ≤ m := by omega
  have hm2 : m ≤ 32 := by omega
  refine SC_seq ?_
  refine SC_region ?_
  refine SR_pu (RD_assign rfl) rfl ?_
  refine SR_nil ?_
  refine SN.le (l := [(0, _), (1, _)]) ?_ (.cons rfl (.cons rfl (.nil)))
  refine SN_seq ?_
  refine SC_seq ?_
  refine SC_region ?_
  refine SR_pu (RD_move rfl) rfl ?_
  refine SR_pu (RD_mask 5 rfl rfl rfl (by decide) 32 rfl) rfl ?_
  refine SR_pu (RD_addv (m : Nat) rfl rfl (by omega) (by omega) (by omega)) rfl ?_
  refine SR_pu (RD_assign rfl) rfl ?_
  refine SR_nil ?_
  refine SN.le (l := [(0, _), (1, _)]) ?_ (.cons rfl (.cons rfl (.nil)))
  refine SN_seq ?_
  refine SC_seq ?_
  refine SC_region ?_
  refine SR_call Try.call7 (.nil) (term_New) (lts rfl) ?_
  rintro _ L0 ⟨p, rfl, hL0⟩
  refine SR.lands hL0 ?_
  refine SR_call Try.call7 (.nil) (term_New) (lts rfl) ?_
  rintro _ L1 ⟨q, rfl, hL1⟩
  refine SR.lands hL1 ?_
  refine SR_pu (RD_assign rfl) rfl ?_
  refine SR_pu (RD_assign rfl) rfl ?_
  refine SR_nil ?_
  refine SN.le (l := [(0, _), (1, _), (5, _), (6, _)]) ?_ (.cons rfl (.cons rfl (.cons rfl (.cons rfl (.nil)))))
  refine SN_seq ?_
  refine SC_seq ?_
  refine SC_seq ?_
  refine SC_region ?_
  refine SR_pu (RD_move rfl) rfl ?_
  refine SR_pu (RD_eqlP Try.underlying23 rfl rfl) rfl ?_
  refine SR_pu (RD_move rfl) rfl ?_
  refine SR_yes rfl rfl (rfl) ?_
  refine SR_pu (RD_move rfl) rfl ?_
  refine SR_yes rfl rfl (rfl) ?_
  refine SR_pu (RD_eqlP Try.underlying23 rfl rfl) rfl ?_
  refine SR_pu (RD_pick_f rfl (rfl) rfl) rfl ?_
  refine SR_nil ?_
  refine SN.le (l := [(0, _), (1, _), (5, _), (6, _), (21, _)]) ?_ (.cons rfl (.cons rfl (.cons rfl (.cons rfl (.cons rfl (.nil))))))
  refine SN_seq ?_
  refine SC_cond_false rfl (rfl) ?_
  refine SC_skip ?_
  refine SN_seq ?_
  refine SC_seq ?_
  refine SC_seq ?_
  refine SC_region ?_
  refine SR_pu (RD_assign rfl) rfl ?_
  refine SR_nil ?_
  refine SN.le (l := [(0, _), (1, _), (5, _), (6, _), (7, _)]) ?_ (.cons rfl (.cons rfl (.cons rfl (.cons rfl (.cons rfl (.nil))))))
  refine SN_seq ?_
  refine SC_block ?_
  refine SC_ind (X := Nat) (fun i => i ≤ m) (fun i => m - i) (fun i => [(0, .int .i64 (m : Nat)), (1, .slice a2 n2 c2), (5, .pointer (some ⟨p, 0, none⟩)), (6, .pointer (some ⟨q, 0, none⟩)), (7, .int .i64 (i : Nat))]) (fun i => At arenaI p ((List.range i).map one) :: At arenaI q [] :: F) (0) (by omega) (.cons rfl (.cons rfl (.cons rfl (.cons rfl (.cons rfl (.nil)))))) (by have e : (List.range 0).map one = [] := rfl; rw [e]; exact .fin) ?_
  intro i hi ih
  refine SC_seq ?_
  refine SC_seq ?_
  refine SC_region ?_
  refine SR_pu (RD_move rfl) rfl ?_
  refine SR_pu (RD_move rfl) rfl ?_
  refine SR_pu (RD_lss rfl rfl) rfl ?_
  refine SR_nil ?_
  refine SN.le (l := [(0, _), (1, _), (5, _), (6, _), (7, _), (24, _)]) ?_ (.cons rfl (.cons rfl (.cons rfl (.cons rfl (.cons rfl (.cons rfl (.nil)))))))
  refine SN_seq ?_
  refine SC_cond rfl (fun hc24 => ?_) (fun hc24 => ?_)
  · have him : i < m := by simp at hc24; omega
    refine SC_skip ?_
    refine SN_seq ?_
    refine SC_seq ?_
    refine SC_block ?_
    refine SC_seq ?_
    refine SC_region ?_
    refine SR_pu (RD_move rfl) rfl ?_
    refine SR_pu (RD_move rfl) rfl ?_
    refine SR_pu (RD_convI Try.runUnderlying3 Try.runUnderlying5 rfl) rfl ?_
    refine SR_ox (OX_lit1 Try.underlying26 Try.type5 rfl rfl rfl rfl (.cons rfl (.nil)) (.cons rfl (.nil))) rfl ?_
    rintro _ _ ⟨b30, rfl, rfl⟩
    refine SR_call Try.call8 (.cons rfl (.cons rfl (.nil))) (CallsK.at (term_Digest p ((List.range i).map one) _ _ _ (one i) (one_byteV i (by omega)) rfl (by simp; omega) ((List.range (i + 1)).map one) (i + 1) (by rw [kput_dput _ _ (fun z hz => by have := List.mem_range.1 hz; omega) (by omega), kput_range]) (by rw [kidx_dnum _ _ (fun z hz => by have := List.mem_range.1 hz; omega) (by omega), kidx_range, if_pos (by omega)]))) (lts rfl) ?_
    rintro _ L2 ⟨rfl, hL2⟩
    refine SR.lands hL2 ?_
    refine SR_pu (RD_move rfl) rfl ?_
    refine SR_pu (RD_addi rfl rfl (by omega) (by omega)) rfl ?_
    refine SR_pu (RD_neq rfl rfl) rfl ?_
    refine SR_nil ?_
    refine SN.le (l := [(0, _), (1, _), (5, _), (6, _), (7, _), (34, _)]) ?_ (.cons rfl (.cons rfl (.cons rfl (.cons rfl (.cons rfl (.cons rfl (.nil)))))))
    refine SN_seq ?_
    refine SC_cond_false rfl (by simp) ?_
    refine SC_skip ?_
    refine SN_block ?_
    refine SN_seq ?_
    refine SC_region ?_
    refine SR_pu (RD_move rfl) rfl ?_
    refine SR_pu (RD_addi rfl rfl (by omega) (by omega)) rfl ?_
    refine SR_pu (RD_assign rfl) rfl ?_
    refine SR_nil ?_
    refine SN.le (l := [(0, _), (1, _), (5, _), (6, _), (7, _)]) ?_ (.cons rfl (.cons rfl (.cons rfl (.cons rfl (.cons rfl (.nil))))))
    refine SC_again (ih (i + 1) (by omega) (by omega)) (.fin) (.cons rfl (.cons rfl (.cons rfl (.cons rfl (.cons' rfl (ie (by omega)) (.nil))))))
  · obtain rfl : m = i := by simp at hc24; omega
    refine SC_exit rfl ?_
    refine SN_seq ?_
    refine SC_seq ?_
    refine SC_region ?_
    refine SR_ox (OX_mk intK) rfl ?_
    rintro _ _ ⟨b35, rfl, rfl⟩
    refine SR_pu (RD_assign rfl) rfl ?_
    refine SR_nil ?_
    refine SN.le (l := [(0, _), (1, _), (5, _), (6, _), (8, _)]) ?_ (.cons rfl (.cons rfl (.cons rfl (.cons rfl (.cons rfl (.nil))))))
    refine SN_seq ?_
    refine SC_seq ?_
    refine SC_seq ?_
    refine SC_region ?_
    refine SR_pu (RD_assign rfl) rfl ?_
    refine SR_nil ?_
    refine SN.le (l := [(0, _), (1, _), (5, _), (6, _), (8, _), (9, _)]) ?_ (.cons rfl (.cons rfl (.cons rfl (.cons rfl (.cons rfl (.cons rfl (.nil)))))))
    refine SN_seq ?_
    refine SC_block ?_
    refine SC_ind (X := Nat × List Nat) (fun x => x.1 ≤ 40 ∧ x.2.length ≤ x.1 ∧ ∀ y ∈ x.2, y < m) (fun x => 40 - x.1) (fun x => [(0, .int .i64 (m : Nat)), (1, .slice a2 n2 c2), (5, .pointer (some ⟨p, 0, none⟩)), (6, .pointer (some ⟨q, 0, none⟩)), (8, .map (some b35)), (9, .int .i64 (x.1 : Nat))]) (fun x => At arenaI p ((List.range m).map one) :: At arenaI q (x.2.map one) :: mapP intK b35 (skv 0 x.2) :: F) ((0, [])) (⟨by show 0 ≤ 40; omega, by simp, by simp⟩) (.cons rfl (.cons rfl (.cons rfl (.cons rfl (.cons rfl (.cons rfl (.nil))))))) ((show Lands _ (At arenaI p ((List.range m).map one) :: At arenaI q [] :: mapP intK b35 [] :: F) from .fin)) ?_
    intro x hi ih
    obtain ⟨i, ks⟩ := x
    dsimp only at hi ih ⊢
    obtain ⟨hi1, hi2, hks⟩ := hi
    refine SC_seq ?_
    refine SC_seq ?_
    refine SC_region ?_
    refine SR_pu (RD_move rfl) rfl ?_
    refine SR_pu (RD_move rfl) rfl ?_
    refine SR_pu (RD_len Try.runUnderlying22 rfl) rfl ?_
    refine SR_pu (RD_lss rfl rfl) rfl ?_
    refine SR_pu (RD_move rfl) rfl ?_
    refine SR_guard rfl rfl (fun hg12_4 => ?_) (fun hg12_4 => ?_)
    · refine SR_yes rfl rfl (hg12_4) ?_
      refine SR_pu (RD_move rfl) rfl ?_
      refine SR_yes rfl rfl (hg12_4) ?_
      refine SR_pu (RD_lss rfl rfl) rfl ?_
      refine SR_pu (RD_pick_t rfl (hg12_4) rfl) rfl ?_
      refine SR_nil ?_
      refine SN.le (l := [(0, _), (1, _), (5, _), (6, _), (8, _), (9, _), (43, _)]) ?_ (.cons rfl (.cons rfl (.cons rfl (.cons rfl (.cons rfl (.cons rfl (.cons rfl (.nil))))))))
      refine SN_seq ?_
      refine SC_cond rfl (fun hc43 => ?_) (fun hc43 => ?_)
      · have hil : i < ask.length := by simp at hg12_4; omega
        have hi40 : i < 40 := by simp at hc43; omega
        obtain ⟨y, hy⟩ : ∃ y, ask[i]? = some y := ⟨_, List.getElem?_eq_getElem hil⟩
        obtain ⟨k, hk⟩ : ∃ k : Nat, y % 256 % (m : Int) = (k : Int) := ⟨(y % 256 % (m : Int)).toNat, by rw [Int.toNat_of_nonneg (Int.emod_nonneg _ (by omega))]⟩
        have hkm : k < m := by have := Int.emod_lt_of_pos (y % 256) (show (0 : Int) < m by omega); omega
        have hkr := kidx_le ks k
        have hdn := kidx_dnum ks k (fun z hz => by have := hks z hz; omega) (by omega)
        refine SC_skip ?_
        refine SN_seq ?_
        refine SC_seq ?_
        refine SC_block ?_
        refine SC_seq ?_
        refine SC_region ?_
        refine SR_pu (RD_move rfl) rfl ?_
        refine SR_pu (RD_move rfl) rfl ?_
        refine SR_rd (RD_ixO (cs := ask.map intV) Try.runUnderlying22 Try.sizeOf3 rfl rfl (by simpa using hask0) (by omega) (by omega)) Has.ro rfl ?_
        refine SR_rd (RD_loadO (v := intV y) (cs := ask.map intV) Try.isAgg3 rfl (by simp [hy])) Has.ro rfl ?_
        refine SR_pu (RD_mask 8 rfl rfl rfl (by decide) 256 rfl) rfl ?_
        refine SR_pu (RD_move rfl) rfl ?_
        refine SR_pu (RD_remk rfl rfl (by omega) (by omega) hk) rfl ?_
        refine SR_pu (RD_assign rfl) rfl ?_
        refine SR_nil ?_
        refine SN.le (l := [(0, _), (1, _), (5, _), (6, _), (8, _), (9, _), (10, _)]) ?_ (.cons rfl (.cons rfl (.cons rfl (.cons rfl (.cons rfl (.cons rfl (.cons rfl (.nil))))))))
        refine SN_seq ?_
        refine SC_seq ?_
        refine SC_seq ?_
        refine SC_region ?_
        refine SR_pu (RD_move rfl) rfl ?_
        refine SR_pu (RD_move rfl) rfl ?_
        refine SR_pu (RD_convI Try.runUnderlying3 Try.runUnderlying5 rfl) rfl ?_
        refine SR_ox (OX_lit1 Try.underlying26 Try.type5 rfl rfl rfl rfl (.cons rfl (.nil)) (.cons rfl (.nil))) rfl ?_
        rintro _ _ ⟨b56, rfl, rfl⟩
        refine SR_call Try.call8 (.cons rfl (.cons rfl (.nil))) (CallsK.at (term_Digest p ((List.range m).map one) _ _ _ (one k) (one_byteV k (by omega)) rfl (by simp; omega) ((List.range m).map one) (k + 1) (by rw [kput_dput _ _ (fun z hz => by have := List.mem_range.1 hz; omega) (by omega), kput_in hkm]) (by rw [kidx_dnum _ _ (fun z hz => by have := List.mem_range.1 hz; omega) (by omega), kidx_range, if_pos (by omega)]))) (lts rfl) ?_
        rintro _ L3 ⟨rfl, hL3⟩
        refine SR.lands hL3 ?_
        refine SR_pu (RD_move rfl) rfl ?_
        refine SR_pu (RD_addi rfl rfl (by omega) (by omega)) rfl ?_
        refine SR_pu (RD_neq rfl rfl) rfl ?_
        refine SR_nil ?_
        refine SN.le (l := [(0, _), (1, _), (5, _), (6, _), (8, _), (9, _), (10, _), (60, _)]) ?_ (.cons rfl (.cons rfl (.cons rfl (.cons rfl (.cons rfl (.cons rfl (.cons rfl (.cons rfl (.nil)))))))))
        refine SN_seq ?_
        refine SC_cond_false rfl (by simp) ?_
        refine SC_skip ?_
        refine SN_seq ?_
        refine SC_seq ?_
        refine SC_seq ?_
        have hnew : kidx (kput ks k) k = if kidx ks k = 0 then ks.length + 1 else kidx ks k := kput_kidx ks k
        have hig := iget_skv ks k
        have hsl := skv_len ks 0
        have hset : kidx ks k = 0 → mset (skv 0 ks) (k : Int) (.int .i64 (((skv 0 ks).length : Int) + 1)) = skv 0 (kput ks k) := by intro h0; rw [show kput ks k = ks ++ [k] from if_pos h0, ← mset_skv ks k h0 0, skv_len]; simp
        have hpos : kidx (kput ks k) k ≠ 0 := by rw [hnew]; split <;> omega
        refine SC_region ?_
        refine SR_pu (RD_move rfl) rfl ?_
        refine SR_pu (RD_move rfl) rfl ?_
        refine SR_rd (RD_lookI (m := skv 0 ks) Try.underlying27 Try.underlying3 Try.zeroValue3 rfl rfl (mget_int (by rw [mget_skv]))) (Has.ma (K := intK)) rfl ?_
        refine SR_pu (RD_eql rfl rfl) rfl ?_
        refine SR_nil ?_
        refine SN.le (l := [(0, _), (1, _), (5, _), (6, _), (8, _), (9, _), (10, _), (64, _)]) ?_ (.cons rfl (.cons rfl (.cons rfl (.cons rfl (.cons rfl (.cons rfl (.cons rfl (.cons rfl (.nil)))))))))
        refine SN_seq ?_
        refine SC_join (X := Unit) (fun x => [(0, .int .i64 (m : Nat)), (1, .slice a2 n2 c2), (5, .pointer (some ⟨p, 0, none⟩)), (6, .pointer (some ⟨q, 0, none⟩)), (8, .map (some b35)), (9, .int .i64 (i : Nat)), (10, .int .i64 (k : Nat))]) (fun x => At arenaI p ((List.range m).map one) :: mapP intK b35 (skv 0 (kput ks k)) :: At arenaI q (ks.map one) :: F) (fun x => ?_) (fun J0 => ?_)
        · refine SN_seq ?_
          refine SC_seq ?_
          refine SC_drawn (.cons 0 true (.cons 1 true (.cons 2 true (.cons 5 true (.cons 6 true (.cons 7 true (.cons 3 false (.cons 4 false (.cons 8 true (.nil)))))))))) (by kernel_rfl) (by kernel_rfl) ?_
          refine SQ_pu rfl (RD_move rfl) rfl ?_
          refine SQ_pu rfl (RD_move rfl) rfl ?_
          refine SQ_pu rfl (RD_convI Try.runUnderlying3 Try.runUnderlying5 rfl) rfl ?_
          refine SQ_pu rfl (RD_move rfl) rfl ?_
          refine SQ_pu rfl (RD_move rfl) rfl ?_
          refine SQ_rd rfl (RD_lookS (K := intK) Try.underlying27 Try.underlying3 Try.zeroValue3 rfl rfl (by rw [mget_skv, if_neg hpos, Nat.zero_add])) (Has.ma (K := intK)) rfl ?_
          refine SQ_ox rfl (OX_lit1 Try.underlying26 Try.type5 rfl rfl rfl rfl (.cons rfl (.nil)) (.cons rfl (.nil))) rfl ?_
          rintro _ _ ⟨b73, rfl, rfl⟩
          refine ⟨.h (Has.ma (K := intK)) (.nil), ?_⟩
          refine SQ_call rfl Try.call8 (.cons rfl (.cons rfl (.nil))) (CallsK.at (term_Digest q (ks.map one) _ _ _ (one k) (one_byteV k (by omega)) rfl (by simp; omega) ((kput ks k).map one) (kidx (kput ks k) k) (by rw [kput_dput _ _ (fun z hz => by have := hks z hz; omega) (by omega)]) (by rw [kidx_dnum _ _ (fun z hz => by have := kput_lt hks hkm z hz; omega) (by omega)]))) (lts rfl) ?_
          rintro _ L4 ⟨rfl, hL4⟩
          refine ⟨.lands hL4 (.h (Has.ma (K := intK)) (.nil)), ?_⟩
          refine SQ.lands hL4 ?_
          refine SQ_pu rfl (RD_neq rfl rfl) rfl ?_
          refine SQ_nil ?_
          refine SN.le (l := [(0, _), (1, _), (5, _), (6, _), (8, _), (9, _), (78, _)]) ?_ (.cons rfl (.cons rfl (.cons rfl (.cons rfl (.cons rfl (.cons rfl (.cons rfl (.nil))))))))
          refine SN_seq ?_
          refine SC_cond_false rfl (by simp) ?_
          refine SC_skip ?_
          refine SN_block ?_
          refine SN_seq ?_
          refine SC_region ?_
          refine SR_pu (RD_move rfl) rfl ?_
          refine SR_pu (RD_addi rfl rfl (by omega) (by omega)) rfl ?_
          refine SR_pu (RD_assign rfl) rfl ?_
          refine SR_nil ?_
          refine SN.le (l := [(0, _), (1, _), (5, _), (6, _), (8, _), (9, _)]) ?_ (.cons rfl (.cons rfl (.cons rfl (.cons rfl (.cons rfl (.cons rfl (.nil)))))))
          refine SC_again (ih ((i + 1, kput ks k)) (⟨by show i + 1 ≤ 40; omega, by show (kput ks k).length ≤ i + 1; have := kput_len ks k; omega, kput_lt hks hkm⟩) (by show 40 - (i + 1) < 40 - i; omega)) (.fin) (.cons rfl (.cons rfl (.cons rfl (.cons rfl (.cons rfl (.cons' rfl (ie (by omega)) (.nil)))))))
        · by_cases h0 : kidx ks k = 0
          · refine SC_cond_true rfl (by simp [hig, h0]) ?_
            refine SC_region ?_
            refine SR_pu (RD_move rfl) rfl ?_
            refine SR_pu (RD_move rfl) rfl ?_
            refine SR_pu (RD_move rfl) rfl ?_
            refine SR_rd (RD_lenM (K := intK) Try.underlying27 rfl) (Has.ma (K := intK)) rfl ?_
            refine SR_pu (RD_addi rfl rfl (by omega) (by omega)) rfl ?_
            refine SR_ox0 (OX_mu (K := intK) Try.underlying27 Try.underlying3 rfl rfl rfl) ?_
            rintro _ _ rfl
            refine SR_nil ?_
            refine SN.le (l := [(0, _), (1, _), (5, _), (6, _), (8, _), (9, _), (10, _)]) ?_ (.cons rfl (.cons rfl (.cons rfl (.cons rfl (.cons rfl (.cons rfl (.cons rfl (.nil))))))))
            exact J0 (()) _ _ (.cons rfl (.cons rfl (.cons rfl (.cons rfl (.cons rfl (.cons rfl (.cons rfl (.nil)))))))) (by rw [hset h0]; exact .fin)
          · refine SC_cond_false rfl (by simp [hig, h0]) ?_
            refine SC_skip ?_
            exact J0 (()) _ _ (.cons rfl (.cons rfl (.cons rfl (.cons rfl (.cons rfl (.cons rfl (.cons rfl (.nil)))))))) (by rw [show kput ks k = ks from if_neg h0]; exact .fin)
      · refine SC_exit rfl ?_
        refine SN_seq ?_
        refine SC_seq ?_
        refine SC_region ?_
        refine SR_pu (RD_move rfl) rfl ?_
        refine SR_call Try.call9 (.cons rfl (.nil)) (CallsK.at (term_Len p ((List.range m).map one))) (lts rfl) ?_
        rintro _ L6 ⟨rfl, hL6⟩
        refine SR.lands hL6 ?_
        refine SR_pu (RD_move rfl) rfl ?_
        refine SR_pu (RD_eql rfl rfl) rfl ?_
        refine SR_pu (RD_move rfl) rfl ?_
        refine SR_yes rfl rfl (by simp) ?_
        refine SR_pu (RD_move rfl) rfl ?_
        refine SR_yes rfl rfl (by simp) ?_
        refine SR_call Try.call9 (.cons rfl (.nil)) (CallsK.at (term_Len q (ks.map one))) (lts rfl) ?_
        rintro _ L7 ⟨rfl, hL7⟩
        refine SR.lands hL7 ?_
        refine SR_yes rfl rfl (by simp) ?_
        refine SR_pu (RD_move rfl) rfl ?_
        refine SR_yes rfl rfl (by simp) ?_
        refine SR_rd (RD_lenM (K := intK) Try.underlying27 rfl) (Has.ma (K := intK)) rfl ?_
        refine SR_yes rfl rfl (by simp) ?_
        refine SR_pu (RD_eql rfl rfl) rfl ?_
        refine SR_pu (RD_pick_t rfl (by simp) rfl) rfl ?_
        refine SR_pu (RD_move rfl) rfl ?_
        refine SR_yes rfl rfl (by simp [skv_len]) ?_
        refine SR_call Try.call10 (.nil) (term_awake) (lts rfl) ?_
        rintro _ L9 ⟨rfl, hL9⟩
        refine SR.lands hL9 ?_
        refine SR_pu (RD_pick_t rfl (by simp [skv_len]) rfl) rfl ?_
        refine SR_pu (RD_assign rfl) rfl ?_
        refine SR_nil ?_
        refine SN.le (l := [(4, _)]) ?_ (.cons rfl (.nil))
        refine SN_seq ?_
        refine SC_ret1 rfl rfl ?_
        exact ⟨rfl, .fin⟩
    · refine SR_no rfl rfl (hg12_4) (lts rfl) ?_
      refine SR_no rfl rfl (hg12_4) (lts rfl) ?_
      refine SR_pu (RD_pick_f rfl (hg12_4) rfl) rfl ?_
      refine SR_nil ?_
      refine SN.le (l := [(0, _), (1, _), (5, _), (6, _), (8, _), (9, _), (43, _)]) ?_ (.cons rfl (.cons rfl (.cons rfl (.cons rfl (.cons rfl (.cons rfl (.cons rfl (.nil))))))))
      refine SN_seq ?_
      refine SC_cond_false rfl (rfl) ?_
      refine SC_exit rfl ?_
      refine SN_seq ?_
      refine SC_seq ?_
      refine SC_region ?_
      refine SR_pu (RD_move rfl) rfl ?_
      refine SR_call Try.call9 (.cons rfl (.nil)) (CallsK.at (term_Len p ((List.range m).map one))) (lts rfl) ?_
      rintro _ L6 ⟨rfl, hL6⟩
      refine SR.lands hL6 ?_
      refine SR_pu (RD_move rfl) rfl ?_
      refine SR_pu (RD_eql rfl rfl) rfl ?_
      refine SR_pu (RD_move rfl) rfl ?_
      refine SR_yes rfl rfl (by simp) ?_
      refine SR_pu (RD_move rfl) rfl ?_
      refine SR_yes rfl rfl (by simp) ?_
      refine SR_call Try.call9 (.cons rfl (.nil)) (CallsK.at (term_Len q (ks.map one))) (lts rfl) ?_
      rintro _ L7 ⟨rfl, hL7⟩
      refine SR.lands hL7 ?_
      refine SR_yes rfl rfl (by simp) ?_
      refine SR_pu (RD_move rfl) rfl ?_
      refine SR_yes rfl rfl (by simp) ?_
      refine SR_rd (RD_lenM (K := intK) Try.underlying27 rfl) (Has.ma (K := intK)) rfl ?_
      refine SR_yes rfl rfl (by simp) ?_
      refine SR_pu (RD_eql rfl rfl) rfl ?_
      refine SR_pu (RD_pick_t rfl (by simp) rfl) rfl ?_
      refine SR_pu (RD_move rfl) rfl ?_
      refine SR_yes rfl rfl (by simp [skv_len]) ?_
      refine SR_call Try.call10 (.nil) (term_awake) (lts rfl) ?_
      rintro _ L9 ⟨rfl, hL9⟩
      refine SR.lands hL9 ?_
      refine SR_pu (RD_pick_t rfl (by simp [skv_len]) rfl) rfl ?_
      refine SR_pu (RD_assign rfl) rfl ?_
      refine SR_nil ?_
      refine SN.le (l := [(4, _)]) ?_ (.cons rfl (.nil))
      refine SN_seq ?_
      refine SC_ret1 rfl rfl ?_
      exact ⟨rfl, .fin⟩

end Go.Proofs.Ytmhldhlldlmdgaa
