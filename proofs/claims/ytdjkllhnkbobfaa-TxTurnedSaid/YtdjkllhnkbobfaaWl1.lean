/- The statements on the writer: its own bytes. -/
import Derived.Test.YtdjkllhnkbobfaaWi2
namespace Go.Proofs.Ytdjkllhnkbobfaa
open Go Go.Proofs
set_option maxRecDepth 100000
theorem unbe_be (x : Nat) (h : x < 18446744073709551616) : unbe (be x) = x := by
  simp [be, unbe, List.range_succ, UInt8.toNat_ofNat]
  omega
theorem bei_nat (n : Nat) (h : n < 18446744073709551616) : bei (n : Int) = be n := by
  rw [bei_in (by omega) (by omega)]; simp
theorem unbe_bei (x : Int) : unbe (bei x) = (x % 18446744073709551616).toNat := by
  unfold bei
  exact unbe_be _ (by have := Int.emod_lt_of_pos x (show (0 : Int) < 18446744073709551616 by decide); have := Int.emod_nonneg x (show (18446744073709551616 : Int) ≠ 0 by decide); omega)
theorem rdNum_bei (x : Int) (r : List UInt8) : rdNum (bei x ++ r, false) = ((x % 18446744073709551616).toNat, (r, false)) := by
  have h8 : (bei x).length = 8 := rfl
  have e1 : (bei x ++ r).take 8 = bei x := by rw [← h8]; exact List.take_left ..
  have e2 : (bei x ++ r).drop 8 = r := by rw [← h8]; exact List.drop_left ..
  unfold rdNum
  rw [if_neg (by simp [h8])]
  show (unbe ((bei x ++ r).take 8), ((bei x ++ r).drop 8, false)) = _
  rw [e1, e2, unbe_bei]
theorem rdText_put (bs r : List UInt8) (h : bs.length < 18446744073709551616) : rdText (bei (bs.length : Nat) ++ bs ++ r, false) = (bs, (r, false)) := by
  unfold rdText
  rw [List.append_assoc, rdNum_bei]
  have e : ((bs.length : Int) % 18446744073709551616).toNat = bs.length := by omega
  dsimp only
  rw [e, if_neg (by simp)]
  simp

theorem law_WireOwn_short {W : World} {F : List HProp} [Abs F] (a : Option Addr) (n c : Nat) (bs : List UInt8) [HasRow F a (bs.map byteV)] (hn : bs.length = n) (at_ : Int) (h : n = 0 ∨ 100 < n) :
    CallsK W Try.prog 4 #[.slice a n c, .int .i64 at_] (F) (fun v L => v = .bool true ∧ Lands L F) := by
  refine CallsK_enter (n := 87) Try.func4 rfl rfl rfl ?_
  refine SC_seq ?_
  refine SC_region ?_
  refine SR_pu (RD_assign rfl) rfl ?_
  refine SR_nil ?_
  refine SN.le (l := [(0, _), (1, _)]) ?_ (.cons rfl (.cons rfl (.nil)))
  refine SN_seq ?_
  refine SC_seq ?_
  refine SC_seq ?_
  refine SC_region ?_
  refine SR_pu (RD_move rfl) rfl ?_
  refine SR_pu (RD_len Try.runUnderlying25 rfl) rfl ?_
  refine SR_pu (RD_eql rfl rfl) rfl ?_
  refine SR_pu (RD_move rfl) rfl ?_
  refine SR_guard rfl rfl (fun hg1_3 => ?_) (fun hg1_3 => ?_)
  · refine SR_yes rfl rfl (hg1_3) ?_
    refine SR_pu (RD_move rfl) rfl ?_
    refine SR_yes rfl rfl (hg1_3) ?_
    refine SR_pu (RD_len Try.runUnderlying25 rfl) rfl ?_
    refine SR_yes rfl rfl (hg1_3) ?_
    refine SR_pu (RD_gtr rfl rfl) rfl ?_
    refine SR_pu (RD_pick_f rfl (hg1_3) rfl) rfl ?_
    refine SR_nil ?_
    refine SN.le (l := [(0, _), (1, _), (19, _)]) ?_ (.cons rfl (.cons rfl (.cons rfl (.nil))))
    refine SN_seq ?_
    refine SC_cond_true rfl (by first | rfl | (simp at *; omega)) ?_
    refine SC_seq ?_
    refine SC_region ?_
    refine SR_call Try.call15 (.nil) (wire_awake) (lts rfl) ?_
    rintro _ L9 ⟨rfl, hL9⟩
    refine SR.lands hL9 ?_
    refine SR_pu (RD_assign rfl) rfl ?_
    refine SR_nil ?_
    refine SN.le (l := [(4, _)]) ?_ (.cons rfl (.nil))
    refine SN_seq ?_
    refine SC_ret1 rfl rfl ?_
    exact ⟨rfl, .fin⟩
  · refine SR_no rfl rfl (hg1_3) (lts rfl) ?_
    refine SR_no rfl rfl (hg1_3) (lts rfl) ?_
    refine SR_no rfl rfl (hg1_3) (lts rfl) ?_
    refine SR_pu (RD_pick_t rfl (hg1_3) rfl) rfl ?_
    refine SR_nil ?_
    refine SN.le (l := [(0, _), (1, _), (19, _)]) ?_ (.cons rfl (.cons rfl (.cons rfl (.nil))))
    refine SN_seq ?_
    refine SC_cond_true rfl (by first | rfl | (simp at *; omega)) ?_
    refine SC_seq ?_
    refine SC_region ?_
    refine SR_call Try.call15 (.nil) (wire_awake) (lts rfl) ?_
    rintro _ L9 ⟨rfl, hL9⟩
    refine SR.lands hL9 ?_
    refine SR_pu (RD_assign rfl) rfl ?_
    refine SR_nil ?_
    refine SN.le (l := [(4, _)]) ?_ (.cons rfl (.nil))
    refine SN_seq ?_
    refine SC_ret1 rfl rfl ?_
    exact ⟨rfl, .fin⟩

theorem law_WireOwn_long {W : World} {F : List HProp} [Abs F] (a : Option Addr) (n c : Nat) (bs : List UInt8) [HasRow F a (bs.map byteV)] (hn : bs.length = n) (at_ : Int) (h0 : 0 < n) (h2 : n ≤ 100) :
    CallsK W Try.prog 4 #[.slice a n c, .int .i64 at_] (F) (fun v L => v = .bool true ∧ Lands L F) := by
  refine CallsK_enter (n := 87) Try.func4 rfl rfl rfl ?_
  subst hn
  obtain ⟨k, hk⟩ : ∃ k : Nat, at_ % 256 % (bs.length : Int) = (k : Int) := ⟨(at_ % 256 % (bs.length : Int)).toNat, by rw [Int.toNat_of_nonneg (Int.emod_nonneg _ (by omega))]⟩
  have hkb : k < bs.length := by have := Int.emod_lt_of_pos (at_ % 256) (show (0 : Int) < bs.length by omega); omega
  obtain ⟨x, hx⟩ : ∃ x, bs[k]? = some x := ⟨_, List.getElem?_eq_getElem hkb⟩
  obtain ⟨ws, hws⟩ : ∃ ws, bei (bs.length : Nat) ++ bs = ws := ⟨_, rfl⟩
  have hwl : ws.length = 8 + bs.length := by rw [← hws]; simp [bei_length]
  have hwt : rdText (ws, false) = (bs, ([], false)) := by have := rdText_put bs [] (by omega); rwa [List.append_nil, hws] at this
  have hwx : ws[8 + k]? = some x := by rw [← hws, List.getElem?_append_right (by simp [bei_length]), bei_length]; simpa using hx
  refine SC_seq ?_
  refine SC_region ?_
  refine SR_pu (RD_assign rfl) rfl ?_
  refine SR_nil ?_
  refine SN.le (l := [(0, _), (1, _)]) ?_ (.cons rfl (.cons rfl (.nil)))
  refine SN_seq ?_
  refine SC_seq ?_
  refine SC_seq ?_
  refine SC_region ?_
  refine SR_pu (RD_move rfl) rfl ?_
  refine SR_pu (RD_len Try.runUnderlying25 rfl) rfl ?_
  refine SR_pu (RD_eql rfl rfl) rfl ?_
  refine SR_pu (RD_move rfl) rfl ?_
  refine SR_yes rfl rfl (by first | rfl | exact decide_eq_true (by omega) | exact decide_eq_false (by omega) | decide | (simp; done) | (simp; omega)) ?_
  refine SR_pu (RD_move rfl) rfl ?_
  refine SR_yes rfl rfl (by first | rfl | exact decide_eq_true (by omega) | exact decide_eq_false (by omega) | decide | (simp; done) | (simp; omega)) ?_
  refine SR_pu (RD_len Try.runUnderlying25 rfl) rfl ?_
  refine SR_yes rfl rfl (by first | rfl | exact decide_eq_true (by omega) | exact decide_eq_false (by omega) | decide | (simp; done) | (simp; omega)) ?_
  refine SR_pu (RD_gtr rfl rfl) rfl ?_
  refine SR_pu (RD_pick_f rfl (by first | rfl | exact decide_eq_true (by omega) | exact decide_eq_false (by omega) | decide | (simp; done) | (simp; omega)) rfl) rfl ?_
  refine SR_nil ?_
  refine SN.le (l := [(0, _), (1, _), (19, _)]) ?_ (.cons rfl (.cons rfl (.cons rfl (.nil))))
  refine SN_seq ?_
  refine SC_cond_false rfl (by first | rfl | exact decide_eq_true (by omega) | exact decide_eq_false (by omega) | decide | (simp; done) | (simp; omega)) ?_
  refine SC_skip ?_
  refine SN_seq ?_
  refine SC_seq ?_
  refine SC_region ?_
  refine SR_call Try.call16 (.nil) (wire_New) (lts rfl) ?_
  rintro _ L0 ⟨p, rfl, hL0⟩
  refine SR.lands hL0 ?_
  refine SR_pu (RD_assign rfl) rfl ?_
  refine SR_nil ?_
  refine SN.le (l := [(0, _), (1, _), (5, _)]) ?_ (.cons rfl (.cons rfl (.cons rfl (.nil))))
  refine SN_seq ?_
  refine SC_seq ?_
  refine SC_seq ?_
  refine SC_region ?_
  refine SR_pu (RD_move rfl) rfl ?_
  refine SR_pu (RD_eqlP Try.underlying27 rfl rfl) rfl ?_
  refine SR_nil ?_
  refine SN.le (l := [(0, _), (1, _), (5, _), (23, _)]) ?_ (.cons rfl (.cons rfl (.cons rfl (.cons rfl (.nil)))))
  refine SN_seq ?_
  refine SC_cond_false rfl (rfl) ?_
  refine SC_skip ?_
  refine SN_seq ?_
  refine SC_seq ?_
  refine SC_region ?_
  refine SR_pu (RD_move rfl) rfl ?_
  refine SR_rd (RD_b2s (bs := bs) Try.underlying25 Try.underlying9 Try.underlying5 rfl (rfl)) Has.ro rfl ?_
  refine SR_pu (RD_assign rfl) rfl ?_
  refine SR_nil ?_
  refine SN.le (l := [(0, _), (1, _), (5, _), (6, _)]) ?_ (.cons rfl (.cons rfl (.cons rfl (.cons rfl (.nil)))))
  refine SN_seq ?_
  refine SC_seq ?_
  refine SC_region ?_
  refine SR_ox (OX_buildSlice0 Try.runUnderlying25 Try.sizeOf5) rfl ?_
  rintro _ _ ⟨b26, rfl, rfl⟩
  refine SR_pu (RD_move rfl) rfl ?_
  refine SR_ox (OX_app0 1 Try.underlying25 Try.underlying25 Try.type5 rfl rfl rfl rfl rfl (by simp) 1 rfl (by omega) (by omega)) rfl ?_
  rintro _ _ ⟨a28, c28, rfl, rfl⟩
  refine SR_pu (RD_assign rfl) rfl ?_
  refine SR_nil ?_
  refine SN.le (l := [(0, _), (1, _), (5, _), (6, _)]) ?_ (.cons rfl (.cons rfl (.cons rfl (.cons rfl (.nil)))))
  refine SN_seq ?_
  refine SC_seq ?_
  refine SC_region ?_
  refine SR_pu (RD_move rfl) rfl ?_
  refine SR_pu (RD_move rfl) rfl ?_
  refine SR_call Try.call18 (.cons rfl (.cons rfl (.nil))) (CallsK.at (wire_Text p [] bs _ _ _ rfl rfl (by simp; omega))) (lts rfl) ?_
  rintro _ L1 ⟨rfl, hL1⟩
  refine SR.lands (show Lands _ (At writerI p (bei (bs.length : Nat) ++ bs) :: _) from hL1) ?_
  rw [hws]
  refine SR_nil ?_
  refine SN.le (l := [(0, _), (1, _), (5, _), (6, _)]) ?_ (.cons rfl (.cons rfl (.cons rfl (.cons rfl (.nil)))))
  refine SN_seq ?_
  refine SC_seq ?_
  refine SC_region ?_
  refine SR_pu (RD_move rfl) rfl ?_
  refine SR_pu (RD_mask 8 rfl rfl rfl (by decide) 256 rfl) rfl ?_
  refine SR_pu (RD_move rfl) rfl ?_
  refine SR_pu (RD_len Try.runUnderlying25 rfl) rfl ?_
  refine SR_pu (RD_remk rfl rfl (by omega) (by omega) hk) rfl ?_
  refine SR_pu (RD_assign rfl) rfl ?_
  refine SR_nil ?_
  refine SN.le (l := [(0, _), (5, _), (6, _), (7, _)]) ?_ (.cons rfl (.cons rfl (.cons rfl (.cons rfl (.nil)))))
  refine SN_seq ?_
  refine SC_seq ?_
  refine SC_region ?_
  refine SR_pu (RD_move rfl) rfl ?_
  refine SR_pu (RD_move rfl) rfl ?_
  refine SR_rd (RD_ixO (cs := bs.map byteV) Try.runUnderlying25 Try.sizeOf5 rfl rfl (by simp <;> omega) (by omega) (by omega)) Has.ro rfl ?_
  refine SR_rd (RD_loadO (v := byteV x) (cs := bs.map byteV) Try.isAgg5 rfl (by simp [hx])) Has.ro rfl ?_
  refine SR_pu (RD_add rfl rfl) rfl ?_
  refine SR_rd (RD_ixO (cs := bs.map byteV) Try.runUnderlying25 Try.sizeOf5 rfl rfl (by simp <;> omega) (by omega) (by omega)) Has.ro rfl ?_
  refine SR_ox0 (OX_stRow Try.sizeOf5 rfl rfl (by simp <;> omega)) ?_
  rintro _ _ rfl
  refine SR_nil ?_
  refine SN.le (l := [(5, _), (6, _), (7, _)]) ?_ (.cons rfl (.cons rfl (.cons rfl (.nil))))
  refine SN_seq ?_
  refine SC_seq ?_
  refine SC_region ?_
  refine SR_pu (RD_move rfl) rfl ?_
  refine SR_call Try.call20 (.cons rfl (.nil)) (CallsK.at (wire_Bytes p ws (by omega))) (lts rfl) ?_
  rintro _ L2 ⟨a2, c2, rfl, hL2⟩
  refine SR.lands hL2 ?_
  refine SR_pu (RD_assign rfl) rfl ?_
  refine SR_nil ?_
  refine SN.le (l := [(5, _), (6, _), (7, _), (8, _)]) ?_ (.cons rfl (.cons rfl (.cons rfl (.cons rfl (.nil)))))
  refine SN_seq ?_
  refine SC_seq ?_
  refine SC_seq ?_
  refine SC_drawn (.cons 0 true (.cons 1 true (.cons 2 true (.cons 3 false (.cons 4 false (.cons 5 true (.cons 6 true (.nil)))))))) (by kernel_rfl) (by kernel_rfl) ?_
  refine SQ_pu rfl (RD_move rfl) rfl ?_
  refine SQ_rd rfl (RD_b2s (bs := ws) Try.underlying25 Try.underlying9 Try.underlying5 rfl (rfl)) Has.ro rfl ?_
  refine SQ_pu rfl (RD_move rfl) rfl ?_
  refine SQ_ox rfl (OX_s2bb (bs := bs) Try.underlying9 Try.underlying25 Try.underlying5 rfl) rfl ?_
  rintro _ _ ⟨b48, c48, rfl, rfl⟩
  refine ⟨.h Has.ro (.nil), ?_⟩
  refine SQ_call rfl Try.call22 (.cons rfl (.nil)) (haveI : Ones (bs.map byteV) := inferInstance; ref_Text _ _ _ bs rfl rfl (by omega)) (lts rfl) ?_
  rintro _ L3 ⟨a3, c3, rfl, hL3⟩
  rw [hws] at hL3
  refine ⟨.lands hL3 (.h Has.ro (.nil)), ?_⟩
  refine SQ.lands hL3 ?_
  refine SQ_rd rfl (RD_b2s (bs := ws) Try.underlying25 Try.underlying9 Try.underlying5 rfl (by omega)) Has.ro rfl ?_
  refine SQ_pu rfl (RD_neqS rfl rfl) rfl ?_
  refine SQ_nil ?_
  refine SN.le (l := [(5, _), (6, _), (7, _), (8, _), (51, _)]) ?_ (.cons rfl (.cons rfl (.cons rfl (.cons rfl (.cons rfl (.nil))))))
  refine SN_seq ?_
  refine SC_cond_false rfl (by simp) ?_
  refine SC_skip ?_
  refine SN_seq ?_
  refine SC_seq ?_
  refine SC_region ?_
  refine SR_pu (RD_move rfl) rfl ?_
  refine SR_call Try.call23 (.cons rfl (.nil)) (wire_Read ws _ _ _ rfl rfl (by omega)) (lts rfl) ?_
  rintro _ L4 ⟨q, rfl, hL4⟩
  refine SR.lands hL4 ?_
  refine SR_pu (RD_assign rfl) rfl ?_
  refine SR_nil ?_
  refine SN.le (l := [(5, _), (6, _), (7, _), (8, _), (9, _)]) ?_ (.cons rfl (.cons rfl (.cons rfl (.cons rfl (.cons rfl (.nil))))))
  refine SN_seq ?_
  refine SC_seq ?_
  refine SC_seq ?_
  refine SC_region ?_
  refine SR_pu (RD_move rfl) rfl ?_
  refine SR_pu (RD_eqlP Try.underlying38 rfl rfl) rfl ?_
  refine SR_nil ?_
  refine SN.le (l := [(5, _), (6, _), (7, _), (8, _), (9, _), (55, _)]) ?_ (.cons rfl (.cons rfl (.cons rfl (.cons rfl (.cons rfl (.cons rfl (.nil)))))))
  refine SN_seq ?_
  refine SC_cond_false rfl (rfl) ?_
  refine SC_skip ?_
  refine SN_seq ?_
  refine SC_seq ?_
  refine SC_region ?_
  refine SR_pu (RD_move rfl) rfl ?_
  refine SR_pu (RD_move rfl) rfl ?_
  refine SR_pu (RD_addi rfl rfl (by omega) (by omega)) rfl ?_
  refine SR_rd (RD_ixO (cs := ws.map byteV) Try.runUnderlying25 Try.sizeOf5 rfl rfl (by simp <;> omega) (by omega) (by omega)) Has.ro rfl ?_
  refine SR_rd (RD_loadO (v := byteV x) (cs := ws.map byteV) Try.isAgg5 rfl (by simp [hwx, show ((8 : Int) + (k : Int)).toNat = 8 + k by omega])) Has.ro rfl ?_
  refine SR_pu (RD_add rfl rfl) rfl ?_
  refine SR_rd (RD_ixO (cs := ws.map byteV) Try.runUnderlying25 Try.sizeOf5 rfl rfl (by simp <;> omega) (by omega) (by omega)) Has.ro rfl ?_
  refine SR_ox0 (OX_stRow Try.sizeOf5 rfl rfl (by simp <;> omega)) ?_
  rintro _ _ rfl
  refine SR_nil ?_
  refine SN.le (l := [(5, _), (6, _), (9, _)]) ?_ (.cons rfl (.cons rfl (.cons rfl (.nil))))
  refine SN_seq ?_
  refine SC_seq ?_
  refine SC_region ?_
  refine SR_pu (RD_move rfl) rfl ?_
  refine SR_call Try.call20 (.cons rfl (.nil)) (CallsK.at (wire_Bytes p ws (by omega))) (lts rfl) ?_
  rintro _ L6 ⟨a6, c6, rfl, hL6⟩
  refine SR.lands hL6 ?_
  refine SR_pu (RD_assign rfl) rfl ?_
  refine SR_nil ?_
  refine SN.le (l := [(6, _), (9, _), (10, _)]) ?_ (.cons rfl (.cons rfl (.cons rfl (.nil))))
  refine SN_seq ?_
  refine SC_seq ?_
  refine SC_region ?_
  refine SR_pu (RD_move rfl) rfl ?_
  refine SR_call Try.call24 (.cons rfl (.nil)) (CallsK.at (reader_Text q (ws, false) (by show ws.length ≤ _; omega))) (lts rfl) ?_
  rintro _ L5 ⟨a5, c5, rfl, hL5⟩
  rw [hwt] at hL5 ⊢
  dsimp only at hL5 ⊢
  refine SR.lands hL5 ?_
  refine SR_pu (RD_assign rfl) rfl ?_
  refine SR_nil ?_
  refine SN.le (l := [(6, _), (9, _), (10, _), (11, _)]) ?_ (.cons rfl (.cons rfl (.cons rfl (.cons rfl (.nil)))))
  refine SN_seq ?_
  refine SC_seq ?_
  refine SC_drawn (.cons 0 true (.cons 1 true (.cons 2 true (.cons 3 true (.cons 4 true (.cons 5 true (.cons 6 true (.cons 7 true (.cons 8 false (.cons 9 false (.cons 10 true (.cons 11 true (.cons 12 true (.cons 13 true (.cons 14 true (.cons 15 false (.cons 16 true (.cons 17 true (.cons 18 false (.cons 19 true (.cons 20 true (.nil)))))))))))))))))))))) (by kernel_rfl) (by kernel_rfl) ?_
  refine SQ_pu rfl (RD_move rfl) rfl ?_
  refine SQ_rd rfl (RD_b2s (bs := bs) Try.underlying25 Try.underlying9 Try.underlying5 rfl (rfl)) Has.ro rfl ?_
  refine SQ_pu rfl (RD_move rfl) rfl ?_
  refine SQ_pu rfl (RD_eqlS rfl rfl) rfl ?_
  refine SQ_pu rfl (RD_move rfl) rfl ?_
  refine SQ_pyes rfl rfl rfl (by first | rfl | exact decide_eq_true (by omega) | exact decide_eq_false (by omega) | decide | (simp; done) | (simp; omega)) (RD_move rfl) rfl ?_
  refine SQ_yes rfl rfl rfl (by first | rfl | exact decide_eq_true (by omega) | exact decide_eq_false (by omega) | decide | (simp; done) | (simp; omega)) (RD_b2s (bs := ws) Try.underlying25 Try.underlying9 Try.underlying5 rfl (rfl)) Has.ro rfl ?_
  refine SQ_pyes rfl rfl rfl (by first | rfl | exact decide_eq_true (by omega) | exact decide_eq_false (by omega) | decide | (simp; done) | (simp; omega)) (RD_move rfl) rfl ?_
  refine SQ_one (SA_ox rfl (.mk rfl rfl (by first | rfl | exact decide_eq_true (by omega) | exact decide_eq_false (by omega) | decide | (simp; done) | (simp; omega))) (OX_s2bb (bs := bs) Try.underlying9 Try.underlying25 Try.underlying5 rfl) rfl ?_)
  rintro _ _ ⟨b75, c75, rfl, rfl⟩
  refine ⟨.h Has.ro (.h Has.ro (.nil)), ?_⟩
  refine SQ_one (SA_call rfl (.mk rfl rfl (by first | rfl | exact decide_eq_true (by omega) | exact decide_eq_false (by omega) | decide | (simp; done) | (simp; omega))) Try.call22 (.cons rfl (.nil)) (haveI : Ones (bs.map byteV) := inferInstance; ref_Text _ _ _ bs rfl rfl (by omega)) (lts rfl) ?_)
  rintro _ L7 ⟨a7, c7, rfl, hL7⟩
  rw [hws] at hL7
  refine ⟨.lands hL7 (.h Has.ro (.h Has.ro (.nil))), ?_⟩
  refine SQ.lands hL7 ?_
  refine SQ_yes rfl rfl rfl (by first | rfl | exact decide_eq_true (by omega) | exact decide_eq_false (by omega) | decide | (simp; done) | (simp; omega)) (RD_b2s (bs := ws) Try.underlying25 Try.underlying9 Try.underlying5 rfl (by omega)) Has.ro rfl ?_
  refine SQ_pyes rfl rfl rfl (by first | rfl | exact decide_eq_true (by omega) | exact decide_eq_false (by omega) | decide | (simp; done) | (simp; omega)) (RD_eqlS rfl rfl) rfl ?_
  refine SQ_pu rfl (RD_pick_t rfl (by first | rfl | exact decide_eq_true (by omega) | exact decide_eq_false (by omega) | decide | (simp; done) | (simp; omega)) rfl) rfl ?_
  refine SQ_pu rfl (RD_move rfl) rfl ?_
  refine SQ_pyes rfl rfl rfl (by first | rfl | exact decide_eq_true (by omega) | exact decide_eq_false (by omega) | decide | (simp; done) | (simp; omega)) (RD_move rfl) rfl ?_
  refine SQ_one (SA_call rfl (.mk rfl rfl (by first | rfl | exact decide_eq_true (by omega) | exact decide_eq_false (by omega) | decide | (simp; done) | (simp; omega))) Try.call25 (.cons rfl (.nil)) (CallsK.at (reader_Done q ([], false))) (lts rfl) ?_)
  rintro _ L8 ⟨rfl, hL8⟩
  refine ⟨.lands hL8 (.h Has.ro (.h Has.ro (.h Has.ro (.nil)))), ?_⟩
  refine SQ.lands hL8 ?_
  refine SQ_pu rfl (RD_pick_t rfl (by first | rfl | exact decide_eq_true (by omega) | exact decide_eq_false (by omega) | decide | (simp; done) | (simp; omega)) rfl) rfl ?_
  refine SQ_pu rfl (RD_move rfl) rfl ?_
  refine SQ_one (SA_call rfl (.mk rfl rfl (by first | rfl | exact decide_eq_true (by omega) | exact decide_eq_false (by omega) | decide | (simp; done) | (simp; omega))) Try.call15 (.nil) (wire_awake) (lts rfl) ?_)
  rintro _ L9 ⟨rfl, hL9⟩
  refine ⟨.lands hL9 (.h Has.ro (.h Has.ro (.h Has.ro (.nil)))), ?_⟩
  refine SQ.lands hL9 ?_
  refine SQ_pu rfl (RD_pick_t rfl (by first | rfl | exact decide_eq_true (by omega) | exact decide_eq_false (by omega) | decide | (simp; done) | (simp; omega)) rfl) rfl ?_
  refine SQ_pu rfl (RD_assign rfl) rfl ?_
  refine SQ_nil ?_
  refine SN.le (l := [(4, _)]) ?_ (.cons rfl (.nil))
  refine SN_seq ?_
  refine SC_ret1 rfl rfl ?_
  exact ⟨rfl, .fin⟩

theorem law_WireOwn {W : World} {F : List HProp} [Abs F] (a : Option Addr) (n c : Nat) (bs : List UInt8) [HasRow F a (bs.map byteV)] (hn : bs.length = n) (at_ : Int) :
    CallsK W Try.prog 4 #[.slice a n c, .int .i64 at_] (F) (fun v L => v = .bool true ∧ Lands L F) := by
  by_cases h : n = 0 ∨ 100 < n
  · exact law_WireOwn_short a n c bs hn at_ h
  · exact law_WireOwn_long a n c bs hn at_ (by omega) (by omega)

end Go.Proofs.Ytdjkllhnkbobfaa
