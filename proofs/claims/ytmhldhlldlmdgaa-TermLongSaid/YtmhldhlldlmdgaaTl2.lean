/- The statement on long rows of digests. -/
import Derived.Test.YtmhldhlldlmdgaaTe1
import Derived.Test.YtmhldhlldlmdgaaSl13
namespace Go.Proofs.Ytmhldhlldlmdgaa
open Go Go.Proofs
set_option maxRecDepth 100000

theorem dput_len' (l : List (List UInt8)) (s : List UInt8) : (dput l s).length ≤ l.length + 1 := by unfold dput; split <;> simp
theorem dput_head {l : List (List UInt8)} {x : List UInt8} (h : ∃ t, l = x :: t) (s : List UInt8) : ∃ t, dput l s = x :: t := by
  obtain ⟨t, rfl⟩ := h
  unfold dput
  split
  · exact ⟨t, rfl⟩
  · exact ⟨t ++ [s], rfl⟩
theorem dnum_head (x : List UInt8) (t : List (List UInt8)) (s : List UInt8) : dnum (x :: t) s = 1 ↔ s = x := by
  unfold dnum
  by_cases h : s = x
  · simp [h]
  · simp only [h, if_false]
    by_cases e : dnum t s = 0 <;> simp [e]
theorem dput_hold (x : List UInt8) (t : List (List UInt8)) : dput (x :: t) x = x :: t ∧ dnum (x :: t) x = 1 := by
  simp [dput, dnum]
theorem long_two (bs : List UInt8) (b : UInt8) : dput [bs] (bs ++ [b]) = [bs, bs ++ [b]] ∧ dnum [bs, bs ++ [b]] (bs ++ [b]) = 2 := by
  have h : bs ++ [b] ≠ bs := by intro h; have := congrArg List.length h; simp at this
  constructor
  · simp [dput, h]
  · simp [dnum, h]
theorem long_three (bs : List UInt8) (b : UInt8) : dnum (dput [bs, bs ++ [b]] (b :: bs)) (b :: bs) = 2 ↔ b :: bs = bs ++ [b] := by
  have h : b :: bs ≠ bs := by intro h; have := congrArg List.length h; simp at this
  by_cases e : b :: bs = bs ++ [b]
  · rw [dnum_put_old (by simp [e])]
    simp only [dnum, h, if_false, e, if_true]
    simp
  · have h3 : b :: bs ∉ [bs, bs ++ [b]] := by simp [h, e]
    rw [(dnum_put_new h3).2]
    simp [e]
theorem long_set {bs : List UInt8} {k : Nat} {x b : UInt8} (hx : bs[k]? = some x) : bs.set k (x ^^^ b) = bs ↔ b = 0 := by
  have hk := (List.getElem?_eq_some_iff.1 hx).1
  constructor
  · intro h
    have h1 : (bs.set k (x ^^^ b))[k]? = bs[k]? := by rw [h]
    rw [List.getElem?_set_self hk, hx] at h1
    have h2 := Option.some.inj h1
    have h3 := congrArg UInt8.toBitVec h2
    have : b.toBitVec = 0 := by
      have : x.toBitVec ^^^ b.toBitVec = x.toBitVec := by simpa using h3
      have h4 := congrArg (x.toBitVec ^^^ ·) this
      simpa [← BitVec.xor_assoc] using h4
    exact UInt8.toBitVec_inj.1 this
  · rintro rfl
    simp
    have : bs[k] = x := by rw [List.getElem?_eq_getElem hk] at hx; exact Option.some.inj hx
    rw [← this]
    simp
theorem set_byteX {bs : List UInt8} {k : Nat} {y : UInt8} : (bs.set k y).map byteV = (bs.map byteV).set ((k : Int).toNat * (0 + 1)) (byteV y) := by
  rw [List.map_set]; simp

theorem law_TermLong {W : World} {F : List HProp} [Abs F] (a : Option Addr) (n c : Nat) (bs : List UInt8) [HasRow F a (bs.map byteV)] (hn : bs.length = n) (at_ : Int) (b : UInt8) :
    CallsK W Try.prog 4 #[.slice a n c, .int .i64 at_, byteV b] (F) (fun v L => v = .bool true ∧ Lands L F) := by
  refine CallsK_enter (n := 146) Try.func4 rfl rfl rfl ?_
  subst hn
  refine SC_seq ?_
  refine SC_region ?_
  refine SR_pu (RD_assign rfl) rfl ?_
  refine SR_nil ?_
  refine SN.le (l := [(0, _), (1, _), (2, _)]) ?_ (.cons rfl (.cons rfl (.cons rfl (.nil))))
  refine SN_seq ?_
  refine SC_seq ?_
  refine SC_seq ?_
  refine SC_region ?_
  refine SR_pu (RD_move rfl) rfl ?_
  refine SR_pu (RD_len Try.runUnderlying26 rfl) rfl ?_
  refine SR_pu (RD_gtr rfl rfl) rfl ?_
  refine SR_nil ?_
  refine SN.le (l := [(0, _), (1, _), (2, _), (22, _)]) ?_ (.cons rfl (.cons rfl (.cons rfl (.cons rfl (.nil)))))
  refine SN_seq ?_
  refine SC_cond rfl (fun hc22 => ?_) (fun hc22 => ?_)
  · refine SC_seq ?_
    refine SC_region ?_
    refine SR_call Try.call10 (.nil) (term_awake) (lts rfl) ?_
    rintro _ L9 ⟨rfl, hL9⟩
    refine SR.lands hL9 ?_
    refine SR_pu (RD_assign rfl) rfl ?_
    refine SR_nil ?_
    refine SN.le (l := [(6, _)]) ?_ (.cons rfl (.nil))
    refine SN_seq ?_
    refine SC_ret1 rfl rfl ?_
    exact ⟨rfl, .fin⟩
  · have hn3 : bs.length ≤ 300 := by simp at hc22; omega
    refine SC_skip ?_
    refine SN_seq ?_
    refine SC_seq ?_
    refine SC_region ?_
    refine SR_call Try.call7 (.nil) (term_New) (lts rfl) ?_
    rintro _ L0 ⟨p, rfl, hL0⟩
    refine SR.lands hL0 ?_
    refine SR_pu (RD_assign rfl) rfl ?_
    refine SR_nil ?_
    refine SN.le (l := [(0, _), (1, _), (2, _), (7, _)]) ?_ (.cons rfl (.cons rfl (.cons rfl (.cons rfl (.nil)))))
    refine SN_seq ?_
    refine SC_seq ?_
    refine SC_seq ?_
    refine SC_region ?_
    refine SR_pu (RD_move rfl) rfl ?_
    refine SR_pu (RD_eqlP Try.underlying23 rfl rfl) rfl ?_
    refine SR_nil ?_
    refine SN.le (l := [(0, _), (1, _), (2, _), (7, _), (26, _)]) ?_ (.cons rfl (.cons rfl (.cons rfl (.cons rfl (.cons rfl (.nil))))))
    refine SN_seq ?_
    refine SC_cond_false rfl (rfl) ?_
    refine SC_skip ?_
    refine SN_seq ?_
    refine SC_seq ?_
    refine SC_region ?_
    refine SR_pu (RD_move rfl) rfl ?_
    refine SR_pu (RD_move rfl) rfl ?_
    refine SR_call Try.call8 (.cons rfl (.cons rfl (.nil))) (CallsK.at (term_Digest p [] _ _ _ bs (rfl) (rfl) (by first | decide | (simp; done) | (simp; omega)) [bs] 1 (by simp [dput]) (by simp [dnum]))) (lts rfl) ?_
    rintro _ L1 ⟨rfl, hL1⟩
    refine SR.lands hL1 ?_
    refine SR_pu (RD_assign rfl) rfl ?_
    refine SR_nil ?_
    refine SN.le (l := [(0, _), (1, _), (2, _), (7, _), (8, _)]) ?_ (.cons rfl (.cons rfl (.cons rfl (.cons rfl (.cons rfl (.nil))))))
    refine SN_seq ?_
    refine SC_seq ?_
    refine SC_region ?_
    refine SR_pu (RD_move rfl) rfl ?_
    refine SR_ox (OX_buildSlice0 Try.runUnderlying26 Try.sizeOf5) rfl ?_
    rintro _ _ ⟨b31, rfl, rfl⟩
    refine SR_pu (RD_move rfl) rfl ?_
    refine SR_ox (OX_app0 1 Try.underlying26 Try.underlying26 Try.type5 rfl rfl rfl rfl rfl (by simp) 1 rfl (by omega) (by omega)) rfl ?_
    rintro _ _ ⟨a33, c33, rfl, rfl⟩
    refine SR_pu (RD_move rfl) rfl ?_
    refine SR_ox (OX_lit1 Try.underlying26 Try.type5 rfl rfl rfl rfl (.cons rfl (.nil)) (.cons rfl (.nil))) rfl ?_
    rintro _ _ ⟨b35, rfl, rfl⟩
    refine SR_ox (OX_app 1 Try.underlying26 Try.underlying26 Try.type5 rfl rfl rfl rfl rfl (by first | rfl | simp; done | (simp; omega)) 1 rfl (by omega) (by omega)) rfl ?_
    rintro _ _ ⟨a36, c36, rfl, rfl⟩
    refine SR_call Try.call8 (.cons rfl (.cons rfl (.nil))) (CallsK.at (term_Digest p [bs] _ _ _ (bs ++ [b]) ((by simp; done)) ((by simp; done)) (by first | decide | (simp; done) | (simp; omega)) [bs, bs ++ [b]] 2 ((long_two bs b).1) ((long_two bs b).2))) (lts rfl) ?_
    rintro _ L2 ⟨rfl, hL2⟩
    refine SR.lands hL2 ?_
    refine SR_pu (RD_assign rfl) rfl ?_
    refine SR_nil ?_
    refine SN.le (l := [(0, _), (1, _), (2, _), (7, _), (8, _), (9, _)]) ?_ (.cons rfl (.cons rfl (.cons rfl (.cons rfl (.cons rfl (.cons rfl (.nil)))))))
    refine SN_seq ?_
    refine SC_seq ?_
    obtain ⟨j, hj⟩ : ∃ j, dnum (dput [bs, bs ++ [b]] (b :: bs)) (b :: bs) = j := ⟨_, rfl⟩
    have hj2 : j = 2 ↔ b :: bs = bs ++ [b] := hj ▸ long_three bs b
    refine SC_region ?_
    refine SR_pu (RD_move rfl) rfl ?_
    refine SR_pu (RD_move rfl) rfl ?_
    refine SR_ox (OX_lit1 Try.underlying26 Try.type5 rfl rfl rfl rfl (.cons rfl (.nil)) (.cons rfl (.nil))) rfl ?_
    rintro _ _ ⟨b40, rfl, rfl⟩
    refine SR.lands (lit_row (z := 1) 1 rfl) ?_
    refine SR_pu (RD_move rfl) rfl ?_
    refine SR_ox (OX_app 1 Try.underlying26 Try.underlying26 Try.type5 rfl rfl rfl rfl rfl (by first | rfl | simp; done | (simp; omega)) 1 rfl (by omega) (by omega)) rfl ?_
    rintro _ _ ⟨a42, c42, rfl, rfl⟩
    refine SR_call Try.call8 (.cons rfl (.cons rfl (.nil))) (CallsK.at (term_Digest p [bs, bs ++ [b]] _ _ _ (b :: bs) ((by simp; done)) ((by simp; omega)) (by first | decide | (simp; done) | (simp; omega)) (dput [bs, bs ++ [b]] (b :: bs)) j (rfl) (hj))) (lts rfl) ?_
    rintro _ L3 ⟨rfl, hL3⟩
    refine SR.lands hL3 ?_
    refine SR_pu (RD_assign rfl) rfl ?_
    refine SR_nil ?_
    refine SN.le (l := [(0, _), (1, _), (2, _), (7, _), (8, _), (9, _), (10, _)]) ?_ (.cons rfl (.cons rfl (.cons rfl (.cons rfl (.cons rfl (.cons rfl (.cons rfl (.nil))))))))
    refine SN_seq ?_
    refine SC_seq ?_
    refine SC_region ?_
    refine SR_pu (RD_move rfl) rfl ?_
    refine SR_pu (RD_assign rfl) rfl ?_
    refine SR_nil ?_
    refine SN.le (l := [(0, _), (1, _), (2, _), (7, _), (8, _), (9, _), (10, _), (11, _)]) ?_ (.cons rfl (.cons rfl (.cons rfl (.cons rfl (.cons rfl (.cons rfl (.cons rfl (.cons rfl (.nil)))))))))
    refine SN_seq ?_
    refine SC_seq ?_
    refine SC_seq ?_
    refine SC_region ?_
    refine SR_pu (RD_move rfl) rfl ?_
    refine SR_pu (RD_len Try.runUnderlying26 rfl) rfl ?_
    refine SR_pu (RD_gtr rfl rfl) rfl ?_
    refine SR_nil ?_
    refine SN.le (l := [(0, _), (1, _), (2, _), (7, _), (8, _), (9, _), (10, _), (11, _), (47, _)]) ?_ (.cons rfl (.cons rfl (.cons rfl (.cons rfl (.cons rfl (.cons rfl (.cons rfl (.cons rfl (.cons rfl (.nil))))))))))
    refine SN_seq ?_
    refine SC_join (X := {x : List (List UInt8) × Nat // (∃ tl, x.1 = bs :: tl) ∧ x.1.length ≤ 5 ∧ (x.2 = 1 ↔ b = 0 ∨ bs.length = 0)}) (fun x => [(0, .slice a bs.length c), (2, byteV b), (7, .pointer (some ⟨p, 0, none⟩)), (8, .int .i64 1), (9, .int .i64 2), (10, .int .i64 (j : Nat)), (11, .int .i64 (x.1.2 : Nat))]) (fun x => At arenaI p x.1.1 :: F) (fun x => ?_) (fun J0 => ?_)
    · obtain ⟨⟨l4, e⟩, ⟨tl, htl⟩, hl5, he⟩ := x
      dsimp only at htl hl5 he ⊢
      subst htl
      refine SN_seq ?_
      refine SC_seq ?_
      refine SC_region ?_
      refine SR_pu (RD_move rfl) rfl ?_
      refine SR_call Try.call9 (.cons rfl (.nil)) (CallsK.at (term_Len p (bs :: tl))) (lts rfl) ?_
      rintro _ L5 ⟨rfl, hL5⟩
      refine SR.lands hL5 ?_
      refine SR_pu (RD_assign rfl) rfl ?_
      refine SR_nil ?_
      refine SN.le (l := [(0, _), (2, _), (7, _), (8, _), (9, _), (10, _), (11, _), (13, _)]) ?_ (.cons rfl (.cons rfl (.cons rfl (.cons rfl (.cons rfl (.cons rfl (.cons rfl (.cons rfl (.nil)))))))))
      refine SN_seq ?_
      refine SC_seq ?_
      refine SC_region ?_
      refine SR_pu (RD_move rfl) rfl ?_
      refine SR_pu (RD_move rfl) rfl ?_
      refine SR_pu (RD_addi rfl rfl (by omega) (by omega)) rfl ?_
      refine SR_call Try.call11 (.cons rfl (.cons rfl (.nil))) (CallsK.at (term_Of_no p (bs :: tl) _ (.inr (by simp; omega)))) (lts rfl) ?_
      rintro _ L6 ⟨rfl, hL6⟩
      refine SR.lands hL6 ?_
      refine SR_pu (RD_move rfl) rfl ?_
      refine SR_pu (RD_extract rfl rfl) rfl ?_
      refine SR_pu (RD_extract rfl rfl) rfl ?_
      refine SR_pu (RD_assign rfl) rfl ?_
      refine SR_pu (RD_assign rfl) rfl ?_
      refine SR_nil ?_
      refine SN.le (l := [(0, _), (2, _), (7, _), (8, _), (9, _), (10, _), (11, _), (15, _)]) ?_ (.cons rfl (.cons rfl (.cons rfl (.cons rfl (.cons rfl (.cons rfl (.cons rfl (.cons rfl (.nil)))))))))
      refine SN_seq ?_
      refine SC_seq ?_
      refine SC_region ?_
      refine SR_pu (RD_move rfl) rfl ?_
      refine SR_call Try.call11 (.cons rfl (.cons rfl (.nil))) (CallsK.at (term_Of_no p (bs :: tl) _ (.inl (by omega)))) (lts rfl) ?_
      rintro _ L7 ⟨rfl, hL7⟩
      refine SR.lands hL7 ?_
      refine SR_pu (RD_move rfl) rfl ?_
      refine SR_pu (RD_extract rfl rfl) rfl ?_
      refine SR_pu (RD_extract rfl rfl) rfl ?_
      refine SR_pu (RD_assign rfl) rfl ?_
      refine SR_pu (RD_assign rfl) rfl ?_
      refine SR_nil ?_
      refine SN.le (l := [(0, _), (2, _), (7, _), (8, _), (9, _), (10, _), (11, _), (15, _), (17, _)]) ?_ (.cons rfl (.cons rfl (.cons rfl (.cons rfl (.cons rfl (.cons rfl (.cons rfl (.cons rfl (.cons rfl (.nil))))))))))
      refine SN_seq ?_
      refine SC_seq ?_
      refine SC_region ?_
      refine SR_pu (RD_move rfl) rfl ?_
      refine SR_pu (RD_move rfl) rfl ?_
      refine SR_pu (RD_neg rfl) rfl ?_
      refine SR_call Try.call11 (.cons rfl (.cons rfl (.nil))) (CallsK.at (term_Of_no p (bs :: tl) _ (.inl (by decide)))) (lts rfl) ?_
      rintro _ L8 ⟨rfl, hL8⟩
      refine SR.lands hL8 ?_
      refine SR_pu (RD_move rfl) rfl ?_
      refine SR_pu (RD_extract rfl rfl) rfl ?_
      refine SR_pu (RD_extract rfl rfl) rfl ?_
      refine SR_pu (RD_assign rfl) rfl ?_
      refine SR_pu (RD_assign rfl) rfl ?_
      refine SR_nil ?_
      refine SN.le (l := [(0, _), (2, _), (7, _), (8, _), (9, _), (10, _), (11, _), (15, _), (17, _), (19, _)]) ?_ (.cons rfl (.cons rfl (.cons rfl (.cons rfl (.cons rfl (.cons rfl (.cons rfl (.cons rfl (.cons rfl (.cons rfl (.nil)))))))))))
      refine SN_seq ?_
      refine SC_seq ?_
      have hg25 : (decide ((j : Int) = 2) == decide (bstr (b :: bs) = bstr (bs ++ [b]))) = true := by
        have e1 : ((j : Int) = 2) ↔ (bstr (b :: bs) = bstr (bs ++ [b])) := by rw [bstr_inj, ← hj2]; omega
        simp [e1]
      refine SC_drawn (.cons 0 true (.cons 1 true (.cons 2 true (.cons 3 true (.cons 4 true (.cons 5 true (.cons 6 true (.cons 7 true (.cons 8 true (.cons 9 true (.cons 10 true (.cons 12 true (.cons 16 true (.cons 18 true (.alts [11, 15, 19] (fun i => bif Nat.beq i 11 then (.alts [13, 15, 19] (fun i => bif Nat.beq i 13 then (.cons 14 true (.alts [15, 19] (fun i => bif Nat.beq i 15 then (.alts [17, 19] (fun i => bif Nat.beq i 17 then (.cons 19 false (.goto [true, true, true, true, true, true, true, true, true, true, true, true, true, true, true, true, true, true, true, true, false, false, false, false, false, false, false, false, false, false, false, false, false, false, false, false, false, false, false, false, false, false, false, false, false, false, false, false, false, false, false, false, false, false, false, false, false, false, false, false, false] 41)) else (.cons 17 false (.goto [true, true, true, true, true, true, true, true, true, true, true, true, true, true, true, true, true, true, true, true, false, false, false, false, false, false, false, false, false, false, false, false, false, false, false, false, false, false, false, false, false, false, false, false, false, false, false, false, false, false, false, false, false, false, false, false, false, false, false, false, false] 41)))) else (.cons 15 false (.cons 17 false (.goto [true, true, true, true, true, true, true, true, true, true, true, true, true, true, true, true, true, true, true, true, false, false, false, false, false, false, false, false, false, false, false, false, false, false, false, false, false, false, false, false, false, false, false, false, false, false, false, false, false, false, false, false, false, false, false, false, false, false, false, false, false] 41)))))) else bif Nat.beq i 15 then (.alts [13, 19] (fun i => bif Nat.beq i 13 then (.cons 14 true (.alts [17, 19] (fun i => bif Nat.beq i 17 then (.cons 19 false (.goto [true, true, true, true, true, true, true, true, true, true, true, true, true, true, true, true, true, true, true, true, false, false, false, false, false, false, false, false, false, false, false, false, false, false, false, false, false, false, false, false, false, false, false, false, false, false, false, false, false, false, false, false, false, false, false, false, false, false, false, false, false] 41)) else (.cons 17 false (.goto [true, true, true, true, true, true, true, true, true, true, true, true, true, true, true, true, true, true, true, true, false, false, false, false, false, false, false, false, false, false, false, false, false, false, false, false, false, false, false, false, false, false, false, false, false, false, false, false, false, false, false, false, false, false, false, false, false, false, false, false, false] 41))))) else (.cons 13 false (.cons 14 true (.cons 17 false (.goto [true, true, true, true, true, true, true, true, true, true, true, true, true, true, true, true, true, true, true, true, false, false, false, false, false, false, false, false, false, false, false, false, false, false, false, false, false, false, false, false, false, false, false, false, false, false, false, false, false, false, false, false, false, false, false, false, false, false, false, false, false] 41)))))) else (.alts [13, 15] (fun i => bif Nat.beq i 13 then (.cons 14 true (.cons 15 false (.cons 17 false (.goto [true, true, true, true, true, true, true, true, true, true, true, true, true, true, true, true, true, true, true, true, false, false, false, false, false, false, false, false, false, false, false, false, false, false, false, false, false, false, false, false, false, false, false, false, false, false, false, false, false, false, false, false, false, false, false, false, false, false, false, false, false] 41)))) else (.cons 13 false (.cons 14 true (.cons 17 false (.goto [true, true, true, true, true, true, true, true, true, true, true, true, true, true, true, true, true, true, true, true, false, false, false, false, false, false, false, false, false, false, false, false, false, false, false, false, false, false, false, false, false, false, false, false, false, false, false, false, false, false, false, false, false, false, false, false, false, false, false, false, false] 41)))))))) else bif Nat.beq i 15 then (.alts [11, 19] (fun i => bif Nat.beq i 11 then (.alts [13, 19] (fun i => bif Nat.beq i 13 then (.cons 14 true (.alts [17, 19] (fun i => bif Nat.beq i 17 then (.cons 19 false (.goto [true, true, true, true, true, true, true, true, true, true, true, true, true, true, true, true, true, true, true, true, false, false, false, false, false, false, false, false, false, false, false, false, false, false, false, false, false, false, false, false, false, false, false, false, false, false, false, false, false, false, false, false, false, false, false, false, false, false, false, false, false] 41)) else (.cons 17 false (.goto [true, true, true, true, true, true, true, true, true, true, true, true, true, true, true, true, true, true, true, true, false, false, false, false, false, false, false, false, false, false, false, false, false, false, false, false, false, false, false, false, false, false, false, false, false, false, false, false, false, false, false, false, false, false, false, false, false, false, false, false, false] 41))))) else (.cons 13 false (.cons 14 true (.cons 17 false (.goto [true, true, true, true, true, true, true, true, true, true, true, true, true, true, true, true, true, true, true, true, false, false, false, false, false, false, false, false, false, false, false, false, false, false, false, false, false, false, false, false, false, false, false, false, false, false, false, false, false, false, false, false, false, false, false, false, false, false, false, false, false] 41)))))) else (.cons 11 false (.cons 13 false (.cons 14 true (.cons 17 false (.goto [true, true, true, true, true, true, true, true, true, true, true, true, true, true, true, true, true, true, true, true, false, false, false, false, false, false, false, false, false, false, false, false, false, false, false, false, false, false, false, false, false, false, false, false, false, false, false, false, false, false, false, false, false, false, false, false, false, false, false, false, false] 41))))))) else (.alts [11, 15] (fun i => bif Nat.beq i 11 then (.alts [13, 15] (fun i => bif Nat.beq i 13 then (.cons 14 true (.cons 15 false (.cons 17 false (.goto [true, true, true, true, true, true, true, true, true, true, true, true, true, true, true, true, true, true, true, true, false, false, false, false, false, false, false, false, false, false, false, false, false, false, false, false, false, false, false, false, false, false, false, false, false, false, false, false, false, false, false, false, false, false, false, false, false, false, false, false, false] 41)))) else (.cons 13 false (.cons 14 true (.cons 17 false (.goto [true, true, true, true, true, true, true, true, true, true, true, true, true, true, true, true, true, true, true, true, false, false, false, false, false, false, false, false, false, false, false, false, false, false, false, false, false, false, false, false, false, false, false, false, false, false, false, false, false, false, false, false, false, false, false, false, false, false, false, false, false] 41)))))) else (.cons 11 false (.cons 13 false (.cons 14 true (.cons 17 false (.goto [true, true, true, true, true, true, true, true, true, true, true, true, true, true, true, true, true, true, true, true, false, false, false, false, false, false, false, false, false, false, false, false, false, false, false, false, false, false, false, false, false, false, false, false, false, false, false, false, false, false, false, false, false, false, false, false, false, false, false, false, false] 41))))))))))))))))))))))) (by kernel_rfl) (by kernel_rfl) ?_
      refine SQ_pu rfl (RD_move rfl) rfl ?_
      refine SQ_pu rfl (RD_eql rfl rfl) rfl ?_
      refine SQ_pu rfl (RD_move rfl) rfl ?_
      refine SQ_pyes rfl rfl rfl (rfl) (RD_move rfl) rfl ?_
      refine SQ_pyes rfl rfl rfl (rfl) (RD_eql rfl rfl) rfl ?_
      refine SQ_pu rfl (RD_pick_t rfl (rfl) rfl) rfl ?_
      refine SQ_pu rfl (RD_move rfl) rfl ?_
      refine SQ_pyes rfl rfl rfl (rfl) (RD_move rfl) rfl ?_
      refine SQ_pyes rfl rfl rfl (rfl) (RD_move rfl) rfl ?_
      refine SQ_pyes rfl rfl rfl (rfl) (RD_eql rfl rfl) rfl ?_
      refine SQ_pyes rfl rfl rfl (rfl) (RD_move rfl) rfl ?_
      refine SQ_pyes rfl rfl rfl (rfl) (RD_move rfl) rfl ?_
      refine SQ_pyes rfl rfl rfl (rfl) (RD_move rfl) rfl ?_
      refine SQ_pyes rfl rfl rfl (rfl) (RD_move rfl) rfl ?_
      refine SQ.le (l := [(0, _), (2, _), (7, _), (8, _), (11, _), (15, _), (17, _), (19, _), (92, _), (95, _), (96, _), (98, _), (102, _), (104, _)]) ?_ (.cons rfl (.cons rfl (.cons rfl (.cons rfl (.cons rfl (.cons rfl (.cons rfl (.cons rfl (.cons rfl (.cons rfl (.cons rfl (.cons rfl (.cons rfl (.cons rfl (.nil)))))))))))))))
      refine SQ_join (X := Option Addr × Nat × Option Addr × Nat × Nat) (.cons 20 false (.cons 21 true (.cons 22 true (.cons 23 true (.cons 24 true (.cons 25 true (.cons 26 true (.cons 27 true (.cons 28 true (.cons 29 true (.cons 30 true (.cons 31 true (.cons 32 true (.cons 33 true (.cons 34 true (.cons 35 true (.cons 36 true (.cons 37 true (.cons 38 true (.cons 39 true (.cons 40 true (.cons 41 true (.cons 42 true (.cons 43 true (.cons 44 true (.cons 45 true (.cons 46 true (.cons 47 true (.cons 48 true (.cons 49 true (.cons 50 true (.cons 51 true (.cons 52 true (.cons 54 true (.cons 53 false (.cons 55 true (.cons 56 true (.cons 57 true (.cons 58 false (.cons 59 true (.cons 60 true (.nil)))))))))))))))))))))))))))))))))))))))))) [true, true, true, true, true, true, true, true, true, true, true, true, true, true, true, true, true, true, true, true, false, false, false, false, false, false, false, false, false, false, false, false, false, false, false, false, false, false, false, false, false, false, false, false, false, false, false, false, false, false, false, false, false, false, false, false, false, false, false, false, false] 41 (by kernel_rfl) (fun x => [(100, .string (bstr (b :: bs))), (103, .slice x.2.2.1 bs.length x.2.2.2.1), (105, .slice (some ⟨x.2.2.2.2, 0, none⟩) 1 1)]) (fun x => rowP 5 1 x.1 (1 + bs.length) x.2.1 ([byteV b] ++ bs.map byteV) :: rowP 5 1 x.2.2.1 bs.length x.2.2.2.1 (bs.map byteV) :: pt x.2.2.2.2 (.cells [byteV b].toArray 5) :: At arenaI p (bs :: tl) :: F) (fun x => rowP 5 1 x.1 (1 + bs.length) x.2.1 ([byteV b] ++ bs.map byteV) :: F) (fun ⟨a99, c99, a103, c103, b105⟩ T18 hT18 => ?_) (fun K18 => ?_)
      · refine SQ.le (l := [(100, _), (103, _), (105, _), (0, _), (2, _), (7, _), (8, _), (11, _), (15, _), (17, _), (19, _), (92, _), (95, _), (96, _), (98, _), (102, _), (104, _)]) ?_ (.cons rfl (.cons rfl (.cons rfl (.cons rfl (.cons rfl (.cons rfl (.cons rfl (.cons rfl (.cons rfl (.cons rfl (.cons rfl (.cons rfl (.cons rfl (.cons rfl (.cons rfl (.cons rfl (.cons rfl (.nil))))))))))))))))))
        dsimp only at hT18 ⊢
        refine SQ_one (SA_ox rfl (.mk rfl rfl (rfl)) (OX_app 1 Try.underlying26 Try.underlying26 Try.type5 rfl rfl rfl rfl rfl (by first | rfl | simp; done | (simp; omega)) 1 rfl (by omega) (by omega)) rfl ?_)
        rintro _ _ ⟨a106, c106, rfl, rfl⟩
        refine ⟨Keeps.lands .fin (Keeps.all hT18), ?_⟩
        refine SQ_yes rfl rfl rfl (rfl) (RD_b2sc (bs ++ [b]) (cs := bs.map byteV ++ [byteV b]) (by simp; done) Try.underlying26 Try.underlying9 Try.underlying5 rfl (by simp; done)) Has.ro rfl ?_
        refine SQ_pyes rfl rfl rfl (rfl) (RD_eqlS rfl rfl) rfl ?_
        refine SQ_pyes rfl rfl rfl (rfl) (RD_eqlB Try.underlying4 rfl rfl) rfl ?_
        refine SQ_pu rfl (RD_pick_t rfl (rfl) rfl) rfl ?_
        refine SQ_pu rfl (RD_move rfl) rfl ?_
        refine SQ_pyes rfl rfl rfl (hg25) (RD_move rfl) rfl ?_
        refine SQ_pyes rfl rfl rfl (hg25) (RD_move rfl) rfl ?_
        refine SQ_pyes rfl rfl rfl (hg25) (RD_eql rfl rfl) rfl ?_
        refine SQ_pyes rfl rfl rfl (hg25) (RD_move rfl) rfl ?_
        refine SQ_pyes rfl rfl rfl (hg25) (RD_eqlB8 (y := 0) rfl rfl) rfl ?_
        refine SQ_pyes rfl rfl rfl (hg25) (RD_move rfl) rfl ?_
        refine SQ_guard (i := 32) rfl rfl rfl (fun hg18_31 => ?_) (fun hg18_31 => ?_)
        · have hg38 : (decide ((e : Int) = 1) == decide ((bs.length : Int) = 0)) = true := by
            have hb0 : ¬ b = 0 := by simpa using hg18_31
            have e1 : ((e : Int) = 1) ↔ ((bs.length : Int) = 0) := ⟨fun h => (by have h1 := he.1 (by omega); rcases h1 with h1 | h1; exact absurd h1 hb0; omega), fun h => (by have h1 := he.2 (.inr (by omega)); omega)⟩
            simp only [e1]; simp
          refine SQ_pyes rfl rfl rfl (hg18_31) (RD_move rfl) rfl ?_
          refine SQ_pyes rfl rfl rfl (hg18_31) (RD_len Try.runUnderlying26 rfl) rfl ?_
          refine SQ_pyes rfl rfl rfl (hg18_31) (RD_eql rfl rfl) rfl ?_
          refine SQ_pyes rfl rfl rfl (hg25) (RD_pick_f rfl (hg18_31) rfl) rfl ?_
          refine SQ_pyes rfl rfl rfl (hg25) (RD_eqlB Try.underlying4 rfl rfl) rfl ?_
          refine SQ_pu rfl (RD_pick_t rfl (hg25) rfl) rfl ?_
          refine SQ_pu rfl (RD_move rfl) rfl ?_
          refine SQ_pyes rfl rfl rfl (hg38) (RD_move rfl) rfl ?_
          refine SQ_pyes rfl rfl rfl (hg38) (RD_not rfl) rfl ?_
          refine SQ_pu rfl (RD_pick_t rfl (hg38) rfl) rfl ?_
          refine SQ_pu rfl (RD_move rfl) rfl ?_
          refine SQ_pyes rfl rfl rfl (rfl) (RD_move rfl) rfl ?_
          refine SQ_pyes rfl rfl rfl (rfl) (RD_not rfl) rfl ?_
          refine SQ_pu rfl (RD_pick_t rfl (rfl) rfl) rfl ?_
          refine SQ_pu rfl (RD_move rfl) rfl ?_
          refine SQ_pyes rfl rfl rfl (rfl) (RD_move rfl) rfl ?_
          refine SQ_pyes rfl rfl rfl (rfl) (RD_not rfl) rfl ?_
          refine SQ_pu rfl (RD_pick_t rfl (rfl) rfl) rfl ?_
          refine SQ_pu rfl (RD_move rfl) rfl ?_
          refine SQ_pyes rfl rfl rfl (rfl) (RD_move rfl) rfl ?_
          refine SQ_pyes rfl rfl rfl (rfl) (RD_move rfl) rfl ?_
          refine SQ_pyes rfl rfl rfl (rfl) (RD_move rfl) rfl ?_
          refine SQ_one (SA_call rfl (.mk rfl rfl (rfl)) Try.call8 (.cons rfl (.cons rfl (.nil))) (CallsK.at (term_Digest p (bs :: tl) _ _ _ bs (rfl) (rfl) (by omega) (bs :: tl) 1 ((dput_hold bs tl).1) ((dput_hold bs tl).2))) (lts rfl) ?_)
          rintro _ L10 ⟨rfl, hL10⟩
          refine ⟨.lands hL10 (.h Has.ro (Keeps.lands .fin (Keeps.all hT18))), ?_⟩
          refine SQ.lands hL10 ?_
          refine SQ_pyes rfl rfl rfl (rfl) (RD_eql rfl rfl) rfl ?_
          refine SQ_pu rfl (RD_pick_t rfl (rfl) rfl) rfl ?_
          refine SQ_pu rfl (RD_move rfl) rfl ?_
          refine SQ_one (SA_call rfl (.mk rfl rfl (rfl)) Try.call10 (.nil) (term_awake) (lts rfl) ?_)
          rintro _ L9 ⟨rfl, hL9⟩
          refine ⟨.lands hL9 (.h Has.ro (Keeps.lands .fin (Keeps.all hT18))), ?_⟩
          refine SQ.lands hL9 ?_
          refine SQ_pu rfl (RD_pick_t rfl (rfl) rfl) rfl ?_
          refine SQ_pu rfl (RD_assign rfl) rfl ?_
          refine SQ_nil ?_
          refine SN.le (l := [(6, _)]) ?_ (.cons rfl (.nil))
          refine SN_seq ?_
          refine SC_ret1 rfl rfl ?_
          exact ⟨rfl, .fin⟩
        · have hg38 : (decide ((e : Int) = 1) == true) = true := by
            have hb0 : b = 0 := by simpa using hg18_31
            have e1 : e = 1 := he.2 (.inl hb0)
            simp [e1]
          refine SQ_no rfl rfl rfl (hg18_31) (lts rfl) ?_
          refine SQ_no rfl rfl rfl (hg18_31) (lts rfl) ?_
          refine SQ_no rfl rfl rfl (hg18_31) (lts rfl) ?_
          refine SQ_pyes rfl rfl rfl (hg25) (RD_pick_t rfl (hg18_31) rfl) rfl ?_
          refine SQ_pyes rfl rfl rfl (hg25) (RD_eqlB Try.underlying4 rfl rfl) rfl ?_
          refine SQ_pu rfl (RD_pick_t rfl (hg25) rfl) rfl ?_
          refine SQ_pu rfl (RD_move rfl) rfl ?_
          refine SQ_pyes rfl rfl rfl (hg38) (RD_move rfl) rfl ?_
          refine SQ_pyes rfl rfl rfl (hg38) (RD_not rfl) rfl ?_
          refine SQ_pu rfl (RD_pick_t rfl (hg38) rfl) rfl ?_
          refine SQ_pu rfl (RD_move rfl) rfl ?_
          refine SQ_pyes rfl rfl rfl (rfl) (RD_move rfl) rfl ?_
          refine SQ_pyes rfl rfl rfl (rfl) (RD_not rfl) rfl ?_
          refine SQ_pu rfl (RD_pick_t rfl (rfl) rfl) rfl ?_
          refine SQ_pu rfl (RD_move rfl) rfl ?_
          refine SQ_pyes rfl rfl rfl (rfl) (RD_move rfl) rfl ?_
          refine SQ_pyes rfl rfl rfl (rfl) (RD_not rfl) rfl ?_
          refine SQ_pu rfl (RD_pick_t rfl (rfl) rfl) rfl ?_
          refine SQ_pu rfl (RD_move rfl) rfl ?_
          refine SQ_pyes rfl rfl rfl (rfl) (RD_move rfl) rfl ?_
          refine SQ_pyes rfl rfl rfl (rfl) (RD_move rfl) rfl ?_
          refine SQ_pyes rfl rfl rfl (rfl) (RD_move rfl) rfl ?_
          refine SQ_one (SA_call rfl (.mk rfl rfl (rfl)) Try.call8 (.cons rfl (.cons rfl (.nil))) (CallsK.at (term_Digest p (bs :: tl) _ _ _ bs (rfl) (rfl) (by omega) (bs :: tl) 1 ((dput_hold bs tl).1) ((dput_hold bs tl).2))) (lts rfl) ?_)
          rintro _ L10 ⟨rfl, hL10⟩
          refine ⟨.lands hL10 (.h Has.ro (Keeps.lands .fin (Keeps.all hT18))), ?_⟩
          refine SQ.lands hL10 ?_
          refine SQ_pyes rfl rfl rfl (rfl) (RD_eql rfl rfl) rfl ?_
          refine SQ_pu rfl (RD_pick_t rfl (rfl) rfl) rfl ?_
          refine SQ_pu rfl (RD_move rfl) rfl ?_
          refine SQ_one (SA_call rfl (.mk rfl rfl (rfl)) Try.call10 (.nil) (term_awake) (lts rfl) ?_)
          rintro _ L9 ⟨rfl, hL9⟩
          refine ⟨.lands hL9 (.h Has.ro (Keeps.lands .fin (Keeps.all hT18))), ?_⟩
          refine SQ.lands hL9 ?_
          refine SQ_pu rfl (RD_pick_t rfl (rfl) rfl) rfl ?_
          refine SQ_pu rfl (RD_assign rfl) rfl ?_
          refine SQ_nil ?_
          refine SN.le (l := [(6, _)]) ?_ (.cons rfl (.nil))
          refine SN_seq ?_
          refine SC_ret1 rfl rfl ?_
          exact ⟨rfl, .fin⟩
      · refine SQ_three ?_ ?_ ?_
        · refine SA_ox rfl (.mk rfl rfl (rfl)) (OX_lit1 Try.underlying26 Try.type5 rfl rfl rfl rfl (.cons rfl (.nil)) (.cons rfl (.nil))) rfl ?_
          rintro _ _ ⟨b97, rfl, rfl⟩
          refine ⟨.nil, ?_⟩
          refine SQ.lands (lit_row (z := 1) 1 rfl) ?_
          refine SQ_three ?_ ?_ ?_
          · refine SA_ox rfl (.mk rfl rfl (rfl)) (OX_app 1 Try.underlying26 Try.underlying26 Try.type5 rfl rfl rfl rfl rfl (by first | rfl | simp; done | (simp; omega)) 1 rfl (by omega) (by omega)) rfl ?_
            rintro _ _ ⟨a99, c99, rfl, rfl⟩
            refine ⟨.nil, ?_⟩
            refine SQ_yes rfl rfl rfl (rfl) (RD_b2s (bs := b :: bs) Try.underlying26 Try.underlying9 Try.underlying5 rfl (by simp; omega)) Has.ro rfl ?_
            refine SQ_two ?_ ?_
            · refine SA_ox rfl (.mk rfl rfl (rfl)) (OX_buildSlice0 Try.runUnderlying26 Try.sizeOf5) rfl ?_
              rintro _ _ ⟨b101, rfl, rfl⟩
              refine ⟨.h Has.ro (.nil), ?_⟩
              refine SQ_two ?_ ?_
              · refine SA_ox rfl (.mk rfl rfl (rfl)) (OX_app0 1 Try.underlying26 Try.underlying26 Try.type5 rfl rfl rfl rfl rfl (by simp) 1 rfl (by omega) (by omega)) rfl ?_
                rintro _ _ ⟨a103, c103, rfl, rfl⟩
                refine ⟨.h Has.ro (.nil), ?_⟩
                refine SQ_one (SA_ox rfl (.mk rfl rfl (rfl)) (OX_lit1 Try.underlying26 Try.type5 rfl rfl rfl rfl (.cons rfl (.nil)) (.cons rfl (.nil))) rfl ?_)
                rintro _ _ ⟨b105, rfl, rfl⟩
                refine ⟨.h Has.ro (.nil), ?_⟩
                exact K18 (⟨a99, c99, a103, c103, b105⟩) _ _ _ (.cons rfl (.cons rfl (.cons rfl (.cons rfl (.cons rfl (.cons rfl (.cons rfl (.cons rfl (.cons rfl (.cons rfl (.cons rfl (.cons rfl (.cons rfl (.cons rfl (.cons rfl (.cons rfl (.cons rfl (.nil)))))))))))))))))) (by dsimp only; exact .fin) (.cons Has.ro (.nil))
              · refine SA_ox rfl (.mk rfl rfl (rfl)) (OX_lit1 Try.underlying26 Try.type5 rfl rfl rfl rfl (.cons rfl (.nil)) (.cons rfl (.nil))) rfl ?_
                rintro _ _ ⟨b105, rfl, rfl⟩
                refine ⟨.h Has.ro (.nil), ?_⟩
                refine SQ_one (SA_ox rfl (.mk rfl rfl (rfl)) (OX_app0 1 Try.underlying26 Try.underlying26 Try.type5 rfl rfl rfl rfl rfl (by simp) 1 rfl (by omega) (by omega)) rfl ?_)
                rintro _ _ ⟨a103, c103, rfl, rfl⟩
                refine ⟨.h Has.ro (.nil), ?_⟩
                exact K18 (⟨a99, c99, a103, c103, b105⟩) _ _ _ (.cons rfl (.cons rfl (.cons rfl (.cons rfl (.cons rfl (.cons rfl (.cons rfl (.cons rfl (.cons rfl (.cons rfl (.cons rfl (.cons rfl (.cons rfl (.cons rfl (.cons rfl (.cons rfl (.cons rfl (.nil)))))))))))))))))) (by dsimp only; exact .fin) (.cons Has.ro (.nil))
            · refine SA_ox rfl (.mk rfl rfl (rfl)) (OX_lit1 Try.underlying26 Try.type5 rfl rfl rfl rfl (.cons rfl (.nil)) (.cons rfl (.nil))) rfl ?_
              rintro _ _ ⟨b105, rfl, rfl⟩
              refine ⟨.h Has.ro (.nil), ?_⟩
              refine SQ_one (SA_ox rfl (.mk rfl rfl (rfl)) (OX_buildSlice0 Try.runUnderlying26 Try.sizeOf5) rfl ?_)
              rintro _ _ ⟨b101, rfl, rfl⟩
              refine ⟨.h Has.ro (.nil), ?_⟩
              refine SQ_one (SA_ox rfl (.mk rfl rfl (rfl)) (OX_app0 1 Try.underlying26 Try.underlying26 Try.type5 rfl rfl rfl rfl rfl (by simp) 1 rfl (by omega) (by omega)) rfl ?_)
              rintro _ _ ⟨a103, c103, rfl, rfl⟩
              refine ⟨.h Has.ro (.nil), ?_⟩
              exact K18 (⟨a99, c99, a103, c103, b105⟩) _ _ _ (.cons rfl (.cons rfl (.cons rfl (.cons rfl (.cons rfl (.cons rfl (.cons rfl (.cons rfl (.cons rfl (.cons rfl (.cons rfl (.cons rfl (.cons rfl (.cons rfl (.cons rfl (.cons rfl (.cons rfl (.nil)))))))))))))))))) (by dsimp only; exact .fin) (.cons Has.ro (.nil))
          · refine SA_ox rfl (.mk rfl rfl (rfl)) (OX_buildSlice0 Try.runUnderlying26 Try.sizeOf5) rfl ?_
            rintro _ _ ⟨b101, rfl, rfl⟩
            refine ⟨.nil, ?_⟩
            refine SQ_two ?_ ?_
            · refine SA_ox rfl (.mk rfl rfl (rfl)) (OX_app 1 Try.underlying26 Try.underlying26 Try.type5 rfl rfl rfl rfl rfl (by first | rfl | simp; done | (simp; omega)) 1 rfl (by omega) (by omega)) rfl ?_
              rintro _ _ ⟨a99, c99, rfl, rfl⟩
              refine ⟨.nil, ?_⟩
              refine SQ_yes rfl rfl rfl (rfl) (RD_b2s (bs := b :: bs) Try.underlying26 Try.underlying9 Try.underlying5 rfl (by simp; omega)) Has.ro rfl ?_
              refine SQ_two ?_ ?_
              · refine SA_ox rfl (.mk rfl rfl (rfl)) (OX_app0 1 Try.underlying26 Try.underlying26 Try.type5 rfl rfl rfl rfl rfl (by simp) 1 rfl (by omega) (by omega)) rfl ?_
                rintro _ _ ⟨a103, c103, rfl, rfl⟩
                refine ⟨.h Has.ro (.nil), ?_⟩
                refine SQ_one (SA_ox rfl (.mk rfl rfl (rfl)) (OX_lit1 Try.underlying26 Try.type5 rfl rfl rfl rfl (.cons rfl (.nil)) (.cons rfl (.nil))) rfl ?_)
                rintro _ _ ⟨b105, rfl, rfl⟩
                refine ⟨.h Has.ro (.nil), ?_⟩
                exact K18 (⟨a99, c99, a103, c103, b105⟩) _ _ _ (.cons rfl (.cons rfl (.cons rfl (.cons rfl (.cons rfl (.cons rfl (.cons rfl (.cons rfl (.cons rfl (.cons rfl (.cons rfl (.cons rfl (.cons rfl (.cons rfl (.cons rfl (.cons rfl (.cons rfl (.nil)))))))))))))))))) (by dsimp only; exact .fin) (.cons Has.ro (.nil))
              · refine SA_ox rfl (.mk rfl rfl (rfl)) (OX_lit1 Try.underlying26 Try.type5 rfl rfl rfl rfl (.cons rfl (.nil)) (.cons rfl (.nil))) rfl ?_
                rintro _ _ ⟨b105, rfl, rfl⟩
                refine ⟨.h Has.ro (.nil), ?_⟩
                refine SQ_one (SA_ox rfl (.mk rfl rfl (rfl)) (OX_app0 1 Try.underlying26 Try.underlying26 Try.type5 rfl rfl rfl rfl rfl (by simp) 1 rfl (by omega) (by omega)) rfl ?_)
                rintro _ _ ⟨a103, c103, rfl, rfl⟩
                refine ⟨.h Has.ro (.nil), ?_⟩
                exact K18 (⟨a99, c99, a103, c103, b105⟩) _ _ _ (.cons rfl (.cons rfl (.cons rfl (.cons rfl (.cons rfl (.cons rfl (.cons rfl (.cons rfl (.cons rfl (.cons rfl (.cons rfl (.cons rfl (.cons rfl (.cons rfl (.cons rfl (.cons rfl (.cons rfl (.nil)))))))))))))))))) (by dsimp only; exact .fin) (.cons Has.ro (.nil))
            · refine SA_ox rfl (.mk rfl rfl (rfl)) (OX_lit1 Try.underlying26 Try.type5 rfl rfl rfl rfl (.cons rfl (.nil)) (.cons rfl (.nil))) rfl ?_
              rintro _ _ ⟨b105, rfl, rfl⟩
              refine ⟨.nil, ?_⟩
              refine SQ_one (SA_ox rfl (.mk rfl rfl (rfl)) (OX_app 1 Try.underlying26 Try.underlying26 Try.type5 rfl rfl rfl rfl rfl (by first | rfl | simp; done | (simp; omega)) 1 rfl (by omega) (by omega)) rfl ?_)
              rintro _ _ ⟨a99, c99, rfl, rfl⟩
              refine ⟨.nil, ?_⟩
              refine SQ_yes rfl rfl rfl (rfl) (RD_b2s (bs := b :: bs) Try.underlying26 Try.underlying9 Try.underlying5 rfl (by simp; omega)) Has.ro rfl ?_
              refine SQ_one (SA_ox rfl (.mk rfl rfl (rfl)) (OX_app0 1 Try.underlying26 Try.underlying26 Try.type5 rfl rfl rfl rfl rfl (by simp) 1 rfl (by omega) (by omega)) rfl ?_)
              rintro _ _ ⟨a103, c103, rfl, rfl⟩
              refine ⟨.h Has.ro (.nil), ?_⟩
              exact K18 (⟨a99, c99, a103, c103, b105⟩) _ _ _ (.cons rfl (.cons rfl (.cons rfl (.cons rfl (.cons rfl (.cons rfl (.cons rfl (.cons rfl (.cons rfl (.cons rfl (.cons rfl (.cons rfl (.cons rfl (.cons rfl (.cons rfl (.cons rfl (.cons rfl (.nil)))))))))))))))))) (by dsimp only; exact .fin) (.cons Has.ro (.nil))
          · refine SA_ox rfl (.mk rfl rfl (rfl)) (OX_lit1 Try.underlying26 Try.type5 rfl rfl rfl rfl (.cons rfl (.nil)) (.cons rfl (.nil))) rfl ?_
            rintro _ _ ⟨b105, rfl, rfl⟩
            refine ⟨.nil, ?_⟩
            refine SQ_two ?_ ?_
            · refine SA_ox rfl (.mk rfl rfl (rfl)) (OX_app 1 Try.underlying26 Try.underlying26 Try.type5 rfl rfl rfl rfl rfl (by first | rfl | simp; done | (simp; omega)) 1 rfl (by omega) (by omega)) rfl ?_
              rintro _ _ ⟨a99, c99, rfl, rfl⟩
              refine ⟨.nil, ?_⟩
              refine SQ_yes rfl rfl rfl (rfl) (RD_b2s (bs := b :: bs) Try.underlying26 Try.underlying9 Try.underlying5 rfl (by simp; omega)) Has.ro rfl ?_
              refine SQ_one (SA_ox rfl (.mk rfl rfl (rfl)) (OX_buildSlice0 Try.runUnderlying26 Try.sizeOf5) rfl ?_)
              rintro _ _ ⟨b101, rfl, rfl⟩
              refine ⟨.h Has.ro (.nil), ?_⟩
              refine SQ_one (SA_ox rfl (.mk rfl rfl (rfl)) (OX_app0 1 Try.underlying26 Try.underlying26 Try.type5 rfl rfl rfl rfl rfl (by simp) 1 rfl (by omega) (by omega)) rfl ?_)
              rintro _ _ ⟨a103, c103, rfl, rfl⟩
              refine ⟨.h Has.ro (.nil), ?_⟩
              exact K18 (⟨a99, c99, a103, c103, b105⟩) _ _ _ (.cons rfl (.cons rfl (.cons rfl (.cons rfl (.cons rfl (.cons rfl (.cons rfl (.cons rfl (.cons rfl (.cons rfl (.cons rfl (.cons rfl (.cons rfl (.cons rfl (.cons rfl (.cons rfl (.cons rfl (.nil)))))))))))))))))) (by dsimp only; exact .fin) (.cons Has.ro (.nil))
            · refine SA_ox rfl (.mk rfl rfl (rfl)) (OX_buildSlice0 Try.runUnderlying26 Try.sizeOf5) rfl ?_
              rintro _ _ ⟨b101, rfl, rfl⟩
              refine ⟨.nil, ?_⟩
              refine SQ_one (SA_ox rfl (.mk rfl rfl (rfl)) (OX_app 1 Try.underlying26 Try.underlying26 Try.type5 rfl rfl rfl rfl rfl (by first | rfl | simp; done | (simp; omega)) 1 rfl (by omega) (by omega)) rfl ?_)
              rintro _ _ ⟨a99, c99, rfl, rfl⟩
              refine ⟨.nil, ?_⟩
              refine SQ_yes rfl rfl rfl (rfl) (RD_b2s (bs := b :: bs) Try.underlying26 Try.underlying9 Try.underlying5 rfl (by simp; omega)) Has.ro rfl ?_
              refine SQ_one (SA_ox rfl (.mk rfl rfl (rfl)) (OX_app0 1 Try.underlying26 Try.underlying26 Try.type5 rfl rfl rfl rfl rfl (by simp) 1 rfl (by omega) (by omega)) rfl ?_)
              rintro _ _ ⟨a103, c103, rfl, rfl⟩
              refine ⟨.h Has.ro (.nil), ?_⟩
              exact K18 (⟨a99, c99, a103, c103, b105⟩) _ _ _ (.cons rfl (.cons rfl (.cons rfl (.cons rfl (.cons rfl (.cons rfl (.cons rfl (.cons rfl (.cons rfl (.cons rfl (.cons rfl (.cons rfl (.cons rfl (.cons rfl (.cons rfl (.cons rfl (.cons rfl (.nil)))))))))))))))))) (by dsimp only; exact .fin) (.cons Has.ro (.nil))
        · refine SA_ox rfl (.mk rfl rfl (rfl)) (OX_buildSlice0 Try.runUnderlying26 Try.sizeOf5) rfl ?_
          rintro _ _ ⟨b101, rfl, rfl⟩
          refine ⟨.nil, ?_⟩
          refine SQ_two ?_ ?_
          · refine SA_ox rfl (.mk rfl rfl (rfl)) (OX_lit1 Try.underlying26 Try.type5 rfl rfl rfl rfl (.cons rfl (.nil)) (.cons rfl (.nil))) rfl ?_
            rintro _ _ ⟨b97, rfl, rfl⟩
            refine ⟨.nil, ?_⟩
            refine SQ.lands (lit_row (z := 1) 1 rfl) ?_
            refine SQ_two ?_ ?_
            · refine SA_ox rfl (.mk rfl rfl (rfl)) (OX_app 1 Try.underlying26 Try.underlying26 Try.type5 rfl rfl rfl rfl rfl (by first | rfl | simp; done | (simp; omega)) 1 rfl (by omega) (by omega)) rfl ?_
              rintro _ _ ⟨a99, c99, rfl, rfl⟩
              refine ⟨.nil, ?_⟩
              refine SQ_yes rfl rfl rfl (rfl) (RD_b2s (bs := b :: bs) Try.underlying26 Try.underlying9 Try.underlying5 rfl (by simp; omega)) Has.ro rfl ?_
              refine SQ_two ?_ ?_
              · refine SA_ox rfl (.mk rfl rfl (rfl)) (OX_app0 1 Try.underlying26 Try.underlying26 Try.type5 rfl rfl rfl rfl rfl (by simp) 1 rfl (by omega) (by omega)) rfl ?_
                rintro _ _ ⟨a103, c103, rfl, rfl⟩
                refine ⟨.h Has.ro (.nil), ?_⟩
                refine SQ_one (SA_ox rfl (.mk rfl rfl (rfl)) (OX_lit1 Try.underlying26 Try.type5 rfl rfl rfl rfl (.cons rfl (.nil)) (.cons rfl (.nil))) rfl ?_)
                rintro _ _ ⟨b105, rfl, rfl⟩
                refine ⟨.h Has.ro (.nil), ?_⟩
                exact K18 (⟨a99, c99, a103, c103, b105⟩) _ _ _ (.cons rfl (.cons rfl (.cons rfl (.cons rfl (.cons rfl (.cons rfl (.cons rfl (.cons rfl (.cons rfl (.cons rfl (.cons rfl (.cons rfl (.cons rfl (.cons rfl (.cons rfl (.cons rfl (.cons rfl (.nil)))))))))))))))))) (by dsimp only; exact .fin) (.cons Has.ro (.nil))
              · refine SA_ox rfl (.mk rfl rfl (rfl)) (OX_lit1 Try.underlying26 Try.type5 rfl rfl rfl rfl (.cons rfl (.nil)) (.cons rfl (.nil))) rfl ?_
                rintro _ _ ⟨b105, rfl, rfl⟩
                refine ⟨.h Has.ro (.nil), ?_⟩
                refine SQ_one (SA_ox rfl (.mk rfl rfl (rfl)) (OX_app0 1 Try.underlying26 Try.underlying26 Try.type5 rfl rfl rfl rfl rfl (by simp) 1 rfl (by omega) (by omega)) rfl ?_)
                rintro _ _ ⟨a103, c103, rfl, rfl⟩
                refine ⟨.h Has.ro (.nil), ?_⟩
                exact K18 (⟨a99, c99, a103, c103, b105⟩) _ _ _ (.cons rfl (.cons rfl (.cons rfl (.cons rfl (.cons rfl (.cons rfl (.cons rfl (.cons rfl (.cons rfl (.cons rfl (.cons rfl (.cons rfl (.cons rfl (.cons rfl (.cons rfl (.cons rfl (.cons rfl (.nil)))))))))))))))))) (by dsimp only; exact .fin) (.cons Has.ro (.nil))
            · refine SA_ox rfl (.mk rfl rfl (rfl)) (OX_lit1 Try.underlying26 Try.type5 rfl rfl rfl rfl (.cons rfl (.nil)) (.cons rfl (.nil))) rfl ?_
              rintro _ _ ⟨b105, rfl, rfl⟩
              refine ⟨.nil, ?_⟩
              refine SQ_one (SA_ox rfl (.mk rfl rfl (rfl)) (OX_app 1 Try.underlying26 Try.underlying26 Try.type5 rfl rfl rfl rfl rfl (by first | rfl | simp; done | (simp; omega)) 1 rfl (by omega) (by omega)) rfl ?_)
              rintro _ _ ⟨a99, c99, rfl, rfl⟩
              refine ⟨.nil, ?_⟩
              refine SQ_yes rfl rfl rfl (rfl) (RD_b2s (bs := b :: bs) Try.underlying26 Try.underlying9 Try.underlying5 rfl (by simp; omega)) Has.ro rfl ?_
              refine SQ_one (SA_ox rfl (.mk rfl rfl (rfl)) (OX_app0 1 Try.underlying26 Try.underlying26 Try.type5 rfl rfl rfl rfl rfl (by simp) 1 rfl (by omega) (by omega)) rfl ?_)
              rintro _ _ ⟨a103, c103, rfl, rfl⟩
              refine ⟨.h Has.ro (.nil), ?_⟩
              exact K18 (⟨a99, c99, a103, c103, b105⟩) _ _ _ (.cons rfl (.cons rfl (.cons rfl (.cons rfl (.cons rfl (.cons rfl (.cons rfl (.cons rfl (.cons rfl (.cons rfl (.cons rfl (.cons rfl (.cons rfl (.cons rfl (.cons rfl (.cons rfl (.cons rfl (.nil)))))))))))))))))) (by dsimp only; exact .fin) (.cons Has.ro (.nil))
          · refine SA_ox rfl (.mk rfl rfl (rfl)) (OX_lit1 Try.underlying26 Try.type5 rfl rfl rfl rfl (.cons rfl (.nil)) (.cons rfl (.nil))) rfl ?_
            rintro _ _ ⟨b105, rfl, rfl⟩
            refine ⟨.nil, ?_⟩
            refine SQ_one (SA_ox rfl (.mk rfl rfl (rfl)) (OX_lit1 Try.underlying26 Try.type5 rfl rfl rfl rfl (.cons rfl (.nil)) (.cons rfl (.nil))) rfl ?_)
            rintro _ _ ⟨b97, rfl, rfl⟩
            refine ⟨.nil, ?_⟩
            refine SQ.lands (lit_row (z := 1) 1 rfl) ?_
            refine SQ_one (SA_ox rfl (.mk rfl rfl (rfl)) (OX_app 1 Try.underlying26 Try.underlying26 Try.type5 rfl rfl rfl rfl rfl (by first | rfl | simp; done | (simp; omega)) 1 rfl (by omega) (by omega)) rfl ?_)
            rintro _ _ ⟨a99, c99, rfl, rfl⟩
            refine ⟨.nil, ?_⟩
            refine SQ_yes rfl rfl rfl (rfl) (RD_b2s (bs := b :: bs) Try.underlying26 Try.underlying9 Try.underlying5 rfl (by simp; omega)) Has.ro rfl ?_
            refine SQ_one (SA_ox rfl (.mk rfl rfl (rfl)) (OX_app0 1 Try.underlying26 Try.underlying26 Try.type5 rfl rfl rfl rfl rfl (by simp) 1 rfl (by omega) (by omega)) rfl ?_)
            rintro _ _ ⟨a103, c103, rfl, rfl⟩
            refine ⟨.h Has.ro (.nil), ?_⟩
            exact K18 (⟨a99, c99, a103, c103, b105⟩) _ _ _ (.cons rfl (.cons rfl (.cons rfl (.cons rfl (.cons rfl (.cons rfl (.cons rfl (.cons rfl (.cons rfl (.cons rfl (.cons rfl (.cons rfl (.cons rfl (.cons rfl (.cons rfl (.cons rfl (.cons rfl (.nil)))))))))))))))))) (by dsimp only; exact .fin) (.cons Has.ro (.nil))
        · refine SA_ox rfl (.mk rfl rfl (rfl)) (OX_lit1 Try.underlying26 Try.type5 rfl rfl rfl rfl (.cons rfl (.nil)) (.cons rfl (.nil))) rfl ?_
          rintro _ _ ⟨b105, rfl, rfl⟩
          refine ⟨.nil, ?_⟩
          refine SQ_two ?_ ?_
          · refine SA_ox rfl (.mk rfl rfl (rfl)) (OX_lit1 Try.underlying26 Try.type5 rfl rfl rfl rfl (.cons rfl (.nil)) (.cons rfl (.nil))) rfl ?_
            rintro _ _ ⟨b97, rfl, rfl⟩
            refine ⟨.nil, ?_⟩
            refine SQ.lands (lit_row (z := 1) 1 rfl) ?_
            refine SQ_two ?_ ?_
            · refine SA_ox rfl (.mk rfl rfl (rfl)) (OX_app 1 Try.underlying26 Try.underlying26 Try.type5 rfl rfl rfl rfl rfl (by first | rfl | simp; done | (simp; omega)) 1 rfl (by omega) (by omega)) rfl ?_
              rintro _ _ ⟨a99, c99, rfl, rfl⟩
              refine ⟨.nil, ?_⟩
              refine SQ_yes rfl rfl rfl (rfl) (RD_b2s (bs := b :: bs) Try.underlying26 Try.underlying9 Try.underlying5 rfl (by simp; omega)) Has.ro rfl ?_
              refine SQ_one (SA_ox rfl (.mk rfl rfl (rfl)) (OX_buildSlice0 Try.runUnderlying26 Try.sizeOf5) rfl ?_)
              rintro _ _ ⟨b101, rfl, rfl⟩
              refine ⟨.h Has.ro (.nil), ?_⟩
              refine SQ_one (SA_ox rfl (.mk rfl rfl (rfl)) (OX_app0 1 Try.underlying26 Try.underlying26 Try.type5 rfl rfl rfl rfl rfl (by simp) 1 rfl (by omega) (by omega)) rfl ?_)
              rintro _ _ ⟨a103, c103, rfl, rfl⟩
              refine ⟨.h Has.ro (.nil), ?_⟩
              exact K18 (⟨a99, c99, a103, c103, b105⟩) _ _ _ (.cons rfl (.cons rfl (.cons rfl (.cons rfl (.cons rfl (.cons rfl (.cons rfl (.cons rfl (.cons rfl (.cons rfl (.cons rfl (.cons rfl (.cons rfl (.cons rfl (.cons rfl (.cons rfl (.cons rfl (.nil)))))))))))))))))) (by dsimp only; exact .fin) (.cons Has.ro (.nil))
            · refine SA_ox rfl (.mk rfl rfl (rfl)) (OX_buildSlice0 Try.runUnderlying26 Try.sizeOf5) rfl ?_
              rintro _ _ ⟨b101, rfl, rfl⟩
              refine ⟨.nil, ?_⟩
              refine SQ_one (SA_ox rfl (.mk rfl rfl (rfl)) (OX_app 1 Try.underlying26 Try.underlying26 Try.type5 rfl rfl rfl rfl rfl (by first | rfl | simp; done | (simp; omega)) 1 rfl (by omega) (by omega)) rfl ?_)
              rintro _ _ ⟨a99, c99, rfl, rfl⟩
              refine ⟨.nil, ?_⟩
              refine SQ_yes rfl rfl rfl (rfl) (RD_b2s (bs := b :: bs) Try.underlying26 Try.underlying9 Try.underlying5 rfl (by simp; omega)) Has.ro rfl ?_
              refine SQ_one (SA_ox rfl (.mk rfl rfl (rfl)) (OX_app0 1 Try.underlying26 Try.underlying26 Try.type5 rfl rfl rfl rfl rfl (by simp) 1 rfl (by omega) (by omega)) rfl ?_)
              rintro _ _ ⟨a103, c103, rfl, rfl⟩
              refine ⟨.h Has.ro (.nil), ?_⟩
              exact K18 (⟨a99, c99, a103, c103, b105⟩) _ _ _ (.cons rfl (.cons rfl (.cons rfl (.cons rfl (.cons rfl (.cons rfl (.cons rfl (.cons rfl (.cons rfl (.cons rfl (.cons rfl (.cons rfl (.cons rfl (.cons rfl (.cons rfl (.cons rfl (.cons rfl (.nil)))))))))))))))))) (by dsimp only; exact .fin) (.cons Has.ro (.nil))
          · refine SA_ox rfl (.mk rfl rfl (rfl)) (OX_buildSlice0 Try.runUnderlying26 Try.sizeOf5) rfl ?_
            rintro _ _ ⟨b101, rfl, rfl⟩
            refine ⟨.nil, ?_⟩
            refine SQ_one (SA_ox rfl (.mk rfl rfl (rfl)) (OX_lit1 Try.underlying26 Try.type5 rfl rfl rfl rfl (.cons rfl (.nil)) (.cons rfl (.nil))) rfl ?_)
            rintro _ _ ⟨b97, rfl, rfl⟩
            refine ⟨.nil, ?_⟩
            refine SQ.lands (lit_row (z := 1) 1 rfl) ?_
            refine SQ_one (SA_ox rfl (.mk rfl rfl (rfl)) (OX_app 1 Try.underlying26 Try.underlying26 Try.type5 rfl rfl rfl rfl rfl (by first | rfl | simp; done | (simp; omega)) 1 rfl (by omega) (by omega)) rfl ?_)
            rintro _ _ ⟨a99, c99, rfl, rfl⟩
            refine ⟨.nil, ?_⟩
            refine SQ_yes rfl rfl rfl (rfl) (RD_b2s (bs := b :: bs) Try.underlying26 Try.underlying9 Try.underlying5 rfl (by simp; omega)) Has.ro rfl ?_
            refine SQ_one (SA_ox rfl (.mk rfl rfl (rfl)) (OX_app0 1 Try.underlying26 Try.underlying26 Try.type5 rfl rfl rfl rfl rfl (by simp) 1 rfl (by omega) (by omega)) rfl ?_)
            rintro _ _ ⟨a103, c103, rfl, rfl⟩
            refine ⟨.h Has.ro (.nil), ?_⟩
            exact K18 (⟨a99, c99, a103, c103, b105⟩) _ _ _ (.cons rfl (.cons rfl (.cons rfl (.cons rfl (.cons rfl (.cons rfl (.cons rfl (.cons rfl (.cons rfl (.cons rfl (.cons rfl (.cons rfl (.cons rfl (.cons rfl (.cons rfl (.cons rfl (.cons rfl (.nil)))))))))))))))))) (by dsimp only; exact .fin) (.cons Has.ro (.nil))
    · refine SC_cond rfl (fun hc47 => ?_) (fun hc47 => ?_)
      · have h0 : 0 < bs.length := by simp at hc47; omega
        obtain ⟨k, hk⟩ : ∃ k : Nat, at_ % 65536 % (bs.length : Int) = (k : Int) := ⟨(at_ % 65536 % (bs.length : Int)).toNat, by rw [Int.toNat_of_nonneg (Int.emod_nonneg _ (by omega))]⟩
        have hkb : k < bs.length := by have := Int.emod_lt_of_pos (at_ % 65536) (show (0 : Int) < bs.length by omega); omega
        obtain ⟨x, hx⟩ : ∃ x, bs[k]? = some x := ⟨_, List.getElem?_eq_getElem hkb⟩
        obtain ⟨tl, htl⟩ := dput_head (dput_head ⟨[bs ++ [b]], rfl⟩ (b :: bs)) (bs.set k (x ^^^ b))
        have hl5 : (dput (dput [bs, bs ++ [b]] (b :: bs)) (bs.set k (x ^^^ b))).length ≤ 5 := by have h1 := dput_len' (dput [bs, bs ++ [b]] (b :: bs)) (bs.set k (x ^^^ b)); have h2 := dput_len' [bs, bs ++ [b]] (b :: bs); simp at h2; omega
        refine SC_seq ?_
        refine SC_region ?_
        refine SR_ox (OX_buildSlice0 Try.runUnderlying26 Try.sizeOf5) rfl ?_
        rintro _ _ ⟨b48, rfl, rfl⟩
        refine SR_pu (RD_move rfl) rfl ?_
        refine SR_ox (OX_app0 1 Try.underlying26 Try.underlying26 Try.type5 rfl rfl rfl rfl rfl (by simp) 1 rfl (by omega) (by omega)) rfl ?_
        rintro _ _ ⟨a50, c50, rfl, rfl⟩
        refine SR_pu (RD_assign rfl) rfl ?_
        refine SR_nil ?_
        refine SN.le (l := [(0, _), (1, _), (2, _), (7, _), (8, _), (9, _), (10, _), (12, _)]) ?_ (.cons rfl (.cons rfl (.cons rfl (.cons rfl (.cons rfl (.cons rfl (.cons rfl (.cons rfl (.nil)))))))))
        refine SN_seq ?_
        refine SC_seq ?_
        refine SC_region ?_
        refine SR_pu (RD_move rfl) rfl ?_
        refine SR_pu (RD_move rfl) rfl ?_
        refine SR_pu (RD_mask 16 rfl rfl rfl (by decide) 65536 rfl) rfl ?_
        refine SR_pu (RD_move rfl) rfl ?_
        refine SR_pu (RD_len Try.runUnderlying26 rfl) rfl ?_
        refine SR_pu (RD_remk rfl rfl (by omega) (by omega) hk) rfl ?_
        refine SR_rd (RD_ixO (cs := bs.map byteV) Try.runUnderlying26 Try.sizeOf5 rfl rfl (by simp <;> omega) (by omega) (by omega)) Has.ro rfl ?_
        refine SR_rd (RD_loadO (v := byteV x) (cs := bs.map byteV) Try.isAgg5 rfl (by simp [hx])) Has.ro rfl ?_
        refine SR_pu (RD_move rfl) rfl ?_
        refine SR_pu (RD_xor8 rfl rfl) rfl ?_
        refine SR_rd (RD_ixO (cs := bs.map byteV) Try.runUnderlying26 Try.sizeOf5 rfl rfl (by simp <;> omega) (by omega) (by omega)) Has.ro rfl ?_
        refine SR_ox0 (OX_stRow Try.sizeOf5 rfl rfl (by simp <;> omega)) ?_
        rintro _ _ rfl
        refine SR_nil ?_
        refine SN.le (l := [(0, _), (2, _), (7, _), (8, _), (9, _), (10, _), (12, _)]) ?_ (.cons rfl (.cons rfl (.cons rfl (.cons rfl (.cons rfl (.cons rfl (.cons rfl (.nil))))))))
        refine SN_seq ?_
        refine SC_region ?_
        refine SR_pu (RD_move rfl) rfl ?_
        refine SR_pu (RD_move rfl) rfl ?_
        refine SR_call Try.call8 (.cons rfl (.cons rfl (.nil))) (CallsK.at (term_Digest p (dput [bs, bs ++ [b]] (b :: bs)) _ _ _ (bs.set k (x ^^^ b)) (set_byteX.symm) ((by simp; done)) (by have h2 := dput_len' [bs, bs ++ [b]] (b :: bs); simp at h2; omega) (dput (dput [bs, bs ++ [b]] (b :: bs)) (bs.set k (x ^^^ b))) (dnum (dput (dput [bs, bs ++ [b]] (b :: bs)) (bs.set k (x ^^^ b))) (bs.set k (x ^^^ b))) (rfl) (rfl))) (lts rfl) ?_
        rintro _ L4 ⟨rfl, hL4⟩
        refine SR.lands hL4 ?_
        refine SR_pu (RD_assign rfl) rfl ?_
        refine SR_nil ?_
        refine SN.le (l := [(0, _), (2, _), (7, _), (8, _), (9, _), (10, _), (11, _)]) ?_ (.cons rfl (.cons rfl (.cons rfl (.cons rfl (.cons rfl (.cons rfl (.cons rfl (.nil))))))))
        exact J0 (⟨(dput (dput [bs, bs ++ [b]] (b :: bs)) (bs.set k (x ^^^ b)), dnum (dput (dput [bs, bs ++ [b]] (b :: bs)) (bs.set k (x ^^^ b))) (bs.set k (x ^^^ b))), ⟨tl, htl⟩, hl5, by show dnum (dput (dput [bs, bs ++ [b]] (b :: bs)) (bs.set k (x ^^^ b))) (bs.set k (x ^^^ b)) = 1 ↔ _; rw [htl, dnum_head, long_set hx]; exact ⟨.inl, fun h => h.resolve_right (by omega)⟩⟩) _ _ (.cons rfl (.cons rfl (.cons rfl (.cons rfl (.cons rfl (.cons rfl (.cons rfl (.nil)))))))) (.fin)
      · obtain rfl : bs = [] := by simpa using hc47
        obtain ⟨tl, htl⟩ := dput_head ⟨[[] ++ [b]], rfl⟩ (b :: ([] : List UInt8))
        have hl5 : (dput [[], [] ++ [b]] (b :: ([] : List UInt8))).length ≤ 5 := by have h2 := dput_len' [[], [] ++ [b]] (b :: ([] : List UInt8)); simp at h2 ⊢; omega
        refine SC_skip ?_
        exact J0 (⟨(dput [[], [] ++ [b]] (b :: ([] : List UInt8)), 1), ⟨tl, htl⟩, hl5, by show 1 = 1 ↔ _; simp⟩) _ _ (.cons rfl (.cons rfl (.cons rfl (.cons rfl (.cons rfl (.cons rfl (.cons rfl (.nil)))))))) (.fin)

end Go.Proofs.Ytmhldhlldlmdgaa
