/- Few can't certify: the statement. -/
import Derived.Test.YtdmmaammpjdmbaaCq
namespace Go.Proofs.Ytdmmaammpjdmbaa
open Go Go.Proofs
set_option maxRecDepth 100000

theorem law_CertForged {W : World} {F : List HProp} [Abs F] (f : Int) (a1 : Option Addr) (n1 c1 : Nat) (l1 : List Int) [HasRow F a1 (l1.map intV)] (hn1 : l1.length = n1) (a2 : Option Addr) (n2 c2 : Nat) (l2 : List Int) [HasRow F a2 (l2.map intV)] (hn2 : l2.length = n2) (view block : Int) :
    CallsK W Try.prog 3 #[.int .i64 f, .slice a1 n1 c1, .slice a2 n2 c2, .int .i64 view, .int .i64 block] (F) (fun v L => v = .bool true ∧ Lands L F) := by
  refine CallsK_enter (n := 169) Try.func3 rfl rfl rfl ?_
  obtain ⟨f0, hf0⟩ : ∃ f0 : Int, f % 256 % 3 + 1 = f0 := ⟨_, rfl⟩
  have hf1 : 1 ≤ f0 ∧ f0 ≤ 3 := by omega
  obtain ⟨vw, hvw⟩ : ∃ z : Int, view % 16 + 1 = z := ⟨_, rfl⟩
  obtain ⟨bk, hbk⟩ : ∃ z : Int, block % 8 = z := ⟨_, rfl⟩
  have hv1 : 1 ≤ vw := by omega
  have hk1 : 0 ≤ bk := by omega
  refine SC_seq ?_
  refine SC_region ?_
  refine SR_pu (RD_assign rfl) rfl ?_
  refine SR_nil ?_
  refine SN.le (l := [(0, _), (1, _), (2, _), (3, _), (4, _)]) ?_ (.cons rfl (.cons rfl (.cons rfl (.cons rfl (.cons rfl (.nil))))))
  refine SN_seq ?_
  refine SC_seq ?_
  refine SC_region ?_
  refine SR_pu (RD_move rfl) rfl ?_
  refine SR_pu (RD_mask 8 rfl rfl rfl (by decide) 256 rfl) rfl ?_
  refine SR_pu (RD_remi rfl rfl (by omega) (by omega)) rfl ?_
  refine SR_pu (RD_assign rfl) rfl ?_
  refine SR_nil ?_
  refine SN.le (l := [(0, _), (1, _), (2, _), (3, _), (4, _)]) ?_ (.cons rfl (.cons rfl (.cons rfl (.cons rfl (.cons rfl (.nil))))))
  refine SN_seq ?_
  refine SC_seq ?_
  refine SC_region ?_
  refine SR_pu (RD_move rfl) rfl ?_
  refine SR_pu (RD_addi rfl rfl (by omega) (by omega)) rfl ?_
  refine SR_pu (RD_assign rfl) rfl ?_
  refine SR_nil ?_
  refine SN.le (l := [(0, _), (1, _), (2, _), (3, _), (4, _)]) ?_ (.cons rfl (.cons rfl (.cons rfl (.cons rfl (.cons rfl (.nil))))))
  rw [hf0]
  refine SN_seq ?_
  refine SC_seq ?_
  refine SC_region ?_
  refine SR_pu (RD_move rfl) rfl ?_
  refine SR_pu (RD_move rfl) rfl ?_
  refine SR_pu (RD_muli rfl rfl (by omega) (by omega)) rfl ?_
  refine SR_pu (RD_addi rfl rfl (by omega) (by omega)) rfl ?_
  refine SR_pu (RD_build (.cons rfl (.cons rfl (.nil))) built24_0_1) rfl ?_
  refine SR_ox (OX_alloc Try.zeroValue24 rfl) rfl ?_
  rintro _ _ ⟨b11, rfl, rfl⟩
  refine SR_ox0 (OX_stA Try.sizeOf24 rfl rfl rfl rfl) ?_
  rintro _ _ rfl
  refine SR_nil ?_
  refine SN.le (l := [(0, _), (1, _), (2, _), (3, _), (4, _), (11, _)]) ?_ (.cons rfl (.cons rfl (.cons rfl (.cons rfl (.cons rfl (.cons rfl (.nil)))))))
  refine SN_seq ?_
  refine SC_seq ?_
  refine SC_region ?_
  refine SR_pu (RD_move rfl) rfl ?_
  refine SR_call Try.call15 (.cons rfl (.nil)) (enve_New f0) (lts rfl) ?_
  rintro _ L0 ⟨k, rfl, hL0⟩
  refine SR.lands hL0 ?_
  refine SR_pu (RD_assign rfl) rfl ?_
  refine SR_nil ?_
  refine SN.le (l := [(0, _), (1, _), (2, _), (3, _), (4, _), (11, _), (12, _)]) ?_ (.cons rfl (.cons rfl (.cons rfl (.cons rfl (.cons rfl (.cons rfl (.cons rfl (.nil))))))))
  refine SN_seq ?_
  refine SC_seq ?_
  refine SC_seq ?_
  refine SC_region ?_
  refine SR_pu (RD_move rfl) rfl ?_
  refine SR_pu (RD_eqlP Try.underlying25 rfl rfl) rfl ?_
  refine SR_pu (RD_move rfl) rfl ?_
  refine SR_yes rfl rfl (rfl) ?_
  refine SR_pu (RD_move rfl) rfl ?_
  refine SR_yes rfl rfl (rfl) ?_
  refine SR_pu (RD_len Try.runUnderlying22 rfl) rfl ?_
  refine SR_yes rfl rfl (rfl) ?_
  refine SR_pu (RD_gtr rfl rfl) rfl ?_
  refine SR_pu (RD_pick_f rfl (rfl) rfl) rfl ?_
  refine SR_nil ?_
  refine SN.le (l := [(0, _), (1, _), (2, _), (3, _), (4, _), (11, _), (12, _), (40, _)]) ?_ (.cons rfl (.cons rfl (.cons rfl (.cons rfl (.cons rfl (.cons rfl (.cons rfl (.cons rfl (.nil)))))))))
  refine SN_seq ?_
  refine SC_cond rfl (fun hc40 => ?_) (fun hc40 => ?_)
  · refine SC_seq ?_
    refine SC_region ?_
    refine SR_pu (RD_move rfl) rfl ?_
    refine SR_pu (RD_neqP Try.underlying25 rfl rfl) rfl ?_
    refine SR_pu (RD_move rfl) rfl ?_
    refine SR_yes rfl rfl (rfl) ?_
    refine SR_call Try.call16 (.nil) (cert_awake) (lts rfl) ?_
    rintro _ L9 ⟨rfl, hL9⟩
    refine SR.lands hL9 ?_
    refine SR_pu (RD_pick_t rfl (rfl) rfl) rfl ?_
    refine SR_pu (RD_assign rfl) rfl ?_
    refine SR_nil ?_
    refine SN.le (l := [(10, _)]) ?_ (.cons rfl (.nil))
    refine SN_seq ?_
    refine SC_ret1 rfl rfl ?_
    exact ⟨rfl, .fin⟩
  · have hn30 : n2 ≤ 30 := by simp at hc40; omega
    refine SC_skip ?_
    refine SN_seq ?_
    refine SC_seq ?_
    refine SC_region ?_
    refine SR_pu (RD_move rfl) rfl ?_
    refine SR_pu (RD_mask 4 rfl rfl rfl (by decide) 16 rfl) rfl ?_
    refine SR_pu (RD_addi rfl rfl (by omega) (by omega)) rfl ?_
    refine SR_pu (RD_move rfl) rfl ?_
    refine SR_pu (RD_mask 3 rfl rfl rfl (by decide) 8 rfl) rfl ?_
    refine SR_pu (RD_assign rfl) rfl ?_
    refine SR_pu (RD_assign rfl) rfl ?_
    refine SR_nil ?_
    refine SN.le (l := [(0, _), (1, _), (2, _), (3, _), (4, _), (11, _), (12, _)]) ?_ (.cons rfl (.cons rfl (.cons rfl (.cons rfl (.cons rfl (.cons rfl (.cons rfl (.nil))))))))
    rw [hvw, hbk]
    refine SN_seq ?_
    refine SC_seq ?_
    refine SC_seq ?_
    refine SC_region ?_
    refine SR_pu (RD_assign rfl) rfl ?_
    refine SR_nil ?_
    refine SN.le (l := [(0, _), (1, _), (2, _), (3, _), (4, _), (11, _), (12, _), (13, _)]) ?_ (.cons rfl (.cons rfl (.cons rfl (.cons rfl (.cons rfl (.cons rfl (.cons rfl (.cons rfl (.nil)))))))))
    refine SN_seq ?_
    refine SC_block ?_
    refine SC_ind (X := Nat × List (List UInt8) × List (Int × List Int)) (fun s => s.1 ≤ n1 ∧ (s.1 : Int) ≤ f0 ∧ s.2.1.length ≤ 2 * s.1 ∧ Inv s.2.1 s.2.2 ∧ ∀ j, ∀ w ∈ signers s.2.2 j, w ∈ ((l1.take s.1).map fun x => x % 16)) (fun s => n1 - s.1) (fun s => [(0, .int .i64 f0), (1, .slice a1 n1 c1), (2, .slice a2 n2 c2), (3, .int .i64 vw), (4, .int .i64 bk), (11, .pointer (some ⟨b11, 0, none⟩)), (12, .pointer (some ⟨k.p, 0, none⟩)), (13, .int .i64 (s.1 : Nat))]) (fun s => At worldI k ⟨s.2.1, s.2.2⟩ :: pt b11 (.cells [.int .i64 f0, .int .i64 (3 * f0 + 1), .int .i64 0, .int .i64 0, .int .i64 0, .int .i64 0, .int .i64 0, .int .i64 0].toArray 24) :: F) ((0, [], [])) (⟨by simp, by simp; omega, by simp, Inv.nil, fun j w hw => absurd hw (by simp [signers])⟩) (.cons rfl (.cons rfl (.cons rfl (.cons rfl (.cons rfl (.cons rfl (.cons rfl (.cons rfl (.nil))))))))) (.fin) ?_
    intro ⟨i, l, S⟩ hi ih
    obtain ⟨hi1, hi2, hi3, hI, hB⟩ := hi
    dsimp only at hi1 hi2 hi3 hI hB ih ⊢
    refine SC_seq ?_
    refine SC_seq ?_
    refine SC_region ?_
    refine SR_pu (RD_move rfl) rfl ?_
    refine SR_pu (RD_move rfl) rfl ?_
    refine SR_pu (RD_len Try.runUnderlying22 rfl) rfl ?_
    refine SR_pu (RD_lss rfl rfl) rfl ?_
    refine SR_pu (RD_move rfl) rfl ?_
    refine SR_guard rfl rfl (fun hg9_4 => ?_) (fun hg9_4 => ?_)
    · refine SR_yes rfl rfl (hg9_4) ?_
      refine SR_pu (RD_move rfl) rfl ?_
      refine SR_yes rfl rfl (hg9_4) ?_
      refine SR_pu (RD_move rfl) rfl ?_
      refine SR_yes rfl rfl (hg9_4) ?_
      refine SR_pu (RD_lss rfl rfl) rfl ?_
      refine SR_pu (RD_pick_t rfl (hg9_4) rfl) rfl ?_
      refine SR_nil ?_
      refine SN.le (l := [(0, _), (1, _), (2, _), (3, _), (4, _), (11, _), (12, _), (13, _), (59, _)]) ?_ (.cons rfl (.cons rfl (.cons rfl (.cons rfl (.cons rfl (.cons rfl (.cons rfl (.cons rfl (.cons rfl (.nil))))))))))
      refine SN_seq ?_
      refine SC_cond rfl (fun hc59 => ?_) (fun hc59 => ?_)
      · have hin : i < n1 := by simp at hg9_4; omega
        have hif : (i : Int) < f0 := by simpa using hc59
        obtain ⟨x, hx⟩ : ∃ x, l1[i]? = some x := ⟨_, List.getElem?_eq_getElem (by omega)⟩
        have htk : (l1.take (i + 1)).map (fun x => x % 16) = ((l1.take i).map fun x => x % 16) ++ [x % 16] := by rw [List.take_add_one, hx]; simp
        refine SC_skip ?_
        refine SN_seq ?_
        refine SC_seq ?_
        refine SC_block ?_
        refine SC_seq ?_
        refine SC_drawn (.cons 0 true (.cons 2 true (.cons 3 true (.cons 4 true (.cons 5 true (.cons 6 true (.cons 7 true (.cons 8 true (.cons 9 true (.cons 1 false (.cons 10 false (.cons 11 false (.nil))))))))))))) (by kernel_rfl) (by kernel_rfl) ?_
        refine SQ_pu rfl (RD_move rfl) rfl ?_
        refine SQ_pu rfl (RD_move rfl) rfl ?_
        refine SQ_pu rfl (RD_move rfl) rfl ?_
        refine SQ_rd rfl (RD_ixO Try.runUnderlying22 Try.sizeOf3 rfl rfl (by first | assumption | (simp; done) | (simp; omega)) (by omega) (by omega)) Has.ro rfl ?_
        refine SQ_rd rfl (RD_loadO (v := intV x) (cs := l1.map intV) Try.isAgg3 rfl (by simp [hx])) Has.ro rfl ?_
        refine SQ_pu rfl (RD_mask 4 rfl rfl rfl (by decide) 16 rfl) rfl ?_
        refine SQ_pu rfl (RD_move rfl) rfl ?_
        refine SQ_pu rfl (RD_move rfl) rfl ?_
        refine SQ_pu rfl (RD_move rfl) rfl ?_
        refine SQ_call rfl Try.call17 (.cons rfl (.nil)) (CallsK.at (w_Signs k _)) (lts rfl) ?_
        rintro _ L1 ⟨rfl, hL1⟩
        refine ⟨.lands hL1 (.h Has.ro (.h Has.ro (.nil))), ?_⟩
        try dsimp only at hL1
        refine SQ.lands hL1 ?_
        refine SQ_call rfl Try.call19 (.cons rfl (.cons rfl (.cons rfl (.nil)))) (CallsK.at (cert_Vote k ⟨l, S⟩ vw bk (by dsimp only; omega) _ _ rfl rfl)) (lts rfl) ?_
        rintro _ L2 ⟨rfl, hL2⟩
        refine ⟨.lands hL2 (.h Has.ro (.h Has.ro (.nil))), ?_⟩
        try dsimp only at hL2
        refine SQ.lands hL2 ?_
        refine SQ_call rfl Try.call18 (.cons rfl (.cons rfl (.cons rfl (.nil)))) (CallsK.at (w_Sign k _ (x % 16) _)) (lts rfl) ?_
        rintro _ L3 ⟨rfl, hL3⟩
        refine ⟨.lands hL3 (.h Has.ro (.h Has.ro (.nil))), ?_⟩
        try dsimp only at hL3
        refine SQ.lands hL3 ?_
        refine SQ_nil ?_
        refine SN.le (l := [(0, _), (1, _), (2, _), (3, _), (4, _), (11, _), (12, _), (13, _)]) ?_ (.cons rfl (.cons rfl (.cons rfl (.cons rfl (.cons rfl (.cons rfl (.cons rfl (.cons rfl (.nil)))))))))
        refine SN_seq ?_
        refine SC_drawn (.cons 0 true (.cons 2 true (.cons 3 true (.cons 4 true (.cons 5 true (.cons 6 true (.cons 7 true (.cons 8 true (.cons 1 false (.cons 9 false (.cons 10 false (.nil)))))))))))) (by kernel_rfl) (by kernel_rfl) ?_
        refine SQ_pu rfl (RD_move rfl) rfl ?_
        refine SQ_pu rfl (RD_move rfl) rfl ?_
        refine SQ_pu rfl (RD_move rfl) rfl ?_
        refine SQ_rd rfl (RD_ixO Try.runUnderlying22 Try.sizeOf3 rfl rfl (by first | assumption | (simp; done) | (simp; omega)) (by omega) (by omega)) Has.ro rfl ?_
        refine SQ_rd rfl (RD_loadO (v := intV x) (cs := l1.map intV) Try.isAgg3 rfl (by simp [hx])) Has.ro rfl ?_
        refine SQ_pu rfl (RD_mask 4 rfl rfl rfl (by decide) 16 rfl) rfl ?_
        refine SQ_pu rfl (RD_move rfl) rfl ?_
        refine SQ_pu rfl (RD_move rfl) rfl ?_
        refine SQ_call rfl Try.call17 (.cons rfl (.nil)) (CallsK.at (w_Signs k _)) (lts rfl) ?_
        rintro _ L1 ⟨rfl, hL1⟩
        refine ⟨.lands hL1 (.h Has.ro (.h Has.ro (.nil))), ?_⟩
        try dsimp only at hL1
        refine SQ.lands hL1 ?_
        refine SQ_call rfl Try.call20 (.cons rfl (.cons rfl (.cons rfl (.nil)))) (CallsK.at (cert_Out k ⟨dput l (voteB vw bk), (addTo S (x % 16) (dnum (dput l (voteB vw bk)) (voteB vw bk) : Nat))⟩ vw 0 (by have := dput_len l (voteB vw bk); dsimp only; omega) _ _ rfl rfl)) (lts rfl) ?_
        rintro _ L4 ⟨rfl, hL4⟩
        refine ⟨.lands hL4 (.h Has.ro (.h Has.ro (.nil))), ?_⟩
        try dsimp only at hL4
        refine SQ.lands hL4 ?_
        refine SQ_call rfl Try.call18 (.cons rfl (.cons rfl (.cons rfl (.nil)))) (CallsK.at (w_Sign k _ (x % 16) _)) (lts rfl) ?_
        rintro _ L5 ⟨rfl, hL5⟩
        refine ⟨.lands hL5 (.h Has.ro (.h Has.ro (.nil))), ?_⟩
        try dsimp only at hL5
        refine SQ.lands hL5 ?_
        refine SQ_nil ?_
        refine SN.le (l := [(0, _), (1, _), (2, _), (3, _), (4, _), (11, _), (12, _), (13, _)]) ?_ (.cons rfl (.cons rfl (.cons rfl (.cons rfl (.cons rfl (.cons rfl (.cons rfl (.cons rfl (.nil)))))))))
        refine SN_block ?_
        refine SN_seq ?_
        refine SC_region ?_
        refine SR_pu (RD_move rfl) rfl ?_
        refine SR_pu (RD_addi rfl rfl (by omega) (by omega)) rfl ?_
        refine SR_pu (RD_assign rfl) rfl ?_
        refine SR_nil ?_
        refine SN.le (l := [(0, _), (1, _), (2, _), (3, _), (4, _), (11, _), (12, _), (13, _)]) ?_ (.cons rfl (.cons rfl (.cons rfl (.cons rfl (.cons rfl (.cons rfl (.cons rfl (.cons rfl (.nil)))))))))
        have hlen1 := dput_len l (voteB vw bk)
        have hlen2 := dput_len (dput l (voteB vw bk)) (outB vw 0)
        have hxm : x % 16 ∈ ((l1.take (i + 1)).map fun x => x % 16) := by rw [htk]; simp
        have hB0 : ∀ j, ∀ w ∈ signers S j, w ∈ ((l1.take (i + 1)).map fun x => x % 16) := fun j w hw => by rw [htk]; exact List.mem_append_left _ (hB j w hw)
        refine SC_again (ih ((i + 1, dput (dput l (voteB vw bk)) (outB vw 0), addTo (addTo S (x % 16) (dnum (dput l (voteB vw bk)) (voteB vw bk) : Nat)) (x % 16) (dnum (dput (dput l (voteB vw bk)) (outB vw 0)) (outB vw 0) : Nat))) (⟨by dsimp only; omega, by dsimp only; omega, by dsimp only; omega, (((hI.ext (Ext.put _ _)).add (dput_mem _ _) _).ext (Ext.put _ _)).add (dput_mem _ _) _, sub_add (sub_add hB0 hxm _) hxm _⟩) (by dsimp only; omega)) (.fin) (.cons rfl (.cons rfl (.cons rfl (.cons rfl (.cons rfl (.cons rfl (.cons rfl (.cons' rfl (ie (by dsimp only; omega)) (.nil)))))))))
      · have hBl : (((l1.take i).map fun x => x % 16).length : Int) < (3 * f0 + 1) - f0 := by simp; omega
        have hl6 : l.length ≤ 6 := by omega
        clear ih
        refine SC_exit rfl ?_
        refine SN_seq ?_
        refine SC_seq ?_
        refine SC_region ?_
        refine SR_pu (RD_move rfl) rfl ?_
        refine SR_call Try.call21 (.cons rfl (.nil)) (CallsK.at (cert_Root k ⟨l, S⟩ (by dsimp only; omega) _ _ rfl rfl)) (lts rfl) ?_
        rintro _ L6 ⟨rfl, hL6⟩
        try dsimp only at hL6
        obtain ⟨l0, hl0⟩ : ∃ z, dput l rootB = z := ⟨_, rfl⟩
        obtain ⟨d0, hd0⟩ : ∃ z, dnum (dput l rootB) rootB = z := ⟨_, rfl⟩
        have hl7 : l0.length ≤ 7 := by have := dput_len l rootB; rw [hl0] at this; omega
        have hI7 : Inv l0 S := hl0 ▸ hI.ext (Ext.put _ _)
        have hr0 : rootB ∈ l0 := hl0 ▸ dput_mem _ _
        have hd1 : dnum l0 rootB = d0 := hl0 ▸ hd0
        rw [hd0]
        rw [hl0] at hL6
        refine SR.lands hL6 ?_
        refine SR_pu (RD_build (.cons rfl (.nil)) built34_1) rfl ?_
        refine SR_ox (OX_alloc Try.zeroValue34 rfl) rfl ?_
        rintro _ _ ⟨b14, rfl, rfl⟩
        refine SR_ox0 (OX_stA Try.sizeOf34 rfl rfl rfl rfl) ?_
        rintro _ _ rfl
        refine SR_nil ?_
        refine SN.le (l := [(2, _), (3, _), (4, _), (11, _), (12, _), (14, _)]) ?_ (.cons rfl (.cons rfl (.cons rfl (.cons rfl (.cons rfl (.cons rfl (.nil)))))))
        refine SN_seq ?_
        refine SC_seq ?_
        refine SC_region ?_
        refine SR_pu (RD_assign rfl) rfl ?_
        refine SR_pu (RD_assign rfl) rfl ?_
        refine SR_nil ?_
        refine SN.le (l := [(2, _), (3, _), (4, _), (11, _), (12, _), (14, _), (15, _), (16, _)]) ?_ (.cons rfl (.cons rfl (.cons rfl (.cons rfl (.cons rfl (.cons rfl (.cons rfl (.cons rfl (.nil)))))))))
        refine SN_seq ?_
        refine SC_seq ?_
        refine SC_seq ?_
        refine SC_region ?_
        refine SR_pu (RD_assign rfl) rfl ?_
        refine SR_nil ?_
        refine SN.le (l := [(2, _), (3, _), (4, _), (11, _), (12, _), (14, _), (15, _), (16, _), (17, _)]) ?_ (.cons rfl (.cons rfl (.cons rfl (.cons rfl (.cons rfl (.cons rfl (.cons rfl (.cons rfl (.cons rfl (.nil))))))))))
        refine SN_seq ?_
        refine SC_block ?_
        refine SC_ind (X := Nat × Row × Row) (fun y => (y.1 : Int) ≤ 3 * f0 + 1 ∧ y.2.1.l.length = y.2.1.n ∧ y.2.2.l.length = y.2.2.n ∧ y.2.1.n ≤ 30 * y.1 ∧ y.2.2.n ≤ 30 * y.1) (fun y => (3 * f0 + 1).toNat - y.1) (fun y => [(2, .slice a2 n2 c2), (3, .int .i64 vw), (4, .int .i64 bk), (11, .pointer (some ⟨b11, 0, none⟩)), (12, .pointer (some ⟨k.p, 0, none⟩)), (14, .pointer (some ⟨b14, 0, none⟩)), (15, .slice y.2.1.a y.2.1.n y.2.1.c), (16, .slice y.2.2.a y.2.2.n y.2.2.c), (17, .int .i64 (y.1 : Nat))]) (fun y => rowP 3 1 y.2.1.a y.2.1.n y.2.1.c (y.2.1.l.map intV) :: rowP 3 1 y.2.2.a y.2.2.n y.2.2.c (y.2.2.l.map intV) :: At worldI k ⟨l0, S⟩ :: pt b11 (.cells [.int .i64 f0, .int .i64 (3 * f0 + 1), .int .i64 0, .int .i64 0, .int .i64 0, .int .i64 0, .int .i64 0, .int .i64 0].toArray 24) :: pt b14 (.cells [.int .i64 0, .int .i64 (d0 : Nat), .slice none 0 0].toArray 34) :: F) ((0, ⟨none, 0, 0, []⟩, ⟨none, 0, 0, []⟩)) (⟨by dsimp only; omega, rfl, rfl, by simp, by simp⟩) (.cons rfl (.cons rfl (.cons rfl (.cons rfl (.cons rfl (.cons rfl (.cons rfl (.cons rfl (.cons rfl (.nil)))))))))) ((row_new 3 1 none).trans ((row_new 3 1 none).trans (show Lands _ (rowP 3 1 none 0 0 [] :: rowP 3 1 none 0 0 [] :: At worldI k ⟨l0, S⟩ :: pt b11 (.cells [.int .i64 f0, .int .i64 (3 * f0 + 1), .int .i64 0, .int .i64 0, .int .i64 0, .int .i64 0, .int .i64 0, .int .i64 0].toArray 24) :: pt b14 (.cells [.int .i64 0, .int .i64 (d0 : Nat), .slice none 0 0].toArray 34) :: F) from .fin))) ?_
        intro ⟨m, r, h⟩ hi ih1
        obtain ⟨hm1, hm2, hm3, hm4, hm5⟩ := hi
        dsimp only at hm1 hm2 hm3 hm4 hm5 ih1 ⊢
        refine SC_seq ?_
        refine SC_seq ?_
        refine SC_region ?_
        refine SR_pu (RD_move rfl) rfl ?_
        first
          | refine SR_pu (RD_fieldAddr 1 Try.runUnderlying24 rfl rfl Try.sizeOf3 rfl) rfl ?_
          | refine SR_rd (RD_fieldAddrO 1 Try.runUnderlying24 rfl rfl Try.sizeOf3 rfl (by simp <;> omega)) Has.ro rfl ?_
        refine SR_rd (RD_load Try.isAgg3 rfl) (Has.ce rfl) rfl ?_
        refine SR_pu (RD_lss rfl rfl) rfl ?_
        refine SR_nil ?_
        refine SN.le (l := [(2, _), (3, _), (4, _), (11, _), (12, _), (14, _), (15, _), (16, _), (17, _), (91, _)]) ?_ (.cons rfl (.cons rfl (.cons rfl (.cons rfl (.cons rfl (.cons rfl (.cons rfl (.cons rfl (.cons rfl (.cons rfl (.nil)))))))))))
        refine SN_seq ?_
        refine SC_cond rfl (fun hc91 => ?_) (fun hc91 => ?_)
        · have hmn : (m : Int) < 3 * f0 + 1 := by simpa using hc91
          refine SC_skip ?_
          refine SN_seq ?_
          refine SC_seq ?_
          refine SC_block ?_
          refine SC_seq ?_
          refine SC_region ?_
          refine SR_pu (RD_move rfl) rfl ?_
          refine SR_pu (RD_len Try.runUnderlying22 rfl) rfl ?_
          refine SR_pu (RD_move rfl) rfl ?_
          refine SR_nil ?_
          refine SN.le (l := [(2, _), (3, _), (4, _), (11, _), (12, _), (14, _), (15, _), (16, _), (17, _), (94, _), (95, _), (96, _)]) ?_ (.cons rfl (.cons rfl (.cons rfl (.cons rfl (.cons rfl (.cons rfl (.cons rfl (.cons rfl (.cons rfl (.cons rfl (.cons rfl (.cons rfl (.nil)))))))))))))
          refine SN_seq ?_
          refine SC_block ?_
          refine SC_ind (X := Nat × Row × Row) (fun y => y.1 ≤ n2 ∧ y.2.1.l.length = y.2.1.n ∧ y.2.2.l.length = y.2.2.n ∧ y.2.1.n ≤ 30 * m + y.1 ∧ y.2.2.n ≤ 30 * m + y.1) (fun y => n2 - y.1) (fun y => [(2, .slice a2 n2 c2), (3, .int .i64 vw), (4, .int .i64 bk), (11, .pointer (some ⟨b11, 0, none⟩)), (12, .pointer (some ⟨k.p, 0, none⟩)), (14, .pointer (some ⟨b14, 0, none⟩)), (15, .slice y.2.1.a y.2.1.n y.2.1.c), (16, .slice y.2.2.a y.2.2.n y.2.2.c), (17, .int .i64 (m : Nat)), (94, .slice a2 n2 c2), (95, .int .i64 (n2 : Nat)), (96, .int .i64 (y.1 : Nat))]) (fun y => rowP 3 1 y.2.1.a y.2.1.n y.2.1.c (y.2.1.l.map intV) :: rowP 3 1 y.2.2.a y.2.2.n y.2.2.c (y.2.2.l.map intV) :: At worldI k ⟨l0, S⟩ :: pt b11 (.cells [.int .i64 f0, .int .i64 (3 * f0 + 1), .int .i64 0, .int .i64 0, .int .i64 0, .int .i64 0, .int .i64 0, .int .i64 0].toArray 24) :: pt b14 (.cells [.int .i64 0, .int .i64 (d0 : Nat), .slice none 0 0].toArray 34) :: F) ((0, r, h)) (⟨by simp, hm2, hm3, by simpa using hm4, by simpa using hm5⟩) (.cons rfl (.cons rfl (.cons rfl (.cons rfl (.cons rfl (.cons rfl (.cons rfl (.cons rfl (.cons rfl (.cons rfl (.cons rfl (.cons rfl (.nil))))))))))))) (.fin) ?_
          intro ⟨j, u, v⟩ hi ih2
          obtain ⟨hj1, hj2, hj3, hj4, hj5⟩ := hi
          dsimp only at hj1 hj2 hj3 hj4 hj5 ih2 ⊢
          refine SC_seq ?_
          refine SC_region ?_
          refine SR_pu (RD_lss rfl rfl) rfl ?_
          refine SR_nil ?_
          refine SN.le (l := [(2, _), (3, _), (4, _), (11, _), (12, _), (14, _), (15, _), (16, _), (17, _), (94, _), (95, _), (96, _), (97, _)]) ?_ (.cons rfl (.cons rfl (.cons rfl (.cons rfl (.cons rfl (.cons rfl (.cons rfl (.cons rfl (.cons rfl (.cons rfl (.cons rfl (.cons rfl (.cons rfl (.nil))))))))))))))
          refine SN_seq ?_
          refine SC_seq ?_
          refine SC_cond rfl (fun hc97 => ?_) (fun hc97 => ?_)
          · have hjn : j < n2 := by simp at hc97; omega
            obtain ⟨z, hz⟩ : ∃ z, l2[j]? = some z := ⟨_, List.getElem?_eq_getElem (by omega)⟩
            refine SC_skip ?_
            refine SN_seq ?_
            refine SC_seq ?_
            refine SC_block ?_
            refine SC_seq ?_
            refine SC_region ?_
            refine SR_rd (RD_ixO Try.runUnderlying22 Try.sizeOf3 rfl rfl (by first | assumption | (simp; done) | (simp; omega)) (by omega) (by omega)) Has.ro rfl ?_
            refine SR_rd (RD_loadO (v := intV z) (cs := l2.map intV) Try.isAgg3 rfl (by simp [hz])) Has.ro rfl ?_
            refine SR_pu (RD_assign rfl) rfl ?_
            refine SR_nil ?_
            refine SN.le (l := [(2, _), (3, _), (4, _), (11, _), (12, _), (14, _), (15, _), (16, _), (17, _), (19, _), (94, _), (95, _), (96, _)]) ?_ (.cons rfl (.cons rfl (.cons rfl (.cons rfl (.cons rfl (.cons rfl (.cons rfl (.cons rfl (.cons rfl (.cons rfl (.cons rfl (.cons rfl (.cons rfl (.nil))))))))))))))
            refine SN_seq ?_
            refine SC_seq ?_
            refine SC_region ?_
            refine SR_pu (RD_move rfl) rfl ?_
            refine SR_pu (RD_mask 4 rfl rfl rfl (by decide) 16 rfl) rfl ?_
            refine SR_pu (RD_move rfl) rfl ?_
            refine SR_pu (RD_eql rfl rfl) rfl ?_
            refine SR_pu (RD_move rfl) rfl ?_
            refine SR_guard rfl rfl (fun hg21_4 => ?_) (fun hg21_4 => ?_)
            · refine SR_yes rfl rfl (hg21_4) ?_
              refine SR_pu (RD_move rfl) rfl ?_
              refine SR_yes rfl rfl (hg21_4) ?_
              refine SR_pu (RD_len Try.runUnderlying22 rfl) rfl ?_
              refine SR_yes rfl rfl (hg21_4) ?_
              refine SR_pu (RD_eql rfl rfl) rfl ?_
              refine SR_yes rfl rfl (hg21_4) ?_
              refine SR_pu (RD_move rfl) rfl ?_
              refine SR_guard rfl rfl (fun hg21_8 => ?_) (fun hg21_8 => ?_)
              · have hu0 : 0 < u.n := by simp at hg21_8; omega
                obtain ⟨y, hy⟩ : ∃ y, u.l[u.n - 1]? = some y := ⟨_, List.getElem?_eq_getElem (by omega)⟩
                refine SR_yes rfl rfl (hg21_8) ?_
                refine SR_pu (RD_move rfl) rfl ?_
                refine SR_yes rfl rfl (hg21_8) ?_
                refine SR_pu (RD_move rfl) rfl ?_
                refine SR_yes rfl rfl (hg21_8) ?_
                refine SR_pu (RD_len Try.runUnderlying22 rfl) rfl ?_
                refine SR_yes rfl rfl (hg21_8) ?_
                refine SR_pu (RD_subi rfl rfl (by omega) (by omega)) rfl ?_
                refine SR_yes rfl rfl (hg21_8) ?_
                refine SR_rd (RD_ixO (i := ((u.n - 1 : Nat) : Int)) (cs := u.l.map intV) Try.runUnderlying22 Try.sizeOf3 rfl (congrArg some (ie (by omega))) (by simpa using hj2) (by omega) (by omega)) Has.ro rfl ?_
                refine SR_yes rfl rfl (hg21_8) ?_
                refine SR_rd (RD_loadO (v := intV y) (cs := u.l.map intV) Try.isAgg3 rfl (by simp [hy])) Has.ro rfl ?_
                refine SR_yes rfl rfl (hg21_8) ?_
                refine SR_pu (RD_move rfl) rfl ?_
                refine SR_yes rfl rfl (hg21_8) ?_
                refine SR_pu (RD_lss rfl rfl) rfl ?_
                refine SR_yes rfl rfl (hg21_4) ?_
                refine SR_pu (RD_pick_f rfl (hg21_8) rfl) rfl ?_
                refine SR_pu (RD_pick_t rfl (hg21_4) rfl) rfl ?_
                refine SR_nil ?_
                refine SN.le (l := [(2, _), (3, _), (4, _), (11, _), (12, _), (14, _), (15, _), (16, _), (17, _), (94, _), (95, _), (96, _), (118, _)]) ?_ (.cons rfl (.cons rfl (.cons rfl (.cons rfl (.cons rfl (.cons rfl (.cons rfl (.cons rfl (.cons rfl (.cons rfl (.cons rfl (.cons rfl (.cons rfl (.nil))))))))))))))
                refine SN_seq ?_
                refine SC_cond rfl (fun hc118 => ?_) (fun hc118 => ?_)
                · refine SC_region ?_
                  refine SR_pu (RD_move rfl) rfl ?_
                  refine SR_pu (RD_move rfl) rfl ?_
                  refine SR_ox (OX_lit1 Try.underlying22 Try.type3 rfl rfl rfl rfl (.cons rfl (.nil)) (.cons rfl (.nil))) rfl ?_
                  rintro _ _ ⟨b121, rfl, rfl⟩
                  refine SR_ox (OX_app 1 Try.underlying22 Try.underlying22 Try.type3 rfl rfl rfl rfl rfl (by first | rfl | simp; done | (simp; omega)) 8 rfl (by omega) (by omega)) rfl ?_
                  rintro _ _ ⟨a122, c122, rfl, rfl⟩
                  refine SR_pu (RD_move rfl) rfl ?_
                  refine SR_ox (OX_lit1 Try.underlying22 Try.type3 rfl rfl rfl rfl (.cons rfl (.nil)) (.cons rfl (.nil))) rfl ?_
                  rintro _ _ ⟨b124, rfl, rfl⟩
                  refine SR_ox (OX_app 1 Try.underlying22 Try.underlying22 Try.type3 rfl rfl rfl rfl rfl (by first | rfl | simp; done | (simp; omega)) 8 rfl (by omega) (by omega)) rfl ?_
                  rintro _ _ ⟨a125, c125, rfl, rfl⟩
                  refine SR_pu (RD_assign rfl) rfl ?_
                  refine SR_pu (RD_assign rfl) rfl ?_
                  refine SR_nil ?_
                  refine SN.le (l := [(2, _), (3, _), (4, _), (11, _), (12, _), (14, _), (15, _), (16, _), (17, _), (94, _), (95, _), (96, _)]) ?_ (.cons rfl (.cons rfl (.cons rfl (.cons rfl (.cons rfl (.cons rfl (.cons rfl (.cons rfl (.cons rfl (.cons rfl (.cons rfl (.cons rfl (.nil)))))))))))))
                  refine SN_block ?_
                  refine SN_seq ?_
                  refine SC_region ?_
                  refine SR_pu (RD_addi rfl rfl (by omega) (by omega)) rfl ?_
                  refine SR_pu (RD_move rfl) rfl ?_
                  refine SR_nil ?_
                  refine SN.le (l := [(2, _), (3, _), (4, _), (11, _), (12, _), (14, _), (15, _), (16, _), (17, _), (94, _), (95, _), (96, _)]) ?_ (.cons rfl (.cons rfl (.cons rfl (.cons rfl (.cons rfl (.cons rfl (.cons rfl (.cons rfl (.cons rfl (.cons rfl (.cons rfl (.cons rfl (.nil)))))))))))))
                  refine SC_again (ih2 ((j + 1, ⟨a122, u.n + 1, c122, u.l ++ [(m : Int)]⟩, ⟨a125, v.n + 1, c125, v.l ++ [0]⟩)) (⟨by dsimp only; omega, by simp [hj2], by simp [hj3], by dsimp only; omega, by dsimp only; omega⟩) (by dsimp only; omega)) (by simp only [List.map_append, List.map_cons, List.map_nil, intV]; exact .fin) (.cons rfl (.cons rfl (.cons rfl (.cons rfl (.cons rfl (.cons rfl (.cons rfl (.cons rfl (.cons rfl (.cons rfl (.cons rfl (.cons' rfl (ie (by dsimp only; omega)) (.nil)))))))))))))
                · refine SC_skip ?_
                  refine SN_block ?_
                  refine SN_seq ?_
                  refine SC_region ?_
                  refine SR_pu (RD_addi rfl rfl (by omega) (by omega)) rfl ?_
                  refine SR_pu (RD_move rfl) rfl ?_
                  refine SR_nil ?_
                  refine SN.le (l := [(2, _), (3, _), (4, _), (11, _), (12, _), (14, _), (15, _), (16, _), (17, _), (94, _), (95, _), (96, _)]) ?_ (.cons rfl (.cons rfl (.cons rfl (.cons rfl (.cons rfl (.cons rfl (.cons rfl (.cons rfl (.cons rfl (.cons rfl (.cons rfl (.cons rfl (.nil)))))))))))))
                  refine SC_again (ih2 ((j + 1, u, v)) (⟨by dsimp only; omega, hj2, hj3, by dsimp only; omega, by dsimp only; omega⟩) (by dsimp only; omega)) (.fin) (.cons rfl (.cons rfl (.cons rfl (.cons rfl (.cons rfl (.cons rfl (.cons rfl (.cons rfl (.cons rfl (.cons rfl (.cons rfl (.cons' rfl (ie (by dsimp only; omega)) (.nil)))))))))))))
              · refine SR_no rfl rfl (hg21_8) (lts rfl) ?_
                refine SR_no rfl rfl (hg21_8) (lts rfl) ?_
                refine SR_no rfl rfl (hg21_8) (lts rfl) ?_
                refine SR_no rfl rfl (hg21_8) (lts rfl) ?_
                refine SR_no rfl rfl (hg21_8) (lts rfl) ?_
                refine SR_no rfl rfl (hg21_8) (lts rfl) ?_
                refine SR_no rfl rfl (hg21_8) (lts rfl) ?_
                refine SR_no rfl rfl (hg21_8) (lts rfl) ?_
                refine SR_yes rfl rfl (hg21_4) ?_
                refine SR_pu (RD_pick_t rfl (hg21_8) rfl) rfl ?_
                refine SR_pu (RD_pick_t rfl (hg21_4) rfl) rfl ?_
                refine SR_nil ?_
                refine SN.le (l := [(2, _), (3, _), (4, _), (11, _), (12, _), (14, _), (15, _), (16, _), (17, _), (94, _), (95, _), (96, _), (118, _)]) ?_ (.cons rfl (.cons rfl (.cons rfl (.cons rfl (.cons rfl (.cons rfl (.cons rfl (.cons rfl (.cons rfl (.cons rfl (.cons rfl (.cons rfl (.cons rfl (.nil))))))))))))))
                refine SN_seq ?_
                refine SC_cond_true rfl (rfl) ?_
                refine SC_region ?_
                refine SR_pu (RD_move rfl) rfl ?_
                refine SR_pu (RD_move rfl) rfl ?_
                refine SR_ox (OX_lit1 Try.underlying22 Try.type3 rfl rfl rfl rfl (.cons rfl (.nil)) (.cons rfl (.nil))) rfl ?_
                rintro _ _ ⟨b121, rfl, rfl⟩
                refine SR_ox (OX_app 1 Try.underlying22 Try.underlying22 Try.type3 rfl rfl rfl rfl rfl (by first | rfl | simp; done | (simp; omega)) 8 rfl (by omega) (by omega)) rfl ?_
                rintro _ _ ⟨a122, c122, rfl, rfl⟩
                refine SR_pu (RD_move rfl) rfl ?_
                refine SR_ox (OX_lit1 Try.underlying22 Try.type3 rfl rfl rfl rfl (.cons rfl (.nil)) (.cons rfl (.nil))) rfl ?_
                rintro _ _ ⟨b124, rfl, rfl⟩
                refine SR_ox (OX_app 1 Try.underlying22 Try.underlying22 Try.type3 rfl rfl rfl rfl rfl (by first | rfl | simp; done | (simp; omega)) 8 rfl (by omega) (by omega)) rfl ?_
                rintro _ _ ⟨a125, c125, rfl, rfl⟩
                refine SR_pu (RD_assign rfl) rfl ?_
                refine SR_pu (RD_assign rfl) rfl ?_
                refine SR_nil ?_
                refine SN.le (l := [(2, _), (3, _), (4, _), (11, _), (12, _), (14, _), (15, _), (16, _), (17, _), (94, _), (95, _), (96, _)]) ?_ (.cons rfl (.cons rfl (.cons rfl (.cons rfl (.cons rfl (.cons rfl (.cons rfl (.cons rfl (.cons rfl (.cons rfl (.cons rfl (.cons rfl (.nil)))))))))))))
                refine SN_block ?_
                refine SN_seq ?_
                refine SC_region ?_
                refine SR_pu (RD_addi rfl rfl (by omega) (by omega)) rfl ?_
                refine SR_pu (RD_move rfl) rfl ?_
                refine SR_nil ?_
                refine SN.le (l := [(2, _), (3, _), (4, _), (11, _), (12, _), (14, _), (15, _), (16, _), (17, _), (94, _), (95, _), (96, _)]) ?_ (.cons rfl (.cons rfl (.cons rfl (.cons rfl (.cons rfl (.cons rfl (.cons rfl (.cons rfl (.cons rfl (.cons rfl (.cons rfl (.cons rfl (.nil)))))))))))))
                refine SC_again (ih2 ((j + 1, ⟨a122, u.n + 1, c122, u.l ++ [(m : Int)]⟩, ⟨a125, v.n + 1, c125, v.l ++ [0]⟩)) (⟨by dsimp only; omega, by simp [hj2], by simp [hj3], by dsimp only; omega, by dsimp only; omega⟩) (by dsimp only; omega)) (by simp only [List.map_append, List.map_cons, List.map_nil, intV]; exact .fin) (.cons rfl (.cons rfl (.cons rfl (.cons rfl (.cons rfl (.cons rfl (.cons rfl (.cons rfl (.cons rfl (.cons rfl (.cons rfl (.cons' rfl (ie (by dsimp only; omega)) (.nil)))))))))))))
            · refine SR_no rfl rfl (hg21_4) (lts rfl) ?_
              refine SR_no rfl rfl (hg21_4) (lts rfl) ?_
              refine SR_no rfl rfl (hg21_4) (lts rfl) ?_
              refine SR_no rfl rfl (hg21_4) (lts rfl) ?_
              refine SR_nou  rfl rfl (lts rfl) ?_
              refine SR_nou  rfl rfl (lts rfl) ?_
              refine SR_nou  rfl rfl (lts rfl) ?_
              refine SR_nou  rfl rfl (lts rfl) ?_
              refine SR_nou  rfl rfl (lts rfl) ?_
              refine SR_nou  rfl rfl (lts rfl) ?_
              refine SR_nou  rfl rfl (lts rfl) ?_
              refine SR_nou  rfl rfl (lts rfl) ?_
              refine SR_no rfl rfl (hg21_4) (lts rfl) ?_
              refine SR_pu (RD_pick_f rfl (hg21_4) rfl) rfl ?_
              refine SR_nil ?_
              refine SN.le (l := [(2, _), (3, _), (4, _), (11, _), (12, _), (14, _), (15, _), (16, _), (17, _), (94, _), (95, _), (96, _), (118, _)]) ?_ (.cons rfl (.cons rfl (.cons rfl (.cons rfl (.cons rfl (.cons rfl (.cons rfl (.cons rfl (.cons rfl (.cons rfl (.cons rfl (.cons rfl (.cons rfl (.nil))))))))))))))
              refine SN_seq ?_
              refine SC_cond_false rfl (rfl) ?_
              refine SC_skip ?_
              refine SN_block ?_
              refine SN_seq ?_
              refine SC_region ?_
              refine SR_pu (RD_addi rfl rfl (by omega) (by omega)) rfl ?_
              refine SR_pu (RD_move rfl) rfl ?_
              refine SR_nil ?_
              refine SN.le (l := [(2, _), (3, _), (4, _), (11, _), (12, _), (14, _), (15, _), (16, _), (17, _), (94, _), (95, _), (96, _)]) ?_ (.cons rfl (.cons rfl (.cons rfl (.cons rfl (.cons rfl (.cons rfl (.cons rfl (.cons rfl (.cons rfl (.cons rfl (.cons rfl (.cons rfl (.nil)))))))))))))
              refine SC_again (ih2 ((j + 1, u, v)) (⟨by dsimp only; omega, hj2, hj3, by dsimp only; omega, by dsimp only; omega⟩) (by dsimp only; omega)) (.fin) (.cons rfl (.cons rfl (.cons rfl (.cons rfl (.cons rfl (.cons rfl (.cons rfl (.cons rfl (.cons rfl (.cons rfl (.cons rfl (.cons' rfl (ie (by dsimp only; omega)) (.nil)))))))))))))
          · have hjn : j = n2 := by simp at hc97; omega
            refine SC_exit rfl ?_
            refine SN_block ?_
            refine SN_seq ?_
            refine SC_region ?_
            refine SR_pu (RD_move rfl) rfl ?_
            refine SR_pu (RD_addi rfl rfl (by omega) (by omega)) rfl ?_
            refine SR_pu (RD_assign rfl) rfl ?_
            refine SR_nil ?_
            refine SN.le (l := [(2, _), (3, _), (4, _), (11, _), (12, _), (14, _), (15, _), (16, _), (17, _)]) ?_ (.cons rfl (.cons rfl (.cons rfl (.cons rfl (.cons rfl (.cons rfl (.cons rfl (.cons rfl (.cons rfl (.nil))))))))))
            refine SC_again (ih1 ((m + 1, u, v)) (⟨by dsimp only; omega, hj2, hj3, by dsimp only; omega, by dsimp only; omega⟩) (by dsimp only; omega)) (.fin) (.cons rfl (.cons rfl (.cons rfl (.cons rfl (.cons rfl (.cons rfl (.cons rfl (.cons rfl (.cons' rfl (ie (by dsimp only; omega)) (.nil))))))))))
        · clear ih1
          refine SC_exit rfl ?_
          refine SN_seq ?_
          refine SC_seq ?_
          refine SC_seq ?_
          refine SC_region ?_
          refine SR_pu (RD_move rfl) rfl ?_
          refine SR_pu (RD_move rfl) rfl ?_
          refine SR_ox (OX_lit1 Try.underlying35 Try.type22 rfl rfl rfl rfl (.cons rfl (.cons rfl (.nil))) (.cons rfl (.cons rfl (.nil)))) rfl ?_
          rintro _ _ ⟨b129, rfl, rfl⟩
          refine SR_pu (RD_len Try.runUnderlying35 rfl) rfl ?_
          refine SR_pu (RD_move rfl) rfl ?_
          refine SR_nil ?_
          refine SN.le (l := [(3, _), (4, _), (11, _), (12, _), (14, _), (16, _), (129, _), (130, _), (131, _)]) ?_ (.cons rfl (.cons rfl (.cons rfl (.cons rfl (.cons rfl (.cons rfl (.cons rfl (.cons rfl (.cons rfl (.nil))))))))))
          refine SN_seq ?_
          refine SC_block ?_
          have hm0 : m ≤ 10 := by omega
          refine SC_ind (X := Nat × List (List UInt8)) (fun y => y.1 ≤ 2 ∧ Ext l0 y.2 ∧ y.2.length ≤ 7 + 400 * y.1) (fun y => 2 - y.1) (fun y => [(3, .int .i64 vw), (4, .int .i64 bk), (11, .pointer (some ⟨b11, 0, none⟩)), (12, .pointer (some ⟨k.p, 0, none⟩)), (14, .pointer (some ⟨b14, 0, none⟩)), (16, .slice h.a h.n h.c), (129, .slice (some ⟨b129, 0, none⟩) 2 2), (130, .int .i64 2), (131, .int .i64 (y.1 : Nat))]) (fun y => pt b129 (.cells [.slice a2 n2 c2, .slice r.a r.n r.c].toArray 22) :: rowP 3 1 r.a r.n r.c (r.l.map intV) :: rowP 3 1 h.a h.n h.c (h.l.map intV) :: At worldI k ⟨y.2, S⟩ :: pt b11 (.cells [.int .i64 f0, .int .i64 (3 * f0 + 1), .int .i64 0, .int .i64 0, .int .i64 0, .int .i64 0, .int .i64 0, .int .i64 0].toArray 24) :: pt b14 (.cells [.int .i64 0, .int .i64 (d0 : Nat), .slice none 0 0].toArray 34) :: F) ((0, l0)) (⟨by simp, Ext.same, by simpa using hl7⟩) (.cons rfl (.cons rfl (.cons rfl (.cons rfl (.cons rfl (.cons rfl (.cons rfl (.cons rfl (.cons rfl (.nil)))))))))) (.fin) ?_
          intro ⟨i, l⟩ hi ih3
          obtain ⟨hy1, hy2, hy3⟩ := hi
          dsimp only at hy1 hy2 hy3 ih3 ⊢
          refine SC_seq ?_
          refine SC_region ?_
          refine SR_pu (RD_lss rfl rfl) rfl ?_
          refine SR_nil ?_
          refine SN.le (l := [(3, _), (4, _), (11, _), (12, _), (14, _), (16, _), (129, _), (130, _), (131, _), (132, _)]) ?_ (.cons rfl (.cons rfl (.cons rfl (.cons rfl (.cons rfl (.cons rfl (.cons rfl (.cons rfl (.cons rfl (.cons rfl (.nil)))))))))))
          refine SN_seq ?_
          refine SC_seq ?_
          refine SC_cond rfl (fun hc132 => ?_) (fun hc132 => ?_)
          · have hi2 : i < 2 := by simp at hc132; omega
            have hi01 : i = 0 ∨ i = 1 := by omega
            rcases hi01 with hi0 | hi0
            · refine SC_skip ?_
              refine SN_seq ?_
              refine SC_seq ?_
              refine SC_block ?_
              refine SC_seq ?_
              refine SC_region ?_
              refine SR_rd (RD_ixO (cs := [.slice a2 n2 c2, .slice r.a r.n r.c]) Try.runUnderlying35 Try.sizeOf22 rfl rfl rfl (by omega) (by omega)) Has.ro rfl ?_
              refine SR_rd (RD_loadO (v := .slice a2 n2 c2) (cs := [.slice a2 n2 c2, .slice r.a r.n r.c]) Try.isAgg22 rfl (by rw [hi0]; rfl)) Has.ro rfl ?_
              refine SR_pu (RD_assign rfl) rfl ?_
              refine SR_nil ?_
              refine SN.le (l := [(3, _), (4, _), (11, _), (12, _), (14, _), (16, _), (21, _), (129, _), (130, _), (131, _)]) ?_ (.cons rfl (.cons rfl (.cons rfl (.cons rfl (.cons rfl (.cons rfl (.cons rfl (.cons rfl (.cons rfl (.cons rfl (.nil)))))))))))
              refine SN_seq ?_
              refine SC_seq ?_
              refine SC_region ?_
              refine SR_pu (RD_move rfl) rfl ?_
              refine SR_rd (RD_loadA Try.isAgg24 Try.sizeOf24 rfl rfl) Has.wh rfl ?_
              refine SR_pu (RD_move rfl) rfl ?_
              refine SR_pu (RD_move rfl) rfl ?_
              refine SR_pu (RD_move rfl) rfl ?_
              refine SR_pu (RD_build (.cons rfl (.cons rfl (.cons rfl (.nil)))) built34_0_1_2) rfl ?_
              refine SR_call Try.call22 (.cons rfl (.cons rfl (.cons rfl (.nil)))) (CallsK.at (cert_QcOk' k ⟨l, S⟩ ⟨f0, 3 * f0 + 1, 0, 0, 0, 0, 0, 0⟩ ⟨vw, bk, ⟨a2, n2, c2, l2⟩⟩ rfl hn2 (by dsimp only; omega) (by dsimp only; omega) (by dsimp only; omega) _ false rfl (few_qc hB hBl (by dsimp only; omega)))) (lts rfl) ?_
              rintro _ L31 ⟨rfl, hL31⟩
              try dsimp only at hL31
              refine SR.lands hL31 ?_
              have hq1 := CfgD.qcL_ext ⟨f0, 3 * f0 + 1, 0, 0, 0, 0, 0, 0⟩ l vw bk
              have hq2 := CfgD.qcL_len ⟨f0, 3 * f0 + 1, 0, 0, 0, 0, 0, 0⟩ l vw bk
              refine SR_pu (RD_move rfl) rfl ?_
              refine SR_yes rfl rfl (by first | rfl | exact decide_eq_true (by omega) | exact decide_eq_false (by omega) | decide | (simp; done) | (simp; omega)) ?_
              refine SR_pu (RD_move rfl) rfl ?_
              refine SR_yes rfl rfl (by first | rfl | exact decide_eq_true (by omega) | exact decide_eq_false (by omega) | decide | (simp; done) | (simp; omega)) ?_
              refine SR_rd (RD_loadA Try.isAgg24 Try.sizeOf24 rfl rfl) Has.wh rfl ?_
              refine SR_yes rfl rfl (by first | rfl | exact decide_eq_true (by omega) | exact decide_eq_false (by omega) | decide | (simp; done) | (simp; omega)) ?_
              refine SR_pu (RD_move rfl) rfl ?_
              refine SR_yes rfl rfl (by first | rfl | exact decide_eq_true (by omega) | exact decide_eq_false (by omega) | decide | (simp; done) | (simp; omega)) ?_
              refine SR_pu (RD_move rfl) rfl ?_
              refine SR_yes rfl rfl (by first | rfl | exact decide_eq_true (by omega) | exact decide_eq_false (by omega) | decide | (simp; done) | (simp; omega)) ?_
              refine SR_pu (RD_move rfl) rfl ?_
              refine SR_yes rfl rfl (by first | rfl | exact decide_eq_true (by omega) | exact decide_eq_false (by omega) | decide | (simp; done) | (simp; omega)) ?_
              refine SR_rd (RD_loadA Try.isAgg34 Try.sizeOf34 rfl rfl) Has.wh rfl ?_
              refine SR_yes rfl rfl (by first | rfl | exact decide_eq_true (by omega) | exact decide_eq_false (by omega) | decide | (simp; done) | (simp; omega)) ?_
              refine SR_pu (RD_build (.cons rfl (.cons rfl (.cons rfl (.cons rfl (.nil))))) built39_0_1_2_3) rfl ?_
              refine SR_yes rfl rfl (by first | rfl | exact decide_eq_true (by omega) | exact decide_eq_false (by omega) | decide | (simp; done) | (simp; omega)) ?_
              refine SR_call Try.call23 (.cons rfl (.cons rfl (.cons rfl (.nil)))) (CallsK.at (cert_TcOk_few k ⟨CfgD.qcL ⟨f0, 3 * f0 + 1, 0, 0, 0, 0, 0, 0⟩ l vw bk, S⟩ ((hI7.ext hy2).ext hq1) ⟨f0, 3 * f0 + 1, 0, 0, 0, 0, 0, 0⟩ ⟨vw, ⟨a2, n2, c2, l2⟩, ⟨h.a, h.n, h.c, h.l⟩, ⟨0, (d0 : Nat), ⟨none, 0, 0, []⟩⟩⟩ rfl rfl rfl hn2 hm3 rfl (by dsimp only; omega) (by dsimp only; omega) (by simp) (by dsimp only; omega) (by dsimp only; omega) hB hBl)) (lts rfl) ?_
              rintro _ L32 ⟨rfl, l9, he9, hlen9, hL32⟩
              try dsimp only at hL32 he9 hlen9
              refine SR.lands hL32 ?_
              refine SR_pu (RD_pick_f rfl (by first | rfl | exact decide_eq_true (by omega) | exact decide_eq_false (by omega) | decide | (simp; done) | (simp; omega)) rfl) rfl ?_
              refine SR_nil ?_
              refine SN.le (l := [(3, _), (4, _), (11, _), (12, _), (14, _), (16, _), (129, _), (130, _), (131, _), (151, _)]) ?_ (.cons rfl (.cons rfl (.cons rfl (.cons rfl (.cons rfl (.cons rfl (.cons rfl (.cons rfl (.cons rfl (.cons rfl (.nil)))))))))))
              refine SN_seq ?_
              refine SC_cond_false rfl (rfl) ?_
              refine SC_skip ?_
              refine SN_block ?_
              refine SN_seq ?_
              refine SC_region ?_
              refine SR_pu (RD_addi rfl rfl (by omega) (by omega)) rfl ?_
              refine SR_pu (RD_move rfl) rfl ?_
              refine SR_nil ?_
              refine SN.le (l := [(3, _), (4, _), (11, _), (12, _), (14, _), (16, _), (129, _), (130, _), (131, _)]) ?_ (.cons rfl (.cons rfl (.cons rfl (.cons rfl (.cons rfl (.cons rfl (.cons rfl (.cons rfl (.cons rfl (.nil))))))))))
              refine SC_again (ih3 ((i + 1, l9)) (⟨by dsimp only; omega, (hy2.trans hq1).trans he9, by dsimp only; omega⟩) (by dsimp only; omega)) (.fin) (.cons rfl (.cons rfl (.cons rfl (.cons rfl (.cons rfl (.cons rfl (.cons rfl (.cons rfl (.cons' rfl (ie (by dsimp only; omega)) (.nil))))))))))
            · refine SC_skip ?_
              refine SN_seq ?_
              refine SC_seq ?_
              refine SC_block ?_
              refine SC_seq ?_
              refine SC_region ?_
              refine SR_rd (RD_ixO (cs := [.slice a2 n2 c2, .slice r.a r.n r.c]) Try.runUnderlying35 Try.sizeOf22 rfl rfl rfl (by omega) (by omega)) Has.ro rfl ?_
              refine SR_rd (RD_loadO (v := .slice r.a r.n r.c) (cs := [.slice a2 n2 c2, .slice r.a r.n r.c]) Try.isAgg22 rfl (by rw [hi0]; rfl)) Has.ro rfl ?_
              refine SR_pu (RD_assign rfl) rfl ?_
              refine SR_nil ?_
              refine SN.le (l := [(3, _), (4, _), (11, _), (12, _), (14, _), (16, _), (21, _), (129, _), (130, _), (131, _)]) ?_ (.cons rfl (.cons rfl (.cons rfl (.cons rfl (.cons rfl (.cons rfl (.cons rfl (.cons rfl (.cons rfl (.cons rfl (.nil)))))))))))
              refine SN_seq ?_
              refine SC_seq ?_
              refine SC_region ?_
              refine SR_pu (RD_move rfl) rfl ?_
              refine SR_rd (RD_loadA Try.isAgg24 Try.sizeOf24 rfl rfl) Has.wh rfl ?_
              refine SR_pu (RD_move rfl) rfl ?_
              refine SR_pu (RD_move rfl) rfl ?_
              refine SR_pu (RD_move rfl) rfl ?_
              refine SR_pu (RD_build (.cons rfl (.cons rfl (.cons rfl (.nil)))) built34_0_1_2) rfl ?_
              refine SR_call Try.call22 (.cons rfl (.cons rfl (.cons rfl (.nil)))) (CallsK.at (cert_QcOk' k ⟨l, S⟩ ⟨f0, 3 * f0 + 1, 0, 0, 0, 0, 0, 0⟩ ⟨vw, bk, ⟨r.a, r.n, r.c, r.l⟩⟩ rfl hm2 (by dsimp only; omega) (by dsimp only; omega) (by dsimp only; omega) _ false rfl (few_qc hB hBl (by dsimp only; omega)))) (lts rfl) ?_
              rintro _ L31 ⟨rfl, hL31⟩
              try dsimp only at hL31
              refine SR.lands hL31 ?_
              have hq1 := CfgD.qcL_ext ⟨f0, 3 * f0 + 1, 0, 0, 0, 0, 0, 0⟩ l vw bk
              have hq2 := CfgD.qcL_len ⟨f0, 3 * f0 + 1, 0, 0, 0, 0, 0, 0⟩ l vw bk
              refine SR_pu (RD_move rfl) rfl ?_
              refine SR_yes rfl rfl (by first | rfl | exact decide_eq_true (by omega) | exact decide_eq_false (by omega) | decide | (simp; done) | (simp; omega)) ?_
              refine SR_pu (RD_move rfl) rfl ?_
              refine SR_yes rfl rfl (by first | rfl | exact decide_eq_true (by omega) | exact decide_eq_false (by omega) | decide | (simp; done) | (simp; omega)) ?_
              refine SR_rd (RD_loadA Try.isAgg24 Try.sizeOf24 rfl rfl) Has.wh rfl ?_
              refine SR_yes rfl rfl (by first | rfl | exact decide_eq_true (by omega) | exact decide_eq_false (by omega) | decide | (simp; done) | (simp; omega)) ?_
              refine SR_pu (RD_move rfl) rfl ?_
              refine SR_yes rfl rfl (by first | rfl | exact decide_eq_true (by omega) | exact decide_eq_false (by omega) | decide | (simp; done) | (simp; omega)) ?_
              refine SR_pu (RD_move rfl) rfl ?_
              refine SR_yes rfl rfl (by first | rfl | exact decide_eq_true (by omega) | exact decide_eq_false (by omega) | decide | (simp; done) | (simp; omega)) ?_
              refine SR_pu (RD_move rfl) rfl ?_
              refine SR_yes rfl rfl (by first | rfl | exact decide_eq_true (by omega) | exact decide_eq_false (by omega) | decide | (simp; done) | (simp; omega)) ?_
              refine SR_rd (RD_loadA Try.isAgg34 Try.sizeOf34 rfl rfl) Has.wh rfl ?_
              refine SR_yes rfl rfl (by first | rfl | exact decide_eq_true (by omega) | exact decide_eq_false (by omega) | decide | (simp; done) | (simp; omega)) ?_
              refine SR_pu (RD_build (.cons rfl (.cons rfl (.cons rfl (.cons rfl (.nil))))) built39_0_1_2_3) rfl ?_
              refine SR_yes rfl rfl (by first | rfl | exact decide_eq_true (by omega) | exact decide_eq_false (by omega) | decide | (simp; done) | (simp; omega)) ?_
              refine SR_call Try.call23 (.cons rfl (.cons rfl (.cons rfl (.nil)))) (CallsK.at (cert_TcOk_few k ⟨CfgD.qcL ⟨f0, 3 * f0 + 1, 0, 0, 0, 0, 0, 0⟩ l vw bk, S⟩ ((hI7.ext hy2).ext hq1) ⟨f0, 3 * f0 + 1, 0, 0, 0, 0, 0, 0⟩ ⟨vw, ⟨r.a, r.n, r.c, r.l⟩, ⟨h.a, h.n, h.c, h.l⟩, ⟨0, (d0 : Nat), ⟨none, 0, 0, []⟩⟩⟩ rfl rfl rfl hm2 hm3 rfl (by dsimp only; omega) (by dsimp only; omega) (by simp) (by dsimp only; omega) (by dsimp only; omega) hB hBl)) (lts rfl) ?_
              rintro _ L32 ⟨rfl, l9, he9, hlen9, hL32⟩
              try dsimp only at hL32 he9 hlen9
              refine SR.lands hL32 ?_
              refine SR_pu (RD_pick_f rfl (by first | rfl | exact decide_eq_true (by omega) | exact decide_eq_false (by omega) | decide | (simp; done) | (simp; omega)) rfl) rfl ?_
              refine SR_nil ?_
              refine SN.le (l := [(3, _), (4, _), (11, _), (12, _), (14, _), (16, _), (129, _), (130, _), (131, _), (151, _)]) ?_ (.cons rfl (.cons rfl (.cons rfl (.cons rfl (.cons rfl (.cons rfl (.cons rfl (.cons rfl (.cons rfl (.cons rfl (.nil)))))))))))
              refine SN_seq ?_
              refine SC_cond_false rfl (rfl) ?_
              refine SC_skip ?_
              refine SN_block ?_
              refine SN_seq ?_
              refine SC_region ?_
              refine SR_pu (RD_addi rfl rfl (by omega) (by omega)) rfl ?_
              refine SR_pu (RD_move rfl) rfl ?_
              refine SR_nil ?_
              refine SN.le (l := [(3, _), (4, _), (11, _), (12, _), (14, _), (16, _), (129, _), (130, _), (131, _)]) ?_ (.cons rfl (.cons rfl (.cons rfl (.cons rfl (.cons rfl (.cons rfl (.cons rfl (.cons rfl (.cons rfl (.nil))))))))))
              refine SC_again (ih3 ((i + 1, l9)) (⟨by dsimp only; omega, (hy2.trans hq1).trans he9, by dsimp only; omega⟩) (by dsimp only; omega)) (.fin) (.cons rfl (.cons rfl (.cons rfl (.cons rfl (.cons rfl (.cons rfl (.cons rfl (.cons rfl (.cons' rfl (ie (by dsimp only; omega)) (.nil))))))))))
          · have hi2 : i = 2 := by simp at hc132; omega
            refine SC_exit rfl ?_
            refine SN_seq ?_
            refine SC_seq ?_
            have hfit : CfgD.fits ⟨f0, 3 * f0 + 1, 0, 0, 0, 0, 0, 0⟩ = true := by unfold CfgD.fits; simp; omega
            have hqr : ∀ z : Int, CfgD.qcL ⟨f0, 3 * f0 + 1, 0, 0, 0, 0, 0, 0⟩ l 0 z = l := fun z => by unfold CfgD.qcL; rw [if_pos (by decide), hfit]; exact dput_idem (hy2.mem hr0)
            refine SC_region ?_
            refine SR_pu (RD_move rfl) rfl ?_
            refine SR_rd (RD_loadA Try.isAgg24 Try.sizeOf24 rfl rfl) Has.wh rfl ?_
            refine SR_pu (RD_move rfl) rfl ?_
            refine SR_pu (RD_addi rfl rfl (by omega) (by omega)) rfl ?_
            refine SR_pu (RD_build (.cons rfl (.nil)) built34_1) rfl ?_
            refine SR_call Try.call22 (.cons rfl (.cons rfl (.cons rfl (.nil)))) (CallsK.at (cert_QcOk' k ⟨l, S⟩ ⟨f0, 3 * f0 + 1, 0, 0, 0, 0, 0, 0⟩ ⟨0, bk + 1073741824, ⟨none, 0, 0, []⟩⟩ rfl rfl (by simp) (by dsimp only; omega) (by dsimp only; omega) l false (show CfgD.qcL ⟨f0, 3 * f0 + 1, 0, 0, 0, 0, 0, 0⟩ l 0 (bk + 1073741824) = l from hqr _) (show CfgD.qcOk ⟨f0, 3 * f0 + 1, 0, 0, 0, 0, 0, 0⟩ l S 0 (bk + 1073741824) [] = false from by unfold CfgD.qcOk; rw [if_pos (by decide), decide_eq_false (show ¬ (bk + 1073741824 = (dnum l rootB : Nat)) by have := dnum_le l rootB; omega)]; simp))) (lts rfl) ?_
            rintro _ L7 ⟨rfl, hL7⟩
            try dsimp only at hL7
            refine SR.lands hL7 ?_
            refine SR_pu (RD_not rfl) rfl ?_
            refine SR_pu (RD_move rfl) rfl ?_
            refine SR_yes rfl rfl (by first | rfl | exact decide_eq_true (by omega) | exact decide_eq_false (by omega) | decide | (simp; done) | (simp; omega)) ?_
            refine SR_pu (RD_move rfl) rfl ?_
            refine SR_yes rfl rfl (by first | rfl | exact decide_eq_true (by omega) | exact decide_eq_false (by omega) | decide | (simp; done) | (simp; omega)) ?_
            refine SR_rd (RD_loadA Try.isAgg24 Try.sizeOf24 rfl rfl) Has.wh rfl ?_
            refine SR_yes rfl rfl (by first | rfl | exact decide_eq_true (by omega) | exact decide_eq_false (by omega) | decide | (simp; done) | (simp; omega)) ?_
            refine SR_rd (RD_loadA Try.isAgg34 Try.sizeOf34 rfl rfl) Has.wh rfl ?_
            refine SR_yes rfl rfl (by first | rfl | exact decide_eq_true (by omega) | exact decide_eq_false (by omega) | decide | (simp; done) | (simp; omega)) ?_
            refine SR_call Try.call22 (.cons rfl (.cons rfl (.cons rfl (.nil)))) (CallsK.at (cert_QcOk' k ⟨l, S⟩ ⟨f0, 3 * f0 + 1, 0, 0, 0, 0, 0, 0⟩ ⟨0, (d0 : Nat), ⟨none, 0, 0, []⟩⟩ rfl rfl (by simp) (by dsimp only; omega) (by dsimp only; omega) l true (show CfgD.qcL ⟨f0, 3 * f0 + 1, 0, 0, 0, 0, 0, 0⟩ l 0 (d0 : Nat) = l from hqr _) (show CfgD.qcOk ⟨f0, 3 * f0 + 1, 0, 0, 0, 0, 0, 0⟩ l S 0 (d0 : Nat) [] = true from by unfold CfgD.qcOk; rw [if_pos (by decide), hy2.num hr0, hd1, hfit]; simp))) (lts rfl) ?_
            rintro _ L8 ⟨rfl, hL8⟩
            try dsimp only at hL8
            refine SR.lands hL8 ?_
            refine SR_pu (RD_pick_t rfl (by first | rfl | exact decide_eq_true (by omega) | exact decide_eq_false (by omega) | decide | (simp; done) | (simp; omega)) rfl) rfl ?_
            refine SR_pu (RD_move rfl) rfl ?_
            refine SR_yes rfl rfl (by first | rfl | exact decide_eq_true (by omega) | exact decide_eq_false (by omega) | decide | (simp; done) | (simp; omega)) ?_
            refine SR_call Try.call16 (.nil) (cert_awake) (lts rfl) ?_
            rintro _ L9 ⟨rfl, hL9⟩
            refine SR.lands hL9 ?_
            refine SR_pu (RD_pick_t rfl (by first | rfl | exact decide_eq_true (by omega) | exact decide_eq_false (by omega) | decide | (simp; done) | (simp; omega)) rfl) rfl ?_
            refine SR_pu (RD_assign rfl) rfl ?_
            refine SR_nil ?_
            refine SN.le (l := [(10, _)]) ?_ (.cons rfl (.nil))
            refine SN_seq ?_
            refine SC_ret1 rfl rfl ?_
            exact ⟨rfl, .fin⟩
    · refine SR_no rfl rfl (hg9_4) (lts rfl) ?_
      refine SR_no rfl rfl (hg9_4) (lts rfl) ?_
      refine SR_no rfl rfl (hg9_4) (lts rfl) ?_
      refine SR_pu (RD_pick_f rfl (hg9_4) rfl) rfl ?_
      refine SR_nil ?_
      refine SN.le (l := [(0, _), (1, _), (2, _), (3, _), (4, _), (11, _), (12, _), (13, _), (59, _)]) ?_ (.cons rfl (.cons rfl (.cons rfl (.cons rfl (.cons rfl (.cons rfl (.cons rfl (.cons rfl (.cons rfl (.nil))))))))))
      refine SN_seq ?_
      have hBl : (((l1.take i).map fun x => x % 16).length : Int) < (3 * f0 + 1) - f0 := by simp; omega
      have hl6 : l.length ≤ 6 := by omega
      clear ih
      refine SC_cond_false rfl (rfl) ?_
      refine SC_exit rfl ?_
      refine SN_seq ?_
      refine SC_seq ?_
      refine SC_region ?_
      refine SR_pu (RD_move rfl) rfl ?_
      refine SR_call Try.call21 (.cons rfl (.nil)) (CallsK.at (cert_Root k ⟨l, S⟩ (by dsimp only; omega) _ _ rfl rfl)) (lts rfl) ?_
      rintro _ L6 ⟨rfl, hL6⟩
      try dsimp only at hL6
      obtain ⟨l0, hl0⟩ : ∃ z, dput l rootB = z := ⟨_, rfl⟩
      obtain ⟨d0, hd0⟩ : ∃ z, dnum (dput l rootB) rootB = z := ⟨_, rfl⟩
      have hl7 : l0.length ≤ 7 := by have := dput_len l rootB; rw [hl0] at this; omega
      have hI7 : Inv l0 S := hl0 ▸ hI.ext (Ext.put _ _)
      have hr0 : rootB ∈ l0 := hl0 ▸ dput_mem _ _
      have hd1 : dnum l0 rootB = d0 := hl0 ▸ hd0
      rw [hd0]
      rw [hl0] at hL6
      refine SR.lands hL6 ?_
      refine SR_pu (RD_build (.cons rfl (.nil)) built34_1) rfl ?_
      refine SR_ox (OX_alloc Try.zeroValue34 rfl) rfl ?_
      rintro _ _ ⟨b14, rfl, rfl⟩
      refine SR_ox0 (OX_stA Try.sizeOf34 rfl rfl rfl rfl) ?_
      rintro _ _ rfl
      refine SR_nil ?_
      refine SN.le (l := [(2, _), (3, _), (4, _), (11, _), (12, _), (14, _)]) ?_ (.cons rfl (.cons rfl (.cons rfl (.cons rfl (.cons rfl (.cons rfl (.nil)))))))
      refine SN_seq ?_
      refine SC_seq ?_
      refine SC_region ?_
      refine SR_pu (RD_assign rfl) rfl ?_
      refine SR_pu (RD_assign rfl) rfl ?_
      refine SR_nil ?_
      refine SN.le (l := [(2, _), (3, _), (4, _), (11, _), (12, _), (14, _), (15, _), (16, _)]) ?_ (.cons rfl (.cons rfl (.cons rfl (.cons rfl (.cons rfl (.cons rfl (.cons rfl (.cons rfl (.nil)))))))))
      refine SN_seq ?_
      refine SC_seq ?_
      refine SC_seq ?_
      refine SC_region ?_
      refine SR_pu (RD_assign rfl) rfl ?_
      refine SR_nil ?_
      refine SN.le (l := [(2, _), (3, _), (4, _), (11, _), (12, _), (14, _), (15, _), (16, _), (17, _)]) ?_ (.cons rfl (.cons rfl (.cons rfl (.cons rfl (.cons rfl (.cons rfl (.cons rfl (.cons rfl (.cons rfl (.nil))))))))))
      refine SN_seq ?_
      refine SC_block ?_
      refine SC_ind (X := Nat × Row × Row) (fun y => (y.1 : Int) ≤ 3 * f0 + 1 ∧ y.2.1.l.length = y.2.1.n ∧ y.2.2.l.length = y.2.2.n ∧ y.2.1.n ≤ 30 * y.1 ∧ y.2.2.n ≤ 30 * y.1) (fun y => (3 * f0 + 1).toNat - y.1) (fun y => [(2, .slice a2 n2 c2), (3, .int .i64 vw), (4, .int .i64 bk), (11, .pointer (some ⟨b11, 0, none⟩)), (12, .pointer (some ⟨k.p, 0, none⟩)), (14, .pointer (some ⟨b14, 0, none⟩)), (15, .slice y.2.1.a y.2.1.n y.2.1.c), (16, .slice y.2.2.a y.2.2.n y.2.2.c), (17, .int .i64 (y.1 : Nat))]) (fun y => rowP 3 1 y.2.1.a y.2.1.n y.2.1.c (y.2.1.l.map intV) :: rowP 3 1 y.2.2.a y.2.2.n y.2.2.c (y.2.2.l.map intV) :: At worldI k ⟨l0, S⟩ :: pt b11 (.cells [.int .i64 f0, .int .i64 (3 * f0 + 1), .int .i64 0, .int .i64 0, .int .i64 0, .int .i64 0, .int .i64 0, .int .i64 0].toArray 24) :: pt b14 (.cells [.int .i64 0, .int .i64 (d0 : Nat), .slice none 0 0].toArray 34) :: F) ((0, ⟨none, 0, 0, []⟩, ⟨none, 0, 0, []⟩)) (⟨by dsimp only; omega, rfl, rfl, by simp, by simp⟩) (.cons rfl (.cons rfl (.cons rfl (.cons rfl (.cons rfl (.cons rfl (.cons rfl (.cons rfl (.cons rfl (.nil)))))))))) ((row_new 3 1 none).trans ((row_new 3 1 none).trans (show Lands _ (rowP 3 1 none 0 0 [] :: rowP 3 1 none 0 0 [] :: At worldI k ⟨l0, S⟩ :: pt b11 (.cells [.int .i64 f0, .int .i64 (3 * f0 + 1), .int .i64 0, .int .i64 0, .int .i64 0, .int .i64 0, .int .i64 0, .int .i64 0].toArray 24) :: pt b14 (.cells [.int .i64 0, .int .i64 (d0 : Nat), .slice none 0 0].toArray 34) :: F) from .fin))) ?_
      intro ⟨m, r, h⟩ hi ih1
      obtain ⟨hm1, hm2, hm3, hm4, hm5⟩ := hi
      dsimp only at hm1 hm2 hm3 hm4 hm5 ih1 ⊢
      refine SC_seq ?_
      refine SC_seq ?_
      refine SC_region ?_
      refine SR_pu (RD_move rfl) rfl ?_
      first
        | refine SR_pu (RD_fieldAddr 1 Try.runUnderlying24 rfl rfl Try.sizeOf3 rfl) rfl ?_
        | refine SR_rd (RD_fieldAddrO 1 Try.runUnderlying24 rfl rfl Try.sizeOf3 rfl (by simp <;> omega)) Has.ro rfl ?_
      refine SR_rd (RD_load Try.isAgg3 rfl) (Has.ce rfl) rfl ?_
      refine SR_pu (RD_lss rfl rfl) rfl ?_
      refine SR_nil ?_
      refine SN.le (l := [(2, _), (3, _), (4, _), (11, _), (12, _), (14, _), (15, _), (16, _), (17, _), (91, _)]) ?_ (.cons rfl (.cons rfl (.cons rfl (.cons rfl (.cons rfl (.cons rfl (.cons rfl (.cons rfl (.cons rfl (.cons rfl (.nil)))))))))))
      refine SN_seq ?_
      refine SC_cond rfl (fun hc91 => ?_) (fun hc91 => ?_)
      · have hmn : (m : Int) < 3 * f0 + 1 := by simpa using hc91
        refine SC_skip ?_
        refine SN_seq ?_
        refine SC_seq ?_
        refine SC_block ?_
        refine SC_seq ?_
        refine SC_region ?_
        refine SR_pu (RD_move rfl) rfl ?_
        refine SR_pu (RD_len Try.runUnderlying22 rfl) rfl ?_
        refine SR_pu (RD_move rfl) rfl ?_
        refine SR_nil ?_
        refine SN.le (l := [(2, _), (3, _), (4, _), (11, _), (12, _), (14, _), (15, _), (16, _), (17, _), (94, _), (95, _), (96, _)]) ?_ (.cons rfl (.cons rfl (.cons rfl (.cons rfl (.cons rfl (.cons rfl (.cons rfl (.cons rfl (.cons rfl (.cons rfl (.cons rfl (.cons rfl (.nil)))))))))))))
        refine SN_seq ?_
        refine SC_block ?_
        refine SC_ind (X := Nat × Row × Row) (fun y => y.1 ≤ n2 ∧ y.2.1.l.length = y.2.1.n ∧ y.2.2.l.length = y.2.2.n ∧ y.2.1.n ≤ 30 * m + y.1 ∧ y.2.2.n ≤ 30 * m + y.1) (fun y => n2 - y.1) (fun y => [(2, .slice a2 n2 c2), (3, .int .i64 vw), (4, .int .i64 bk), (11, .pointer (some ⟨b11, 0, none⟩)), (12, .pointer (some ⟨k.p, 0, none⟩)), (14, .pointer (some ⟨b14, 0, none⟩)), (15, .slice y.2.1.a y.2.1.n y.2.1.c), (16, .slice y.2.2.a y.2.2.n y.2.2.c), (17, .int .i64 (m : Nat)), (94, .slice a2 n2 c2), (95, .int .i64 (n2 : Nat)), (96, .int .i64 (y.1 : Nat))]) (fun y => rowP 3 1 y.2.1.a y.2.1.n y.2.1.c (y.2.1.l.map intV) :: rowP 3 1 y.2.2.a y.2.2.n y.2.2.c (y.2.2.l.map intV) :: At worldI k ⟨l0, S⟩ :: pt b11 (.cells [.int .i64 f0, .int .i64 (3 * f0 + 1), .int .i64 0, .int .i64 0, .int .i64 0, .int .i64 0, .int .i64 0, .int .i64 0].toArray 24) :: pt b14 (.cells [.int .i64 0, .int .i64 (d0 : Nat), .slice none 0 0].toArray 34) :: F) ((0, r, h)) (⟨by simp, hm2, hm3, by simpa using hm4, by simpa using hm5⟩) (.cons rfl (.cons rfl (.cons rfl (.cons rfl (.cons rfl (.cons rfl (.cons rfl (.cons rfl (.cons rfl (.cons rfl (.cons rfl (.cons rfl (.nil))))))))))))) (.fin) ?_
        intro ⟨j, u, v⟩ hi ih2
        obtain ⟨hj1, hj2, hj3, hj4, hj5⟩ := hi
        dsimp only at hj1 hj2 hj3 hj4 hj5 ih2 ⊢
        refine SC_seq ?_
        refine SC_region ?_
        refine SR_pu (RD_lss rfl rfl) rfl ?_
        refine SR_nil ?_
        refine SN.le (l := [(2, _), (3, _), (4, _), (11, _), (12, _), (14, _), (15, _), (16, _), (17, _), (94, _), (95, _), (96, _), (97, _)]) ?_ (.cons rfl (.cons rfl (.cons rfl (.cons rfl (.cons rfl (.cons rfl (.cons rfl (.cons rfl (.cons rfl (.cons rfl (.cons rfl (.cons rfl (.cons rfl (.nil))))))))))))))
        refine SN_seq ?_
        refine SC_seq ?_
        refine SC_cond rfl (fun hc97 => ?_) (fun hc97 => ?_)
        · have hjn : j < n2 := by simp at hc97; omega
          obtain ⟨z, hz⟩ : ∃ z, l2[j]? = some z := ⟨_, List.getElem?_eq_getElem (by omega)⟩
          refine SC_skip ?_
          refine SN_seq ?_
          refine SC_seq ?_
          refine SC_block ?_
          refine SC_seq ?_
          refine SC_region ?_
          refine SR_rd (RD_ixO Try.runUnderlying22 Try.sizeOf3 rfl rfl (by first | assumption | (simp; done) | (simp; omega)) (by omega) (by omega)) Has.ro rfl ?_
          refine SR_rd (RD_loadO (v := intV z) (cs := l2.map intV) Try.isAgg3 rfl (by simp [hz])) Has.ro rfl ?_
          refine SR_pu (RD_assign rfl) rfl ?_
          refine SR_nil ?_
          refine SN.le (l := [(2, _), (3, _), (4, _), (11, _), (12, _), (14, _), (15, _), (16, _), (17, _), (19, _), (94, _), (95, _), (96, _)]) ?_ (.cons rfl (.cons rfl (.cons rfl (.cons rfl (.cons rfl (.cons rfl (.cons rfl (.cons rfl (.cons rfl (.cons rfl (.cons rfl (.cons rfl (.cons rfl (.nil))))))))))))))
          refine SN_seq ?_
          refine SC_seq ?_
          refine SC_region ?_
          refine SR_pu (RD_move rfl) rfl ?_
          refine SR_pu (RD_mask 4 rfl rfl rfl (by decide) 16 rfl) rfl ?_
          refine SR_pu (RD_move rfl) rfl ?_
          refine SR_pu (RD_eql rfl rfl) rfl ?_
          refine SR_pu (RD_move rfl) rfl ?_
          refine SR_guard rfl rfl (fun hg21_4 => ?_) (fun hg21_4 => ?_)
          · refine SR_yes rfl rfl (hg21_4) ?_
            refine SR_pu (RD_move rfl) rfl ?_
            refine SR_yes rfl rfl (hg21_4) ?_
            refine SR_pu (RD_len Try.runUnderlying22 rfl) rfl ?_
            refine SR_yes rfl rfl (hg21_4) ?_
            refine SR_pu (RD_eql rfl rfl) rfl ?_
            refine SR_yes rfl rfl (hg21_4) ?_
            refine SR_pu (RD_move rfl) rfl ?_
            refine SR_guard rfl rfl (fun hg21_8 => ?_) (fun hg21_8 => ?_)
            · have hu0 : 0 < u.n := by simp at hg21_8; omega
              obtain ⟨y, hy⟩ : ∃ y, u.l[u.n - 1]? = some y := ⟨_, List.getElem?_eq_getElem (by omega)⟩
              refine SR_yes rfl rfl (hg21_8) ?_
              refine SR_pu (RD_move rfl) rfl ?_
              refine SR_yes rfl rfl (hg21_8) ?_
              refine SR_pu (RD_move rfl) rfl ?_
              refine SR_yes rfl rfl (hg21_8) ?_
              refine SR_pu (RD_len Try.runUnderlying22 rfl) rfl ?_
              refine SR_yes rfl rfl (hg21_8) ?_
              refine SR_pu (RD_subi rfl rfl (by omega) (by omega)) rfl ?_
              refine SR_yes rfl rfl (hg21_8) ?_
              refine SR_rd (RD_ixO (i := ((u.n - 1 : Nat) : Int)) (cs := u.l.map intV) Try.runUnderlying22 Try.sizeOf3 rfl (congrArg some (ie (by omega))) (by simpa using hj2) (by omega) (by omega)) Has.ro rfl ?_
              refine SR_yes rfl rfl (hg21_8) ?_
              refine SR_rd (RD_loadO (v := intV y) (cs := u.l.map intV) Try.isAgg3 rfl (by simp [hy])) Has.ro rfl ?_
              refine SR_yes rfl rfl (hg21_8) ?_
              refine SR_pu (RD_move rfl) rfl ?_
              refine SR_yes rfl rfl (hg21_8) ?_
              refine SR_pu (RD_lss rfl rfl) rfl ?_
              refine SR_yes rfl rfl (hg21_4) ?_
              refine SR_pu (RD_pick_f rfl (hg21_8) rfl) rfl ?_
              refine SR_pu (RD_pick_t rfl (hg21_4) rfl) rfl ?_
              refine SR_nil ?_
              refine SN.le (l := [(2, _), (3, _), (4, _), (11, _), (12, _), (14, _), (15, _), (16, _), (17, _), (94, _), (95, _), (96, _), (118, _)]) ?_ (.cons rfl (.cons rfl (.cons rfl (.cons rfl (.cons rfl (.cons rfl (.cons rfl (.cons rfl (.cons rfl (.cons rfl (.cons rfl (.cons rfl (.cons rfl (.nil))))))))))))))
              refine SN_seq ?_
              refine SC_cond rfl (fun hc118 => ?_) (fun hc118 => ?_)
              · refine SC_region ?_
                refine SR_pu (RD_move rfl) rfl ?_
                refine SR_pu (RD_move rfl) rfl ?_
                refine SR_ox (OX_lit1 Try.underlying22 Try.type3 rfl rfl rfl rfl (.cons rfl (.nil)) (.cons rfl (.nil))) rfl ?_
                rintro _ _ ⟨b121, rfl, rfl⟩
                refine SR_ox (OX_app 1 Try.underlying22 Try.underlying22 Try.type3 rfl rfl rfl rfl rfl (by first | rfl | simp; done | (simp; omega)) 8 rfl (by omega) (by omega)) rfl ?_
                rintro _ _ ⟨a122, c122, rfl, rfl⟩
                refine SR_pu (RD_move rfl) rfl ?_
                refine SR_ox (OX_lit1 Try.underlying22 Try.type3 rfl rfl rfl rfl (.cons rfl (.nil)) (.cons rfl (.nil))) rfl ?_
                rintro _ _ ⟨b124, rfl, rfl⟩
                refine SR_ox (OX_app 1 Try.underlying22 Try.underlying22 Try.type3 rfl rfl rfl rfl rfl (by first | rfl | simp; done | (simp; omega)) 8 rfl (by omega) (by omega)) rfl ?_
                rintro _ _ ⟨a125, c125, rfl, rfl⟩
                refine SR_pu (RD_assign rfl) rfl ?_
                refine SR_pu (RD_assign rfl) rfl ?_
                refine SR_nil ?_
                refine SN.le (l := [(2, _), (3, _), (4, _), (11, _), (12, _), (14, _), (15, _), (16, _), (17, _), (94, _), (95, _), (96, _)]) ?_ (.cons rfl (.cons rfl (.cons rfl (.cons rfl (.cons rfl (.cons rfl (.cons rfl (.cons rfl (.cons rfl (.cons rfl (.cons rfl (.cons rfl (.nil)))))))))))))
                refine SN_block ?_
                refine SN_seq ?_
                refine SC_region ?_
                refine SR_pu (RD_addi rfl rfl (by omega) (by omega)) rfl ?_
                refine SR_pu (RD_move rfl) rfl ?_
                refine SR_nil ?_
                refine SN.le (l := [(2, _), (3, _), (4, _), (11, _), (12, _), (14, _), (15, _), (16, _), (17, _), (94, _), (95, _), (96, _)]) ?_ (.cons rfl (.cons rfl (.cons rfl (.cons rfl (.cons rfl (.cons rfl (.cons rfl (.cons rfl (.cons rfl (.cons rfl (.cons rfl (.cons rfl (.nil)))))))))))))
                refine SC_again (ih2 ((j + 1, ⟨a122, u.n + 1, c122, u.l ++ [(m : Int)]⟩, ⟨a125, v.n + 1, c125, v.l ++ [0]⟩)) (⟨by dsimp only; omega, by simp [hj2], by simp [hj3], by dsimp only; omega, by dsimp only; omega⟩) (by dsimp only; omega)) (by simp only [List.map_append, List.map_cons, List.map_nil, intV]; exact .fin) (.cons rfl (.cons rfl (.cons rfl (.cons rfl (.cons rfl (.cons rfl (.cons rfl (.cons rfl (.cons rfl (.cons rfl (.cons rfl (.cons' rfl (ie (by dsimp only; omega)) (.nil)))))))))))))
              · refine SC_skip ?_
                refine SN_block ?_
                refine SN_seq ?_
                refine SC_region ?_
                refine SR_pu (RD_addi rfl rfl (by omega) (by omega)) rfl ?_
                refine SR_pu (RD_move rfl) rfl ?_
                refine SR_nil ?_
                refine SN.le (l := [(2, _), (3, _), (4, _), (11, _), (12, _), (14, _), (15, _), (16, _), (17, _), (94, _), (95, _), (96, _)]) ?_ (.cons rfl (.cons rfl (.cons rfl (.cons rfl (.cons rfl (.cons rfl (.cons rfl (.cons rfl (.cons rfl (.cons rfl (.cons rfl (.cons rfl (.nil)))))))))))))
                refine SC_again (ih2 ((j + 1, u, v)) (⟨by dsimp only; omega, hj2, hj3, by dsimp only; omega, by dsimp only; omega⟩) (by dsimp only; omega)) (.fin) (.cons rfl (.cons rfl (.cons rfl (.cons rfl (.cons rfl (.cons rfl (.cons rfl (.cons rfl (.cons rfl (.cons rfl (.cons rfl (.cons' rfl (ie (by dsimp only; omega)) (.nil)))))))))))))
            · refine SR_no rfl rfl (hg21_8) (lts rfl) ?_
              refine SR_no rfl rfl (hg21_8) (lts rfl) ?_
              refine SR_no rfl rfl (hg21_8) (lts rfl) ?_
              refine SR_no rfl rfl (hg21_8) (lts rfl) ?_
              refine SR_no rfl rfl (hg21_8) (lts rfl) ?_
              refine SR_no rfl rfl (hg21_8) (lts rfl) ?_
              refine SR_no rfl rfl (hg21_8) (lts rfl) ?_
              refine SR_no rfl rfl (hg21_8) (lts rfl) ?_
              refine SR_yes rfl rfl (hg21_4) ?_
              refine SR_pu (RD_pick_t rfl (hg21_8) rfl) rfl ?_
              refine SR_pu (RD_pick_t rfl (hg21_4) rfl) rfl ?_
              refine SR_nil ?_
              refine SN.le (l := [(2, _), (3, _), (4, _), (11, _), (12, _), (14, _), (15, _), (16, _), (17, _), (94, _), (95, _), (96, _), (118, _)]) ?_ (.cons rfl (.cons rfl (.cons rfl (.cons rfl (.cons rfl (.cons rfl (.cons rfl (.cons rfl (.cons rfl (.cons rfl (.cons rfl (.cons rfl (.cons rfl (.nil))))))))))))))
              refine SN_seq ?_
              refine SC_cond_true rfl (rfl) ?_
              refine SC_region ?_
              refine SR_pu (RD_move rfl) rfl ?_
              refine SR_pu (RD_move rfl) rfl ?_
              refine SR_ox (OX_lit1 Try.underlying22 Try.type3 rfl rfl rfl rfl (.cons rfl (.nil)) (.cons rfl (.nil))) rfl ?_
              rintro _ _ ⟨b121, rfl, rfl⟩
              refine SR_ox (OX_app 1 Try.underlying22 Try.underlying22 Try.type3 rfl rfl rfl rfl rfl (by first | rfl | simp; done | (simp; omega)) 8 rfl (by omega) (by omega)) rfl ?_
              rintro _ _ ⟨a122, c122, rfl, rfl⟩
              refine SR_pu (RD_move rfl) rfl ?_
              refine SR_ox (OX_lit1 Try.underlying22 Try.type3 rfl rfl rfl rfl (.cons rfl (.nil)) (.cons rfl (.nil))) rfl ?_
              rintro _ _ ⟨b124, rfl, rfl⟩
              refine SR_ox (OX_app 1 Try.underlying22 Try.underlying22 Try.type3 rfl rfl rfl rfl rfl (by first | rfl | simp; done | (simp; omega)) 8 rfl (by omega) (by omega)) rfl ?_
              rintro _ _ ⟨a125, c125, rfl, rfl⟩
              refine SR_pu (RD_assign rfl) rfl ?_
              refine SR_pu (RD_assign rfl) rfl ?_
              refine SR_nil ?_
              refine SN.le (l := [(2, _), (3, _), (4, _), (11, _), (12, _), (14, _), (15, _), (16, _), (17, _), (94, _), (95, _), (96, _)]) ?_ (.cons rfl (.cons rfl (.cons rfl (.cons rfl (.cons rfl (.cons rfl (.cons rfl (.cons rfl (.cons rfl (.cons rfl (.cons rfl (.cons rfl (.nil)))))))))))))
              refine SN_block ?_
              refine SN_seq ?_
              refine SC_region ?_
              refine SR_pu (RD_addi rfl rfl (by omega) (by omega)) rfl ?_
              refine SR_pu (RD_move rfl) rfl ?_
              refine SR_nil ?_
              refine SN.le (l := [(2, _), (3, _), (4, _), (11, _), (12, _), (14, _), (15, _), (16, _), (17, _), (94, _), (95, _), (96, _)]) ?_ (.cons rfl (.cons rfl (.cons rfl (.cons rfl (.cons rfl (.cons rfl (.cons rfl (.cons rfl (.cons rfl (.cons rfl (.cons rfl (.cons rfl (.nil)))))))))))))
              refine SC_again (ih2 ((j + 1, ⟨a122, u.n + 1, c122, u.l ++ [(m : Int)]⟩, ⟨a125, v.n + 1, c125, v.l ++ [0]⟩)) (⟨by dsimp only; omega, by simp [hj2], by simp [hj3], by dsimp only; omega, by dsimp only; omega⟩) (by dsimp only; omega)) (by simp only [List.map_append, List.map_cons, List.map_nil, intV]; exact .fin) (.cons rfl (.cons rfl (.cons rfl (.cons rfl (.cons rfl (.cons rfl (.cons rfl (.cons rfl (.cons rfl (.cons rfl (.cons rfl (.cons' rfl (ie (by dsimp only; omega)) (.nil)))))))))))))
          · refine SR_no rfl rfl (hg21_4) (lts rfl) ?_
            refine SR_no rfl rfl (hg21_4) (lts rfl) ?_
            refine SR_no rfl rfl (hg21_4) (lts rfl) ?_
            refine SR_no rfl rfl (hg21_4) (lts rfl) ?_
            refine SR_nou  rfl rfl (lts rfl) ?_
            refine SR_nou  rfl rfl (lts rfl) ?_
            refine SR_nou  rfl rfl (lts rfl) ?_
            refine SR_nou  rfl rfl (lts rfl) ?_
            refine SR_nou  rfl rfl (lts rfl) ?_
            refine SR_nou  rfl rfl (lts rfl) ?_
            refine SR_nou  rfl rfl (lts rfl) ?_
            refine SR_nou  rfl rfl (lts rfl) ?_
            refine SR_no rfl rfl (hg21_4) (lts rfl) ?_
            refine SR_pu (RD_pick_f rfl (hg21_4) rfl) rfl ?_
            refine SR_nil ?_
            refine SN.le (l := [(2, _), (3, _), (4, _), (11, _), (12, _), (14, _), (15, _), (16, _), (17, _), (94, _), (95, _), (96, _), (118, _)]) ?_ (.cons rfl (.cons rfl (.cons rfl (.cons rfl (.cons rfl (.cons rfl (.cons rfl (.cons rfl (.cons rfl (.cons rfl (.cons rfl (.cons rfl (.cons rfl (.nil))))))))))))))
            refine SN_seq ?_
            refine SC_cond_false rfl (rfl) ?_
            refine SC_skip ?_
            refine SN_block ?_
            refine SN_seq ?_
            refine SC_region ?_
            refine SR_pu (RD_addi rfl rfl (by omega) (by omega)) rfl ?_
            refine SR_pu (RD_move rfl) rfl ?_
            refine SR_nil ?_
            refine SN.le (l := [(2, _), (3, _), (4, _), (11, _), (12, _), (14, _), (15, _), (16, _), (17, _), (94, _), (95, _), (96, _)]) ?_ (.cons rfl (.cons rfl (.cons rfl (.cons rfl (.cons rfl (.cons rfl (.cons rfl (.cons rfl (.cons rfl (.cons rfl (.cons rfl (.cons rfl (.nil)))))))))))))
            refine SC_again (ih2 ((j + 1, u, v)) (⟨by dsimp only; omega, hj2, hj3, by dsimp only; omega, by dsimp only; omega⟩) (by dsimp only; omega)) (.fin) (.cons rfl (.cons rfl (.cons rfl (.cons rfl (.cons rfl (.cons rfl (.cons rfl (.cons rfl (.cons rfl (.cons rfl (.cons rfl (.cons' rfl (ie (by dsimp only; omega)) (.nil)))))))))))))
        · have hjn : j = n2 := by simp at hc97; omega
          refine SC_exit rfl ?_
          refine SN_block ?_
          refine SN_seq ?_
          refine SC_region ?_
          refine SR_pu (RD_move rfl) rfl ?_
          refine SR_pu (RD_addi rfl rfl (by omega) (by omega)) rfl ?_
          refine SR_pu (RD_assign rfl) rfl ?_
          refine SR_nil ?_
          refine SN.le (l := [(2, _), (3, _), (4, _), (11, _), (12, _), (14, _), (15, _), (16, _), (17, _)]) ?_ (.cons rfl (.cons rfl (.cons rfl (.cons rfl (.cons rfl (.cons rfl (.cons rfl (.cons rfl (.cons rfl (.nil))))))))))
          refine SC_again (ih1 ((m + 1, u, v)) (⟨by dsimp only; omega, hj2, hj3, by dsimp only; omega, by dsimp only; omega⟩) (by dsimp only; omega)) (.fin) (.cons rfl (.cons rfl (.cons rfl (.cons rfl (.cons rfl (.cons rfl (.cons rfl (.cons rfl (.cons' rfl (ie (by dsimp only; omega)) (.nil))))))))))
      · clear ih1
        refine SC_exit rfl ?_
        refine SN_seq ?_
        refine SC_seq ?_
        refine SC_seq ?_
        refine SC_region ?_
        refine SR_pu (RD_move rfl) rfl ?_
        refine SR_pu (RD_move rfl) rfl ?_
        refine SR_ox (OX_lit1 Try.underlying35 Try.type22 rfl rfl rfl rfl (.cons rfl (.cons rfl (.nil))) (.cons rfl (.cons rfl (.nil)))) rfl ?_
        rintro _ _ ⟨b129, rfl, rfl⟩
        refine SR_pu (RD_len Try.runUnderlying35 rfl) rfl ?_
        refine SR_pu (RD_move rfl) rfl ?_
        refine SR_nil ?_
        refine SN.le (l := [(3, _), (4, _), (11, _), (12, _), (14, _), (16, _), (129, _), (130, _), (131, _)]) ?_ (.cons rfl (.cons rfl (.cons rfl (.cons rfl (.cons rfl (.cons rfl (.cons rfl (.cons rfl (.cons rfl (.nil))))))))))
        refine SN_seq ?_
        refine SC_block ?_
        have hm0 : m ≤ 10 := by omega
        refine SC_ind (X := Nat × List (List UInt8)) (fun y => y.1 ≤ 2 ∧ Ext l0 y.2 ∧ y.2.length ≤ 7 + 400 * y.1) (fun y => 2 - y.1) (fun y => [(3, .int .i64 vw), (4, .int .i64 bk), (11, .pointer (some ⟨b11, 0, none⟩)), (12, .pointer (some ⟨k.p, 0, none⟩)), (14, .pointer (some ⟨b14, 0, none⟩)), (16, .slice h.a h.n h.c), (129, .slice (some ⟨b129, 0, none⟩) 2 2), (130, .int .i64 2), (131, .int .i64 (y.1 : Nat))]) (fun y => pt b129 (.cells [.slice a2 n2 c2, .slice r.a r.n r.c].toArray 22) :: rowP 3 1 r.a r.n r.c (r.l.map intV) :: rowP 3 1 h.a h.n h.c (h.l.map intV) :: At worldI k ⟨y.2, S⟩ :: pt b11 (.cells [.int .i64 f0, .int .i64 (3 * f0 + 1), .int .i64 0, .int .i64 0, .int .i64 0, .int .i64 0, .int .i64 0, .int .i64 0].toArray 24) :: pt b14 (.cells [.int .i64 0, .int .i64 (d0 : Nat), .slice none 0 0].toArray 34) :: F) ((0, l0)) (⟨by simp, Ext.same, by simpa using hl7⟩) (.cons rfl (.cons rfl (.cons rfl (.cons rfl (.cons rfl (.cons rfl (.cons rfl (.cons rfl (.cons rfl (.nil)))))))))) (.fin) ?_
        intro ⟨i, l⟩ hi ih3
        obtain ⟨hy1, hy2, hy3⟩ := hi
        dsimp only at hy1 hy2 hy3 ih3 ⊢
        refine SC_seq ?_
        refine SC_region ?_
        refine SR_pu (RD_lss rfl rfl) rfl ?_
        refine SR_nil ?_
        refine SN.le (l := [(3, _), (4, _), (11, _), (12, _), (14, _), (16, _), (129, _), (130, _), (131, _), (132, _)]) ?_ (.cons rfl (.cons rfl (.cons rfl (.cons rfl (.cons rfl (.cons rfl (.cons rfl (.cons rfl (.cons rfl (.cons rfl (.nil)))))))))))
        refine SN_seq ?_
        refine SC_seq ?_
        refine SC_cond rfl (fun hc132 => ?_) (fun hc132 => ?_)
        · have hi2 : i < 2 := by simp at hc132; omega
          have hi01 : i = 0 ∨ i = 1 := by omega
          rcases hi01 with hi0 | hi0
          · refine SC_skip ?_
            refine SN_seq ?_
            refine SC_seq ?_
            refine SC_block ?_
            refine SC_seq ?_
            refine SC_region ?_
            refine SR_rd (RD_ixO (cs := [.slice a2 n2 c2, .slice r.a r.n r.c]) Try.runUnderlying35 Try.sizeOf22 rfl rfl rfl (by omega) (by omega)) Has.ro rfl ?_
            refine SR_rd (RD_loadO (v := .slice a2 n2 c2) (cs := [.slice a2 n2 c2, .slice r.a r.n r.c]) Try.isAgg22 rfl (by rw [hi0]; rfl)) Has.ro rfl ?_
            refine SR_pu (RD_assign rfl) rfl ?_
            refine SR_nil ?_
            refine SN.le (l := [(3, _), (4, _), (11, _), (12, _), (14, _), (16, _), (21, _), (129, _), (130, _), (131, _)]) ?_ (.cons rfl (.cons rfl (.cons rfl (.cons rfl (.cons rfl (.cons rfl (.cons rfl (.cons rfl (.cons rfl (.cons rfl (.nil)))))))))))
            refine SN_seq ?_
            refine SC_seq ?_
            refine SC_region ?_
            refine SR_pu (RD_move rfl) rfl ?_
            refine SR_rd (RD_loadA Try.isAgg24 Try.sizeOf24 rfl rfl) Has.wh rfl ?_
            refine SR_pu (RD_move rfl) rfl ?_
            refine SR_pu (RD_move rfl) rfl ?_
            refine SR_pu (RD_move rfl) rfl ?_
            refine SR_pu (RD_build (.cons rfl (.cons rfl (.cons rfl (.nil)))) built34_0_1_2) rfl ?_
            refine SR_call Try.call22 (.cons rfl (.cons rfl (.cons rfl (.nil)))) (CallsK.at (cert_QcOk' k ⟨l, S⟩ ⟨f0, 3 * f0 + 1, 0, 0, 0, 0, 0, 0⟩ ⟨vw, bk, ⟨a2, n2, c2, l2⟩⟩ rfl hn2 (by dsimp only; omega) (by dsimp only; omega) (by dsimp only; omega) _ false rfl (few_qc hB hBl (by dsimp only; omega)))) (lts rfl) ?_
            rintro _ L31 ⟨rfl, hL31⟩
            try dsimp only at hL31
            refine SR.lands hL31 ?_
            have hq1 := CfgD.qcL_ext ⟨f0, 3 * f0 + 1, 0, 0, 0, 0, 0, 0⟩ l vw bk
            have hq2 := CfgD.qcL_len ⟨f0, 3 * f0 + 1, 0, 0, 0, 0, 0, 0⟩ l vw bk
            refine SR_pu (RD_move rfl) rfl ?_
            refine SR_yes rfl rfl (by first | rfl | exact decide_eq_true (by omega) | exact decide_eq_false (by omega) | decide | (simp; done) | (simp; omega)) ?_
            refine SR_pu (RD_move rfl) rfl ?_
            refine SR_yes rfl rfl (by first | rfl | exact decide_eq_true (by omega) | exact decide_eq_false (by omega) | decide | (simp; done) | (simp; omega)) ?_
            refine SR_rd (RD_loadA Try.isAgg24 Try.sizeOf24 rfl rfl) Has.wh rfl ?_
            refine SR_yes rfl rfl (by first | rfl | exact decide_eq_true (by omega) | exact decide_eq_false (by omega) | decide | (simp; done) | (simp; omega)) ?_
            refine SR_pu (RD_move rfl) rfl ?_
            refine SR_yes rfl rfl (by first | rfl | exact decide_eq_true (by omega) | exact decide_eq_false (by omega) | decide | (simp; done) | (simp; omega)) ?_
            refine SR_pu (RD_move rfl) rfl ?_
            refine SR_yes rfl rfl (by first | rfl | exact decide_eq_true (by omega) | exact decide_eq_false (by omega) | decide | (simp; done) | (simp; omega)) ?_
            refine SR_pu (RD_move rfl) rfl ?_
            refine SR_yes rfl rfl (by first | rfl | exact decide_eq_true (by omega) | exact decide_eq_false (by omega) | decide | (simp; done) | (simp; omega)) ?_
            refine SR_rd (RD_loadA Try.isAgg34 Try.sizeOf34 rfl rfl) Has.wh rfl ?_
            refine SR_yes rfl rfl (by first | rfl | exact decide_eq_true (by omega) | exact decide_eq_false (by omega) | decide | (simp; done) | (simp; omega)) ?_
            refine SR_pu (RD_build (.cons rfl (.cons rfl (.cons rfl (.cons rfl (.nil))))) built39_0_1_2_3) rfl ?_
            refine SR_yes rfl rfl (by first | rfl | exact decide_eq_true (by omega) | exact decide_eq_false (by omega) | decide | (simp; done) | (simp; omega)) ?_
            refine SR_call Try.call23 (.cons rfl (.cons rfl (.cons rfl (.nil)))) (CallsK.at (cert_TcOk_few k ⟨CfgD.qcL ⟨f0, 3 * f0 + 1, 0, 0, 0, 0, 0, 0⟩ l vw bk, S⟩ ((hI7.ext hy2).ext hq1) ⟨f0, 3 * f0 + 1, 0, 0, 0, 0, 0, 0⟩ ⟨vw, ⟨a2, n2, c2, l2⟩, ⟨h.a, h.n, h.c, h.l⟩, ⟨0, (d0 : Nat), ⟨none, 0, 0, []⟩⟩⟩ rfl rfl rfl hn2 hm3 rfl (by dsimp only; omega) (by dsimp only; omega) (by simp) (by dsimp only; omega) (by dsimp only; omega) hB hBl)) (lts rfl) ?_
            rintro _ L32 ⟨rfl, l9, he9, hlen9, hL32⟩
            try dsimp only at hL32 he9 hlen9
            refine SR.lands hL32 ?_
            refine SR_pu (RD_pick_f rfl (by first | rfl | exact decide_eq_true (by omega) | exact decide_eq_false (by omega) | decide | (simp; done) | (simp; omega)) rfl) rfl ?_
            refine SR_nil ?_
            refine SN.le (l := [(3, _), (4, _), (11, _), (12, _), (14, _), (16, _), (129, _), (130, _), (131, _), (151, _)]) ?_ (.cons rfl (.cons rfl (.cons rfl (.cons rfl (.cons rfl (.cons rfl (.cons rfl (.cons rfl (.cons rfl (.cons rfl (.nil)))))))))))
            refine SN_seq ?_
            refine SC_cond_false rfl (rfl) ?_
            refine SC_skip ?_
            refine SN_block ?_
            refine SN_seq ?_
            refine SC_region ?_
            refine SR_pu (RD_addi rfl rfl (by omega) (by omega)) rfl ?_
            refine SR_pu (RD_move rfl) rfl ?_
            refine SR_nil ?_
            refine SN.le (l := [(3, _), (4, _), (11, _), (12, _), (14, _), (16, _), (129, _), (130, _), (131, _)]) ?_ (.cons rfl (.cons rfl (.cons rfl (.cons rfl (.cons rfl (.cons rfl (.cons rfl (.cons rfl (.cons rfl (.nil))))))))))
            refine SC_again (ih3 ((i + 1, l9)) (⟨by dsimp only; omega, (hy2.trans hq1).trans he9, by dsimp only; omega⟩) (by dsimp only; omega)) (.fin) (.cons rfl (.cons rfl (.cons rfl (.cons rfl (.cons rfl (.cons rfl (.cons rfl (.cons rfl (.cons' rfl (ie (by dsimp only; omega)) (.nil))))))))))
          · refine SC_skip ?_
            refine SN_seq ?_
            refine SC_seq ?_
            refine SC_block ?_
            refine SC_seq ?_
            refine SC_region ?_
            refine SR_rd (RD_ixO (cs := [.slice a2 n2 c2, .slice r.a r.n r.c]) Try.runUnderlying35 Try.sizeOf22 rfl rfl rfl (by omega) (by omega)) Has.ro rfl ?_
            refine SR_rd (RD_loadO (v := .slice r.a r.n r.c) (cs := [.slice a2 n2 c2, .slice r.a r.n r.c]) Try.isAgg22 rfl (by rw [hi0]; rfl)) Has.ro rfl ?_
            refine SR_pu (RD_assign rfl) rfl ?_
            refine SR_nil ?_
            refine SN.le (l := [(3, _), (4, _), (11, _), (12, _), (14, _), (16, _), (21, _), (129, _), (130, _), (131, _)]) ?_ (.cons rfl (.cons rfl (.cons rfl (.cons rfl (.cons rfl (.cons rfl (.cons rfl (.cons rfl (.cons rfl (.cons rfl (.nil)))))))))))
            refine SN_seq ?_
            refine SC_seq ?_
            refine SC_region ?_
            refine SR_pu (RD_move rfl) rfl ?_
            refine SR_rd (RD_loadA Try.isAgg24 Try.sizeOf24 rfl rfl) Has.wh rfl ?_
            refine SR_pu (RD_move rfl) rfl ?_
            refine SR_pu (RD_move rfl) rfl ?_
            refine SR_pu (RD_move rfl) rfl ?_
            refine SR_pu (RD_build (.cons rfl (.cons rfl (.cons rfl (.nil)))) built34_0_1_2) rfl ?_
            refine SR_call Try.call22 (.cons rfl (.cons rfl (.cons rfl (.nil)))) (CallsK.at (cert_QcOk' k ⟨l, S⟩ ⟨f0, 3 * f0 + 1, 0, 0, 0, 0, 0, 0⟩ ⟨vw, bk, ⟨r.a, r.n, r.c, r.l⟩⟩ rfl hm2 (by dsimp only; omega) (by dsimp only; omega) (by dsimp only; omega) _ false rfl (few_qc hB hBl (by dsimp only; omega)))) (lts rfl) ?_
            rintro _ L31 ⟨rfl, hL31⟩
            try dsimp only at hL31
            refine SR.lands hL31 ?_
            have hq1 := CfgD.qcL_ext ⟨f0, 3 * f0 + 1, 0, 0, 0, 0, 0, 0⟩ l vw bk
            have hq2 := CfgD.qcL_len ⟨f0, 3 * f0 + 1, 0, 0, 0, 0, 0, 0⟩ l vw bk
            refine SR_pu (RD_move rfl) rfl ?_
            refine SR_yes rfl rfl (by first | rfl | exact decide_eq_true (by omega) | exact decide_eq_false (by omega) | decide | (simp; done) | (simp; omega)) ?_
            refine SR_pu (RD_move rfl) rfl ?_
            refine SR_yes rfl rfl (by first | rfl | exact decide_eq_true (by omega) | exact decide_eq_false (by omega) | decide | (simp; done) | (simp; omega)) ?_
            refine SR_rd (RD_loadA Try.isAgg24 Try.sizeOf24 rfl rfl) Has.wh rfl ?_
            refine SR_yes rfl rfl (by first | rfl | exact decide_eq_true (by omega) | exact decide_eq_false (by omega) | decide | (simp; done) | (simp; omega)) ?_
            refine SR_pu (RD_move rfl) rfl ?_
            refine SR_yes rfl rfl (by first | rfl | exact decide_eq_true (by omega) | exact decide_eq_false (by omega) | decide | (simp; done) | (simp; omega)) ?_
            refine SR_pu (RD_move rfl) rfl ?_
            refine SR_yes rfl rfl (by first | rfl | exact decide_eq_true (by omega) | exact decide_eq_false (by omega) | decide | (simp; done) | (simp; omega)) ?_
            refine SR_pu (RD_move rfl) rfl ?_
            refine SR_yes rfl rfl (by first | rfl | exact decide_eq_true (by omega) | exact decide_eq_false (by omega) | decide | (simp; done) | (simp; omega)) ?_
            refine SR_rd (RD_loadA Try.isAgg34 Try.sizeOf34 rfl rfl) Has.wh rfl ?_
            refine SR_yes rfl rfl (by first | rfl | exact decide_eq_true (by omega) | exact decide_eq_false (by omega) | decide | (simp; done) | (simp; omega)) ?_
            refine SR_pu (RD_build (.cons rfl (.cons rfl (.cons rfl (.cons rfl (.nil))))) built39_0_1_2_3) rfl ?_
            refine SR_yes rfl rfl (by first | rfl | exact decide_eq_true (by omega) | exact decide_eq_false (by omega) | decide | (simp; done) | (simp; omega)) ?_
            refine SR_call Try.call23 (.cons rfl (.cons rfl (.cons rfl (.nil)))) (CallsK.at (cert_TcOk_few k ⟨CfgD.qcL ⟨f0, 3 * f0 + 1, 0, 0, 0, 0, 0, 0⟩ l vw bk, S⟩ ((hI7.ext hy2).ext hq1) ⟨f0, 3 * f0 + 1, 0, 0, 0, 0, 0, 0⟩ ⟨vw, ⟨r.a, r.n, r.c, r.l⟩, ⟨h.a, h.n, h.c, h.l⟩, ⟨0, (d0 : Nat), ⟨none, 0, 0, []⟩⟩⟩ rfl rfl rfl hm2 hm3 rfl (by dsimp only; omega) (by dsimp only; omega) (by simp) (by dsimp only; omega) (by dsimp only; omega) hB hBl)) (lts rfl) ?_
            rintro _ L32 ⟨rfl, l9, he9, hlen9, hL32⟩
            try dsimp only at hL32 he9 hlen9
            refine SR.lands hL32 ?_
            refine SR_pu (RD_pick_f rfl (by first | rfl | exact decide_eq_true (by omega) | exact decide_eq_false (by omega) | decide | (simp; done) | (simp; omega)) rfl) rfl ?_
            refine SR_nil ?_
            refine SN.le (l := [(3, _), (4, _), (11, _), (12, _), (14, _), (16, _), (129, _), (130, _), (131, _), (151, _)]) ?_ (.cons rfl (.cons rfl (.cons rfl (.cons rfl (.cons rfl (.cons rfl (.cons rfl (.cons rfl (.cons rfl (.cons rfl (.nil)))))))))))
            refine SN_seq ?_
            refine SC_cond_false rfl (rfl) ?_
            refine SC_skip ?_
            refine SN_block ?_
            refine SN_seq ?_
            refine SC_region ?_
            refine SR_pu (RD_addi rfl rfl (by omega) (by omega)) rfl ?_
            refine SR_pu (RD_move rfl) rfl ?_
            refine SR_nil ?_
            refine SN.le (l := [(3, _), (4, _), (11, _), (12, _), (14, _), (16, _), (129, _), (130, _), (131, _)]) ?_ (.cons rfl (.cons rfl (.cons rfl (.cons rfl (.cons rfl (.cons rfl (.cons rfl (.cons rfl (.cons rfl (.nil))))))))))
            refine SC_again (ih3 ((i + 1, l9)) (⟨by dsimp only; omega, (hy2.trans hq1).trans he9, by dsimp only; omega⟩) (by dsimp only; omega)) (.fin) (.cons rfl (.cons rfl (.cons rfl (.cons rfl (.cons rfl (.cons rfl (.cons rfl (.cons rfl (.cons' rfl (ie (by dsimp only; omega)) (.nil))))))))))
        · have hi2 : i = 2 := by simp at hc132; omega
          refine SC_exit rfl ?_
          refine SN_seq ?_
          refine SC_seq ?_
          have hfit : CfgD.fits ⟨f0, 3 * f0 + 1, 0, 0, 0, 0, 0, 0⟩ = true := by unfold CfgD.fits; simp; omega
          have hqr : ∀ z : Int, CfgD.qcL ⟨f0, 3 * f0 + 1, 0, 0, 0, 0, 0, 0⟩ l 0 z = l := fun z => by unfold CfgD.qcL; rw [if_pos (by decide), hfit]; exact dput_idem (hy2.mem hr0)
          refine SC_region ?_
          refine SR_pu (RD_move rfl) rfl ?_
          refine SR_rd (RD_loadA Try.isAgg24 Try.sizeOf24 rfl rfl) Has.wh rfl ?_
          refine SR_pu (RD_move rfl) rfl ?_
          refine SR_pu (RD_addi rfl rfl (by omega) (by omega)) rfl ?_
          refine SR_pu (RD_build (.cons rfl (.nil)) built34_1) rfl ?_
          refine SR_call Try.call22 (.cons rfl (.cons rfl (.cons rfl (.nil)))) (CallsK.at (cert_QcOk' k ⟨l, S⟩ ⟨f0, 3 * f0 + 1, 0, 0, 0, 0, 0, 0⟩ ⟨0, bk + 1073741824, ⟨none, 0, 0, []⟩⟩ rfl rfl (by simp) (by dsimp only; omega) (by dsimp only; omega) l false (show CfgD.qcL ⟨f0, 3 * f0 + 1, 0, 0, 0, 0, 0, 0⟩ l 0 (bk + 1073741824) = l from hqr _) (show CfgD.qcOk ⟨f0, 3 * f0 + 1, 0, 0, 0, 0, 0, 0⟩ l S 0 (bk + 1073741824) [] = false from by unfold CfgD.qcOk; rw [if_pos (by decide), decide_eq_false (show ¬ (bk + 1073741824 = (dnum l rootB : Nat)) by have := dnum_le l rootB; omega)]; simp))) (lts rfl) ?_
          rintro _ L7 ⟨rfl, hL7⟩
          try dsimp only at hL7
          refine SR.lands hL7 ?_
          refine SR_pu (RD_not rfl) rfl ?_
          refine SR_pu (RD_move rfl) rfl ?_
          refine SR_yes rfl rfl (by first | rfl | exact decide_eq_true (by omega) | exact decide_eq_false (by omega) | decide | (simp; done) | (simp; omega)) ?_
          refine SR_pu (RD_move rfl) rfl ?_
          refine SR_yes rfl rfl (by first | rfl | exact decide_eq_true (by omega) | exact decide_eq_false (by omega) | decide | (simp; done) | (simp; omega)) ?_
          refine SR_rd (RD_loadA Try.isAgg24 Try.sizeOf24 rfl rfl) Has.wh rfl ?_
          refine SR_yes rfl rfl (by first | rfl | exact decide_eq_true (by omega) | exact decide_eq_false (by omega) | decide | (simp; done) | (simp; omega)) ?_
          refine SR_rd (RD_loadA Try.isAgg34 Try.sizeOf34 rfl rfl) Has.wh rfl ?_
          refine SR_yes rfl rfl (by first | rfl | exact decide_eq_true (by omega) | exact decide_eq_false (by omega) | decide | (simp; done) | (simp; omega)) ?_
          refine SR_call Try.call22 (.cons rfl (.cons rfl (.cons rfl (.nil)))) (CallsK.at (cert_QcOk' k ⟨l, S⟩ ⟨f0, 3 * f0 + 1, 0, 0, 0, 0, 0, 0⟩ ⟨0, (d0 : Nat), ⟨none, 0, 0, []⟩⟩ rfl rfl (by simp) (by dsimp only; omega) (by dsimp only; omega) l true (show CfgD.qcL ⟨f0, 3 * f0 + 1, 0, 0, 0, 0, 0, 0⟩ l 0 (d0 : Nat) = l from hqr _) (show CfgD.qcOk ⟨f0, 3 * f0 + 1, 0, 0, 0, 0, 0, 0⟩ l S 0 (d0 : Nat) [] = true from by unfold CfgD.qcOk; rw [if_pos (by decide), hy2.num hr0, hd1, hfit]; simp))) (lts rfl) ?_
          rintro _ L8 ⟨rfl, hL8⟩
          try dsimp only at hL8
          refine SR.lands hL8 ?_
          refine SR_pu (RD_pick_t rfl (by first | rfl | exact decide_eq_true (by omega) | exact decide_eq_false (by omega) | decide | (simp; done) | (simp; omega)) rfl) rfl ?_
          refine SR_pu (RD_move rfl) rfl ?_
          refine SR_yes rfl rfl (by first | rfl | exact decide_eq_true (by omega) | exact decide_eq_false (by omega) | decide | (simp; done) | (simp; omega)) ?_
          refine SR_call Try.call16 (.nil) (cert_awake) (lts rfl) ?_
          rintro _ L9 ⟨rfl, hL9⟩
          refine SR.lands hL9 ?_
          refine SR_pu (RD_pick_t rfl (by first | rfl | exact decide_eq_true (by omega) | exact decide_eq_false (by omega) | decide | (simp; done) | (simp; omega)) rfl) rfl ?_
          refine SR_pu (RD_assign rfl) rfl ?_
          refine SR_nil ?_
          refine SN.le (l := [(10, _)]) ?_ (.cons rfl (.nil))
          refine SN_seq ?_
          refine SC_ret1 rfl rfl ?_
          exact ⟨rfl, .fin⟩

end Go.Proofs.Ytdmmaammpjdmbaa
