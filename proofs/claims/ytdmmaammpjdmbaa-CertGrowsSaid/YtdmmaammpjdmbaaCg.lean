/- A certificate grows: the statement. -/
import Derived.Test.YtdmmaammpjdmbaaSl16
import Derived.Test.YtdmmaammpjdmbaaCr
namespace Go.Proofs.Ytdmmaammpjdmbaa
open Go Go.Proofs
set_option maxRecDepth 100000

theorem law_CertGrows {W : World} {F : List HProp} [Abs F] (f skip at_ : Int) :
    CallsK W Try.prog 4 #[.int .i64 f, .int .i64 skip, .int .i64 at_] (F) (fun v L => v = .bool true ∧ Lands L F) := by
  refine CallsK_enter (n := 148) Try.func4 rfl rfl rfl ?_
  obtain ⟨g, hg⟩ : ∃ g : Nat, f % 256 % 3 + 1 = (g : Int) := ⟨(f % 256 % 3 + 1).toNat, by omega⟩
  have hg1 : 1 ≤ g ∧ g ≤ 3 := by omega
  obtain ⟨s, hs0⟩ : ∃ s : Nat, skip % 256 % (3 * (g : Int) + 1) = (s : Int) := ⟨(skip % 256 % (3 * (g : Int) + 1)).toNat, by rw [Int.toNat_of_nonneg (Int.emod_nonneg _ (by omega))]⟩
  have hs : s < 3 * g + 1 := by have := Int.emod_lt_of_pos (skip % 256) (show (0 : Int) < 3 * (g : Int) + 1 by omega); omega
  refine SC_seq ?_
  refine SC_region ?_
  refine SR_pu (RD_assign rfl) rfl ?_
  refine SR_nil ?_
  refine SN.le (l := [(0, _), (1, _), (2, _)]) ?_ (.cons rfl (.cons rfl (.cons rfl (.nil))))
  refine SN_seq ?_
  refine SC_seq ?_
  refine SC_region ?_
  refine SR_pu (RD_move rfl) rfl ?_
  refine SR_pu (RD_mask 8 rfl rfl rfl (by decide) 256 rfl) rfl ?_
  refine SR_pu (RD_remi rfl rfl (by omega) (by omega)) rfl ?_
  refine SR_pu (RD_assign rfl) rfl ?_
  refine SR_nil ?_
  refine SN.le (l := [(0, _), (1, _), (2, _)]) ?_ (.cons rfl (.cons rfl (.cons rfl (.nil))))
  refine SN_seq ?_
  refine SC_seq ?_
  refine SC_region ?_
  refine SR_pu (RD_move rfl) rfl ?_
  refine SR_pu (RD_addi rfl rfl (by omega) (by omega)) rfl ?_
  refine SR_pu (RD_assign rfl) rfl ?_
  refine SR_nil ?_
  refine SN.le (l := [(0, _), (1, _), (2, _)]) ?_ (.cons rfl (.cons rfl (.cons rfl (.nil))))
  rw [hg]
  refine SN_seq ?_
  refine SC_seq ?_
  refine SC_region ?_
  refine SR_pu (RD_move rfl) rfl ?_
  refine SR_pu (RD_move rfl) rfl ?_
  refine SR_pu (RD_muli rfl rfl (by omega) (by omega)) rfl ?_
  refine SR_pu (RD_addi rfl rfl (by omega) (by omega)) rfl ?_
  refine SR_pu (RD_build (.cons rfl (.cons rfl (.nil))) built24_0_1) rfl ?_
  refine SR_ox (OX_alloc Try.zeroValue24 rfl) rfl ?_
  rintro _ _ ⟨b7, rfl, rfl⟩
  refine SR_ox0 (OX_stA Try.sizeOf24 rfl rfl rfl rfl) ?_
  rintro _ _ rfl
  refine SR_nil ?_
  refine SN.le (l := [(0, _), (1, _), (2, _), (7, _)]) ?_ (.cons rfl (.cons rfl (.cons rfl (.cons rfl (.nil)))))
  refine SN_seq ?_
  refine SC_seq ?_
  refine SC_region ?_
  refine SR_pu (RD_move rfl) rfl ?_
  refine SR_call Try.call15 (.cons rfl (.nil)) (enve_New (g : Int)) (lts rfl) ?_
  rintro _ L0 ⟨k, rfl, hL0⟩
  refine SR.lands hL0 ?_
  refine SR_pu (RD_assign rfl) rfl ?_
  refine SR_nil ?_
  refine SN.le (l := [(0, _), (1, _), (2, _), (7, _), (8, _)]) ?_ (.cons rfl (.cons rfl (.cons rfl (.cons rfl (.cons rfl (.nil))))))
  refine SN_seq ?_
  refine SC_seq ?_
  refine SC_seq ?_
  refine SC_region ?_
  refine SR_pu (RD_move rfl) rfl ?_
  refine SR_pu (RD_eqlP Try.underlying25 rfl rfl) rfl ?_
  refine SR_nil ?_
  refine SN.le (l := [(0, _), (1, _), (2, _), (7, _), (8, _), (32, _)]) ?_ (.cons rfl (.cons rfl (.cons rfl (.cons rfl (.cons rfl (.cons rfl (.nil)))))))
  refine SN_seq ?_
  refine SC_cond_false rfl (rfl) ?_
  refine SC_skip ?_
  refine SN_seq ?_
  refine SC_seq ?_
  refine SC_region ?_
  refine SR_pu (RD_move rfl) rfl ?_
  refine SR_pu (RD_mask 8 rfl rfl rfl (by decide) 256 rfl) rfl ?_
  first
    | refine SR_pu (RD_fieldAddr 1 Try.runUnderlying24 rfl rfl Try.sizeOf3 rfl) rfl ?_
    | refine SR_rd (RD_fieldAddrO 1 Try.runUnderlying24 rfl rfl Try.sizeOf3 rfl (by simp <;> omega)) Has.ro rfl ?_
  refine SR_rd (RD_load Try.isAgg3 rfl) (Has.ce rfl) rfl ?_
  refine SR_pu (RD_remi rfl rfl (by omega) (by omega)) rfl ?_
  refine SR_pu (RD_assign rfl) rfl ?_
  refine SR_nil ?_
  refine SN.le (l := [(0, _), (1, _), (2, _), (7, _), (8, _)]) ?_ (.cons rfl (.cons rfl (.cons rfl (.cons rfl (.cons rfl (.nil))))))
  rw [hs0]
  refine SN_seq ?_
  refine SC_seq ?_
  refine SC_region ?_
  refine SR_pu (RD_assign rfl) rfl ?_
  refine SR_nil ?_
  refine SN.le (l := [(0, _), (1, _), (2, _), (7, _), (8, _), (9, _)]) ?_ (.cons rfl (.cons rfl (.cons rfl (.cons rfl (.cons rfl (.cons rfl (.nil)))))))
  refine SN_seq ?_
  refine SC_seq ?_
  refine SC_seq ?_
  refine SC_region ?_
  refine SR_pu (RD_assign rfl) rfl ?_
  refine SR_nil ?_
  refine SN.le (l := [(0, _), (1, _), (2, _), (7, _), (8, _), (9, _), (10, _)]) ?_ (.cons rfl (.cons rfl (.cons rfl (.cons rfl (.cons rfl (.cons rfl (.cons rfl (.nil))))))))
  refine SN_seq ?_
  refine SC_block ?_
  refine SC_ind (X := Nat × Option Addr × Nat) (fun y => y.1 ≤ 3 * g + 1) (fun y => 3 * g + 1 - y.1) (fun y => [(0, .int .i64 (g : Int)), (1, .int .i64 (s : Int)), (2, .int .i64 at_), (7, .pointer (some ⟨b7, 0, none⟩)), (8, .pointer (some ⟨k.p, 0, none⟩)), (9, .slice y.2.1 (bL s y.1).length y.2.2), (10, .int .i64 (y.1 : Nat))]) (fun y => rowP 3 1 y.2.1 (bL s y.1).length y.2.2 ((bL s y.1).map intV) :: At worldI k ⟨grL y.1, grS y.1⟩ :: pt b7 (.cells [.int .i64 (g : Int), .int .i64 (3 * (g : Int) + 1), .int .i64 0, .int .i64 0, .int .i64 0, .int .i64 0, .int .i64 0, .int .i64 0].toArray 24) :: F) ((0, none, 0)) (by simp) (.cons rfl (.cons rfl (.cons rfl (.cons rfl (.cons rfl (.cons rfl (.cons rfl (.nil)))))))) ((row_new 3 1 none).trans (show Lands _ (rowP 3 1 none 0 0 [] :: At worldI k ⟨[], []⟩ :: pt b7 (.cells [.int .i64 (g : Int), .int .i64 (3 * (g : Int) + 1), .int .i64 0, .int .i64 0, .int .i64 0, .int .i64 0, .int .i64 0, .int .i64 0].toArray 24) :: F) from .fin)) ?_
  intro ⟨i, a, c⟩ hi ih0
  dsimp only at hi ih0 ⊢
  refine SC_seq ?_
  refine SC_seq ?_
  refine SC_region ?_
  refine SR_pu (RD_move rfl) rfl ?_
  first
    | refine SR_pu (RD_fieldAddr 1 Try.runUnderlying24 rfl rfl Try.sizeOf3 rfl) rfl ?_
    | refine SR_rd (RD_fieldAddrO 1 Try.runUnderlying24 rfl rfl Try.sizeOf3 rfl (by simp <;> omega)) Has.ro rfl ?_
  refine SR_rd (RD_load Try.isAgg3 rfl) (Has.ce rfl) rfl ?_
  refine SR_pu (RD_lss rfl rfl) rfl ?_
  refine SR_nil ?_
  refine SN.le (l := [(0, _), (1, _), (2, _), (7, _), (8, _), (9, _), (10, _), (41, _)]) ?_ (.cons rfl (.cons rfl (.cons rfl (.cons rfl (.cons rfl (.cons rfl (.cons rfl (.cons rfl (.nil)))))))))
  refine SN_seq ?_
  refine SC_cond rfl (fun hc41 => ?_) (fun hc41 => ?_)
  · have hin : i < 3 * g + 1 := by simp at hc41; omega
    have hbl := bL_le s i
    refine SC_skip ?_
    refine SN_seq ?_
    refine SC_seq ?_
    refine SC_block ?_
    refine SC_seq ?_
    refine SC_region ?_
    refine SR_pu (RD_move rfl) rfl ?_
    refine SR_call Try.call17 (.cons rfl (.nil)) (CallsK.at (w_Signs k _)) (lts rfl) ?_
    rintro _ L1 ⟨rfl, hL1⟩
    try dsimp only at hL1
    refine SR.lands hL1 ?_
    refine SR_pu (RD_move rfl) rfl ?_
    refine SR_pu (RD_move rfl) rfl ?_
    refine SR_call Try.call19 (.cons rfl (.cons rfl (.cons rfl (.nil)))) (CallsK.at (cert_Vote k ⟨grL i, grS i⟩ 3 8 (by dsimp only; rcases i with _ | i <;> simp [grL]) _ 1 (gr1 i) (gr2 i))) (lts rfl) ?_
    rintro _ L2 ⟨rfl, hL2⟩
    try dsimp only at hL2
    refine SR.lands hL2 ?_
    refine SR_call Try.call18 (.cons rfl (.cons rfl (.cons rfl (.nil)))) (CallsK.at (w_Sign k _ (i : Int) _)) (lts rfl) ?_
    rintro _ L3 ⟨rfl, hL3⟩
    try dsimp only at hL3
    rw [gr3] at hL3
    refine SR.lands hL3 ?_
    refine SR_nil ?_
    refine SN.le (l := [(0, _), (1, _), (2, _), (7, _), (8, _), (9, _), (10, _)]) ?_ (.cons rfl (.cons rfl (.cons rfl (.cons rfl (.cons rfl (.cons rfl (.cons rfl (.nil))))))))
    refine SN_seq ?_
    refine SC_seq ?_
    refine SC_region ?_
    refine SR_pu (RD_move rfl) rfl ?_
    refine SR_pu (RD_move rfl) rfl ?_
    refine SR_pu (RD_neq rfl rfl) rfl ?_
    refine SR_nil ?_
    refine SN.le (l := [(0, _), (1, _), (2, _), (7, _), (8, _), (9, _), (10, _), (52, _)]) ?_ (.cons rfl (.cons rfl (.cons rfl (.cons rfl (.cons rfl (.cons rfl (.cons rfl (.cons rfl (.nil)))))))))
    refine SN_seq ?_
    refine SC_cond rfl (fun hc52 => ?_) (fun hc52 => ?_)
    · have hne : i ≠ s := by simp at hc52; omega
      have hput := bL_put hne
      refine SC_region ?_
      refine SR_pu (RD_move rfl) rfl ?_
      refine SR_pu (RD_move rfl) rfl ?_
      refine SR_ox (OX_lit1 Try.underlying22 Try.type3 rfl rfl rfl rfl (.cons rfl (.nil)) (.cons rfl (.nil))) rfl ?_
      rintro _ _ ⟨b55, rfl, rfl⟩
      refine SR_ox (OX_app 1 Try.underlying22 Try.underlying22 Try.type3 rfl rfl rfl rfl rfl (by first | rfl | simp; done | (simp; omega)) 8 rfl (by omega) (by omega)) rfl ?_
      rintro _ _ ⟨a56, c56, rfl, rfl⟩
      refine SR_pu (RD_assign rfl) rfl ?_
      refine SR_nil ?_
      refine SN.le (l := [(0, _), (1, _), (2, _), (7, _), (8, _), (9, _), (10, _)]) ?_ (.cons rfl (.cons rfl (.cons rfl (.cons rfl (.cons rfl (.cons rfl (.cons rfl (.nil))))))))
      refine SN_block ?_
      refine SN_seq ?_
      refine SC_region ?_
      refine SR_pu (RD_move rfl) rfl ?_
      refine SR_pu (RD_addi rfl rfl (by omega) (by omega)) rfl ?_
      refine SR_pu (RD_assign rfl) rfl ?_
      refine SR_nil ?_
      refine SN.le (l := [(0, _), (1, _), (2, _), (7, _), (8, _), (9, _), (10, _)]) ?_ (.cons rfl (.cons rfl (.cons rfl (.cons rfl (.cons rfl (.cons rfl (.cons rfl (.nil))))))))
      refine SC_again (ih0 ((i + 1, a56, c56)) (by dsimp only; omega) (by dsimp only; omega)) (by dsimp only; rw [hput]; simp only [List.map_append, List.map_cons, List.map_nil, List.length_append, List.length_cons, List.length_nil, Nat.zero_add, intV]; exact .fin) (.cons rfl (.cons rfl (.cons rfl (.cons rfl (.cons rfl (.cons' rfl (by rw [hput, List.length_append]; rfl) (.cons' rfl (ie (by dsimp only; omega)) (.nil))))))))
    · have hne : i = s := by simp at hc52; omega
      subst hne
      have hput := bL_skip i
      refine SC_skip ?_
      refine SN_block ?_
      refine SN_seq ?_
      refine SC_region ?_
      refine SR_pu (RD_move rfl) rfl ?_
      refine SR_pu (RD_addi rfl rfl (by omega) (by omega)) rfl ?_
      refine SR_pu (RD_assign rfl) rfl ?_
      refine SR_nil ?_
      refine SN.le (l := [(0, _), (1, _), (2, _), (7, _), (8, _), (9, _), (10, _)]) ?_ (.cons rfl (.cons rfl (.cons rfl (.cons rfl (.cons rfl (.cons rfl (.cons rfl (.nil))))))))
      refine SC_again (ih0 ((i + 1, a, c)) (by dsimp only; omega) (by dsimp only; omega)) (by dsimp only; rw [hput]; exact .fin) (.cons rfl (.cons rfl (.cons rfl (.cons rfl (.cons rfl (.cons' rfl (by rw [hput]) (.cons' rfl (ie (by dsimp only; omega)) (.nil))))))))
  · have hin : i = 3 * g + 1 := by simp at hc41; omega
    subst hin
    clear ih0
    obtain ⟨B, hB⟩ : ∃ B, bL s (3 * g + 1) = B := ⟨_, rfl⟩
    have hBl : B.length = 3 * g := hB ▸ gr_len g (by omega) s hs
    obtain ⟨S, hS⟩ : ∃ S, grS (3 * g + 1) = S := ⟨_, rfl⟩
    rw [hB, hS, hBl, show grL (3 * g + 1) = [voteB 3 8] from rfl]
    refine SC_exit rfl ?_
    refine SN_seq ?_
    refine SC_seq ?_
    refine SC_region ?_
    refine SR_pu (RD_build (.cons rfl (.cons rfl (.nil))) built34_0_1) rfl ?_
    refine SR_ox (OX_alloc Try.zeroValue34 rfl) rfl ?_
    rintro _ _ ⟨b11, rfl, rfl⟩
    refine SR_ox0 (OX_stA Try.sizeOf34 rfl rfl rfl rfl) ?_
    rintro _ _ rfl
    refine SR_nil ?_
    refine SN.le (l := [(0, _), (2, _), (7, _), (8, _), (9, _), (11, _)]) ?_ (.cons rfl (.cons rfl (.cons rfl (.cons rfl (.cons rfl (.cons rfl (.nil)))))))
    have hqL : CfgD.qcL ⟨(g : Int), 3 * (g : Int) + 1, 0, 0, 0, 0, 0, 0⟩ [voteB 3 8] 3 8 = [voteB 3 8] := by unfold CfgD.qcL; rw [if_neg (by decide)]; exact dput_idem (by simp)
    have hqL9 : CfgD.qcL ⟨(g : Int), 3 * (g : Int) + 1, 0, 0, 0, 0, 0, 0⟩ [voteB 3 8] 3 9 = [voteB 3 8, voteB 3 9] := by unfold CfgD.qcL; rw [if_neg (by decide)]; exact gr_nine
    refine SN_seq ?_
    refine SC_seq ?_
    refine SC_seq ?_
    refine SC_region ?_
    refine SR_pu (RD_assign rfl) rfl ?_
    refine SR_nil ?_
    refine SN.le (l := [(0, _), (2, _), (7, _), (8, _), (9, _), (11, _), (12, _)]) ?_ (.cons rfl (.cons rfl (.cons rfl (.cons rfl (.cons rfl (.cons rfl (.cons rfl (.nil))))))))
    refine SN_seq ?_
    refine SC_block ?_
    refine SC_ind (X := Nat × Option Addr × Nat × Nat) (fun y => y.1 ≤ 3 * g + 1) (fun y => 3 * g + 1 - y.1) (fun y => [(0, .int .i64 (g : Int)), (2, .int .i64 at_), (7, .pointer (some ⟨b7, 0, none⟩)), (8, .pointer (some ⟨k.p, 0, none⟩)), (9, .slice a (3 * g) c), (11, .pointer (some ⟨b11, 0, none⟩)), (12, .int .i64 (y.1 : Nat))]) (fun y => rowP 3 1 a (3 * g) c (B.map intV) :: At worldI k ⟨[voteB 3 8], S⟩ :: pt b11 (.cells [.int .i64 3, .int .i64 8, .slice y.2.1 y.2.2.1 y.2.2.2].toArray 34) :: pt b7 (.cells [.int .i64 (g : Int), .int .i64 (3 * (g : Int) + 1), .int .i64 0, .int .i64 0, .int .i64 0, .int .i64 0, .int .i64 0, .int .i64 0].toArray 24) :: F) ((0, none, 0, 0)) (by simp) (.cons rfl (.cons rfl (.cons rfl (.cons rfl (.cons rfl (.cons rfl (.cons rfl (.nil)))))))) ((show Lands _ (rowP 3 1 a (3 * g) c (B.map intV) :: At worldI k ⟨[voteB 3 8], S⟩ :: pt b11 (.cells [.int .i64 3, .int .i64 8, .slice none 0 0].toArray 34) :: pt b7 (.cells [.int .i64 (g : Int), .int .i64 (3 * (g : Int) + 1), .int .i64 0, .int .i64 0, .int .i64 0, .int .i64 0, .int .i64 0, .int .i64 0].toArray 24) :: F) from .fin)) ?_
    intro ⟨n, qa, qn, qc⟩ hi ih1
    dsimp only at hi ih1 ⊢
    refine SC_seq ?_
    refine SC_seq ?_
    refine SC_region ?_
    refine SR_pu (RD_move rfl) rfl ?_
    refine SR_pu (RD_move rfl) rfl ?_
    refine SR_pu (RD_len Try.runUnderlying22 rfl) rfl ?_
    refine SR_pu (RD_leq rfl rfl) rfl ?_
    refine SR_nil ?_
    refine SN.le (l := [(0, _), (2, _), (7, _), (8, _), (9, _), (11, _), (12, _), (61, _)]) ?_ (.cons rfl (.cons rfl (.cons rfl (.cons rfl (.cons rfl (.cons rfl (.cons rfl (.cons rfl (.nil)))))))))
    refine SN_seq ?_
    refine SC_cond rfl (fun hc61 => ?_) (fun hc61 => ?_)
    · have hnn : n < 3 * g + 1 := by simp at hc61; omega
      have hv := gr_take0 g (by omega) (by omega) s hs n hnn
      rw [hB, hS] at hv
      refine SC_skip ?_
      refine SN_seq ?_
      refine SC_seq ?_
      refine SC_block ?_
      refine SC_seq ?_
      refine SC.row_len (a := a) fun _ hcap => ?_
      refine SC_region ?_
      refine SR_pu (RD_move rfl) rfl ?_
      refine SR_pu (RD_move rfl) rfl ?_
      refine SR_pu (RD_cutH Try.runUnderlying22 Try.sizeOf3 rfl rfl (by omega) (by omega)) rfl ?_
      first
        | refine SR_pu (RD_fieldAddr 2 Try.runUnderlying34 rfl rfl Try.sizeOf22 rfl) rfl ?_
        | refine SR_rd (RD_fieldAddrO 2 Try.runUnderlying34 rfl rfl Try.sizeOf22 rfl (by simp <;> omega)) Has.ro rfl ?_
      refine SR_ox0 (OX_st Try.sizeOf22 rfl rfl) ?_
      rintro _ _ rfl
      refine SR_nil ?_
      refine SN.le (l := [(0, _), (2, _), (7, _), (8, _), (9, _), (11, _), (12, _)]) ?_ (.cons rfl (.cons rfl (.cons rfl (.cons rfl (.cons rfl (.cons rfl (.cons rfl (.nil))))))))
      rw [Int.toNat_natCast]
      refine SN_seq ?_
      refine SC_seq ?_
      refine SC_region ?_
      refine SR_pu (RD_move rfl) rfl ?_
      refine SR_rd (RD_loadA Try.isAgg24 Try.sizeOf24 rfl rfl) Has.wh rfl ?_
      refine SR_rd (RD_loadA Try.isAgg34 Try.sizeOf34 rfl rfl) Has.wh rfl ?_
      refine SR_call Try.call22 (.cons rfl (.cons rfl (.cons rfl (.nil)))) (CallsK.at (cert_QcOk_take k ⟨[voteB 3 8], S⟩ ⟨(g : Int), 3 * (g : Int) + 1, 0, 0, 0, 0, 0, 0⟩ ⟨3, 8, ⟨a, n, c, (B.take n)⟩⟩ (by simp [List.map_take]) (by simp; omega) (by dsimp only; omega) (by simp) (by dsimp only; omega) [voteB 3 8] (decide (2 * g + 1 ≤ n)) (show CfgD.qcL ⟨(g : Int), 3 * (g : Int) + 1, 0, 0, 0, 0, 0, 0⟩ [voteB 3 8] 3 8 = _ from hqL) ((gr_qc _ _ _).trans hv))) (lts rfl) ?_
      rintro _ L4 ⟨rfl, hL4⟩
      try dsimp only at hL4
      refine SR.lands hL4 ?_
      refine SR_pu (RD_move rfl) rfl ?_
      refine SR_pu (RD_move rfl) rfl ?_
      refine SR_pu (RD_muli rfl rfl (by omega) (by omega)) rfl ?_
      refine SR_pu (RD_addi rfl rfl (by omega) (by omega)) rfl ?_
      refine SR_pu (RD_geq rfl rfl) rfl ?_
      refine SR_pu (RD_neqB Try.underlying4 rfl rfl) rfl ?_
      refine SR_nil ?_
      refine SN.le (l := [(0, _), (2, _), (7, _), (8, _), (9, _), (11, _), (12, _), (77, _)]) ?_ (.cons rfl (.cons rfl (.cons rfl (.cons rfl (.cons rfl (.cons rfl (.cons rfl (.cons rfl (.nil)))))))))
      refine SN_seq ?_
      refine SC_cond_false rfl (by simp; omega) ?_
      refine SC_skip ?_
      refine SN_block ?_
      refine SN_seq ?_
      refine SC_region ?_
      refine SR_pu (RD_move rfl) rfl ?_
      refine SR_pu (RD_addi rfl rfl (by omega) (by omega)) rfl ?_
      refine SR_pu (RD_assign rfl) rfl ?_
      refine SR_nil ?_
      refine SN.le (l := [(0, _), (2, _), (7, _), (8, _), (9, _), (11, _), (12, _)]) ?_ (.cons rfl (.cons rfl (.cons rfl (.cons rfl (.cons rfl (.cons rfl (.cons rfl (.nil))))))))
      refine SC_again (ih1 ((n + 1, a, n, c)) (by dsimp only; omega) (by dsimp only; omega)) (by dsimp only; exact .fin) (.cons rfl (.cons rfl (.cons rfl (.cons rfl (.cons rfl (.cons rfl (.cons' rfl (ie (by dsimp only; omega)) (.nil))))))))
    · clear ih1
      refine SC_exit rfl ?_
      refine SN_seq ?_
      refine SC_seq ?_
      refine SC_region ?_
      refine SR_pu (RD_move rfl) rfl ?_
      refine SR_pu (RD_mask 8 rfl rfl rfl (by decide) 256 rfl) rfl ?_
      refine SR_pu (RD_move rfl) rfl ?_
      refine SR_pu (RD_len Try.runUnderlying22 rfl) rfl ?_
      refine SR_pu (RD_subi rfl rfl (by omega) (by omega)) rfl ?_
      refine SR_pu (RD_remi rfl rfl (by omega) (by omega)) rfl ?_
      refine SR_pu (RD_assign rfl) rfl ?_
      refine SR_nil ?_
      refine SN.le (l := [(7, _), (8, _), (9, _), (11, _), (13, _)]) ?_ (.cons rfl (.cons rfl (.cons rfl (.cons rfl (.cons rfl (.nil))))))
      obtain ⟨q, hq⟩ : ∃ q : Nat, at_ % 256 % (((3 * g : Nat) : Int) - 1) = (q : Int) := ⟨(at_ % 256 % (((3 * g : Nat) : Int) - 1)).toNat, by rw [Int.toNat_of_nonneg (Int.emod_nonneg _ (by omega))]⟩
      have hq1 : q < 3 * g - 1 := by have := Int.emod_lt_of_pos (at_ % 256) (show (0 : Int) < ((3 * g : Nat) : Int) - 1 by omega); omega
      rw [hq]
      obtain ⟨u, hu⟩ : ∃ u, B[q]? = some u := ⟨_, List.getElem?_eq_getElem (by omega)⟩
      obtain ⟨v, hv⟩ : ∃ v, B[q + 1]? = some v := ⟨_, List.getElem?_eq_getElem (by omega)⟩
      have hud : B.getD q 0 = u := by simp [List.getD, hu]
      have hvd : B.getD (q + 1) 0 = v := by simp [List.getD, hv]
      refine SN_seq ?_
      refine SC_seq ?_
      refine SC_region ?_
      refine SR_ox (OX_buildSlice0 Try.runUnderlying22 Try.sizeOf3) rfl ?_
      rintro _ _ ⟨b84, rfl, rfl⟩
      refine SR.lands (lit_row (E := 3) (z := 1) (b := b84) (cs := []) 0 rfl) ?_
      refine SR_pu (RD_move rfl) rfl ?_
      refine SR_ox (OX_app 1 Try.underlying22 Try.underlying22 Try.type3 rfl rfl rfl rfl rfl (by first | rfl | simp; done | (simp; omega)) 8 rfl (by omega) (by omega)) rfl ?_
      rintro _ _ ⟨a86, c86, rfl, rfl⟩
      refine SR_pu (RD_assign rfl) rfl ?_
      refine SR_nil ?_
      refine SN.le (l := [(7, _), (8, _), (9, _), (11, _), (13, _), (14, _)]) ?_ (.cons rfl (.cons rfl (.cons rfl (.cons rfl (.cons rfl (.cons rfl (.nil)))))))
      rw [Nat.zero_add, List.nil_append]
      refine SN_seq ?_
      refine SC_seq ?_
      refine SC_region ?_
      refine SR_pu (RD_move rfl) rfl ?_
      refine SR_pu (RD_move rfl) rfl ?_
      refine SR_pu (RD_addi rfl rfl (by omega) (by omega)) rfl ?_
      refine SR_pu (RD_move rfl) rfl ?_
      refine SR_pu (RD_move rfl) rfl ?_
      refine SR_rd (RD_ixO (i := (q : Nat)) (cs := B.map intV) Try.runUnderlying22 Try.sizeOf3 rfl (congrArg some (ie (by omega))) (by simpa using hBl) (by omega) (by omega)) Has.ro rfl ?_
      refine SR_rd (RD_loadO (v := intV u) (cs := B.map intV) Try.isAgg3 rfl (by simp [hu])) Has.ro rfl ?_
      refine SR_rd (RD_ixO (i := (q + 1 : Nat)) (cs := B.map intV) Try.runUnderlying22 Try.sizeOf3 rfl (congrArg some (ie (by omega))) (by simpa using hBl) (by omega) (by omega)) Has.ro rfl ?_
      refine SR_ox0 (OX_stRow Try.sizeOf3 rfl rfl (by simp; omega)) ?_
      rintro _ _ rfl
      refine SR_nil ?_
      refine SN.le (l := [(7, _), (8, _), (9, _), (11, _), (13, _), (14, _)]) ?_ (.cons rfl (.cons rfl (.cons rfl (.cons rfl (.cons rfl (.cons rfl (.nil)))))))
      rw [show ((q + 1 : Nat) : Int).toNat * (0 + 1) = q + 1 by omega]
      have hr1 : (B.map intV).set (q + 1) (intV u) = (B.set (q + 1) u).map intV := by rw [List.map_set]
      rw [hr1]
      refine SN_seq ?_
      refine SC_seq ?_
      refine SC_region ?_
      refine SR_ox (OX_buildSlice0 Try.runUnderlying22 Try.sizeOf3) rfl ?_
      rintro _ _ ⟨b95, rfl, rfl⟩
      refine SR.lands (lit_row (E := 3) (z := 1) (b := b95) (cs := []) 0 rfl) ?_
      refine SR_pu (RD_move rfl) rfl ?_
      refine SR_ox (OX_app 1 Try.underlying22 Try.underlying22 Try.type3 rfl rfl rfl rfl rfl (by first | rfl | simp; done | (simp; omega)) 8 rfl (by omega) (by omega)) rfl ?_
      rintro _ _ ⟨a97, c97, rfl, rfl⟩
      refine SR_pu (RD_assign rfl) rfl ?_
      refine SR_nil ?_
      refine SN.le (l := [(7, _), (8, _), (9, _), (11, _), (13, _), (14, _), (15, _)]) ?_ (.cons rfl (.cons rfl (.cons rfl (.cons rfl (.cons rfl (.cons rfl (.cons rfl (.nil))))))))
      rw [Nat.zero_add, List.nil_append]
      refine SN_seq ?_
      refine SC_seq ?_
      refine SC_drawn (.cons 0 true (.cons 1 true (.cons 2 true (.cons 3 true (.cons 4 true (.cons 5 true (.cons 6 true (.cons 7 true (.cons 8 true (.cons 9 true (.cons 10 true (.cons 11 true (.cons 12 true (.cons 13 true (.cons 14 true (.cons 15 false (.cons 16 true (.cons 17 false (.nil))))))))))))))))))) (by kernel_rfl) (by kernel_rfl) ?_
      refine SQ_pu rfl (RD_move rfl) rfl ?_
      refine SQ_pu rfl (RD_move rfl) rfl ?_
      refine SQ_pu rfl (RD_move rfl) rfl ?_
      refine SQ_pu rfl (RD_move rfl) rfl ?_
      refine SQ_pu rfl (RD_addi rfl rfl (by omega) (by omega)) rfl ?_
      refine SQ_pu rfl (RD_move rfl) rfl ?_
      refine SQ_pu rfl (RD_move rfl) rfl ?_
      refine SQ_pu rfl (RD_addi rfl rfl (by omega) (by omega)) rfl ?_
      refine SQ_rd rfl (RD_ixE (i := (q + 1 : Nat)) Try.runUnderlying22 Try.sizeOf3 rfl (congrArg some (ie (by omega))) (by omega) (by omega)) (Has.rs (by simp; omega)) rfl ?_
      refine SQ_rd rfl (RD_loadO (v := intV v) (cs := B.map intV) Try.isAgg3 rfl (by simp [hv])) Has.ro rfl ?_
      refine SQ_pu rfl (RD_move rfl) rfl ?_
      refine SQ_pu rfl (RD_move rfl) rfl ?_
      refine SQ_rd rfl (RD_ixE (i := (q : Nat)) Try.runUnderlying22 Try.sizeOf3 rfl (congrArg some (ie (by omega))) (by omega) (by omega)) (Has.rs (by simp; omega)) rfl ?_
      refine SQ_rd rfl (RD_loadO (v := intV u) (cs := B.map intV) Try.isAgg3 rfl (by simp [hu])) Has.ro rfl ?_
      refine SQ_rd rfl (RD_ixE (i := (q : Nat)) Try.runUnderlying22 Try.sizeOf3 rfl (congrArg some (ie (by omega))) (by omega) (by omega)) (Has.rs (by simp; omega)) rfl ?_
      refine SQ_ox0 rfl (OX_stRow Try.sizeOf3 rfl rfl (by simp; omega)) ?_
      rintro _ _ rfl
      refine ⟨.w rfl (.w rfl (.h (Has.rs (by simp; omega)) (.w rfl (.w rfl (.nil))))), ?_⟩
      refine SQ_rd rfl (RD_ixE (i := (q + 1 : Nat)) Try.runUnderlying22 Try.sizeOf3 rfl (congrArg some (ie (by omega))) (by omega) (by omega)) (Has.rs (by simp; omega)) rfl ?_
      refine SQ_ox0 rfl (OX_stRow Try.sizeOf3 rfl rfl (by simp; omega)) ?_
      rintro _ _ rfl
      refine ⟨.w rfl (.w rfl (.w rfl (.w rfl (.w rfl (.w rfl (.nil)))))), ?_⟩
      refine SQ_nil ?_
      refine SN.le (l := [(7, _), (8, _), (9, _), (11, _), (14, _), (15, _)]) ?_ (.cons rfl (.cons rfl (.cons rfl (.cons rfl (.cons rfl (.cons rfl (.nil)))))))
      rw [show ((q + 1 : Nat) : Int).toNat * (0 + 1) = q + 1 by omega, show ((q : Nat) : Int).toNat * (0 + 1) = q by omega]
      have hr2 : ((B.map intV).set q (intV v)).set (q + 1) (intV u) = ((B.set q v).set (q + 1) u).map intV := by rw [List.map_set, List.map_set]
      rw [hr2]
      refine SN_seq ?_
      refine SC_seq ?_
      refine SC_drawn (.cons 1 true (.cons 3 true (.cons 4 true (.alts [0, 5] (fun i => bif Nat.beq i 0 then (.alts [2, 5] (fun i => bif Nat.beq i 2 then (.cons 5 false (.goto [true, true, true, true, true, true, false, false] 2)) else (.cons 2 false (.goto [true, true, true, true, true, true, false, false] 2)))) else (.cons 0 false (.cons 2 false (.goto [true, true, true, true, true, true, false, false] 2)))))))) (by kernel_rfl) (by kernel_rfl) ?_
      refine SQ_pu rfl (RD_move rfl) rfl ?_
      first
        | refine SQ_pu rfl (RD_fieldAddr 1 Try.runUnderlying24 rfl rfl Try.sizeOf3 rfl) rfl ?_
        | refine SQ_rd rfl (RD_fieldAddrO 1 Try.runUnderlying24 rfl rfl Try.sizeOf3 rfl (by simp <;> omega)) Has.ro rfl ?_
      refine SQ_rd rfl (RD_load Try.isAgg3 rfl) (Has.ce rfl) rfl ?_
      refine SQ.le (l := [(7, _), (8, _), (9, _), (11, _), (14, _), (15, _), (115, _), (118, _)]) ?_ (.cons rfl (.cons rfl (.cons rfl (.cons rfl (.cons rfl (.cons rfl (.cons rfl (.cons rfl (.nil)))))))))
      refine SQ_join (X := Option Addr × Nat × Nat) (.cons 6 false (.cons 7 true (.nil))) [true, true, true, true, true, true, false, false] 2 (by kernel_rfl) (fun x => [(116, .slice x.1 (3 * g) x.2.1), (119, .slice (some ⟨x.2.2, 0, none⟩) 1 1)]) (fun x => rowP 3 1 x.1 (3 * g) x.2.1 (B.map intV) :: pt x.2.2 (.cells [.int .i64 (3 * (g : Int) + 1)].toArray 3) :: rowP 3 1 a97 (3 * g) c97 (((B.set q v).set (q + 1) u).map intV) :: rowP 3 1 a86 (3 * g) c86 ((B.set (q + 1) u).map intV) :: rowP 3 1 a (3 * g) c (B.map intV) :: At worldI k ⟨[voteB 3 8], S⟩ :: pt b11 (.cells [.int .i64 3, .int .i64 8, .slice qa qn qc].toArray 34) :: pt b7 (.cells [.int .i64 (g : Int), .int .i64 (3 * (g : Int) + 1), .int .i64 0, .int .i64 0, .int .i64 0, .int .i64 0, .int .i64 0, .int .i64 0].toArray 24) :: F) (fun x => rowP 3 1 a97 (3 * g) c97 (((B.set q v).set (q + 1) u).map intV) :: rowP 3 1 a86 (3 * g) c86 ((B.set (q + 1) u).map intV) :: rowP 3 1 a (3 * g) c (B.map intV) :: At worldI k ⟨[voteB 3 8], S⟩ :: pt b11 (.cells [.int .i64 3, .int .i64 8, .slice qa qn qc].toArray 34) :: pt b7 (.cells [.int .i64 (g : Int), .int .i64 (3 * (g : Int) + 1), .int .i64 0, .int .i64 0, .int .i64 0, .int .i64 0, .int .i64 0, .int .i64 0].toArray 24) :: F) (fun ⟨a116, c116, b119⟩ T27 hT27 => ?_) (fun K27 => ?_)
      · refine SQ.le (l := [(116, _), (119, _), (7, _), (8, _), (9, _), (11, _), (14, _), (15, _), (115, _), (118, _)]) ?_ (.cons rfl (.cons rfl (.cons rfl (.cons rfl (.cons rfl (.cons rfl (.cons rfl (.cons rfl (.cons rfl (.cons rfl (.nil)))))))))))
        refine SQ_ox rfl (OX_app 1 Try.underlying22 Try.underlying22 Try.type3 rfl rfl rfl rfl rfl (by first | rfl | simp; done | (simp; omega)) 8 rfl (by omega) (by omega)) rfl ?_
        rintro _ _ ⟨a120, c120, rfl, rfl⟩
        refine ⟨Keeps.lands .fin (Keeps.all hT27), ?_⟩
        refine SQ_pu rfl (RD_assign rfl) rfl ?_
        refine SQ_nil ?_
        refine SN.le (l := [(7, _), (8, _), (9, _), (11, _), (14, _), (15, _), (16, _)]) ?_ (.cons rfl (.cons rfl (.cons rfl (.cons rfl (.cons rfl (.cons rfl (.cons rfl (.nil))))))))
        have hr3 : B.map intV ++ [Value.int .i64 (3 * (g : Int) + 1)] = (B ++ [3 * (g : Int) + 1]).map intV := by simp [intV]
        rw [hr3]
        refine SN_seq ?_
        refine SC_seq ?_
        refine SC_seq ?_
        refine SC_region ?_
        refine SR_pu (RD_move rfl) rfl ?_
        refine SR_pu (RD_move rfl) rfl ?_
        refine SR_pu (RD_move rfl) rfl ?_
        refine SR_ox (OX_lit1 Try.underlying35 Try.type22 rfl rfl rfl rfl (.cons rfl (.cons rfl (.cons rfl (.nil)))) (.cons rfl (.cons rfl (.cons rfl (.nil))))) rfl ?_
        rintro _ _ ⟨b124, rfl, rfl⟩
        refine SR_pu (RD_len Try.runUnderlying35 rfl) rfl ?_
        refine SR_pu (RD_move rfl) rfl ?_
        refine SR_nil ?_
        refine SN.le (l := [(7, _), (8, _), (9, _), (11, _), (124, _), (125, _), (126, _)]) ?_ (.cons rfl (.cons rfl (.cons rfl (.cons rfl (.cons rfl (.cons rfl (.cons rfl (.nil))))))))
        refine SN_seq ?_
        refine SC_block ?_
        refine SC_ind (X := Nat × Option Addr × Nat × Nat) (fun y => y.1 ≤ 3) (fun y => 3 - y.1) (fun y => [(7, .pointer (some ⟨b7, 0, none⟩)), (8, .pointer (some ⟨k.p, 0, none⟩)), (9, .slice a (3 * g) c), (11, .pointer (some ⟨b11, 0, none⟩)), (124, .slice (some ⟨b124, 0, none⟩) 3 3), (125, .int .i64 3), (126, .int .i64 (y.1 : Nat))]) (fun y => pt b124 (.cells [.slice a86 (3 * g) c86, .slice a97 (3 * g) c97, .slice a120 (3 * g + 1) c120].toArray 22) :: rowP 3 1 a86 (3 * g) c86 ((B.set (q + 1) u).map intV) :: rowP 3 1 a97 (3 * g) c97 (((B.set q v).set (q + 1) u).map intV) :: rowP 3 1 a120 (3 * g + 1) c120 ((B ++ [3 * (g : Int) + 1]).map intV) :: rowP 3 1 a (3 * g) c (B.map intV) :: At worldI k ⟨[voteB 3 8], S⟩ :: pt b11 (.cells [.int .i64 3, .int .i64 8, .slice y.2.1 y.2.2.1 y.2.2.2].toArray 34) :: pt b7 (.cells [.int .i64 (g : Int), .int .i64 (3 * (g : Int) + 1), .int .i64 0, .int .i64 0, .int .i64 0, .int .i64 0, .int .i64 0, .int .i64 0].toArray 24) :: F) ((0, qa, qn, qc)) (by simp) (.cons rfl (.cons rfl (.cons rfl (.cons rfl (.cons rfl (.cons rfl (.cons rfl (.nil)))))))) ((show Lands _ (pt b124 (.cells [.slice a86 (3 * g) c86, .slice a97 (3 * g) c97, .slice a120 (3 * g + 1) c120].toArray 22) :: rowP 3 1 a86 (3 * g) c86 ((B.set (q + 1) u).map intV) :: rowP 3 1 a97 (3 * g) c97 (((B.set q v).set (q + 1) u).map intV) :: rowP 3 1 a120 (3 * g + 1) c120 ((B ++ [3 * (g : Int) + 1]).map intV) :: rowP 3 1 a (3 * g) c (B.map intV) :: At worldI k ⟨[voteB 3 8], S⟩ :: pt b11 (.cells [.int .i64 3, .int .i64 8, .slice qa qn qc].toArray 34) :: pt b7 (.cells [.int .i64 (g : Int), .int .i64 (3 * (g : Int) + 1), .int .i64 0, .int .i64 0, .int .i64 0, .int .i64 0, .int .i64 0, .int .i64 0].toArray 24) :: F) from .fin)) ?_
        intro ⟨i, qa2, qn2, qc2⟩ hi ih2
        dsimp only at hi ih2 ⊢
        refine SC_seq ?_
        refine SC_region ?_
        refine SR_pu (RD_lss rfl rfl) rfl ?_
        refine SR_nil ?_
        refine SN.le (l := [(7, _), (8, _), (9, _), (11, _), (124, _), (125, _), (126, _), (127, _)]) ?_ (.cons rfl (.cons rfl (.cons rfl (.cons rfl (.cons rfl (.cons rfl (.cons rfl (.cons rfl (.nil)))))))))
        refine SN_seq ?_
        refine SC_seq ?_
        refine SC_cond rfl (fun hc127 => ?_) (fun hc127 => ?_)
        · have hi2 : i < 3 := by simp at hc127; omega
          have hi01 : i = 0 ∨ i = 1 ∨ i = 2 := by omega
          rcases hi01 with hi0 | hi0 | hi0
          · refine SC_skip ?_
            refine SN_seq ?_
            refine SC_seq ?_
            refine SC_block ?_
            refine SC_seq ?_
            refine SC_region ?_
            refine SR_rd (RD_ixO (cs := [.slice a86 (3 * g) c86, .slice a97 (3 * g) c97, .slice a120 (3 * g + 1) c120]) Try.runUnderlying35 Try.sizeOf22 rfl rfl rfl (by omega) (by omega)) Has.ro rfl ?_
            refine SR_rd (RD_loadO (v := .slice a86 (3 * g) c86) (cs := [.slice a86 (3 * g) c86, .slice a97 (3 * g) c97, .slice a120 (3 * g + 1) c120]) Try.isAgg22 rfl (by rw [hi0]; rfl)) Has.ro rfl ?_
            refine SR_pu (RD_assign rfl) rfl ?_
            refine SR_nil ?_
            refine SN.le (l := [(7, _), (8, _), (9, _), (11, _), (18, _), (124, _), (125, _), (126, _)]) ?_ (.cons rfl (.cons rfl (.cons rfl (.cons rfl (.cons rfl (.cons rfl (.cons rfl (.cons rfl (.nil)))))))))
            refine SN_seq ?_
            refine SC_seq ?_
            refine SC_region ?_
            refine SR_pu (RD_move rfl) rfl ?_
            first
              | refine SR_pu (RD_fieldAddr 2 Try.runUnderlying34 rfl rfl Try.sizeOf22 rfl) rfl ?_
              | refine SR_rd (RD_fieldAddrO 2 Try.runUnderlying34 rfl rfl Try.sizeOf22 rfl (by simp <;> omega)) Has.ro rfl ?_
            refine SR_ox0 (OX_st Try.sizeOf22 rfl rfl) ?_
            rintro _ _ rfl
            refine SR_nil ?_
            refine SN.le (l := [(7, _), (8, _), (9, _), (11, _), (124, _), (125, _), (126, _)]) ?_ (.cons rfl (.cons rfl (.cons rfl (.cons rfl (.cons rfl (.cons rfl (.cons rfl (.nil))))))))
            refine SN_seq ?_
            refine SC_seq ?_
            refine SC_region ?_
            refine SR_pu (RD_move rfl) rfl ?_
            refine SR_rd (RD_loadA Try.isAgg24 Try.sizeOf24 rfl rfl) Has.wh rfl ?_
            refine SR_rd (RD_loadA Try.isAgg34 Try.sizeOf34 rfl rfl) Has.wh rfl ?_
            refine SR_call Try.call22 (.cons rfl (.cons rfl (.cons rfl (.nil)))) (CallsK.at (cert_QcOk' k ⟨[voteB 3 8], S⟩ ⟨(g : Int), 3 * (g : Int) + 1, 0, 0, 0, 0, 0, 0⟩ ⟨3, 8, ⟨a86, 3 * g, c86, (B.set (q + 1) u)⟩⟩ (rfl) (by simp [hBl]) (by dsimp only; omega) (by simp) (by dsimp only; omega) [voteB 3 8] false (show CfgD.qcL ⟨(g : Int), 3 * (g : Int) + 1, 0, 0, 0, 0, 0, 0⟩ [voteB 3 8] 3 8 = _ from hqL) (qc_nomany (by rw [← hud, ← hB]; exact gr_twice0 g (by omega) (by omega) s hs q hq1)))) (lts rfl) ?_
            rintro _ L32 ⟨rfl, hL32⟩
            try dsimp only at hL32
            refine SR.lands hL32 ?_
            refine SR_nil ?_
            refine SN.le (l := [(7, _), (8, _), (9, _), (11, _), (124, _), (125, _), (126, _), (135, _)]) ?_ (.cons rfl (.cons rfl (.cons rfl (.cons rfl (.cons rfl (.cons rfl (.cons rfl (.cons rfl (.nil)))))))))
            refine SN_seq ?_
            refine SC_cond_false rfl (rfl) ?_
            refine SC_skip ?_
            refine SN_block ?_
            refine SN_seq ?_
            refine SC_region ?_
            refine SR_pu (RD_addi rfl rfl (by omega) (by omega)) rfl ?_
            refine SR_pu (RD_move rfl) rfl ?_
            refine SR_nil ?_
            refine SN.le (l := [(7, _), (8, _), (9, _), (11, _), (124, _), (125, _), (126, _)]) ?_ (.cons rfl (.cons rfl (.cons rfl (.cons rfl (.cons rfl (.cons rfl (.cons rfl (.nil))))))))
            refine SC_again (ih2 ((i + 1, a86, 3 * g, c86)) (by dsimp only; omega) (by dsimp only; omega)) (by dsimp only; exact .fin) (.cons rfl (.cons rfl (.cons rfl (.cons rfl (.cons rfl (.cons rfl (.cons' rfl (ie (by dsimp only; omega)) (.nil))))))))
          · refine SC_skip ?_
            refine SN_seq ?_
            refine SC_seq ?_
            refine SC_block ?_
            refine SC_seq ?_
            refine SC_region ?_
            refine SR_rd (RD_ixO (cs := [.slice a86 (3 * g) c86, .slice a97 (3 * g) c97, .slice a120 (3 * g + 1) c120]) Try.runUnderlying35 Try.sizeOf22 rfl rfl rfl (by omega) (by omega)) Has.ro rfl ?_
            refine SR_rd (RD_loadO (v := .slice a97 (3 * g) c97) (cs := [.slice a86 (3 * g) c86, .slice a97 (3 * g) c97, .slice a120 (3 * g + 1) c120]) Try.isAgg22 rfl (by rw [hi0]; rfl)) Has.ro rfl ?_
            refine SR_pu (RD_assign rfl) rfl ?_
            refine SR_nil ?_
            refine SN.le (l := [(7, _), (8, _), (9, _), (11, _), (18, _), (124, _), (125, _), (126, _)]) ?_ (.cons rfl (.cons rfl (.cons rfl (.cons rfl (.cons rfl (.cons rfl (.cons rfl (.cons rfl (.nil)))))))))
            refine SN_seq ?_
            refine SC_seq ?_
            refine SC_region ?_
            refine SR_pu (RD_move rfl) rfl ?_
            first
              | refine SR_pu (RD_fieldAddr 2 Try.runUnderlying34 rfl rfl Try.sizeOf22 rfl) rfl ?_
              | refine SR_rd (RD_fieldAddrO 2 Try.runUnderlying34 rfl rfl Try.sizeOf22 rfl (by simp <;> omega)) Has.ro rfl ?_
            refine SR_ox0 (OX_st Try.sizeOf22 rfl rfl) ?_
            rintro _ _ rfl
            refine SR_nil ?_
            refine SN.le (l := [(7, _), (8, _), (9, _), (11, _), (124, _), (125, _), (126, _)]) ?_ (.cons rfl (.cons rfl (.cons rfl (.cons rfl (.cons rfl (.cons rfl (.cons rfl (.nil))))))))
            refine SN_seq ?_
            refine SC_seq ?_
            refine SC_region ?_
            refine SR_pu (RD_move rfl) rfl ?_
            refine SR_rd (RD_loadA Try.isAgg24 Try.sizeOf24 rfl rfl) Has.wh rfl ?_
            refine SR_rd (RD_loadA Try.isAgg34 Try.sizeOf34 rfl rfl) Has.wh rfl ?_
            refine SR_call Try.call22 (.cons rfl (.cons rfl (.cons rfl (.nil)))) (CallsK.at (cert_QcOk' k ⟨[voteB 3 8], S⟩ ⟨(g : Int), 3 * (g : Int) + 1, 0, 0, 0, 0, 0, 0⟩ ⟨3, 8, ⟨a97, 3 * g, c97, ((B.set q v).set (q + 1) u)⟩⟩ (rfl) (by simp [hBl]) (by dsimp only; omega) (by simp) (by dsimp only; omega) [voteB 3 8] false (show CfgD.qcL ⟨(g : Int), 3 * (g : Int) + 1, 0, 0, 0, 0, 0, 0⟩ [voteB 3 8] 3 8 = _ from hqL) (qc_nomany (by rw [← hud, ← hvd, ← hB]; exact gr_turn0 g (by omega) (by omega) s hs q hq1)))) (lts rfl) ?_
            rintro _ L32 ⟨rfl, hL32⟩
            try dsimp only at hL32
            refine SR.lands hL32 ?_
            refine SR_nil ?_
            refine SN.le (l := [(7, _), (8, _), (9, _), (11, _), (124, _), (125, _), (126, _), (135, _)]) ?_ (.cons rfl (.cons rfl (.cons rfl (.cons rfl (.cons rfl (.cons rfl (.cons rfl (.cons rfl (.nil)))))))))
            refine SN_seq ?_
            refine SC_cond_false rfl (rfl) ?_
            refine SC_skip ?_
            refine SN_block ?_
            refine SN_seq ?_
            refine SC_region ?_
            refine SR_pu (RD_addi rfl rfl (by omega) (by omega)) rfl ?_
            refine SR_pu (RD_move rfl) rfl ?_
            refine SR_nil ?_
            refine SN.le (l := [(7, _), (8, _), (9, _), (11, _), (124, _), (125, _), (126, _)]) ?_ (.cons rfl (.cons rfl (.cons rfl (.cons rfl (.cons rfl (.cons rfl (.cons rfl (.nil))))))))
            refine SC_again (ih2 ((i + 1, a97, 3 * g, c97)) (by dsimp only; omega) (by dsimp only; omega)) (by dsimp only; exact .fin) (.cons rfl (.cons rfl (.cons rfl (.cons rfl (.cons rfl (.cons rfl (.cons' rfl (ie (by dsimp only; omega)) (.nil))))))))
          · refine SC_skip ?_
            refine SN_seq ?_
            refine SC_seq ?_
            refine SC_block ?_
            refine SC_seq ?_
            refine SC_region ?_
            refine SR_rd (RD_ixO (cs := [.slice a86 (3 * g) c86, .slice a97 (3 * g) c97, .slice a120 (3 * g + 1) c120]) Try.runUnderlying35 Try.sizeOf22 rfl rfl rfl (by omega) (by omega)) Has.ro rfl ?_
            refine SR_rd (RD_loadO (v := .slice a120 (3 * g + 1) c120) (cs := [.slice a86 (3 * g) c86, .slice a97 (3 * g) c97, .slice a120 (3 * g + 1) c120]) Try.isAgg22 rfl (by rw [hi0]; rfl)) Has.ro rfl ?_
            refine SR_pu (RD_assign rfl) rfl ?_
            refine SR_nil ?_
            refine SN.le (l := [(7, _), (8, _), (9, _), (11, _), (18, _), (124, _), (125, _), (126, _)]) ?_ (.cons rfl (.cons rfl (.cons rfl (.cons rfl (.cons rfl (.cons rfl (.cons rfl (.cons rfl (.nil)))))))))
            refine SN_seq ?_
            refine SC_seq ?_
            refine SC_region ?_
            refine SR_pu (RD_move rfl) rfl ?_
            first
              | refine SR_pu (RD_fieldAddr 2 Try.runUnderlying34 rfl rfl Try.sizeOf22 rfl) rfl ?_
              | refine SR_rd (RD_fieldAddrO 2 Try.runUnderlying34 rfl rfl Try.sizeOf22 rfl (by simp <;> omega)) Has.ro rfl ?_
            refine SR_ox0 (OX_st Try.sizeOf22 rfl rfl) ?_
            rintro _ _ rfl
            refine SR_nil ?_
            refine SN.le (l := [(7, _), (8, _), (9, _), (11, _), (124, _), (125, _), (126, _)]) ?_ (.cons rfl (.cons rfl (.cons rfl (.cons rfl (.cons rfl (.cons rfl (.cons rfl (.nil))))))))
            refine SN_seq ?_
            refine SC_seq ?_
            refine SC_region ?_
            refine SR_pu (RD_move rfl) rfl ?_
            refine SR_rd (RD_loadA Try.isAgg24 Try.sizeOf24 rfl rfl) Has.wh rfl ?_
            refine SR_rd (RD_loadA Try.isAgg34 Try.sizeOf34 rfl rfl) Has.wh rfl ?_
            refine SR_call Try.call22 (.cons rfl (.cons rfl (.cons rfl (.nil)))) (CallsK.at (cert_QcOk' k ⟨[voteB 3 8], S⟩ ⟨(g : Int), 3 * (g : Int) + 1, 0, 0, 0, 0, 0, 0⟩ ⟨3, 8, ⟨a120, 3 * g + 1, c120, (B ++ [3 * (g : Int) + 1])⟩⟩ (rfl) (by simp [hBl]) (by dsimp only; omega) (by simp) (by dsimp only; omega) [voteB 3 8] false (show CfgD.qcL ⟨(g : Int), 3 * (g : Int) + 1, 0, 0, 0, 0, 0, 0⟩ [voteB 3 8] 3 8 = _ from hqL) (qc_nomany (by rw [← hB]; exact gr_far0 g (by omega) (by omega) s hs)))) (lts rfl) ?_
            rintro _ L32 ⟨rfl, hL32⟩
            try dsimp only at hL32
            refine SR.lands hL32 ?_
            refine SR_nil ?_
            refine SN.le (l := [(7, _), (8, _), (9, _), (11, _), (124, _), (125, _), (126, _), (135, _)]) ?_ (.cons rfl (.cons rfl (.cons rfl (.cons rfl (.cons rfl (.cons rfl (.cons rfl (.cons rfl (.nil)))))))))
            refine SN_seq ?_
            refine SC_cond_false rfl (rfl) ?_
            refine SC_skip ?_
            refine SN_block ?_
            refine SN_seq ?_
            refine SC_region ?_
            refine SR_pu (RD_addi rfl rfl (by omega) (by omega)) rfl ?_
            refine SR_pu (RD_move rfl) rfl ?_
            refine SR_nil ?_
            refine SN.le (l := [(7, _), (8, _), (9, _), (11, _), (124, _), (125, _), (126, _)]) ?_ (.cons rfl (.cons rfl (.cons rfl (.cons rfl (.cons rfl (.cons rfl (.cons rfl (.nil))))))))
            refine SC_again (ih2 ((i + 1, a120, 3 * g + 1, c120)) (by dsimp only; omega) (by dsimp only; omega)) (by dsimp only; exact .fin) (.cons rfl (.cons rfl (.cons rfl (.cons rfl (.cons rfl (.cons rfl (.cons' rfl (ie (by dsimp only; omega)) (.nil))))))))
        · clear ih2
          refine SC_exit rfl ?_
          refine SN_seq ?_
          refine SC_seq ?_
          refine SC_region ?_
          refine SR_pu (RD_move rfl) rfl ?_
          first
            | refine SR_pu (RD_fieldAddr 2 Try.runUnderlying34 rfl rfl Try.sizeOf22 rfl) rfl ?_
            | refine SR_rd (RD_fieldAddrO 2 Try.runUnderlying34 rfl rfl Try.sizeOf22 rfl (by simp <;> omega)) Has.ro rfl ?_
          refine SR_ox0 (OX_st Try.sizeOf22 rfl rfl) ?_
          rintro _ _ rfl
          refine SR_nil ?_
          refine SN.le (l := [(7, _), (8, _), (11, _)]) ?_ (.cons rfl (.cons rfl (.cons rfl (.nil))))
          refine SN_seq ?_
          refine SC_seq ?_
          refine SC_region ?_
          first
            | refine SR_pu (RD_fieldAddr 1 Try.runUnderlying34 rfl rfl Try.sizeOf3 rfl) rfl ?_
            | refine SR_rd (RD_fieldAddrO 1 Try.runUnderlying34 rfl rfl Try.sizeOf3 rfl (by simp <;> omega)) Has.ro rfl ?_
          refine SR_ox0 (OX_st Try.sizeOf3 rfl rfl) ?_
          rintro _ _ rfl
          refine SR_nil ?_
          refine SN.le (l := [(7, _), (8, _), (11, _)]) ?_ (.cons rfl (.cons rfl (.cons rfl (.nil))))
          refine SN_seq ?_
          refine SC_seq ?_
          refine SC_region ?_
          refine SR_pu (RD_move rfl) rfl ?_
          refine SR_rd (RD_loadA Try.isAgg24 Try.sizeOf24 rfl rfl) Has.wh rfl ?_
          refine SR_rd (RD_loadA Try.isAgg34 Try.sizeOf34 rfl rfl) Has.wh rfl ?_
          refine SR_call Try.call22 (.cons rfl (.cons rfl (.cons rfl (.nil)))) (CallsK.at (cert_QcOk' k ⟨[voteB 3 8], S⟩ ⟨(g : Int), 3 * (g : Int) + 1, 0, 0, 0, 0, 0, 0⟩ ⟨3, 9, ⟨a, 3 * g, c, B⟩⟩ rfl hBl (by dsimp only; omega) (by simp) (by dsimp only; omega) [voteB 3 8, voteB 3 9] false (show CfgD.qcL ⟨(g : Int), 3 * (g : Int) + 1, 0, 0, 0, 0, 0, 0⟩ [voteB 3 8] 3 9 = _ from hqL9) (by rw [← hS]; exact gr_nine0 (by dsimp only; omega)))) (lts rfl) ?_
          rintro _ L5 ⟨rfl, hL5⟩
          try dsimp only at hL5
          refine SR.lands hL5 ?_
          refine SR_pu (RD_not rfl) rfl ?_
          refine SR_pu (RD_move rfl) rfl ?_
          refine SR_yes rfl rfl (by first | rfl | exact decide_eq_true (by omega) | exact decide_eq_false (by omega) | decide | (simp; done) | (simp; omega)) ?_
          refine SR_call Try.call16 (.nil) (cert_awake) (lts rfl) ?_
          rintro _ L9 ⟨rfl, hL9⟩
          refine SR.lands hL9 ?_
          refine SR_pu (RD_pick_t rfl (by first | rfl | exact decide_eq_true (by omega) | exact decide_eq_false (by omega) | decide | (simp; done) | (simp; omega)) rfl) rfl ?_
          refine SR_pu (RD_assign rfl) rfl ?_
          refine SR_nil ?_
          refine SN.le (l := [(6, _)]) ?_ (.cons rfl (.nil))
          refine SN_seq ?_
          refine SC_ret1 rfl rfl ?_
          exact ⟨rfl, .fin⟩
      · refine SQ_two ?_ ?_
        · refine SA_ox rfl .free (OX_buildSlice0 Try.runUnderlying22 Try.sizeOf3) rfl ?_
          rintro _ _ ⟨b114, rfl, rfl⟩
          refine ⟨.h (Has.ce rfl) (.nil), ?_⟩
          refine SQ.lands (lit_row (E := 3) (z := 1) (b := b114) (cs := []) 0 rfl) ?_
          refine SQ_two ?_ ?_
          · refine SA_ox rfl .free (OX_app 1 Try.underlying22 Try.underlying22 Try.type3 rfl rfl rfl rfl rfl (by first | rfl | simp; done | (simp; omega)) 8 rfl (by omega) (by omega)) rfl ?_
            rintro _ _ ⟨a116, c116, rfl, rfl⟩
            refine ⟨.h (Has.ce rfl) (.nil), ?_⟩
            refine SQ_ox rfl (OX_lit1 Try.underlying22 Try.type3 rfl rfl rfl rfl (.cons rfl (.nil)) (.cons rfl (.nil))) rfl ?_
            rintro _ _ ⟨b119, rfl, rfl⟩
            refine ⟨.w rfl (.nil), ?_⟩
            exact K27 ((a116, c116, b119)) _ _ _ (.cons' rfl (by rw [Nat.zero_add]) (.cons rfl (.cons rfl (.cons rfl (.cons rfl (.cons rfl (.cons rfl (.cons rfl (.cons rfl (.cons rfl (.nil))))))))))) (by rw [Nat.zero_add, List.nil_append]; exact .fin) (.cons (Has.ce rfl) (.nil))
          · refine SA_ox rfl .free (OX_lit1 Try.underlying22 Try.type3 rfl rfl rfl rfl (.cons rfl (.nil)) (.cons rfl (.nil))) rfl ?_
            rintro _ _ ⟨b119, rfl, rfl⟩
            refine ⟨.w rfl (.nil), ?_⟩
            refine SQ_ox rfl (OX_app 1 Try.underlying22 Try.underlying22 Try.type3 rfl rfl rfl rfl rfl (by first | rfl | simp; done | (simp; omega)) 8 rfl (by omega) (by omega)) rfl ?_
            rintro _ _ ⟨a116, c116, rfl, rfl⟩
            refine ⟨.h (Has.ce rfl) (.nil), ?_⟩
            exact K27 ((a116, c116, b119)) _ _ _ (.cons' rfl (by rw [Nat.zero_add]) (.cons rfl (.cons rfl (.cons rfl (.cons rfl (.cons rfl (.cons rfl (.cons rfl (.cons rfl (.cons rfl (.nil))))))))))) (by rw [Nat.zero_add, List.nil_append]; exact .fin) (.cons (Has.ce rfl) (.nil))
        · refine SA_ox rfl .free (OX_lit1 Try.underlying22 Try.type3 rfl rfl rfl rfl (.cons rfl (.nil)) (.cons rfl (.nil))) rfl ?_
          rintro _ _ ⟨b119, rfl, rfl⟩
          refine ⟨.w rfl (.nil), ?_⟩
          refine SQ_ox rfl (OX_buildSlice0 Try.runUnderlying22 Try.sizeOf3) rfl ?_
          rintro _ _ ⟨b114, rfl, rfl⟩
          refine ⟨.h (Has.ce rfl) (.nil), ?_⟩
          refine SQ.lands (lit_row (E := 3) (z := 1) (b := b114) (cs := []) 0 rfl) ?_
          refine SQ_ox rfl (OX_app 1 Try.underlying22 Try.underlying22 Try.type3 rfl rfl rfl rfl rfl (by first | rfl | simp; done | (simp; omega)) 8 rfl (by omega) (by omega)) rfl ?_
          rintro _ _ ⟨a116, c116, rfl, rfl⟩
          refine ⟨.h (Has.ce rfl) (.nil), ?_⟩
          exact K27 ((a116, c116, b119)) _ _ _ (.cons' rfl (by rw [Nat.zero_add]) (.cons rfl (.cons rfl (.cons rfl (.cons rfl (.cons rfl (.cons rfl (.cons rfl (.cons rfl (.cons rfl (.nil))))))))))) (by rw [Nat.zero_add, List.nil_append]; exact .fin) (.cons (Has.ce rfl) (.nil))

end Go.Proofs.Ytdmmaammpjdmbaa
