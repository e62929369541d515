/- An envelope that stands in several blocks of a way is in the log where it stood first, once: the statement. -/
import Derived.Test.YtnifaajdiolbjaaCx
namespace Go.Proofs.Ytnifaajdiolbjaa
open Go Go.Proofs
set_option maxRecDepth 100000
def fw (i : Nat) : List EnvD := (List.range i).map fun j : Nat => ⟨(j : Int), 0, 1, ((j + 1 : Nat) : Int)⟩
theorem fw_succ (i : Nat) : fw (i + 1) = fw i ++ [⟨(i : Int), 0, 1, ((i + 1 : Nat) : Int)⟩] := by simp [fw, List.range_succ]
theorem fw_len (i : Nat) : (fw i).length = i := by simp [fw]
theorem fw_good {e : EnvD} (h : e ∈ fw 6) : e.Good := by
  simp only [fw, List.mem_map, List.mem_range] at h
  obtain ⟨j, hj, rfl⟩ := h
  exact ⟨by unfold I64; dsimp only; omega, by unfold I64; dsimp only; omega, ⟨by dsimp only; omega, by dsimp only; omega⟩⟩
theorem EV_six {Es : List (List EnvD)} (h : ∀ E ∈ Es, ∀ e ∈ E, e ∈ fw 6) (n : Nat) : (EV Es n).length ≤ 6 := by
  have := nodup_len (EV_nodup Es n) (B := fw 6) (EV_mem (P := fun e => e ∈ fw 6) h n)
  rwa [fw_len] at this

theorem law_ClogTwice {W : World} {F : List HProp} [Abs F] (a0 : Option Addr) (n0 c0 : Nat) (l0 : List Int) [HasRow F a0 (l0.map intV)] (hn0 : l0.length = n0) (at_ : Int) :
    CallsK W Try.prog 7 #[.slice a0 n0 c0, .int .i64 at_] (F) (fun v L => v = .bool true ∧ Lands L F) := by
  refine CallsK_enter (n := 169) Try.func7 rfl rfl rfl ?_
  refine SC_seq ?_
  refine SC_region ?_
  refine SR_pu (RD_assign rfl) rfl ?_
  refine SR_nil ?_
  refine SN.le (l := [(0, _), (1, _)]) ?_ (.cons rfl (.cons rfl (.nil)))
  refine SN_seq ?_
  refine SC_seq ?_
  refine SC_region ?_
  refine SR_call Try.call16 (.cons rfl (.nil)) (enve_New 1) (lts rfl) ?_
  rintro _ L0 ⟨k, rfl, hL0⟩
  refine SR.lands (hL0.trans (Lands.cons vault_new)) ?_
  refine SR_pu (RD_assign rfl) rfl ?_
  refine SR_nil ?_
  refine SN.le (l := [(0, _), (1, _), (5, _)]) ?_ (.cons rfl (.cons rfl (.cons rfl (.nil))))
  refine SN_seq ?_
  refine SC_seq ?_
  refine SC_seq ?_
  refine SC_region ?_
  refine SR_pu (RD_move rfl) rfl ?_
  refine SR_pu (RD_eqlP Try.underlying35 rfl rfl) rfl ?_
  refine SR_nil ?_
  refine SN.le (l := [(0, _), (1, _), (5, _), (24, _)]) ?_ (.cons rfl (.cons rfl (.cons rfl (.cons rfl (.nil)))))
  refine SN_seq ?_
  refine SC_cond_false rfl (rfl) ?_
  refine SC_skip ?_
  refine SN_seq ?_
  refine SC_seq ?_
  refine SC_region ?_
  refine SR_pu (RD_move rfl) rfl ?_
  refine SR_call Try.call37 (.cons rfl (.nil)) (CallsK.at (tree_New k ⟨[], []⟩ (by simp) [rootB] 1 (by decide +kernel) (by decide +kernel))) (lts rfl) ?_
  rintro _ L1 ⟨q, rfl, hL1⟩
  try dsimp only at hL1
  refine SR.lands (hL1 : Lands L1 (At treeI q (tS0 k.p) :: _)) ?_
  refine SR_pu (RD_assign rfl) rfl ?_
  refine SR_nil ?_
  refine SN.le (l := [(0, _), (1, _), (5, _), (6, _)]) ?_ (.cons rfl (.cons rfl (.cons rfl (.cons rfl (.nil)))))
  refine SN_seq ?_
  refine SC_seq ?_
  refine SC_region ?_
  refine SR_pu (RD_move rfl) rfl ?_
  refine SR_pu (RD_move rfl) rfl ?_
  refine SR_call Try.call38 (.cons rfl (.cons rfl (.nil))) (CallsK.at (clog_New k.p q (tS0 k.p))) (lts rfl) ?_
  rintro _ L2 ⟨p, rfl, hL2⟩
  change Lands L2 (At logI p ⟨k.p, q, 1, [], []⟩ :: _) at hL2
  refine SR.lands hL2 ?_
  refine SR_pu (RD_assign rfl) rfl ?_
  refine SR_nil ?_
  refine SN.le (l := [(0, _), (1, _), (5, _), (6, _), (7, _)]) ?_ (.cons rfl (.cons rfl (.cons rfl (.cons rfl (.cons rfl (.nil))))))
  refine SN_seq ?_
  refine SC_seq ?_
  refine SC_seq ?_
  refine SC_region ?_
  refine SR_pu (RD_move rfl) rfl ?_
  refine SR_pu (RD_eqlP Try.underlying68 rfl rfl) rfl ?_
  refine SR_pu (RD_move rfl) rfl ?_
  refine SR_yes rfl rfl (rfl) ?_
  refine SR_pu (RD_move rfl) rfl ?_
  refine SR_yes rfl rfl (rfl) ?_
  refine SR_pu (RD_eqlP Try.underlying70 rfl rfl) rfl ?_
  refine SR_pu (RD_pick_f rfl (rfl) rfl) rfl ?_
  refine SR_nil ?_
  refine SN.le (l := [(0, _), (1, _), (5, _), (6, _), (7, _), (35, _)]) ?_ (.cons rfl (.cons rfl (.cons rfl (.cons rfl (.cons rfl (.cons rfl (.nil)))))))
  refine SN_seq ?_
  refine SC_cond_false rfl (rfl) ?_
  refine SC_skip ?_
  refine SN_seq ?_
  refine SC_seq ?_
  refine SC_region ?_
  refine SR_pu (RD_assign rfl) rfl ?_
  refine SR_nil ?_
  refine SN.le (l := [(0, _), (1, _), (5, _), (6, _), (7, _), (8, _)]) ?_ (.cons rfl (.cons rfl (.cons rfl (.cons rfl (.cons rfl (.cons rfl (.nil)))))))
  refine SN_seq ?_
  refine SC_seq ?_
  refine SC_seq ?_
  refine SC_region ?_
  refine SR_pu (RD_assign rfl) rfl ?_
  refine SR_nil ?_
  refine SN.le (l := [(0, _), (1, _), (5, _), (6, _), (7, _), (8, _), (9, _)]) ?_ (.cons rfl (.cons rfl (.cons rfl (.cons rfl (.cons rfl (.cons rfl (.cons rfl (.nil))))))))
  refine SN_seq ?_
  refine SC_block ?_
  refine SC_ind (X := Nat × List (List UInt8) × List (Int × List Int) × Option Addr × Nat) (fun x => x.1 ≤ 6 ∧ Ext [rootB] x.2.1 ∧ x.2.1.length ≤ 1 + x.1) (fun x => 6 - x.1) (fun x => [(0, .slice a0 n0 c0), (1, .int .i64 at_), (5, .pointer (some ⟨k.p, 0, none⟩)), (6, .pointer (some ⟨q, 0, none⟩)), (7, .pointer (some ⟨p, 0, none⟩)), (8, .slice x.2.2.2.1 x.1 x.2.2.2.2), (9, .int .i64 (x.1 : Nat))]) (fun x => rowP 39 4 x.2.2.2.1 x.1 x.2.2.2.2 ((fw x.1).flatMap EnvD.cells) :: At treeI q (tS0 k.p) :: At worldI k ⟨x.2.1, x.2.2.1⟩ :: At vaultI k.v x.1 :: At logI p ⟨k.p, q, 1, [], []⟩ :: F) ((0, [rootB], [], none, 0)) (⟨by simp, Ext.same, by simp⟩) (.cons rfl (.cons rfl (.cons rfl (.cons rfl (.cons rfl (.cons rfl (.cons rfl (.nil)))))))) (((row_new 39 4 none).trans (show Lands _ (rowP 39 4 none 0 0 [] :: At treeI q (tS0 k.p) :: At worldI k ⟨[rootB], []⟩ :: At vaultI k.v 0 :: At logI p ⟨k.p, q, 1, [], []⟩ :: F) from .fin))) ?_
  intro ⟨i, l, S, fa, fc⟩ hi ih
  obtain ⟨hi1, hx1, hx2⟩ := hi
  dsimp only at hi1 hx1 hx2 ih ⊢
  refine SC_seq ?_
  refine SC_seq ?_
  refine SC_region ?_
  refine SR_pu (RD_move rfl) rfl ?_
  refine SR_pu (RD_lss rfl rfl) rfl ?_
  refine SR_nil ?_
  refine SN.le (l := [(0, _), (1, _), (5, _), (6, _), (7, _), (8, _), (9, _), (37, _)]) ?_ (.cons rfl (.cons rfl (.cons rfl (.cons rfl (.cons rfl (.cons rfl (.cons rfl (.cons rfl (.nil)))))))))
  refine SN_seq ?_
  refine SC_cond rfl (fun hc37 => ?_) (fun hc37 => ?_)
  · have hin : i < 6 := by simp at hc37; omega
    refine SC_skip ?_
    refine SN_seq ?_
    refine SC_seq ?_
    refine SC_block ?_
    refine SC_region ?_
    refine SR_pu (RD_move rfl) rfl ?_
    refine SR_pu (RD_move rfl) rfl ?_
    refine SR_pu (RD_move rfl) rfl ?_
    refine SR_call Try.call35 (.cons rfl (.cons rfl (.cons rfl (.cons rfl (.cons rfl (.nil)))))) (CallsK.at2 (w_Make k ⟨l, S⟩ i (by omega) (i : Int) 0 1 (by omega) (by omega) (by omega) none 0 0 [] rfl (by simp) (by dsimp only; omega))) (lts rfl) ?_
    rintro _ L3 ⟨rfl, hL3⟩
    try dsimp only at hL3
    refine SR.lands hL3 ?_
    refine SR_ox (OX_lit Try.underlying31 Try.type39 rfl rfl rfl rfl (.cons rfl (.nil)) (.cons rfl rfl (.nil))) rfl ?_
    rintro _ _ ⟨b44, rfl, rfl⟩
    refine SR_ox (OX_app 4 Try.underlying31 Try.underlying31 Try.type39 rfl rfl rfl rfl rfl (by first | rfl | simp; done | (simp; omega)) 32 rfl (by omega) (by omega)) rfl ?_
    rintro _ _ ⟨a45, c45, rfl, rfl⟩
    refine SR_pu (RD_assign rfl) rfl ?_
    refine SR_nil ?_
    refine SN.le (l := [(0, _), (1, _), (5, _), (6, _), (7, _), (8, _), (9, _)]) ?_ (.cons rfl (.cons rfl (.cons rfl (.cons rfl (.cons rfl (.cons rfl (.cons rfl (.nil))))))))
    refine SN_block ?_
    refine SN_seq ?_
    refine SC_region ?_
    refine SR_pu (RD_move rfl) rfl ?_
    refine SR_pu (RD_addi rfl rfl (by omega) (by omega)) rfl ?_
    refine SR_pu (RD_assign rfl) rfl ?_
    refine SR_nil ?_
    refine SN.le (l := [(0, _), (1, _), (5, _), (6, _), (7, _), (8, _), (9, _)]) ?_ (.cons rfl (.cons rfl (.cons rfl (.cons rfl (.cons rfl (.cons rfl (.cons rfl (.nil))))))))
    refine SC_again (ih ((i + 1, dput l (envB ⟨(i : Int), 0, 1, ((i + 1 : Nat) : Int)⟩), addTo S (1000 + (i : Int)) (dnum (dput l (envB ⟨(i : Int), 0, 1, ((i + 1 : Nat) : Int)⟩)) (envB ⟨(i : Int), 0, 1, ((i + 1 : Nat) : Int)⟩) : Nat), a45, c45)) (⟨by dsimp only; omega, hx1.trans (Ext.put _ _), by have := dput_len l (envB ⟨(i : Int), 0, 1, ((i + 1 : Nat) : Int)⟩); dsimp only; omega⟩) (by dsimp only; omega)) (by dsimp only; rw [fw_succ, List.flatMap_append, List.flatMap_cons, List.flatMap_nil]; exact .fin) (.cons rfl (.cons rfl (.cons rfl (.cons rfl (.cons rfl (.cons rfl (.cons' rfl (ie (by dsimp only; omega)) (.nil))))))))
  · have hin : i = 6 := by simp at hc37; omega
    subst hin
    clear ih
    have hr1 : dput l rootB = l := dput_idem (hx1.mem (by simp))
    have hr2 : dnum l rootB = 1 := by rw [hx1.num (by simp)]; simp [dnum]
    refine SC_exit rfl ?_
    refine SN_seq ?_
    refine SC_seq ?_
    refine SC_region ?_
    refine SR_pu (RD_move rfl) rfl ?_
    refine SR_call Try.call34 (.cons rfl (.nil)) (CallsK.at (cert_Root k ⟨l, S⟩ (by dsimp only; omega) l 1 hr1 hr2)) (lts rfl) ?_
    rintro _ L4 ⟨rfl, hL4⟩
    try dsimp only at hL4
    refine SR.lands hL4 ?_
    refine SR_pu (RD_assign rfl) rfl ?_
    refine SR_pu (RD_assign rfl) rfl ?_
    refine SR_nil ?_
    refine SN.le (l := [(0, _), (1, _), (6, _), (7, _), (8, _), (10, _), (11, _)]) ?_ (.cons rfl (.cons rfl (.cons rfl (.cons rfl (.cons rfl (.cons rfl (.cons rfl (.nil))))))))
    refine SN_seq ?_
    refine SC_seq ?_
    refine SC_region ?_
    refine SR_pu (RD_move rfl) rfl ?_
    refine SR_ox (OX_lit1 Try.underlying22 Try.type3 rfl rfl rfl rfl (.cons rfl (.nil)) (.cons rfl (.nil))) rfl ?_
    rintro _ _ ⟨b49, rfl, rfl⟩
    refine SR_pu (RD_assign rfl) rfl ?_
    refine SR_nil ?_
    refine SN.le (l := [(0, _), (1, _), (6, _), (7, _), (8, _), (10, _), (11, _), (12, _)]) ?_ (.cons rfl (.cons rfl (.cons rfl (.cons rfl (.cons rfl (.cons rfl (.cons rfl (.cons rfl (.nil)))))))))
    refine SN_seq ?_
    refine SC_seq ?_
    refine SC_region ?_
    refine SR_pu (RD_assign rfl) rfl ?_
    refine SR_nil ?_
    refine SN.le (l := [(0, _), (1, _), (6, _), (7, _), (8, _), (10, _), (11, _), (12, _), (13, _)]) ?_ (.cons rfl (.cons rfl (.cons rfl (.cons rfl (.cons rfl (.cons rfl (.cons rfl (.cons rfl (.cons rfl (.nil))))))))))
    refine SN_seq ?_
    refine SC_seq ?_
    refine SC_region ?_
    refine SR_pu (RD_move rfl) rfl ?_
    refine SR_pu (RD_len Try.runUnderlying22 rfl) rfl ?_
    refine SR_pu (RD_assign rfl) rfl ?_
    refine SR_nil ?_
    refine SN.le (l := [(0, _), (1, _), (6, _), (7, _), (8, _), (10, _), (11, _), (12, _), (13, _), (14, _)]) ?_ (.cons rfl (.cons rfl (.cons rfl (.cons rfl (.cons rfl (.cons rfl (.cons rfl (.cons rfl (.cons rfl (.cons rfl (.nil)))))))))))
    refine SN_seq ?_
    refine SC_seq ?_
    refine SC_region ?_
    refine SR_pu (RD_move rfl) rfl ?_
    refine SR_pu (RD_min rfl rfl) rfl ?_
    refine SR_pu (RD_assign rfl) rfl ?_
    refine SR_nil ?_
    refine SN.le (l := [(0, _), (1, _), (6, _), (7, _), (8, _), (10, _), (11, _), (12, _), (13, _), (14, _)]) ?_ (.cons rfl (.cons rfl (.cons rfl (.cons rfl (.cons rfl (.cons rfl (.cons rfl (.cons rfl (.cons rfl (.cons rfl (.nil)))))))))))
    obtain ⟨N, hN⟩ : ∃ N : Nat, N = min n0 12 := ⟨_, rfl⟩
    have hN2 : (N : Int) = if (12 : Int) < (n0 : Int) then 12 else (n0 : Int) := by split <;> omega
    rw [← hN2]
    refine SN_seq ?_
    refine SC_seq ?_
    refine SC_region ?_
    refine SR_pu (RD_move rfl) rfl ?_
    refine SR_pu (RD_mask 8 rfl rfl rfl (by decide) 256 rfl) rfl ?_
    refine SR_pu (RD_move rfl) rfl ?_
    refine SR_pu (RD_addi rfl rfl (by omega) (by omega)) rfl ?_
    refine SR_pu (RD_remi rfl rfl (by omega) (by omega)) rfl ?_
    refine SR_pu (RD_assign rfl) rfl ?_
    refine SR_nil ?_
    refine SN.le (l := [(0, _), (1, _), (6, _), (7, _), (8, _), (10, _), (11, _), (12, _), (13, _), (14, _)]) ?_ (.cons rfl (.cons rfl (.cons rfl (.cons rfl (.cons rfl (.cons rfl (.cons rfl (.cons rfl (.cons rfl (.cons rfl (.nil)))))))))))
    obtain ⟨u, hu⟩ : ∃ u : Nat, at_ % 256 % ((N : Int) + 1) = (u : Int) := ⟨(at_ % 256 % ((N : Int) + 1)).toNat, by rw [Int.toNat_of_nonneg (Int.emod_nonneg _ (by omega))]⟩
    have hu1 : u ≤ N := by have := Int.emod_lt_of_pos (at_ % 256) (show (0 : Int) < (N : Int) + 1 by omega); omega
    rw [hu]
    refine SN_seq ?_
    refine SC_seq ?_
    refine SC_seq ?_
    refine SC_region ?_
    refine SR_pu (RD_assign rfl) rfl ?_
    refine SR_nil ?_
    refine SN.le (l := [(0, _), (1, _), (6, _), (7, _), (8, _), (10, _), (11, _), (12, _), (13, _), (14, _), (15, _)]) ?_ (.cons rfl (.cons rfl (.cons rfl (.cons rfl (.cons rfl (.cons rfl (.cons rfl (.cons rfl (.cons rfl (.cons rfl (.cons rfl (.nil))))))))))))
    refine SN_seq ?_
    refine SC_block ?_
    refine SC_ind (X := Nat × TS × List (List UInt8) × List Int × List (List EnvD) × Int × Option Addr × Nat × Option Addr × Nat) (fun x => (x.1 ≤ N ∧ x.2.2.2.2.1.length = x.1 ∧ x.2.2.2.1[x.1]? = some x.2.2.2.2.2.1 ∧ x.2.2.2.1[0]? = some 1) ∧ x.2.2.1.length ≤ 10 + 10 * x.1 ∧ Ch k.p x.2.1 x.2.2.1 x.2.2.2.1 x.2.2.2.2.1 ∧ ∀ E ∈ x.2.2.2.2.1, ∀ e ∈ E, e ∈ fw 6) (fun x => N - x.1) (fun x => [(0, .slice a0 n0 c0), (1, .int .i64 (u : Nat)), (6, .pointer (some ⟨q, 0, none⟩)), (7, .pointer (some ⟨p, 0, none⟩)), (8, .slice fa 6 fc), (10, .int .i64 x.2.2.2.2.2.1), (11, .int .i64 (x.1 : Nat)), (12, .slice x.2.2.2.2.2.2.1 (x.1 + 1) x.2.2.2.2.2.2.2.1), (13, .slice x.2.2.2.2.2.2.2.2.1 (EV x.2.2.2.2.1 (min x.1 u)).length x.2.2.2.2.2.2.2.2.2), (14, .int .i64 (N : Nat)), (15, .int .i64 (x.1 : Nat))]) (fun x => rowP 3 1 x.2.2.2.2.2.2.1 (x.1 + 1) x.2.2.2.2.2.2.2.1 (x.2.2.2.1.map intV) :: rowP 39 4 x.2.2.2.2.2.2.2.2.1 (EV x.2.2.2.2.1 (min x.1 u)).length x.2.2.2.2.2.2.2.2.2 ((EV x.2.2.2.2.1 (min x.1 u)).flatMap EnvD.cells) :: rowP 39 4 fa 6 fc ((fw 6).flatMap EnvD.cells) :: At treeI q x.2.1 :: At worldI k ⟨x.2.2.1, S⟩ :: At logI p ⟨k.p, q, 1, [], []⟩ :: F) ((0, tS0 k.p, l, [1], [], 1, some ⟨b49, 0, none⟩, 1, none, 0)) (⟨⟨by simp, rfl, rfl, rfl⟩, by dsimp only; omega, Ch.start k.p hx1, fun E hE => nomatch hE⟩) (.cons rfl (.cons rfl (.cons rfl (.cons rfl (.cons rfl (.cons rfl (.cons rfl (.cons rfl (.cons rfl (.cons rfl (.cons rfl (.nil)))))))))))) ((Lands.trans (.fin : Lands _ (pt b49 (.cells [.int .i64 (1 : Nat)].toArray 3) :: rowP 39 4 fa 6 fc ((fw 6).flatMap EnvD.cells) :: At treeI q (tS0 k.p) :: At worldI k ⟨l, S⟩ :: At logI p ⟨k.p, q, 1, [], []⟩ :: F)) ((lit_row (E := 3) (z := 1) (b := b49) (cs := [.int .i64 (1 : Nat)]) 1 rfl).trans ((row_new 39 4 none).trans (show Lands _ (rowP 3 1 (some ⟨b49, 0, none⟩) 1 1 [.int .i64 (1 : Nat)] :: rowP 39 4 none 0 0 [] :: rowP 39 4 fa 6 fc ((fw 6).flatMap EnvD.cells) :: At treeI q (tS0 k.p) :: At worldI k ⟨l, S⟩ :: At logI p ⟨k.p, q, 1, [], []⟩ :: F) from .fin))))) ?_
    intro ⟨i, st, l, ds, Es, on, da, dc, wa, wc⟩ hi ih1
    clear hx1 hx2 hr1 hr2 hi1
    obtain ⟨⟨hi1, hEl, hon, hd0⟩, hll, hch, hfw⟩ := hi
    dsimp only at hi1 hEl hon hd0 hll hch hfw ih1 ⊢
    refine SC_seq ?_
    refine SC_seq ?_
    refine SC_region ?_
    refine SR_pu (RD_move rfl) rfl ?_
    refine SR_pu (RD_move rfl) rfl ?_
    refine SR_pu (RD_lss rfl rfl) rfl ?_
    refine SR_nil ?_
    refine SN.le (l := [(0, _), (1, _), (6, _), (7, _), (8, _), (10, _), (11, _), (12, _), (13, _), (14, _), (15, _), (61, _)]) ?_ (.cons rfl (.cons rfl (.cons rfl (.cons rfl (.cons rfl (.cons rfl (.cons rfl (.cons rfl (.cons rfl (.cons rfl (.cons rfl (.cons rfl (.nil)))))))))))))
    refine SN_seq ?_
    refine SC_cond rfl (fun hc61 => ?_) (fun hc61 => ?_)
    · have hin : i < N := by simp at hc61; omega
      obtain ⟨z, hz⟩ : ∃ z, l0[i]? = some z := ⟨_, List.getElem?_eq_getElem (by omega)⟩
      refine SC_skip ?_
      refine SN_seq ?_
      refine SC_seq ?_
      refine SC_block ?_
      refine SC_seq ?_
      refine SC_region ?_
      refine SR_pu (RD_move rfl) rfl ?_
      refine SR_pu (RD_addi rfl rfl (by omega) (by omega)) rfl ?_
      refine SR_pu (RD_move rfl) rfl ?_
      refine SR_pu (RD_move rfl) rfl ?_
      refine SR_pu (RD_build (.cons rfl (.cons rfl (.nil))) built30_0_1) rfl ?_
      refine SR_pu (RD_build (.cons rfl (.cons rfl (.nil))) built33_0_2) rfl ?_
      refine SR_ox (OX_alloc Try.zeroValue33 rfl) rfl ?_
      rintro _ _ ⟨b16, rfl, rfl⟩
      refine SR_ox0 (OX_stA Try.sizeOf33 rfl rfl rfl rfl) ?_
      rintro _ _ rfl
      refine SR_nil ?_
      refine SN.le (l := [(0, _), (1, _), (6, _), (7, _), (8, _), (11, _), (12, _), (13, _), (14, _), (15, _), (16, _)]) ?_ (.cons rfl (.cons rfl (.cons rfl (.cons rfl (.cons rfl (.cons rfl (.cons rfl (.cons rfl (.cons rfl (.cons rfl (.cons rfl (.nil))))))))))))
      refine SN_seq ?_
      refine SC_seq ?_
      refine SC_seq ?_
      refine SC_region ?_
      refine SR_pu (RD_assign rfl) rfl ?_
      refine SR_nil ?_
      refine SN.le (l := [(0, _), (1, _), (6, _), (7, _), (8, _), (11, _), (12, _), (13, _), (14, _), (15, _), (16, _), (17, _)]) ?_ (.cons rfl (.cons rfl (.cons rfl (.cons rfl (.cons rfl (.cons rfl (.cons rfl (.cons rfl (.cons rfl (.cons rfl (.cons rfl (.cons rfl (.nil)))))))))))))
      refine SN_seq ?_
      refine SC_block ?_
      refine SC_ind (X := Nat × List EnvD × Option Addr × Nat) (fun x => x.1 ≤ 6 ∧ x.2.1.length ≤ x.1 ∧ ∀ e ∈ x.2.1, e ∈ fw 6) (fun x => 6 - x.1) (fun x => [(0, .slice a0 n0 c0), (1, .int .i64 (u : Nat)), (6, .pointer (some ⟨q, 0, none⟩)), (7, .pointer (some ⟨p, 0, none⟩)), (8, .slice fa 6 fc), (11, .int .i64 (i : Nat)), (12, .slice da (i + 1) dc), (13, .slice wa (EV Es (min i u)).length wc), (14, .int .i64 (N : Nat)), (15, .int .i64 (i : Nat)), (16, .pointer (some ⟨b16, 0, none⟩)), (17, .int .i64 (x.1 : Nat))]) (fun x => rowP 39 4 x.2.2.1 (x.2.1).length x.2.2.2 ((x.2.1).flatMap EnvD.cells) :: pt b16 (.cells [.int .i64 ((i : Int) + 1), .int .i64 0, .int .i64 (i : Nat), .int .i64 on, .slice none 0 0, .slice x.2.2.1 (x.2.1).length x.2.2.2].toArray 33) :: rowP 3 1 da (i + 1) dc (ds.map intV) :: rowP 39 4 wa (EV Es (min i u)).length wc ((EV Es (min i u)).flatMap EnvD.cells) :: rowP 39 4 fa 6 fc ((fw 6).flatMap EnvD.cells) :: At treeI q st :: At worldI k ⟨l, S⟩ :: At logI p ⟨k.p, q, 1, [], []⟩ :: F) ((0, [], none, 0)) (⟨by simp, by simp, fun e he => nomatch he⟩) (.cons rfl (.cons rfl (.cons rfl (.cons rfl (.cons rfl (.cons rfl (.cons rfl (.cons rfl (.cons rfl (.cons rfl (.cons rfl (.cons rfl (.nil))))))))))))) (((row_new 39 4 none).trans (show Lands _ (rowP 39 4 none 0 0 [] :: pt b16 (.cells [.int .i64 ((i : Int) + 1), .int .i64 0, .int .i64 (i : Nat), .int .i64 on, .slice none 0 0, .slice none 0 0].toArray 33) :: rowP 3 1 da (i + 1) dc (ds.map intV) :: rowP 39 4 wa (EV Es (min i u)).length wc ((EV Es (min i u)).flatMap EnvD.cells) :: rowP 39 4 fa 6 fc ((fw 6).flatMap EnvD.cells) :: At treeI q st :: At worldI k ⟨l, S⟩ :: At logI p ⟨k.p, q, 1, [], []⟩ :: F) from .fin))) ?_
      intro ⟨j, E, ea, ec⟩ hi ih2
      obtain ⟨hj1, hj2, hj3⟩ := hi
      dsimp only at hj1 hj2 hj3 ih2 ⊢
      refine SC_seq ?_
      refine SC_seq ?_
      refine SC_region ?_
      refine SR_pu (RD_move rfl) rfl ?_
      refine SR_pu (RD_lss rfl rfl) rfl ?_
      refine SR_nil ?_
      refine SN.le (l := [(0, _), (1, _), (6, _), (7, _), (8, _), (11, _), (12, _), (13, _), (14, _), (15, _), (16, _), (17, _), (71, _)]) ?_ (.cons rfl (.cons rfl (.cons rfl (.cons rfl (.cons rfl (.cons rfl (.cons rfl (.cons rfl (.cons rfl (.cons rfl (.cons rfl (.cons rfl (.cons rfl (.nil))))))))))))))
      refine SN_seq ?_
      refine SC_cond rfl (fun hc71 => ?_) (fun hc71 => ?_)
      · have hjn : j < 6 := by simp at hc71; omega
        obtain ⟨e, he⟩ : ∃ e, (fw 6)[5 - j]? = some e := ⟨_, List.getElem?_eq_getElem (by rw [fw_len]; omega)⟩
        refine SC_skip ?_
        refine SN_seq ?_
        refine SC_seq ?_
        refine SC_block ?_
        refine SC_seq ?_
        refine SC_region ?_
        refine SR_pu (RD_move rfl) rfl ?_
        refine SR_pu (RD_move rfl) rfl ?_
        refine SR_rd (RD_ixO (i := (i : Nat)) (cs := l0.map intV) Try.runUnderlying22 Try.sizeOf3 rfl rfl (by simpa using hn0) (by omega) (by omega)) Has.ro rfl ?_
        refine SR_rd (RD_loadO (v := intV z) (cs := l0.map intV) Try.isAgg3 rfl (by simp [hz])) Has.ro rfl ?_
        refine SR_pu (RD_move rfl) rfl ?_
        first
          | refine SR_pu (RD_conv64 Try.runUnderlying3 Try.runUnderlying40 rfl (by omega) (by omega)) rfl ?_
          | refine SR_pu (RD_convI Try.runUnderlying3 Try.runUnderlying40 rfl) rfl ?_
        refine SR_pu (RD_shr rfl rfl (by omega)) rfl ?_
        refine SR_pu (RD_mask 1 rfl rfl rfl (by decide) 2 rfl) rfl ?_
        refine SR_pu (RD_eql rfl rfl) rfl ?_
        refine SR_nil ?_
        refine SN.le (l := [(0, _), (1, _), (6, _), (7, _), (8, _), (11, _), (12, _), (13, _), (14, _), (15, _), (16, _), (17, _), (82, _)]) ?_ (.cons rfl (.cons rfl (.cons rfl (.cons rfl (.cons rfl (.cons rfl (.cons rfl (.cons rfl (.cons rfl (.cons rfl (.cons rfl (.cons rfl (.cons rfl (.nil))))))))))))))
        refine SN_seq ?_
        refine SC_cond rfl (fun hc82 => ?_) (fun hc82 => ?_)
        · refine SC_drawn (.cons 0 true (.cons 1 true (.cons 2 true (.cons 3 true (.cons 4 true (.cons 5 true (.cons 6 true (.cons 7 false (.cons 8 false (.cons 9 true (.cons 10 false (.nil)))))))))))) (by kernel_rfl) (by kernel_rfl) ?_
          first
            | refine SQ_pu rfl (RD_fieldAddr 5 Try.runUnderlying33 rfl rfl Try.sizeOf31 rfl) rfl ?_
            | refine SQ_rd rfl (RD_fieldAddrO 5 Try.runUnderlying33 rfl rfl Try.sizeOf31 rfl (by simp <;> omega)) Has.ro rfl ?_
          refine SQ_rd rfl (RD_load Try.isAgg31 rfl) (Has.ce rfl) rfl ?_
          refine SQ_pu rfl (RD_move rfl) rfl ?_
          refine SQ_pu rfl (RD_move rfl) rfl ?_
          refine SQ_pu rfl (RD_subi rfl rfl (by omega) (by omega)) rfl ?_
          refine SQ_rd rfl (RD_ixO (i := ((5 - j : Nat) : Int)) (cs := (fw 6).flatMap EnvD.cells) Try.runUnderlying31 Try.sizeOf39 rfl (congrArg some (ie (by omega))) (by rw [env_len, fw_len]) (by omega) (by omega)) Has.ro rfl ?_
          refine SQ_rd rfl (RD_loadAO (vs := EnvD.cells e) (cs := (fw 6).flatMap EnvD.cells) Try.isAgg39 Try.sizeOf39 rfl rfl (by decide) (fun o v h => by have ho : o < 4 := (List.getElem?_eq_some_iff.1 h).1; rw [show (((5 - j) : Nat) : Int).toNat * (3 + 1) + o = (5 - j) * 4 + o by omega, env_get he o ho]; exact h)) Has.ro rfl ?_
          refine SQ_ox rfl (OX_lit Try.underlying31 Try.type39 rfl rfl rfl rfl (.cons rfl (.nil)) (.cons rfl rfl (.nil))) rfl ?_
          rintro _ _ ⟨b90, rfl, rfl⟩
          refine ⟨.w rfl (.h Has.ro (.h (Has.ce rfl) (.nil))), ?_⟩
          refine SQ_ox rfl (OX_app 4 Try.underlying31 Try.underlying31 Try.type39 rfl rfl rfl rfl rfl (by simp [EnvD.cells]) 32 rfl (by omega) (by omega)) rfl ?_
          rintro _ _ ⟨a91, c91, rfl, rfl⟩
          refine ⟨.h Has.ro (.h Has.ro (.w rfl (.nil))), ?_⟩
          first
            | refine SQ_pu rfl (RD_fieldAddr 5 Try.runUnderlying33 rfl rfl Try.sizeOf31 rfl) rfl ?_
            | refine SQ_rd rfl (RD_fieldAddrO 5 Try.runUnderlying33 rfl rfl Try.sizeOf31 rfl (by simp <;> omega)) Has.ro rfl ?_
          refine SQ_ox0 rfl (OX_st Try.sizeOf31 rfl rfl) ?_
          rintro _ _ rfl
          refine ⟨.w rfl (.w rfl (.w rfl (.nil))), ?_⟩
          refine SQ_nil ?_
          refine SN.le (l := [(0, _), (1, _), (6, _), (7, _), (8, _), (11, _), (12, _), (13, _), (14, _), (15, _), (16, _), (17, _)]) ?_ (.cons rfl (.cons rfl (.cons rfl (.cons rfl (.cons rfl (.cons rfl (.cons rfl (.cons rfl (.cons rfl (.cons rfl (.cons rfl (.cons rfl (.nil)))))))))))))
          rw [show EnvD.cells e ++ [] = [e].flatMap EnvD.cells from rfl]
          refine SN_block ?_
          refine SN_seq ?_
          refine SC_region ?_
          refine SR_pu (RD_move rfl) rfl ?_
          refine SR_pu (RD_addi rfl rfl (by omega) (by omega)) rfl ?_
          refine SR_pu (RD_assign rfl) rfl ?_
          refine SR_nil ?_
          refine SN.le (l := [(0, _), (1, _), (6, _), (7, _), (8, _), (11, _), (12, _), (13, _), (14, _), (15, _), (16, _), (17, _)]) ?_ (.cons rfl (.cons rfl (.cons rfl (.cons rfl (.cons rfl (.cons rfl (.cons rfl (.cons rfl (.cons rfl (.cons rfl (.cons rfl (.cons rfl (.nil)))))))))))))
          refine SC_again (ih2 ((j + 1, E ++ [e], a91, c91)) (⟨by dsimp only; omega, by simp; omega, fun x hx => (List.mem_append.1 hx).elim (hj3 x) fun h => by simp at h; subst h; exact List.mem_of_getElem? he⟩) (by dsimp only; omega)) (by dsimp only; rw [List.length_append, List.flatMap_append]; exact .fin) (.cons rfl (.cons rfl (.cons rfl (.cons rfl (.cons rfl (.cons rfl (.cons rfl (.cons rfl (.cons rfl (.cons rfl (.cons rfl (.cons' rfl (ie (by dsimp only; omega)) (.nil)))))))))))))
        · refine SC_skip ?_
          refine SN_block ?_
          refine SN_seq ?_
          refine SC_region ?_
          refine SR_pu (RD_move rfl) rfl ?_
          refine SR_pu (RD_addi rfl rfl (by omega) (by omega)) rfl ?_
          refine SR_pu (RD_assign rfl) rfl ?_
          refine SR_nil ?_
          refine SN.le (l := [(0, _), (1, _), (6, _), (7, _), (8, _), (11, _), (12, _), (13, _), (14, _), (15, _), (16, _), (17, _)]) ?_ (.cons rfl (.cons rfl (.cons rfl (.cons rfl (.cons rfl (.cons rfl (.cons rfl (.cons rfl (.cons rfl (.cons rfl (.cons rfl (.cons rfl (.nil)))))))))))))
          refine SC_again (ih2 ((j + 1, E, ea, ec)) (⟨by dsimp only; omega, by dsimp only; omega, hj3⟩) (by dsimp only; omega)) (.fin) (.cons rfl (.cons rfl (.cons rfl (.cons rfl (.cons rfl (.cons rfl (.cons rfl (.cons rfl (.cons rfl (.cons rfl (.cons rfl (.cons' rfl (ie (by dsimp only; omega)) (.nil)))))))))))))
      · clear ih2
        have hA := hch.add (E := E) (fun e he => fw_good (hj3 e he)) (by omega) (by omega) (by omega) (p := on) (by rw [hEl]; exact hon)
        rw [hEl] at hA
        obtain ⟨D, st2, hadd, hch2⟩ := hA
        have hbl := blkL_len l ⟨(i : Int) + 1, 0, (i : Int), on, [], E⟩
        dsimp only at hbl
        obtain ⟨l2, hl2⟩ : ∃ l2, blkL l ⟨(i : Int) + 1, 0, (i : Int), on, [], E⟩ = l2 := ⟨_, rfl⟩
        rw [hl2] at hadd hch2 hbl
        have hdl := hch.len
        refine SC_exit rfl ?_
        refine SN_seq ?_
        refine SC_seq ?_
        refine SC_seq ?_
        refine SC_region ?_
        refine SR_pu (RD_move rfl) rfl ?_
        refine SR_pu (RD_move rfl) rfl ?_
        refine SR_pu (RD_lss rfl rfl) rfl ?_
        refine SR_nil ?_
        refine SN.le (l := [(0, _), (1, _), (6, _), (7, _), (8, _), (11, _), (12, _), (13, _), (14, _), (15, _), (16, _), (95, _)]) ?_ (.cons rfl (.cons rfl (.cons rfl (.cons rfl (.cons rfl (.cons rfl (.cons rfl (.cons rfl (.cons rfl (.cons rfl (.cons rfl (.cons rfl (.nil)))))))))))))
        refine SN_seq ?_
        refine SC_cond rfl (fun hc95 => ?_) (fun hc95 => ?_)
        · have hiu : i < u := by simp at hc95; omega
          have hw : EV (Es ++ [E]) (min (i + 1) u) = growE (EV Es (min i u)) E := by
            rw [show min (i + 1) u = i + 1 by omega, show min i u = i by omega, EV_succ (by rw [List.getElem?_append_right (by omega), hEl, Nat.sub_self]; rfl), EV_app (by omega)]
          have hsix := EV_six hfw (min i u)
          refine SC_region ?_
          refine SR_pu (RD_move rfl) rfl ?_
          first
            | refine SR_pu (RD_fieldAddr 5 Try.runUnderlying33 rfl rfl Try.sizeOf31 rfl) rfl ?_
            | refine SR_rd (RD_fieldAddrO 5 Try.runUnderlying33 rfl rfl Try.sizeOf31 rfl (by simp <;> omega)) Has.ro rfl ?_
          refine SR_rd (RD_load Try.isAgg31 rfl) (Has.ce rfl) rfl ?_
          refine SR_call Try.call44 (.cons rfl (.cons rfl (.nil))) (ref_grow wa (EV Es (min i u)).length wc (EV Es (min i u)) rfl rfl ea E.length ec E rfl rfl (by omega) (by omega)) (lts rfl) ?_
          rintro _ L5 ⟨oa, oc, rfl, hL5⟩
          refine SR.lands hL5 ?_
          refine SR_pu (RD_assign rfl) rfl ?_
          refine SR_nil ?_
          refine SN.le (l := [(0, _), (1, _), (6, _), (7, _), (8, _), (11, _), (12, _), (13, _), (14, _), (15, _), (16, _)]) ?_ (.cons rfl (.cons rfl (.cons rfl (.cons rfl (.cons rfl (.cons rfl (.cons rfl (.cons rfl (.cons rfl (.cons rfl (.cons rfl (.nil))))))))))))
          refine SN_seq ?_
          refine SC_seq ?_
          refine SC_region ?_
          refine SR_pu (RD_move rfl) rfl ?_
          refine SR_rd (RD_loadA (vs := BlkD.cells ⟨(i : Int) + 1, 0, (i : Nat), on, ⟨none, 0, 0, []⟩, ⟨ea, E.length, ec, E⟩⟩) Try.isAgg33 Try.sizeOf33 rfl rfl) Has.wh rfl ?_
          refine SR_call Try.call39 (.cons rfl (.cons rfl (.nil))) (CallsK.at2 (tree_Add' q st k hch.w ⟨l, S⟩ ⟨(i : Int) + 1, 0, (i : Nat), on, ⟨none, 0, 0, []⟩, ⟨ea, E.length, ec, E⟩⟩ rfl rfl ⟨rfl, rfl, by simp, by dsimp only; omega, fun e he => (fw_good (hj3 e he)).2.2⟩ (by dsimp only; omega) D 0 st2 l2 hadd)) (lts rfl) ?_
          rintro _ L6 ⟨rfl, hL6⟩
          try dsimp only at hL6
          refine SR.lands hL6 ?_
          refine SR_pu (RD_move rfl) rfl ?_
          refine SR_pu (RD_extract (v := .int .i64 D) rfl rfl) rfl ?_
          refine SR_pu (RD_extract (v := .int .i64 0) rfl rfl) rfl ?_
          refine SR_pu (RD_assign rfl) rfl ?_
          refine SR_pu (RD_assign rfl) rfl ?_
          refine SR_nil ?_
          refine SN.le (l := [(0, _), (1, _), (6, _), (7, _), (8, _), (11, _), (12, _), (13, _), (14, _), (15, _), (18, _), (19, _)]) ?_ (.cons rfl (.cons rfl (.cons rfl (.cons rfl (.cons rfl (.cons rfl (.cons rfl (.cons rfl (.cons rfl (.cons rfl (.cons rfl (.cons rfl (.nil)))))))))))))
          refine SN_seq ?_
          refine SC_seq ?_
          refine SC_seq ?_
          refine SC_region ?_
          refine SR_pu (RD_move rfl) rfl ?_
          refine SR_pu (RD_neq rfl rfl) rfl ?_
          refine SR_nil ?_
          refine SN.le (l := [(0, _), (1, _), (6, _), (7, _), (8, _), (11, _), (12, _), (13, _), (14, _), (15, _), (18, _), (107, _)]) ?_ (.cons rfl (.cons rfl (.cons rfl (.cons rfl (.cons rfl (.cons rfl (.cons rfl (.cons rfl (.cons rfl (.cons rfl (.cons rfl (.cons rfl (.nil)))))))))))))
          refine SN_seq ?_
          refine SC_cond_false rfl (rfl) ?_
          refine SC_skip ?_
          refine SN_seq ?_
          refine SC_seq ?_
          refine SC_region ?_
          refine SR_pu (RD_move rfl) rfl ?_
          refine SR_pu (RD_move rfl) rfl ?_
          refine SR_pu (RD_addi rfl rfl (by omega) (by omega)) rfl ?_
          refine SR_pu (RD_assign rfl) rfl ?_
          refine SR_pu (RD_assign rfl) rfl ?_
          refine SR_nil ?_
          refine SN.le (l := [(0, _), (1, _), (6, _), (7, _), (8, _), (10, _), (11, _), (12, _), (13, _), (14, _), (15, _), (18, _)]) ?_ (.cons rfl (.cons rfl (.cons rfl (.cons rfl (.cons rfl (.cons rfl (.cons rfl (.cons rfl (.cons rfl (.cons rfl (.cons rfl (.cons rfl (.nil)))))))))))))
          refine SN_seq ?_
          refine SC_region ?_
          refine SR_pu (RD_move rfl) rfl ?_
          refine SR_pu (RD_move rfl) rfl ?_
          refine SR_ox (OX_lit1 Try.underlying22 Try.type3 rfl rfl rfl rfl (.cons rfl (.nil)) (.cons rfl (.nil))) rfl ?_
          rintro _ _ ⟨b113, rfl, rfl⟩
          refine SR_ox (OX_app 1 Try.underlying22 Try.underlying22 Try.type3 rfl rfl rfl rfl rfl (by first | rfl | simp; done | (simp; omega)) 8 rfl (by omega) (by omega)) rfl ?_
          rintro _ _ ⟨a114, c114, rfl, rfl⟩
          refine SR_pu (RD_assign rfl) rfl ?_
          refine SR_nil ?_
          refine SN.le (l := [(0, _), (1, _), (6, _), (7, _), (8, _), (10, _), (11, _), (12, _), (13, _), (14, _), (15, _)]) ?_ (.cons rfl (.cons rfl (.cons rfl (.cons rfl (.cons rfl (.cons rfl (.cons rfl (.cons rfl (.cons rfl (.cons rfl (.cons rfl (.nil))))))))))))
          rw [show ds.map intV ++ [Value.int .i64 D] = (ds ++ [D]).map intV by simp [intV]]
          refine SN_block ?_
          refine SN_seq ?_
          refine SC_region ?_
          refine SR_pu (RD_move rfl) rfl ?_
          refine SR_pu (RD_addi rfl rfl (by omega) (by omega)) rfl ?_
          refine SR_pu (RD_assign rfl) rfl ?_
          refine SR_nil ?_
          refine SN.le (l := [(0, _), (1, _), (6, _), (7, _), (8, _), (10, _), (11, _), (12, _), (13, _), (14, _), (15, _)]) ?_ (.cons rfl (.cons rfl (.cons rfl (.cons rfl (.cons rfl (.cons rfl (.cons rfl (.cons rfl (.cons rfl (.cons rfl (.cons rfl (.nil))))))))))))
          refine SC_again (ih1 ((i + 1, st2, l2, ds ++ [D], Es ++ [E], D, a114, c114, oa, oc)) (⟨⟨by dsimp only; omega, by simp [hEl], by dsimp only; rw [List.getElem?_append_right (by omega)]; simp [hdl, hEl], by dsimp only; rw [List.getElem?_append_left (by omega)]; exact hd0⟩, by dsimp only; omega, hch2, fun E2 hE2 => (List.mem_append.1 hE2).elim (hfw E2) fun h => by simp at h; subst h; exact hj3⟩) (by dsimp only; omega)) (by dsimp only; rw [hw]; exact .fin) (.cons rfl (.cons rfl (.cons rfl (.cons rfl (.cons rfl (.cons rfl (.cons' rfl (ie (by dsimp only; omega)) (.cons rfl (.cons' rfl (by dsimp only; rw [hw]) (.cons rfl (.cons' rfl (ie (by dsimp only; omega)) (.nil))))))))))))
        · have hiu : ¬ i < u := by simp at hc95; omega
          have hw : EV (Es ++ [E]) (min (i + 1) u) = EV Es (min i u) := by
            rw [show min (i + 1) u = min i u by omega, EV_app (by omega)]
          refine SC_skip ?_
          refine SN_seq ?_
          refine SC_seq ?_
          refine SC_region ?_
          refine SR_pu (RD_move rfl) rfl ?_
          refine SR_rd (RD_loadA (vs := BlkD.cells ⟨(i : Int) + 1, 0, (i : Nat), on, ⟨none, 0, 0, []⟩, ⟨ea, E.length, ec, E⟩⟩) Try.isAgg33 Try.sizeOf33 rfl rfl) Has.wh rfl ?_
          refine SR_call Try.call39 (.cons rfl (.cons rfl (.nil))) (CallsK.at2 (tree_Add' q st k hch.w ⟨l, S⟩ ⟨(i : Int) + 1, 0, (i : Nat), on, ⟨none, 0, 0, []⟩, ⟨ea, E.length, ec, E⟩⟩ rfl rfl ⟨rfl, rfl, by simp, by dsimp only; omega, fun e he => (fw_good (hj3 e he)).2.2⟩ (by dsimp only; omega) D 0 st2 l2 hadd)) (lts rfl) ?_
          rintro _ L6 ⟨rfl, hL6⟩
          try dsimp only at hL6
          refine SR.lands hL6 ?_
          refine SR_pu (RD_move rfl) rfl ?_
          refine SR_pu (RD_extract (v := .int .i64 D) rfl rfl) rfl ?_
          refine SR_pu (RD_extract (v := .int .i64 0) rfl rfl) rfl ?_
          refine SR_pu (RD_assign rfl) rfl ?_
          refine SR_pu (RD_assign rfl) rfl ?_
          refine SR_nil ?_
          refine SN.le (l := [(0, _), (1, _), (6, _), (7, _), (8, _), (11, _), (12, _), (13, _), (14, _), (15, _), (18, _), (19, _)]) ?_ (.cons rfl (.cons rfl (.cons rfl (.cons rfl (.cons rfl (.cons rfl (.cons rfl (.cons rfl (.cons rfl (.cons rfl (.cons rfl (.cons rfl (.nil)))))))))))))
          refine SN_seq ?_
          refine SC_seq ?_
          refine SC_seq ?_
          refine SC_region ?_
          refine SR_pu (RD_move rfl) rfl ?_
          refine SR_pu (RD_neq rfl rfl) rfl ?_
          refine SR_nil ?_
          refine SN.le (l := [(0, _), (1, _), (6, _), (7, _), (8, _), (11, _), (12, _), (13, _), (14, _), (15, _), (18, _), (107, _)]) ?_ (.cons rfl (.cons rfl (.cons rfl (.cons rfl (.cons rfl (.cons rfl (.cons rfl (.cons rfl (.cons rfl (.cons rfl (.cons rfl (.cons rfl (.nil)))))))))))))
          refine SN_seq ?_
          refine SC_cond_false rfl (rfl) ?_
          refine SC_skip ?_
          refine SN_seq ?_
          refine SC_seq ?_
          refine SC_region ?_
          refine SR_pu (RD_move rfl) rfl ?_
          refine SR_pu (RD_move rfl) rfl ?_
          refine SR_pu (RD_addi rfl rfl (by omega) (by omega)) rfl ?_
          refine SR_pu (RD_assign rfl) rfl ?_
          refine SR_pu (RD_assign rfl) rfl ?_
          refine SR_nil ?_
          refine SN.le (l := [(0, _), (1, _), (6, _), (7, _), (8, _), (10, _), (11, _), (12, _), (13, _), (14, _), (15, _), (18, _)]) ?_ (.cons rfl (.cons rfl (.cons rfl (.cons rfl (.cons rfl (.cons rfl (.cons rfl (.cons rfl (.cons rfl (.cons rfl (.cons rfl (.cons rfl (.nil)))))))))))))
          refine SN_seq ?_
          refine SC_region ?_
          refine SR_pu (RD_move rfl) rfl ?_
          refine SR_pu (RD_move rfl) rfl ?_
          refine SR_ox (OX_lit1 Try.underlying22 Try.type3 rfl rfl rfl rfl (.cons rfl (.nil)) (.cons rfl (.nil))) rfl ?_
          rintro _ _ ⟨b113, rfl, rfl⟩
          refine SR_ox (OX_app 1 Try.underlying22 Try.underlying22 Try.type3 rfl rfl rfl rfl rfl (by first | rfl | simp; done | (simp; omega)) 8 rfl (by omega) (by omega)) rfl ?_
          rintro _ _ ⟨a114, c114, rfl, rfl⟩
          refine SR_pu (RD_assign rfl) rfl ?_
          refine SR_nil ?_
          refine SN.le (l := [(0, _), (1, _), (6, _), (7, _), (8, _), (10, _), (11, _), (12, _), (13, _), (14, _), (15, _)]) ?_ (.cons rfl (.cons rfl (.cons rfl (.cons rfl (.cons rfl (.cons rfl (.cons rfl (.cons rfl (.cons rfl (.cons rfl (.cons rfl (.nil))))))))))))
          rw [show ds.map intV ++ [Value.int .i64 D] = (ds ++ [D]).map intV by simp [intV]]
          refine SN_block ?_
          refine SN_seq ?_
          refine SC_region ?_
          refine SR_pu (RD_move rfl) rfl ?_
          refine SR_pu (RD_addi rfl rfl (by omega) (by omega)) rfl ?_
          refine SR_pu (RD_assign rfl) rfl ?_
          refine SR_nil ?_
          refine SN.le (l := [(0, _), (1, _), (6, _), (7, _), (8, _), (10, _), (11, _), (12, _), (13, _), (14, _), (15, _)]) ?_ (.cons rfl (.cons rfl (.cons rfl (.cons rfl (.cons rfl (.cons rfl (.cons rfl (.cons rfl (.cons rfl (.cons rfl (.cons rfl (.nil))))))))))))
          refine SC_again (ih1 ((i + 1, st2, l2, ds ++ [D], Es ++ [E], D, a114, c114, wa, wc)) (⟨⟨by dsimp only; omega, by simp [hEl], by dsimp only; rw [List.getElem?_append_right (by omega)]; simp [hdl, hEl], by dsimp only; rw [List.getElem?_append_left (by omega)]; exact hd0⟩, by dsimp only; omega, hch2, fun E2 hE2 => (List.mem_append.1 hE2).elim (hfw E2) fun h => by simp at h; subst h; exact hj3⟩) (by dsimp only; omega)) (by dsimp only; rw [hw]; exact .fin) (.cons rfl (.cons rfl (.cons rfl (.cons rfl (.cons rfl (.cons rfl (.cons' rfl (ie (by dsimp only; omega)) (.cons rfl (.cons' rfl (by dsimp only; rw [hw]) (.cons rfl (.cons' rfl (ie (by dsimp only; omega)) (.nil))))))))))))
    · have hin : i = N := by simp at hc61; omega
      subst hin
      clear ih1
      rw [show min i u = u by omega]
      have hroot : st.root = 1 := by have h := hch.at0; rw [hd0] at h; injection h with h; exact h.symm
      have hdl := hch.len
      obtain ⟨y, hy⟩ : ∃ y, ds[u]? = some y := ⟨_, List.getElem?_eq_getElem (by omega)⟩
      have hcm : LS.commit l st ⟨k.p, q, 1, [], []⟩ y = (true, ⟨k.p, q, y, EV Es u, numsE l (EV Es u)⟩) := hch.commit (w := k.p) (t := q) hd0 hy (m := u) (by omega) hy
      have hsix := EV_six hfw u
      have hvw := hch.views (by omega)
      obtain ⟨yb, hyb, _⟩ := hch.at hy
      obtain ⟨rb, hrb, _⟩ := hch.at hd0
      refine SC_exit rfl ?_
      refine SN_seq ?_
      refine SC_seq ?_
      refine SC_seq ?_
      refine SC_drawn (.cons 0 true (.cons 1 true (.cons 2 true (.cons 3 true (.cons 4 true (.cons 5 false (.cons 6 true (.cons 7 true (.cons 8 true (.cons 10 true (.cons 11 true (.cons 9 false (.cons 12 true (.cons 13 true (.cons 14 true (.cons 15 true (.cons 17 true (.cons 16 false (.cons 18 false (.cons 19 true (.cons 20 true (.cons 21 true (.cons 22 true (.cons 24 true (.cons 25 true (.cons 26 true (.cons 27 true (.cons 23 false (.cons 28 true (.cons 29 true (.nil))))))))))))))))))))))))))))))) (by kernel_rfl) (by kernel_rfl) ?_
      refine SQ_pu rfl (RD_move rfl) rfl ?_
      refine SQ_pu rfl (RD_move rfl) rfl ?_
      refine SQ_pu rfl (RD_move rfl) rfl ?_
      refine SQ_rd rfl (RD_ixO (i := (u : Nat)) (cs := ds.map intV) Try.runUnderlying22 Try.sizeOf3 rfl rfl (by simp; omega) (by omega) (by omega)) Has.ro rfl ?_
      refine SQ_rd rfl (RD_loadO (v := intV y) (cs := ds.map intV) Try.isAgg3 rfl (by simp [hy])) Has.ro rfl ?_
      refine SQ_call rfl Try.call40 (.cons rfl (.cons rfl (.nil))) (CallsK.at3 (clog_Commit_yes' p q ⟨k.p, q, 1, [], []⟩ rfl st k ⟨l, S⟩ rfl hch.ok y ⟨_, hyb⟩ ⟨_, hrb⟩ (hvw y) (hvw 1) hch.arena (by simp) (by dsimp only; omega) true ⟨k.p, q, y, EV Es u, numsE l (EV Es u)⟩ hcm)) (lts rfl) ?_
      rintro _ L7 ⟨rfl, hL7⟩
      refine ⟨.lands hL7 (.w rfl (.h Has.ro (.nil))), ?_⟩
      refine SQ.lands hL7 ?_
      refine SQ_pu rfl (RD_not rfl) rfl ?_
      refine SQ_pu rfl (RD_move rfl) rfl ?_
      refine SQ_pyes rfl rfl rfl (by first | rfl | (simp; done)) (RD_move rfl) rfl ?_
      refine SQ_pyes rfl rfl rfl (by first | rfl | (simp; done)) (RD_move rfl) rfl ?_
      refine SQ_pyes rfl rfl rfl (by first | rfl | (simp; done)) (RD_len Try.runUnderlying31 rfl) rfl ?_
      refine SQ_one (SA_call rfl (.mk rfl rfl (by first | rfl | (simp; done))) Try.call45 (.cons rfl (.nil)) (CallsK.at (clog_Len p ⟨k.p, q, y, EV Es u, numsE l (EV Es u)⟩)) (lts rfl) ?_)
      rintro _ L8 ⟨rfl, hL8⟩
      refine ⟨.lands hL8 (.h Has.ro (.h Has.ro (.nil))), ?_⟩
      dsimp only
      refine SQ.lands hL8 ?_
      refine SQ_pyes rfl rfl rfl (by first | rfl | (simp; done)) (RD_neq rfl rfl) rfl ?_
      refine SQ_pu rfl (RD_pick_f rfl (by first | rfl | (simp; done)) rfl) rfl ?_
      refine SQ_pu rfl (RD_move rfl) rfl ?_
      refine SQ_pyes rfl rfl rfl (by first | rfl | (simp; done)) (RD_move rfl) rfl ?_
      refine SQ_pyes rfl rfl rfl (by first | rfl | (simp; done)) (RD_move rfl) rfl ?_
      refine SQ_one (SA_call rfl (.mk rfl rfl (by first | rfl | (simp; done))) Try.call41 (.cons rfl (.nil)) (CallsK.at (clog_Envs p ⟨k.p, q, y, EV Es u, numsE l (EV Es u)⟩ (by dsimp only; omega))) (lts rfl) ?_)
      rintro _ L9 ⟨va, vc, rfl, hL9⟩
      dsimp only at hL9
      refine ⟨.lands hL9 (.h Has.ro (.h Has.ro (.nil))), ?_⟩
      dsimp only
      refine SQ.lands hL9 ?_
      refine SQ_one (SA_call rfl (.mk rfl rfl (by first | rfl | (simp; done))) Try.call18 (.cons rfl (.cons rfl (.nil))) (ref_Same14 va (EV Es u).length vc (EV Es u) rfl rfl wa (EV Es u).length wc (EV Es u) rfl rfl (by omega)) (lts rfl) ?_)
      rintro _ L10 ⟨rfl, hL10⟩
      refine ⟨.lands hL10 (.h Has.ro (.h Has.ro (.nil))), ?_⟩
      rw [decide_eq_true rfl]
      refine SQ.lands hL10 ?_
      refine SQ_pyes rfl rfl rfl (by first | rfl | (simp; done)) (RD_not rfl) rfl ?_
      refine SQ_pu rfl (RD_pick_f rfl (by first | rfl | (simp; done)) rfl) rfl ?_
      refine SQ_pu rfl (RD_move rfl) rfl ?_
      refine SQ_pyes rfl rfl rfl (by first | rfl | (simp; done)) (RD_move rfl) rfl ?_
      refine SQ_pyes rfl rfl rfl (by first | rfl | (simp; done)) (RD_move rfl) rfl ?_
      refine SQ_pyes rfl rfl rfl (by first | rfl | (simp; done)) (RD_move rfl) rfl ?_
      refine SQ_yes rfl rfl rfl (by first | rfl | (simp; done)) (RD_ixO (i := (u : Nat)) (cs := ds.map intV) Try.runUnderlying22 Try.sizeOf3 rfl rfl (by simp; omega) (by omega) (by omega)) Has.ro rfl ?_
      refine SQ_yes rfl rfl rfl (by first | rfl | (simp; done)) (RD_loadO (v := intV y) (cs := ds.map intV) Try.isAgg3 rfl (by simp [hy])) Has.ro rfl ?_
      refine SQ_one (SA_call rfl (.mk rfl rfl (by first | rfl | (simp; done))) Try.call42 (.cons rfl (.nil)) (CallsK.at (clog_Tip p ⟨k.p, q, y, EV Es u, numsE l (EV Es u)⟩)) (lts rfl) ?_)
      rintro _ L11 ⟨rfl, hL11⟩
      refine ⟨.lands hL11 (.h Has.ro (.h Has.ro (.h Has.ro (.h Has.ro (.nil))))), ?_⟩
      dsimp only
      refine SQ.lands hL11 ?_
      refine SQ_pyes rfl rfl rfl (by first | rfl | (simp; done)) (RD_neq rfl rfl) rfl ?_
      refine SQ_pu rfl (RD_pick_f rfl (by first | rfl | (simp; done)) rfl) rfl ?_
      refine SQ_nil ?_
      refine SN.le (l := [(7, _), (13, _), (144, _)]) ?_ (.cons rfl (.cons rfl (.cons rfl (.nil))))
      refine SN_seq ?_
      refine SC_cond_false rfl (by simp) ?_
      refine SC_skip ?_
      refine SN_seq ?_
      refine SC_seq ?_
      refine SC_region ?_
      refine SR_pu (RD_move rfl) rfl ?_
      refine SR_call Try.call41 (.cons rfl (.nil)) (CallsK.at (clog_Envs p ⟨k.p, q, y, EV Es u, numsE l (EV Es u)⟩ (by dsimp only; omega))) (lts rfl) ?_
      rintro _ L12 ⟨xa, xc, rfl, hL12⟩
      dsimp only at hL12
      dsimp only
      refine SR.lands hL12 ?_
      refine SR_pu (RD_assign rfl) rfl ?_
      refine SR_nil ?_
      refine SN.le (l := [(7, _), (13, _), (20, _)]) ?_ (.cons rfl (.cons rfl (.cons rfl (.nil))))
      refine SN_seq ?_
      refine SC_seq ?_
      refine SC_seq ?_
      refine SC_region ?_
      refine SR_pu (RD_move rfl) rfl ?_
      refine SR_pu (RD_len Try.runUnderlying31 rfl) rfl ?_
      refine SR_pu (RD_move rfl) rfl ?_
      refine SR_nil ?_
      refine SN.le (l := [(7, _), (13, _), (20, _), (148, _), (149, _)]) ?_ (.cons rfl (.cons rfl (.cons rfl (.cons rfl (.cons rfl (.nil))))))
      refine SN_seq ?_
      refine SC_block ?_
      obtain ⟨n, hn⟩ : ∃ n, (EV Es u).length = n := ⟨_, rfl⟩
      have hcl : ((EV Es u).flatMap EnvD.cells).length = n * 4 := by rw [env_len, hn]
      refine SC_ind (X := Nat × List Value) (fun x => x.1 ≤ n ∧ x.2.length = n * 4) (fun x => n - x.1) (fun x => [(7, .pointer (some ⟨p, 0, none⟩)), (13, .slice wa (EV Es u).length wc), (20, .slice xa (EV Es u).length xc), (148, .int .i64 (n : Nat)), (149, .int .i64 (x.1 : Nat))]) (fun x => rowP 39 4 xa (EV Es u).length xc x.2 :: rowP 39 4 wa (EV Es u).length wc ((EV Es u).flatMap EnvD.cells) :: At treeI q st :: At worldI k ⟨l, S⟩ :: At logI p ⟨k.p, q, y, EV Es u, numsE l (EV Es u)⟩ :: F) ((0, (EV Es u).flatMap EnvD.cells)) (⟨by simp, hcl⟩) (.cons rfl (.cons rfl (.cons rfl (.cons' rfl (ie (by rw [hn])) (.cons rfl (.nil)))))) (.fin) ?_
      intro ⟨o, cs⟩ hi ih3
      obtain ⟨ho1, ho2⟩ := hi
      dsimp only at ho1 ho2 ih3 ⊢
      refine SC_seq ?_
      refine SC_region ?_
      refine SR_pu (RD_lss rfl rfl) rfl ?_
      refine SR_nil ?_
      refine SN.le (l := [(7, _), (13, _), (20, _), (148, _), (149, _), (150, _)]) ?_ (.cons rfl (.cons rfl (.cons rfl (.cons rfl (.cons rfl (.cons rfl (.nil)))))))
      refine SN_seq ?_
      refine SC_seq ?_
      refine SC_cond rfl (fun hc150 => ?_) (fun hc150 => ?_)
      · have hon2 : o < n := by simp at hc150; omega
        refine SC_skip ?_
        refine SN_seq ?_
        refine SC_seq ?_
        refine SC_block ?_
        refine SC_seq ?_
        refine SC_region ?_
        refine SR_pu (RD_move rfl) rfl ?_
        refine SR_pu (RD_assign rfl) rfl ?_
        refine SR_nil ?_
        refine SN.le (l := [(7, _), (13, _), (20, _), (21, _), (148, _), (149, _)]) ?_ (.cons rfl (.cons rfl (.cons rfl (.cons rfl (.cons rfl (.cons rfl (.nil)))))))
        refine SN_seq ?_
        refine SC_region ?_
        refine SR_pu (RD_move rfl) rfl ?_
        refine SR_pu (RD_move rfl) rfl ?_
        refine SR_rd (RD_ixO (i := (o : Nat)) (cs := cs) Try.runUnderlying31 Try.sizeOf39 rfl rfl (by rw [ho2, hn]) (by omega) (by omega)) Has.ro rfl ?_
        refine SR_rd (RD_fieldAddrO (cs := cs) 2 Try.runUnderlying39 rfl rfl Try.sizeOf37 rfl (by rw [ho2]; omega)) Has.ro rfl ?_
        refine SR_ox0 (OX_stRow Try.sizeOf37 rfl rfl (by rw [ho2]; omega)) ?_
        rintro _ _ rfl
        refine SR_nil ?_
        refine SN.le (l := [(7, _), (13, _), (20, _), (148, _), (149, _)]) ?_ (.cons rfl (.cons rfl (.cons rfl (.cons rfl (.cons rfl (.nil))))))
        refine SN_block ?_
        refine SN_seq ?_
        refine SC_region ?_
        refine SR_pu (RD_addi rfl rfl (by omega) (by omega)) rfl ?_
        refine SR_pu (RD_move rfl) rfl ?_
        refine SR_nil ?_
        refine SN.le (l := [(7, _), (13, _), (20, _), (148, _), (149, _)]) ?_ (.cons rfl (.cons rfl (.cons rfl (.cons rfl (.cons rfl (.nil))))))
        refine SC_again (ih3 ((o + 1, cs.set (((o : Nat) : Int).toNat * (3 + 1) + 2) (.int .u64 99))) (⟨by dsimp only; omega, by rw [List.length_set]; exact ho2⟩) (by dsimp only; omega)) (.fin) (.cons rfl (.cons rfl (.cons rfl (.cons rfl (.cons' rfl (ie (by dsimp only; omega)) (.nil))))))
      · clear ih3
        refine SC_exit rfl ?_
        refine SN_seq ?_
        refine SC_seq ?_
        refine SC_region ?_
        refine SR_pu (RD_move rfl) rfl ?_
        refine SR_call Try.call41 (.cons rfl (.nil)) (CallsK.at (clog_Envs p ⟨k.p, q, y, EV Es u, numsE l (EV Es u)⟩ (by dsimp only; omega))) (lts rfl) ?_
        rintro _ L13 ⟨ra, rc, rfl, hL13⟩
        dsimp only at hL13
        dsimp only
        refine SR.lands hL13 ?_
        refine SR_pu (RD_move rfl) rfl ?_
        refine SR_call Try.call18 (.cons rfl (.cons rfl (.nil))) (ref_Same14 ra (EV Es u).length rc (EV Es u) rfl rfl wa (EV Es u).length wc (EV Es u) rfl rfl (by omega)) (lts rfl) ?_
        rintro _ L14 ⟨rfl, hL14⟩
        rw [decide_eq_true rfl]
        refine SR.lands hL14 ?_
        refine SR_pu (RD_move rfl) rfl ?_
        refine SR_yes rfl rfl (rfl) ?_
        refine SR_pu (RD_move rfl) rfl ?_
        refine SR_yes rfl rfl (rfl) ?_
        refine SR_pu (RD_len Try.runUnderlying31 rfl) rfl ?_
        refine SR_yes rfl rfl (rfl) ?_
        refine SR_pu (RD_leq rfl rfl) rfl ?_
        refine SR_pu (RD_pick_t rfl (rfl) rfl) rfl ?_
        refine SR_pu (RD_move rfl) rfl ?_
        refine SR_yes rfl rfl (by simp; omega) ?_
        refine SR_call Try.call43 (.nil) (clog_awake) (lts rfl) ?_
        rintro _ L15 ⟨rfl, hL15⟩
        refine SR.lands hL15 ?_
        refine SR_pu (RD_pick_t rfl (by simp; omega) rfl) rfl ?_
        refine SR_pu (RD_assign rfl) rfl ?_
        refine SR_nil ?_
        refine SN.le (l := [(4, _)]) ?_ (.cons rfl (.nil))
        refine SN_seq ?_
        refine SC_ret1 rfl rfl ?_
        exact ⟨rfl, .fin⟩

end Go.Proofs.Ytnifaajdiolbjaa
