/- Two logs over one tree that are committed to blocks of one way are one the beginning of the other: the statement. -/
import Derived.Test.YtnifaajdiolbjaaCx
namespace Go.Proofs.Ytnifaajdiolbjaa
open Go Go.Proofs
set_option maxRecDepth 100000
def fp (i : Nat) : List EnvD := (List.range i).map fun j : Nat => ⟨(j : Int) % 4, (j : Int), 1, ((j + 1 : Nat) : Int)⟩
theorem fp_succ (i : Nat) : fp (i + 1) = fp i ++ [⟨(i : Int) % 4, (i : Int), 1, ((i + 1 : Nat) : Int)⟩] := by simp [fp, List.range_succ]
theorem fp_len (i : Nat) : (fp i).length = i := by simp [fp]
theorem fp_good {e : EnvD} (h : e ∈ fp 8) : e.Good := by
  simp only [fp, List.mem_map, List.mem_range] at h
  obtain ⟨j, hj, rfl⟩ := h
  exact ⟨by unfold I64; dsimp only; omega, by unfold I64; dsimp only; omega, ⟨by dsimp only; omega, by dsimp only; omega⟩⟩
theorem EV_eight {Es : List (List EnvD)} (h : ∀ E ∈ Es, ∀ e ∈ E, e ∈ fp 8) (n : Nat) : (EV Es n).length ≤ 8 := by
  have := nodup_len (EV_nodup Es n) (B := fp 8) (EV_mem (P := fun e => e ∈ fp 8) h n)
  rwa [fp_len] at this
theorem env_take (l : List EnvD) (m : Nat) : (l.take m).flatMap EnvD.cells = (l.flatMap EnvD.cells).take (m * 4) := by
  induction l generalizing m with
  | nil => simp
  | cons x l ih =>
    cases m with
    | zero => simp
    | succ m =>
      rw [List.take_succ_cons, List.flatMap_cons, List.flatMap_cons, ih, show (m + 1) * 4 = x.cells.length + m * 4 by rw [EnvD.cells_len]; omega, List.take_length_add_append]
theorem ref_Same14_take {W : World} {F : List HProp} [Abs F] (k : Nat) (a : Option Addr) (n c : Nat) (xs : List EnvD) [HasRow F a (xs.flatMap EnvD.cells)] (hx : k ≤ xs.length) (b : Option Addr) (m d : Nat) (ys : List EnvD) [HasRow F b (ys.flatMap EnvD.cells)] (hy : k ≤ ys.length) (hn : n = k) (hm : m = k) (hk : k ≤ 1000000000) (he : xs.take k = ys.take k) :
    CallsK W Try.prog 18 #[.slice a n c, .slice b m d] F (fun v L => v = .bool true ∧ Lands L F) := by
  subst hn; subst hm
  haveI : HasRow F a ((xs.take m).flatMap EnvD.cells) := hasRow_take _ (env_take xs m)
  haveI : HasRow F b ((ys.take m).flatMap EnvD.cells) := hasRow_take _ (env_take ys m)
  have h := ref_Same14 (W := W) (F := F) a m c (xs.take m) rfl (by simp; omega) b m d (ys.take m) rfl (by simp; omega) hk
  rwa [decide_eq_true he] at h
theorem EV_meet (Es : List (List EnvD)) (a b m : Nat) (hm : m = min (EV Es a).length (EV Es b).length) : (EV Es a).take m = (EV Es b).take m := by
  rcases Nat.le_total a b with h | h
  · obtain ⟨r, hr⟩ := EV_prefix Es h
    rw [hr, List.take_append_of_le_length (by omega)]
  · obtain ⟨r, hr⟩ := EV_prefix Es h
    rw [hr, List.take_append_of_le_length (by omega)]

theorem law_ClogPrefix {W : World} {F : List HProp} [Abs F] (a0 : Option Addr) (n0 c0 : Nat) (l0 : List Int) [HasRow F a0 (l0.map intV)] (hn0 : l0.length = n0) (a1 : Option Addr) (n1 c1 : Nat) (l1 : List Int) [HasRow F a1 (l1.map intV)] (hn1 : l1.length = n1) (a2 : Option Addr) (n2 c2 : Nat) (l2 : List Int) [HasRow F a2 (l2.map intV)] (hn2 : l2.length = n2) :
    CallsK W Try.prog 6 #[.slice a0 n0 c0, .slice a1 n1 c1, .slice a2 n2 c2] (F) (fun v L => v = .bool true ∧ Lands L F) := by
  refine CallsK_enter (n := 202) Try.func6 rfl rfl rfl ?_
  refine SC_seq ?_
  refine SC_region ?_
  refine SR_pu (RD_assign rfl) rfl ?_
  refine SR_nil ?_
  refine SN.le (l := [(0, _), (1, _), (2, _)]) ?_ (.cons rfl (.cons rfl (.cons rfl (.nil))))
  refine SN_seq ?_
  refine SC_seq ?_
  refine SC_region ?_
  refine SR_call Try.call16 (.cons rfl (.nil)) (enve_New 1) (lts rfl) ?_
  rintro _ L0 ⟨k, rfl, hL0⟩
  refine SR.lands (hL0.trans (Lands.cons vault_new)) ?_
  refine SR_pu (RD_assign rfl) rfl ?_
  refine SR_nil ?_
  refine SN.le (l := [(0, _), (1, _), (2, _), (7, _)]) ?_ (.cons rfl (.cons rfl (.cons rfl (.cons rfl (.nil)))))
  refine SN_seq ?_
  refine SC_seq ?_
  refine SC_seq ?_
  refine SC_region ?_
  refine SR_pu (RD_move rfl) rfl ?_
  refine SR_pu (RD_eqlP Try.underlying35 rfl rfl) rfl ?_
  refine SR_nil ?_
  refine SN.le (l := [(0, _), (1, _), (2, _), (7, _), (27, _)]) ?_ (.cons rfl (.cons rfl (.cons rfl (.cons rfl (.cons rfl (.nil))))))
  refine SN_seq ?_
  refine SC_cond_false rfl (rfl) ?_
  refine SC_skip ?_
  refine SN_seq ?_
  refine SC_seq ?_
  refine SC_region ?_
  refine SR_pu (RD_move rfl) rfl ?_
  refine SR_call Try.call37 (.cons rfl (.nil)) (CallsK.at (tree_New k ⟨[], []⟩ (by simp) [rootB] 1 (by decide +kernel) (by decide +kernel))) (lts rfl) ?_
  rintro _ L1 ⟨q, rfl, hL1⟩
  try dsimp only at hL1
  refine SR.lands (hL1 : Lands L1 (At treeI q (tS0 k.p) :: _)) ?_
  refine SR_pu (RD_assign rfl) rfl ?_
  refine SR_nil ?_
  refine SN.le (l := [(0, _), (1, _), (2, _), (7, _), (8, _)]) ?_ (.cons rfl (.cons rfl (.cons rfl (.cons rfl (.cons rfl (.nil))))))
  refine SN_seq ?_
  refine SC_seq ?_
  refine SC_region ?_
  refine SR_pu (RD_move rfl) rfl ?_
  refine SR_pu (RD_move rfl) rfl ?_
  refine SR_call Try.call38 (.cons rfl (.cons rfl (.nil))) (CallsK.at (clog_New k.p q (tS0 k.p))) (lts rfl) ?_
  rintro _ L2 ⟨px, rfl, hL2⟩
  change Lands L2 (At logI px ⟨k.p, q, 1, [], []⟩ :: _) at hL2
  refine SR.lands hL2 ?_
  refine SR_pu (RD_move rfl) rfl ?_
  refine SR_pu (RD_move rfl) rfl ?_
  refine SR_call Try.call38 (.cons rfl (.cons rfl (.nil))) (CallsK.at (clog_New k.p q (tS0 k.p))) (lts rfl) ?_
  rintro _ L3 ⟨py, rfl, hL3⟩
  change Lands L3 (At logI py ⟨k.p, q, 1, [], []⟩ :: _) at hL3
  refine SR.lands hL3 ?_
  refine SR_pu (RD_assign rfl) rfl ?_
  refine SR_pu (RD_assign rfl) rfl ?_
  refine SR_nil ?_
  refine SN.le (l := [(0, _), (1, _), (2, _), (7, _), (8, _), (9, _), (10, _)]) ?_ (.cons rfl (.cons rfl (.cons rfl (.cons rfl (.cons rfl (.cons rfl (.cons rfl (.nil))))))))
  refine SN_seq ?_
  refine SC_seq ?_
  refine SC_seq ?_
  refine SC_region ?_
  refine SR_pu (RD_move rfl) rfl ?_
  refine SR_pu (RD_eqlP Try.underlying68 rfl rfl) rfl ?_
  refine SR_pu (RD_move rfl) rfl ?_
  refine SR_yes rfl rfl (rfl) ?_
  refine SR_pu (RD_move rfl) rfl ?_
  refine SR_yes rfl rfl (rfl) ?_
  refine SR_pu (RD_eqlP Try.underlying70 rfl rfl) rfl ?_
  refine SR_pu (RD_pick_f rfl (rfl) rfl) rfl ?_
  refine SR_pu (RD_move rfl) rfl ?_
  refine SR_yes rfl rfl (rfl) ?_
  refine SR_pu (RD_move rfl) rfl ?_
  refine SR_yes rfl rfl (rfl) ?_
  refine SR_pu (RD_eqlP Try.underlying70 rfl rfl) rfl ?_
  refine SR_pu (RD_pick_f rfl (rfl) rfl) rfl ?_
  refine SR_nil ?_
  refine SN.le (l := [(0, _), (1, _), (2, _), (7, _), (8, _), (9, _), (10, _), (45, _)]) ?_ (.cons rfl (.cons rfl (.cons rfl (.cons rfl (.cons rfl (.cons rfl (.cons rfl (.cons rfl (.nil)))))))))
  refine SN_seq ?_
  refine SC_cond_false rfl (rfl) ?_
  refine SC_skip ?_
  refine SN_seq ?_
  refine SC_seq ?_
  refine SC_region ?_
  refine SR_pu (RD_assign rfl) rfl ?_
  refine SR_nil ?_
  refine SN.le (l := [(0, _), (1, _), (2, _), (7, _), (8, _), (9, _), (10, _), (11, _)]) ?_ (.cons rfl (.cons rfl (.cons rfl (.cons rfl (.cons rfl (.cons rfl (.cons rfl (.cons rfl (.nil)))))))))
  refine SN_seq ?_
  refine SC_seq ?_
  refine SC_seq ?_
  refine SC_region ?_
  refine SR_pu (RD_assign rfl) rfl ?_
  refine SR_nil ?_
  refine SN.le (l := [(0, _), (1, _), (2, _), (7, _), (8, _), (9, _), (10, _), (11, _), (12, _)]) ?_ (.cons rfl (.cons rfl (.cons rfl (.cons rfl (.cons rfl (.cons rfl (.cons rfl (.cons rfl (.cons rfl (.nil))))))))))
  refine SN_seq ?_
  refine SC_block ?_
  refine SC_ind (X := Nat × List (List UInt8) × List (Int × List Int) × Option Addr × Nat) (fun x => x.1 ≤ 8 ∧ Ext [rootB] x.2.1 ∧ x.2.1.length ≤ 1 + x.1) (fun x => 8 - x.1) (fun x => [(0, .slice a0 n0 c0), (1, .slice a1 n1 c1), (2, .slice a2 n2 c2), (7, .pointer (some ⟨k.p, 0, none⟩)), (8, .pointer (some ⟨q, 0, none⟩)), (9, .pointer (some ⟨px, 0, none⟩)), (10, .pointer (some ⟨py, 0, none⟩)), (11, .slice x.2.2.2.1 x.1 x.2.2.2.2), (12, .int .i64 (x.1 : Nat))]) (fun x => rowP 39 4 x.2.2.2.1 x.1 x.2.2.2.2 ((fp x.1).flatMap EnvD.cells) :: At treeI q (tS0 k.p) :: At worldI k ⟨x.2.1, x.2.2.1⟩ :: At vaultI k.v x.1 :: At logI px ⟨k.p, q, 1, [], []⟩ :: At logI py ⟨k.p, q, 1, [], []⟩ :: F) ((0, [rootB], [], none, 0)) (⟨by simp, Ext.same, by simp⟩) (.cons rfl (.cons rfl (.cons rfl (.cons rfl (.cons rfl (.cons rfl (.cons rfl (.cons rfl (.cons rfl (.nil)))))))))) (((row_new 39 4 none).trans (show Lands _ (rowP 39 4 none 0 0 [] :: At treeI q (tS0 k.p) :: At worldI k ⟨[rootB], []⟩ :: At vaultI k.v 0 :: At logI px ⟨k.p, q, 1, [], []⟩ :: At logI py ⟨k.p, q, 1, [], []⟩ :: F) from .fin))) ?_
  intro ⟨i, l, S, fa, fc⟩ hi ih
  obtain ⟨hi1, hx1, hx2⟩ := hi
  dsimp only at hi1 hx1 hx2 ih ⊢
  refine SC_seq ?_
  refine SC_seq ?_
  refine SC_region ?_
  refine SR_pu (RD_move rfl) rfl ?_
  refine SR_pu (RD_lss rfl rfl) rfl ?_
  refine SR_nil ?_
  refine SN.le (l := [(0, _), (1, _), (2, _), (7, _), (8, _), (9, _), (10, _), (11, _), (12, _), (47, _)]) ?_ (.cons rfl (.cons rfl (.cons rfl (.cons rfl (.cons rfl (.cons rfl (.cons rfl (.cons rfl (.cons rfl (.cons rfl (.nil)))))))))))
  refine SN_seq ?_
  refine SC_cond rfl (fun hc47 => ?_) (fun hc47 => ?_)
  · have hin : i < 8 := by simp at hc47; omega
    refine SC_skip ?_
    refine SN_seq ?_
    refine SC_seq ?_
    refine SC_block ?_
    refine SC_region ?_
    refine SR_pu (RD_move rfl) rfl ?_
    refine SR_pu (RD_move rfl) rfl ?_
    refine SR_pu (RD_move rfl) rfl ?_
    refine SR_pu (RD_mask 2 rfl rfl rfl (by decide) 4 rfl) rfl ?_
    refine SR_pu (RD_move rfl) rfl ?_
    first
      | refine SR_pu (RD_conv64 Try.runUnderlying3 Try.runUnderlying37 rfl (by omega) (by omega)) rfl ?_
      | refine SR_pu (RD_convI Try.runUnderlying3 Try.runUnderlying37 rfl) rfl ?_
    refine SR_call Try.call35 (.cons rfl (.cons rfl (.cons rfl (.cons rfl (.cons rfl (.nil)))))) (CallsK.at2 (w_Make k ⟨l, S⟩ i (by omega) ((i : Int) % 4) (i : Int) 1 (by omega) (by omega) (by omega) none 0 0 [] rfl (by simp) (by dsimp only; omega))) (lts rfl) ?_
    rintro _ L4 ⟨rfl, hL4⟩
    try dsimp only at hL4
    refine SR.lands hL4 ?_
    refine SR_ox (OX_lit Try.underlying31 Try.type39 rfl rfl rfl rfl (.cons rfl (.nil)) (.cons rfl rfl (.nil))) rfl ?_
    rintro _ _ ⟨b57, rfl, rfl⟩
    refine SR_ox (OX_app 4 Try.underlying31 Try.underlying31 Try.type39 rfl rfl rfl rfl rfl (by first | rfl | simp; done | (simp; omega)) 32 rfl (by omega) (by omega)) rfl ?_
    rintro _ _ ⟨a58, c58, rfl, rfl⟩
    refine SR_pu (RD_assign rfl) rfl ?_
    refine SR_nil ?_
    refine SN.le (l := [(0, _), (1, _), (2, _), (7, _), (8, _), (9, _), (10, _), (11, _), (12, _)]) ?_ (.cons rfl (.cons rfl (.cons rfl (.cons rfl (.cons rfl (.cons rfl (.cons rfl (.cons rfl (.cons rfl (.nil))))))))))
    refine SN_block ?_
    refine SN_seq ?_
    refine SC_region ?_
    refine SR_pu (RD_move rfl) rfl ?_
    refine SR_pu (RD_addi rfl rfl (by omega) (by omega)) rfl ?_
    refine SR_pu (RD_assign rfl) rfl ?_
    refine SR_nil ?_
    refine SN.le (l := [(0, _), (1, _), (2, _), (7, _), (8, _), (9, _), (10, _), (11, _), (12, _)]) ?_ (.cons rfl (.cons rfl (.cons rfl (.cons rfl (.cons rfl (.cons rfl (.cons rfl (.cons rfl (.cons rfl (.nil))))))))))
    refine SC_again (ih ((i + 1, dput l (envB ⟨(i : Int) % 4, (i : Int), 1, ((i + 1 : Nat) : Int)⟩), addTo S (1000 + (i : Int) % 4) (dnum (dput l (envB ⟨(i : Int) % 4, (i : Int), 1, ((i + 1 : Nat) : Int)⟩)) (envB ⟨(i : Int) % 4, (i : Int), 1, ((i + 1 : Nat) : Int)⟩) : Nat), a58, c58)) (⟨by dsimp only; omega, hx1.trans (Ext.put _ _), by have := dput_len l (envB ⟨(i : Int) % 4, (i : Int), 1, ((i + 1 : Nat) : Int)⟩); dsimp only; omega⟩) (by dsimp only; omega)) (by dsimp only; rw [fp_succ, List.flatMap_append, List.flatMap_cons, List.flatMap_nil]; exact .fin) (.cons rfl (.cons rfl (.cons rfl (.cons rfl (.cons rfl (.cons rfl (.cons rfl (.cons rfl (.cons' rfl (ie (by dsimp only; omega)) (.nil))))))))))
  · have hin : i = 8 := by simp at hc47; omega
    subst hin
    clear ih
    have hr1 : dput l rootB = l := dput_idem (hx1.mem (by simp))
    have hr2 : dnum l rootB = 1 := by rw [hx1.num (by simp)]; simp [dnum]
    refine SC_exit rfl ?_
    refine SN_seq ?_
    refine SC_seq ?_
    refine SC_region ?_
    refine SR_pu (RD_move rfl) rfl ?_
    refine SR_call Try.call34 (.cons rfl (.nil)) (CallsK.at (cert_Root k ⟨l, S⟩ (by dsimp only; omega) l 1 hr1 hr2)) (lts rfl) ?_
    rintro _ L5 ⟨rfl, hL5⟩
    try dsimp only at hL5
    refine SR.lands hL5 ?_
    refine SR_ox (OX_lit1 Try.underlying22 Try.type3 rfl rfl rfl rfl (.cons rfl (.nil)) (.cons rfl (.nil))) rfl ?_
    rintro _ _ ⟨b61, rfl, rfl⟩
    refine SR_pu (RD_assign rfl) rfl ?_
    refine SR_pu (RD_assign rfl) rfl ?_
    refine SR_nil ?_
    refine SN.le (l := [(0, _), (1, _), (2, _), (7, _), (8, _), (9, _), (10, _), (11, _), (13, _), (14, _)]) ?_ (.cons rfl (.cons rfl (.cons rfl (.cons rfl (.cons rfl (.cons rfl (.cons rfl (.cons rfl (.cons rfl (.cons rfl (.nil)))))))))))
    refine SN_seq ?_
    refine SC_seq ?_
    refine SC_seq ?_
    refine SC_region ?_
    refine SR_pu (RD_assign rfl) rfl ?_
    refine SR_nil ?_
    refine SN.le (l := [(0, _), (1, _), (2, _), (7, _), (8, _), (9, _), (10, _), (11, _), (13, _), (14, _), (15, _)]) ?_ (.cons rfl (.cons rfl (.cons rfl (.cons rfl (.cons rfl (.cons rfl (.cons rfl (.cons rfl (.cons rfl (.cons rfl (.cons rfl (.nil))))))))))))
    refine SN_seq ?_
    refine SC_block ?_
    obtain ⟨N, hN⟩ : ∃ N : Nat, N = min n0 15 := ⟨_, rfl⟩
    refine SC_ind (X := Nat × TS × List (List UInt8) × List Int × List (List EnvD) × Option Addr × Nat) (fun x => (x.1 ≤ N ∧ x.2.2.2.2.1.length = x.1 ∧ x.2.2.2.1[0]? = some 1) ∧ x.2.2.1.length ≤ 10 + 10 * x.1 ∧ Ch k.p x.2.1 x.2.2.1 x.2.2.2.1 x.2.2.2.2.1 ∧ ∀ E ∈ x.2.2.2.2.1, ∀ e ∈ E, e ∈ fp 8) (fun x => N - x.1) (fun x => [(0, .slice a0 n0 c0), (1, .slice a1 n1 c1), (2, .slice a2 n2 c2), (7, .pointer (some ⟨k.p, 0, none⟩)), (8, .pointer (some ⟨q, 0, none⟩)), (9, .pointer (some ⟨px, 0, none⟩)), (10, .pointer (some ⟨py, 0, none⟩)), (11, .slice fa 8 fc), (13, .slice x.2.2.2.2.2.1 (x.1 + 1) x.2.2.2.2.2.2), (14, .int .i64 (x.1 : Nat)), (15, .int .i64 (x.1 : Nat))]) (fun x => rowP 3 1 x.2.2.2.2.2.1 (x.1 + 1) x.2.2.2.2.2.2 (x.2.2.2.1.map intV) :: rowP 39 4 fa 8 fc ((fp 8).flatMap EnvD.cells) :: At treeI q x.2.1 :: At worldI k ⟨x.2.2.1, S⟩ :: At logI px ⟨k.p, q, 1, [], []⟩ :: At logI py ⟨k.p, q, 1, [], []⟩ :: F) ((0, tS0 k.p, l, [1], [], some ⟨b61, 0, none⟩, 1)) (⟨⟨by simp, rfl, rfl⟩, by dsimp only; omega, Ch.start k.p hx1, fun E hE => nomatch hE⟩) (.cons rfl (.cons rfl (.cons rfl (.cons rfl (.cons rfl (.cons rfl (.cons rfl (.cons rfl (.cons rfl (.cons rfl (.cons rfl (.nil)))))))))))) ((Lands.trans (.fin : Lands _ (pt b61 (.cells [.int .i64 (1 : Nat)].toArray 3) :: rowP 39 4 fa 8 fc ((fp 8).flatMap EnvD.cells) :: At treeI q (tS0 k.p) :: At worldI k ⟨l, S⟩ :: At logI px ⟨k.p, q, 1, [], []⟩ :: At logI py ⟨k.p, q, 1, [], []⟩ :: F)) ((lit_row (E := 3) (z := 1) (b := b61) (cs := [.int .i64 (1 : Nat)]) 1 rfl).trans (show Lands _ (rowP 3 1 (some ⟨b61, 0, none⟩) 1 1 [.int .i64 (1 : Nat)] :: rowP 39 4 fa 8 fc ((fp 8).flatMap EnvD.cells) :: At treeI q (tS0 k.p) :: At worldI k ⟨l, S⟩ :: At logI px ⟨k.p, q, 1, [], []⟩ :: At logI py ⟨k.p, q, 1, [], []⟩ :: F) from .fin)))) ?_
    intro ⟨i, st, l, ds, Es, da, dc⟩ hi ih1
    clear hx1 hx2 hr1 hr2 hi1
    obtain ⟨⟨hi1, hEl, hd0⟩, hll, hch, hfw⟩ := hi
    dsimp only at hi1 hEl hd0 hll hch hfw ih1 ⊢
    refine SC_seq ?_
    refine SC_seq ?_
    refine SC_join (X := Unit) (fun x => [(0, .slice a0 n0 c0), (1, .slice a1 n1 c1), (2, .slice a2 n2 c2), (7, .pointer (some ⟨k.p, 0, none⟩)), (8, .pointer (some ⟨q, 0, none⟩)), (9, .pointer (some ⟨px, 0, none⟩)), (10, .pointer (some ⟨py, 0, none⟩)), (11, .slice fa 8 fc), (13, .slice da (i + 1) dc), (14, .int .i64 (i : Nat)), (15, .int .i64 (i : Nat)), (69, .bool (decide (i < N)))]) (fun x => rowP 3 1 da (i + 1) dc (ds.map intV) :: rowP 39 4 fa 8 fc ((fp 8).flatMap EnvD.cells) :: At treeI q st :: At worldI k ⟨l, S⟩ :: At logI px ⟨k.p, q, 1, [], []⟩ :: At logI py ⟨k.p, q, 1, [], []⟩ :: F) (fun _ => ?_) (fun J0 => ?_)
    · refine SN_seq ?_
      refine SC_cond rfl (fun hc69 => ?_) (fun hc69 => ?_)
      · have hin : i < N := of_decide_eq_true hc69
        have hdl := hch.len
        obtain ⟨z, hz⟩ : ∃ z, l0[i]? = some z := ⟨_, List.getElem?_eq_getElem (by omega)⟩
        obtain ⟨on, hon⟩ : ∃ on, ds[i]? = some on := ⟨_, List.getElem?_eq_getElem (by omega)⟩
        refine SC_skip ?_
        refine SN_seq ?_
        refine SC_seq ?_
        refine SC_block ?_
        refine SC_seq ?_
        refine SC_region ?_
        refine SR_pu (RD_move rfl) rfl ?_
        refine SR_pu (RD_addi rfl rfl (by omega) (by omega)) rfl ?_
        refine SR_pu (RD_move rfl) rfl ?_
        refine SR_pu (RD_move rfl) rfl ?_
        refine SR_pu (RD_move rfl) rfl ?_
        refine SR_rd (RD_ixO (i := (i : Nat)) (cs := ds.map intV) Try.runUnderlying22 Try.sizeOf3 rfl rfl (by simp; omega) (by omega) (by omega)) Has.ro rfl ?_
        refine SR_rd (RD_loadO (v := intV on) (cs := ds.map intV) Try.isAgg3 rfl (by simp [hon])) Has.ro rfl ?_
        refine SR_pu (RD_build (.cons rfl (.cons rfl (.nil))) built30_0_1) rfl ?_
        refine SR_pu (RD_build (.cons rfl (.cons rfl (.nil))) built33_0_2) rfl ?_
        refine SR_ox (OX_alloc Try.zeroValue33 rfl) rfl ?_
        rintro _ _ ⟨b16, rfl, rfl⟩
        refine SR_ox0 (OX_stA Try.sizeOf33 rfl rfl rfl rfl) ?_
        rintro _ _ rfl
        refine SR_nil ?_
        refine SN.le (l := [(0, _), (1, _), (2, _), (7, _), (8, _), (9, _), (10, _), (11, _), (13, _), (14, _), (15, _), (16, _)]) ?_ (.cons rfl (.cons rfl (.cons rfl (.cons rfl (.cons rfl (.cons rfl (.cons rfl (.cons rfl (.cons rfl (.cons rfl (.cons rfl (.cons rfl (.nil)))))))))))))
        refine SN_seq ?_
        refine SC_seq ?_
        refine SC_seq ?_
        refine SC_region ?_
        refine SR_pu (RD_assign rfl) rfl ?_
        refine SR_nil ?_
        refine SN.le (l := [(0, _), (1, _), (2, _), (7, _), (8, _), (9, _), (10, _), (11, _), (13, _), (14, _), (15, _), (16, _), (17, _)]) ?_ (.cons rfl (.cons rfl (.cons rfl (.cons rfl (.cons rfl (.cons rfl (.cons rfl (.cons rfl (.cons rfl (.cons rfl (.cons rfl (.cons rfl (.cons rfl (.nil))))))))))))))
        refine SN_seq ?_
        refine SC_block ?_
        refine SC_ind (X := Nat × List EnvD × Option Addr × Nat) (fun x => x.1 ≤ 8 ∧ x.2.1.length ≤ x.1 ∧ ∀ e ∈ x.2.1, e ∈ fp 8) (fun x => 8 - x.1) (fun x => [(0, .slice a0 n0 c0), (1, .slice a1 n1 c1), (2, .slice a2 n2 c2), (7, .pointer (some ⟨k.p, 0, none⟩)), (8, .pointer (some ⟨q, 0, none⟩)), (9, .pointer (some ⟨px, 0, none⟩)), (10, .pointer (some ⟨py, 0, none⟩)), (11, .slice fa 8 fc), (13, .slice da (i + 1) dc), (14, .int .i64 (i : Nat)), (15, .int .i64 (i : Nat)), (16, .pointer (some ⟨b16, 0, none⟩)), (17, .int .i64 (x.1 : Nat))]) (fun x => rowP 39 4 x.2.2.1 (x.2.1).length x.2.2.2 ((x.2.1).flatMap EnvD.cells) :: pt b16 (.cells [.int .i64 ((i : Int) + 1), .int .i64 0, .int .i64 (i : Nat), .int .i64 on, .slice none 0 0, .slice x.2.2.1 (x.2.1).length x.2.2.2].toArray 33) :: rowP 3 1 da (i + 1) dc (ds.map intV) :: rowP 39 4 fa 8 fc ((fp 8).flatMap EnvD.cells) :: At treeI q st :: At worldI k ⟨l, S⟩ :: At logI px ⟨k.p, q, 1, [], []⟩ :: At logI py ⟨k.p, q, 1, [], []⟩ :: F) ((0, [], none, 0)) (⟨by simp, by simp, fun e he => nomatch he⟩) (.cons rfl (.cons rfl (.cons rfl (.cons rfl (.cons rfl (.cons rfl (.cons rfl (.cons rfl (.cons rfl (.cons rfl (.cons rfl (.cons rfl (.cons rfl (.nil)))))))))))))) (((row_new 39 4 none).trans (show Lands _ (rowP 39 4 none 0 0 [] :: pt b16 (.cells [.int .i64 ((i : Int) + 1), .int .i64 0, .int .i64 (i : Nat), .int .i64 on, .slice none 0 0, .slice none 0 0].toArray 33) :: rowP 3 1 da (i + 1) dc (ds.map intV) :: rowP 39 4 fa 8 fc ((fp 8).flatMap EnvD.cells) :: At treeI q st :: At worldI k ⟨l, S⟩ :: At logI px ⟨k.p, q, 1, [], []⟩ :: At logI py ⟨k.p, q, 1, [], []⟩ :: F) from .fin))) ?_
        intro ⟨j, E, ea, ec⟩ hi ih2
        obtain ⟨hj1, hj2, hj3⟩ := hi
        dsimp only at hj1 hj2 hj3 ih2 ⊢
        refine SC_seq ?_
        refine SC_seq ?_
        refine SC_region ?_
        refine SR_pu (RD_move rfl) rfl ?_
        refine SR_pu (RD_lss rfl rfl) rfl ?_
        refine SR_nil ?_
        refine SN.le (l := [(0, _), (1, _), (2, _), (7, _), (8, _), (9, _), (10, _), (11, _), (13, _), (14, _), (15, _), (16, _), (17, _), (82, _)]) ?_ (.cons rfl (.cons rfl (.cons rfl (.cons rfl (.cons rfl (.cons rfl (.cons rfl (.cons rfl (.cons rfl (.cons rfl (.cons rfl (.cons rfl (.cons rfl (.cons rfl (.nil)))))))))))))))
        refine SN_seq ?_
        refine SC_cond rfl (fun hc82 => ?_) (fun hc82 => ?_)
        · have hjn : j < 8 := by simp at hc82; omega
          obtain ⟨e, he⟩ : ∃ e, (fp 8)[j]? = some e := ⟨_, List.getElem?_eq_getElem (by rw [fp_len]; omega)⟩
          refine SC_skip ?_
          refine SN_seq ?_
          refine SC_seq ?_
          refine SC_block ?_
          refine SC_seq ?_
          refine SC_region ?_
          refine SR_pu (RD_move rfl) rfl ?_
          refine SR_pu (RD_move rfl) rfl ?_
          refine SR_rd (RD_ixO (i := (i : Nat)) (cs := l0.map intV) Try.runUnderlying22 Try.sizeOf3 rfl rfl (by simpa using hn0) (by omega) (by omega)) Has.ro rfl ?_
          refine SR_rd (RD_loadO (v := intV z) (cs := l0.map intV) Try.isAgg3 rfl (by simp [hz])) Has.ro rfl ?_
          refine SR_pu (RD_move rfl) rfl ?_
          refine SR_pu (RD_muli rfl rfl (by omega) (by omega)) rfl ?_
          first
            | refine SR_pu (RD_conv64 Try.runUnderlying3 Try.runUnderlying40 rfl (by omega) (by omega)) rfl ?_
            | refine SR_pu (RD_convI Try.runUnderlying3 Try.runUnderlying40 rfl) rfl ?_
          refine SR_pu (RD_shr rfl rfl (by omega)) rfl ?_
          refine SR_pu (RD_mask 2 rfl rfl rfl (by decide) 4 rfl) rfl ?_
          refine SR_pu (RD_eql rfl rfl) rfl ?_
          refine SR_nil ?_
          refine SN.le (l := [(0, _), (1, _), (2, _), (7, _), (8, _), (9, _), (10, _), (11, _), (13, _), (14, _), (15, _), (16, _), (17, _), (94, _)]) ?_ (.cons rfl (.cons rfl (.cons rfl (.cons rfl (.cons rfl (.cons rfl (.cons rfl (.cons rfl (.cons rfl (.cons rfl (.cons rfl (.cons rfl (.cons rfl (.cons rfl (.nil)))))))))))))))
          refine SN_seq ?_
          refine SC_cond rfl (fun hc94 => ?_) (fun hc94 => ?_)
          · refine SC_drawn (.cons 0 true (.cons 1 true (.cons 2 true (.cons 3 true (.cons 4 true (.cons 5 true (.cons 6 false (.cons 7 false (.cons 8 true (.cons 9 false (.nil))))))))))) (by kernel_rfl) (by kernel_rfl) ?_
            first
              | refine SQ_pu rfl (RD_fieldAddr 5 Try.runUnderlying33 rfl rfl Try.sizeOf31 rfl) rfl ?_
              | refine SQ_rd rfl (RD_fieldAddrO 5 Try.runUnderlying33 rfl rfl Try.sizeOf31 rfl (by simp <;> omega)) Has.ro rfl ?_
            refine SQ_rd rfl (RD_load Try.isAgg31 rfl) (Has.ce rfl) rfl ?_
            refine SQ_pu rfl (RD_move rfl) rfl ?_
            refine SQ_pu rfl (RD_move rfl) rfl ?_
            refine SQ_rd rfl (RD_ixO (i := (j : Nat)) (cs := (fp 8).flatMap EnvD.cells) Try.runUnderlying31 Try.sizeOf39 rfl rfl (by rw [env_len, fp_len]) (by omega) (by omega)) Has.ro rfl ?_
            refine SQ_rd rfl (RD_loadAO (vs := EnvD.cells e) (cs := (fp 8).flatMap EnvD.cells) Try.isAgg39 Try.sizeOf39 rfl rfl (by decide) (fun o v h => by have ho : o < 4 := (List.getElem?_eq_some_iff.1 h).1; rw [show ((j : Nat) : Int).toNat * (3 + 1) + o = j * 4 + o by omega, env_get he o ho]; exact h)) Has.ro rfl ?_
            refine SQ_ox rfl (OX_lit Try.underlying31 Try.type39 rfl rfl rfl rfl (.cons rfl (.nil)) (.cons rfl rfl (.nil))) rfl ?_
            rintro _ _ ⟨b101, rfl, rfl⟩
            refine ⟨.w rfl (.h Has.ro (.h (Has.ce rfl) (.nil))), ?_⟩
            refine SQ_ox rfl (OX_app 4 Try.underlying31 Try.underlying31 Try.type39 rfl rfl rfl rfl rfl (by simp [EnvD.cells]) 32 rfl (by omega) (by omega)) rfl ?_
            rintro _ _ ⟨a102, c102, rfl, rfl⟩
            refine ⟨.h Has.ro (.h Has.ro (.w rfl (.nil))), ?_⟩
            first
              | refine SQ_pu rfl (RD_fieldAddr 5 Try.runUnderlying33 rfl rfl Try.sizeOf31 rfl) rfl ?_
              | refine SQ_rd rfl (RD_fieldAddrO 5 Try.runUnderlying33 rfl rfl Try.sizeOf31 rfl (by simp <;> omega)) Has.ro rfl ?_
            refine SQ_ox0 rfl (OX_st Try.sizeOf31 rfl rfl) ?_
            rintro _ _ rfl
            refine ⟨.w rfl (.w rfl (.w rfl (.nil))), ?_⟩
            refine SQ_nil ?_
            refine SN.le (l := [(0, _), (1, _), (2, _), (7, _), (8, _), (9, _), (10, _), (11, _), (13, _), (14, _), (15, _), (16, _), (17, _)]) ?_ (.cons rfl (.cons rfl (.cons rfl (.cons rfl (.cons rfl (.cons rfl (.cons rfl (.cons rfl (.cons rfl (.cons rfl (.cons rfl (.cons rfl (.cons rfl (.nil))))))))))))))
            rw [show EnvD.cells e ++ [] = [e].flatMap EnvD.cells from rfl]
            refine SN_block ?_
            refine SN_seq ?_
            refine SC_region ?_
            refine SR_pu (RD_move rfl) rfl ?_
            refine SR_pu (RD_addi rfl rfl (by omega) (by omega)) rfl ?_
            refine SR_pu (RD_assign rfl) rfl ?_
            refine SR_nil ?_
            refine SN.le (l := [(0, _), (1, _), (2, _), (7, _), (8, _), (9, _), (10, _), (11, _), (13, _), (14, _), (15, _), (16, _), (17, _)]) ?_ (.cons rfl (.cons rfl (.cons rfl (.cons rfl (.cons rfl (.cons rfl (.cons rfl (.cons rfl (.cons rfl (.cons rfl (.cons rfl (.cons rfl (.cons rfl (.nil))))))))))))))
            refine SC_again (ih2 ((j + 1, E ++ [e], a102, c102)) (⟨by dsimp only; omega, by simp; omega, fun x hx => (List.mem_append.1 hx).elim (hj3 x) fun h => by simp at h; subst h; exact List.mem_of_getElem? he⟩) (by dsimp only; omega)) (by dsimp only; rw [List.length_append, List.flatMap_append]; exact .fin) (.cons rfl (.cons rfl (.cons rfl (.cons rfl (.cons rfl (.cons rfl (.cons rfl (.cons rfl (.cons rfl (.cons rfl (.cons rfl (.cons rfl (.cons' rfl (ie (by dsimp only; omega)) (.nil))))))))))))))
          · refine SC_skip ?_
            refine SN_block ?_
            refine SN_seq ?_
            refine SC_region ?_
            refine SR_pu (RD_move rfl) rfl ?_
            refine SR_pu (RD_addi rfl rfl (by omega) (by omega)) rfl ?_
            refine SR_pu (RD_assign rfl) rfl ?_
            refine SR_nil ?_
            refine SN.le (l := [(0, _), (1, _), (2, _), (7, _), (8, _), (9, _), (10, _), (11, _), (13, _), (14, _), (15, _), (16, _), (17, _)]) ?_ (.cons rfl (.cons rfl (.cons rfl (.cons rfl (.cons rfl (.cons rfl (.cons rfl (.cons rfl (.cons rfl (.cons rfl (.cons rfl (.cons rfl (.cons rfl (.nil))))))))))))))
            refine SC_again (ih2 ((j + 1, E, ea, ec)) (⟨by dsimp only; omega, by dsimp only; omega, hj3⟩) (by dsimp only; omega)) (.fin) (.cons rfl (.cons rfl (.cons rfl (.cons rfl (.cons rfl (.cons rfl (.cons rfl (.cons rfl (.cons rfl (.cons rfl (.cons rfl (.cons rfl (.cons' rfl (ie (by dsimp only; omega)) (.nil))))))))))))))
        · clear ih2
          have hA := hch.add (E := E) (fun e he => fp_good (hj3 e he)) (by omega) (by omega) (by omega) (p := on) (by rw [hEl]; exact hon)
          rw [hEl] at hA
          obtain ⟨D, st2, hadd, hch2⟩ := hA
          have hbl := blkL_len l ⟨(i : Int) + 1, 0, (i : Int), on, [], E⟩
          dsimp only at hbl
          obtain ⟨l2, hl2⟩ : ∃ l2, blkL l ⟨(i : Int) + 1, 0, (i : Int), on, [], E⟩ = l2 := ⟨_, rfl⟩
          rw [hl2] at hadd hch2 hbl
          refine SC_exit rfl ?_
          refine SN_seq ?_
          refine SC_seq ?_
          refine SC_region ?_
          refine SR_pu (RD_move rfl) rfl ?_
          refine SR_rd (RD_loadA (vs := BlkD.cells ⟨(i : Int) + 1, 0, (i : Nat), on, ⟨none, 0, 0, []⟩, ⟨ea, E.length, ec, E⟩⟩) Try.isAgg33 Try.sizeOf33 rfl rfl) Has.wh rfl ?_
          refine SR_call Try.call39 (.cons rfl (.cons rfl (.nil))) (CallsK.at2 (tree_Add' q st k hch.w ⟨l, S⟩ ⟨(i : Int) + 1, 0, (i : Nat), on, ⟨none, 0, 0, []⟩, ⟨ea, E.length, ec, E⟩⟩ rfl rfl ⟨rfl, rfl, by simp, by dsimp only; omega, fun e he => (fp_good (hj3 e he)).2.2⟩ (by dsimp only; omega) D 0 st2 l2 hadd)) (lts rfl) ?_
          rintro _ L6 ⟨rfl, hL6⟩
          try dsimp only at hL6
          refine SR.lands hL6 ?_
          refine SR_pu (RD_move rfl) rfl ?_
          refine SR_pu (RD_extract (v := .int .i64 D) rfl rfl) rfl ?_
          refine SR_pu (RD_extract (v := .int .i64 0) rfl rfl) rfl ?_
          refine SR_pu (RD_assign rfl) rfl ?_
          refine SR_pu (RD_assign rfl) rfl ?_
          refine SR_nil ?_
          refine SN.le (l := [(0, _), (1, _), (2, _), (7, _), (8, _), (9, _), (10, _), (11, _), (13, _), (14, _), (15, _), (18, _), (19, _)]) ?_ (.cons rfl (.cons rfl (.cons rfl (.cons rfl (.cons rfl (.cons rfl (.cons rfl (.cons rfl (.cons rfl (.cons rfl (.cons rfl (.cons rfl (.cons rfl (.nil))))))))))))))
          refine SN_seq ?_
          refine SC_seq ?_
          refine SC_seq ?_
          refine SC_region ?_
          refine SR_pu (RD_move rfl) rfl ?_
          refine SR_pu (RD_neq rfl rfl) rfl ?_
          refine SR_nil ?_
          refine SN.le (l := [(0, _), (1, _), (2, _), (7, _), (8, _), (9, _), (10, _), (11, _), (13, _), (14, _), (15, _), (18, _), (111, _)]) ?_ (.cons rfl (.cons rfl (.cons rfl (.cons rfl (.cons rfl (.cons rfl (.cons rfl (.cons rfl (.cons rfl (.cons rfl (.cons rfl (.cons rfl (.cons rfl (.nil))))))))))))))
          refine SN_seq ?_
          refine SC_cond_false rfl (rfl) ?_
          refine SC_skip ?_
          refine SN_seq ?_
          refine SC_region ?_
          refine SR_pu (RD_move rfl) rfl ?_
          refine SR_pu (RD_move rfl) rfl ?_
          refine SR_ox (OX_lit1 Try.underlying22 Try.type3 rfl rfl rfl rfl (.cons rfl (.nil)) (.cons rfl (.nil))) rfl ?_
          rintro _ _ ⟨b114, rfl, rfl⟩
          refine SR_ox (OX_app 1 Try.underlying22 Try.underlying22 Try.type3 rfl rfl rfl rfl rfl (by first | rfl | simp; done | (simp; omega)) 8 rfl (by omega) (by omega)) rfl ?_
          rintro _ _ ⟨a115, c115, rfl, rfl⟩
          refine SR_pu (RD_move rfl) rfl ?_
          refine SR_pu (RD_addi rfl rfl (by omega) (by omega)) rfl ?_
          refine SR_pu (RD_assign rfl) rfl ?_
          refine SR_pu (RD_assign rfl) rfl ?_
          refine SR_nil ?_
          refine SN.le (l := [(0, _), (1, _), (2, _), (7, _), (8, _), (9, _), (10, _), (11, _), (13, _), (14, _), (15, _)]) ?_ (.cons rfl (.cons rfl (.cons rfl (.cons rfl (.cons rfl (.cons rfl (.cons rfl (.cons rfl (.cons rfl (.cons rfl (.cons rfl (.nil))))))))))))
          rw [show ds.map intV ++ [Value.int .i64 D] = (ds ++ [D]).map intV by simp [intV]]
          refine SN_block ?_
          refine SN_seq ?_
          refine SC_region ?_
          refine SR_pu (RD_move rfl) rfl ?_
          refine SR_pu (RD_addi rfl rfl (by omega) (by omega)) rfl ?_
          refine SR_pu (RD_assign rfl) rfl ?_
          refine SR_nil ?_
          refine SN.le (l := [(0, _), (1, _), (2, _), (7, _), (8, _), (9, _), (10, _), (11, _), (13, _), (14, _), (15, _)]) ?_ (.cons rfl (.cons rfl (.cons rfl (.cons rfl (.cons rfl (.cons rfl (.cons rfl (.cons rfl (.cons rfl (.cons rfl (.cons rfl (.nil))))))))))))
          refine SC_again (ih1 ((i + 1, st2, l2, ds ++ [D], Es ++ [E], a115, c115)) (⟨⟨by dsimp only; omega, by simp [hEl], by dsimp only; rw [List.getElem?_append_left (by omega)]; exact hd0⟩, by dsimp only; omega, hch2, fun E2 hE2 => (List.mem_append.1 hE2).elim (hfw E2) fun h => by simp at h; subst h; exact hj3⟩) (by dsimp only; omega)) (.fin) (.cons rfl (.cons rfl (.cons rfl (.cons rfl (.cons rfl (.cons rfl (.cons rfl (.cons rfl (.cons rfl (.cons' rfl (ie (by dsimp only; omega)) (.cons' rfl (ie (by dsimp only; omega)) (.nil))))))))))))
      · have hin : i = N := by have := of_decide_eq_false hc69; omega
        subst hin
        clear ih1
        have hroot : st.root = 1 := by have h := hch.at0; rw [hd0] at h; injection h with h; exact h.symm
        have hdl := hch.len
        have hev := EV_eight hfw
        have hvw := hch.views (by omega)
        rw [show (⟨k.p, q, 1, [], []⟩ : LS) = (LS.of k.p q 1 l (EV Es 0)) from rfl]
        refine SC_exit rfl ?_
        refine SN_seq ?_
        refine SC_seq ?_
        refine SC_seq ?_
        refine SC_region ?_
        refine SR_pu (RD_assign rfl) rfl ?_
        refine SR_nil ?_
        refine SN.le (l := [(1, _), (2, _), (7, _), (8, _), (9, _), (10, _), (13, _), (20, _)]) ?_ (.cons rfl (.cons rfl (.cons rfl (.cons rfl (.cons rfl (.cons rfl (.cons rfl (.cons rfl (.nil)))))))))
        refine SN_seq ?_
        refine SC_block ?_
        refine SC_ind (X := Nat × {x : Nat × Int × Nat × Int // (x.1 ≤ i ∧ ds[x.1]? = some x.2.1) ∧ x.2.2.1 ≤ i ∧ ds[x.2.2.1]? = some x.2.2.2}) (fun x => x.1 ≤ 20) (fun x => 20 - x.1) (fun x => [(1, .slice a1 n1 c1), (2, .slice a2 n2 c2), (7, .pointer (some ⟨k.p, 0, none⟩)), (8, .pointer (some ⟨q, 0, none⟩)), (9, .pointer (some ⟨px, 0, none⟩)), (10, .pointer (some ⟨py, 0, none⟩)), (13, .slice da (i + 1) dc), (20, .int .i64 (x.1 : Nat))]) (fun x => rowP 3 1 da (i + 1) dc (ds.map intV) :: At treeI q st :: At worldI k ⟨l, S⟩ :: At logI px (LS.of k.p q x.2.1.2.1 l (EV Es x.2.1.1)) :: At logI py (LS.of k.p q x.2.1.2.2.2 l (EV Es x.2.1.2.2.1)) :: F) ((0, ⟨(0, 1, 0, 1), ⟨by simp, hd0⟩, by simp, hd0⟩)) (by simp) (.cons rfl (.cons rfl (.cons rfl (.cons rfl (.cons rfl (.cons rfl (.cons rfl (.cons rfl (.nil))))))))) (.fin) ?_
        intro ⟨o, ⟨⟨ix, dx, iy, dy⟩, ⟨hx1, hx2⟩, hy1, hy2⟩⟩ hi ih3
        dsimp only at hi hx1 hx2 hy1 hy2 ih3 ⊢
        refine SC_seq ?_
        refine SC_seq ?_
        refine SC_region ?_
        refine SR_pu (RD_move rfl) rfl ?_
        refine SR_pu (RD_lss rfl rfl) rfl ?_
        refine SR_nil ?_
        refine SN.le (l := [(1, _), (2, _), (7, _), (8, _), (9, _), (10, _), (13, _), (20, _), (119, _)]) ?_ (.cons rfl (.cons rfl (.cons rfl (.cons rfl (.cons rfl (.cons rfl (.cons rfl (.cons rfl (.cons rfl (.nil))))))))))
        refine SN_seq ?_
        refine SC_cond rfl (fun hc119 => ?_) (fun hc119 => ?_)
        · have hon : o < 20 := by simp at hc119; omega
          refine SC_skip ?_
          refine SN_seq ?_
          refine SC_seq ?_
          refine SC_block ?_
          refine SC_seq ?_
          refine SC_seq ?_
          refine SC_join (X := {x : Nat × Int × Nat × Int // (x.1 ≤ i ∧ ds[x.1]? = some x.2.1) ∧ x.2.2.1 ≤ i ∧ ds[x.2.2.1]? = some x.2.2.2}) (fun x => [(1, .slice a1 n1 c1), (2, .slice a2 n2 c2), (7, .pointer (some ⟨k.p, 0, none⟩)), (8, .pointer (some ⟨q, 0, none⟩)), (9, .pointer (some ⟨px, 0, none⟩)), (10, .pointer (some ⟨py, 0, none⟩)), (13, .slice da (i + 1) dc), (20, .int .i64 (o : Nat)), (163, .bool false)]) (fun x => rowP 3 1 da (i + 1) dc (ds.map intV) :: At treeI q st :: At worldI k ⟨l, S⟩ :: At logI px (LS.of k.p q x.1.2.1 l (EV Es x.1.1)) :: At logI py (LS.of k.p q x.1.2.2.2 l (EV Es x.1.2.2.1)) :: F) (fun ⟨⟨jx, ex, jy, ey⟩, ⟨hx1b, hx2b⟩, hy1b, hy2b⟩ => ?_) (fun J0 => ?_)
          · clear hx1 hx2 hy1 hy2
            dsimp only at hx1b hx2b hy1b hy2b ⊢
            have hevx := hev jx
            have hevy := hev jy
            refine SN_seq ?_
            refine SC_cond_false rfl (rfl) ?_
            refine SC_skip ?_
            refine SN_seq ?_
            refine SC_seq ?_
            refine SC_region ?_
            refine SR_pu (RD_move rfl) rfl ?_
            refine SR_call Try.call41 (.cons rfl (.nil)) (CallsK.at (clog_Envs px (LS.of k.p q ex l (EV Es jx)) (show (EV Es jx).length ≤ 100000000 by omega))) (lts rfl) ?_
            rintro _ L9 ⟨va, vc, rfl, hL9⟩
            change Lands L9 (rowP 39 4 va (EV Es jx).length vc ((EV Es jx).flatMap EnvD.cells) :: _) at hL9
            refine SR.lands hL9 ?_
            refine SR_pu (RD_move rfl) rfl ?_
            refine SR_call Try.call41 (.cons rfl (.nil)) (CallsK.at (clog_Envs py (LS.of k.p q ey l (EV Es jy)) (show (EV Es jy).length ≤ 100000000 by omega))) (lts rfl) ?_
            rintro _ L10 ⟨ua, uc, rfl, hL10⟩
            change Lands L10 (rowP 39 4 ua (EV Es jy).length uc ((EV Es jy).flatMap EnvD.cells) :: _) at hL10
            refine SR.lands hL10 ?_
            refine SR_pu (RD_assign rfl) rfl ?_
            refine SR_pu (RD_assign rfl) rfl ?_
            refine SR_nil ?_
            refine SN.le (l := [(1, _), (2, _), (7, _), (8, _), (9, _), (10, _), (13, _), (20, _), (21, _), (22, _)]) ?_ (.cons rfl (.cons rfl (.cons rfl (.cons rfl (.cons rfl (.cons rfl (.cons rfl (.cons rfl (.cons rfl (.cons rfl (.nil)))))))))))
            refine SN_seq ?_
            refine SC_seq ?_
            refine SC.row_len (a := va) fun _ hvc => ?_
            refine SC.row_len (a := ua) fun _ huc => ?_
            refine SC_region ?_
            refine SR_pu (RD_move rfl) rfl ?_
            refine SR_pu (RD_len Try.runUnderlying31 rfl) rfl ?_
            refine SR_pu (RD_move rfl) rfl ?_
            refine SR_pu (RD_len Try.runUnderlying31 rfl) rfl ?_
            refine SR_pu (RD_min rfl rfl) rfl ?_
            refine SR_pu (RD_assign rfl) rfl ?_
            refine SR_nil ?_
            refine SN.le (l := [(1, _), (2, _), (7, _), (8, _), (9, _), (10, _), (13, _), (20, _), (21, _), (22, _), (23, _)]) ?_ (.cons rfl (.cons rfl (.cons rfl (.cons rfl (.cons rfl (.cons rfl (.cons rfl (.cons rfl (.cons rfl (.cons rfl (.cons rfl (.nil))))))))))))
            obtain ⟨m, hm⟩ : ∃ m : Nat, m = min (EV Es jx).length (EV Es jy).length := ⟨_, rfl⟩
            have hm2 : (m : Int) = if (((EV Es jy).length : Nat) : Int) < ((EV Es jx).length : Nat) then (((EV Es jy).length : Nat) : Int) else ((EV Es jx).length : Nat) := by split <;> omega
            have e1 : (LS.of k.p q ex l (EV Es jx)).l = EV Es jx := rfl
            have e2 : (LS.of k.p q ey l (EV Es jy)).l = EV Es jy := rfl
            try rw [e1, e2]
            try rw [e1]
            rw [← hm2]
            refine SN_seq ?_
            refine SC_seq ?_
            refine SC_drawn (.cons 0 true (.cons 1 true (.cons 2 true (.cons 3 true (.cons 4 true (.cons 5 true (.cons 6 false (.cons 7 true (.nil))))))))) (by kernel_rfl) (by kernel_rfl) ?_
            refine SQ_pu rfl (RD_move rfl) rfl ?_
            refine SQ_pu rfl (RD_move rfl) rfl ?_
            refine SQ_pu rfl (RD_cutH Try.runUnderlying31 Try.sizeOf39 rfl rfl (by omega) (by omega)) rfl ?_
            refine SQ_pu rfl (RD_move rfl) rfl ?_
            refine SQ_pu rfl (RD_move rfl) rfl ?_
            refine SQ_pu rfl (RD_cutH Try.runUnderlying31 Try.sizeOf39 rfl rfl (by omega) (by omega)) rfl ?_
            refine SQ_call rfl Try.call18 (.cons rfl (.cons rfl (.nil))) (ref_Same14_take m va _ vc (EV Es jx) (by omega) ua _ uc (EV Es jy) (by omega) (Int.toNat_natCast m) (Int.toNat_natCast m) (by omega) (EV_meet Es jx jy m hm)) (lts rfl) ?_
            rintro _ L11 ⟨rfl, hL11⟩
            refine ⟨.nil, ?_⟩
            refine SQ.lands hL11 ?_
            refine SQ_pu rfl (RD_not rfl) rfl ?_
            refine SQ_nil ?_
            refine SN.le (l := [(1, _), (2, _), (7, _), (8, _), (9, _), (10, _), (13, _), (20, _), (180, _)]) ?_ (.cons rfl (.cons rfl (.cons rfl (.cons rfl (.cons rfl (.cons rfl (.cons rfl (.cons rfl (.cons rfl (.nil))))))))))
            refine SN_seq ?_
            refine SC_cond_false rfl (rfl) ?_
            refine SC_skip ?_
            refine SN_block ?_
            refine SN_seq ?_
            refine SC_region ?_
            refine SR_pu (RD_move rfl) rfl ?_
            refine SR_pu (RD_addi rfl rfl (by omega) (by omega)) rfl ?_
            refine SR_pu (RD_assign rfl) rfl ?_
            refine SR_nil ?_
            refine SN.le (l := [(1, _), (2, _), (7, _), (8, _), (9, _), (10, _), (13, _), (20, _)]) ?_ (.cons rfl (.cons rfl (.cons rfl (.cons rfl (.cons rfl (.cons rfl (.cons rfl (.cons rfl (.nil)))))))))
            refine SC_again (ih3 ((o + 1, ⟨(jx, ex, jy, ey), ⟨hx1b, hx2b⟩, hy1b, hy2b⟩)) (by dsimp only; omega) (by dsimp only; omega)) (.fin) (.cons rfl (.cons rfl (.cons rfl (.cons rfl (.cons rfl (.cons rfl (.cons rfl (.cons' rfl (ie (by dsimp only; omega)) (.nil)))))))))
          · refine SC_region ?_
            refine SR_pu (RD_move rfl) rfl ?_
            refine SR_pu (RD_move rfl) rfl ?_
            refine SR_pu (RD_len Try.runUnderlying22 rfl) rfl ?_
            refine SR_pu (RD_lss rfl rfl) rfl ?_
            refine SR_pu (RD_move rfl) rfl ?_
            refine SR_guard rfl rfl (fun hg30_4 => ?_) (fun hg30_4 => ?_)
            · obtain ⟨z1, hz1⟩ : ∃ z, l1[o]? = some z := ⟨_, List.getElem?_eq_getElem (by have := of_decide_eq_true hg30_4; omega)⟩
              obtain ⟨u1, hu1⟩ : ∃ u : Nat, z1 % 256 % ((i + 1 : Nat) : Int) = (u : Int) := ⟨(z1 % 256 % ((i + 1 : Nat) : Int)).toNat, by rw [Int.toNat_of_nonneg (Int.emod_nonneg _ (by omega))]⟩
              have hul1 : u1 < i + 1 := by have := Int.emod_lt_of_pos (z1 % 256) (show (0 : Int) < ((i + 1 : Nat) : Int) by omega); omega
              obtain ⟨y1, hy6⟩ : ∃ y, ds[u1]? = some y := ⟨_, List.getElem?_eq_getElem (by omega)⟩
              obtain ⟨m1, hm1⟩ : ∃ m, m = max ix u1 := ⟨_, rfl⟩
              obtain ⟨w1, hw1⟩ : ∃ w, ds[m1]? = some w := ⟨_, List.getElem?_eq_getElem (by omega)⟩
              have hcm1 : LS.commit l st (LS.of k.p q dx l (EV Es ix)) y1 = (true, (LS.of k.p q w1 l (EV Es m1))) := hch.commit (w := k.p) (t := q) hx2 hy6 hm1 hw1
              obtain ⟨yb1, hyb1, _⟩ := hch.at hy6
              obtain ⟨ob1, hob1, _⟩ := hch.at hx2
              have hev1 := hev ix
              refine SR_yes rfl rfl (hg30_4) ?_
              refine SR_pu (RD_move rfl) rfl ?_
              refine SR_yes rfl rfl (hg30_4) ?_
              refine SR_pu (RD_move rfl) rfl ?_
              refine SR_yes rfl rfl (hg30_4) ?_
              refine SR_pu (RD_move rfl) rfl ?_
              refine SR_yes rfl rfl (hg30_4) ?_
              refine SR_pu (RD_move rfl) rfl ?_
              refine SR_yes rfl rfl (hg30_4) ?_
              refine SR_rd (RD_ixO (i := (o : Nat)) (cs := l1.map intV) Try.runUnderlying22 Try.sizeOf3 rfl rfl (by simpa using hn1) (by omega) (by have := of_decide_eq_true hg30_4; omega)) Has.ro rfl ?_
              refine SR_yes rfl rfl (hg30_4) ?_
              refine SR_rd (RD_loadO (v := intV z1) (cs := l1.map intV) Try.isAgg3 rfl (by simp [hz1])) Has.ro rfl ?_
              refine SR_yes rfl rfl (hg30_4) ?_
              refine SR_pu (RD_mask 8 rfl rfl rfl (by decide) 256 rfl) rfl ?_
              refine SR_yes rfl rfl (hg30_4) ?_
              refine SR_pu (RD_move rfl) rfl ?_
              refine SR_yes rfl rfl (hg30_4) ?_
              refine SR_pu (RD_len Try.runUnderlying22 rfl) rfl ?_
              refine SR_yes rfl rfl (hg30_4) ?_
              refine SR_pu (RD_remi rfl rfl (by omega) (by omega)) rfl ?_
              refine SR_yes rfl rfl (hg30_4) ?_
              refine SR_rd (RD_ixO (i := (u1 : Nat)) (cs := ds.map intV) Try.runUnderlying22 Try.sizeOf3 rfl (congrArg some (ie hu1)) (by simp; omega) (by omega) (by omega)) Has.ro rfl ?_
              refine SR_yes rfl rfl (hg30_4) ?_
              refine SR_rd (RD_loadO (v := intV y1) (cs := ds.map intV) Try.isAgg3 rfl (by simp [hy6])) Has.ro rfl ?_
              refine SR_yes rfl rfl (hg30_4) ?_
              refine SR_call Try.call40 (.cons rfl (.cons rfl (.nil))) (CallsK.at3 (clog_Commit_yes' px q (LS.of k.p q dx l (EV Es ix)) rfl st k ⟨l, S⟩ rfl hch.ok y1 ⟨_, hyb1⟩ ⟨_, hob1⟩ (hvw y1) (hvw dx) hch.arena (show (EV Es ix).length ≤ 1000000 by omega) (by dsimp only; omega) true (LS.of k.p q w1 l (EV Es m1)) hcm1)) (lts rfl) ?_
              rintro _ L7 ⟨rfl, hL7⟩
              refine SR.lands hL7 ?_
              refine SR_yes rfl rfl (hg30_4) ?_
              refine SR_pu (RD_not rfl) rfl ?_
              refine SR_pu (RD_pick_t rfl (hg30_4) rfl) rfl ?_
              refine SR_pu (RD_move rfl) rfl ?_
              refine SR_yes rfl rfl (by first | rfl | exact decide_eq_true (by omega) | exact decide_eq_false (by omega) | decide | (simp; done) | (simp; omega)) ?_
              refine SR_pu (RD_move rfl) rfl ?_
              refine SR_yes rfl rfl (by first | rfl | exact decide_eq_true (by omega) | exact decide_eq_false (by omega) | decide | (simp; done) | (simp; omega)) ?_
              refine SR_pu (RD_move rfl) rfl ?_
              refine SR_yes rfl rfl (by first | rfl | exact decide_eq_true (by omega) | exact decide_eq_false (by omega) | decide | (simp; done) | (simp; omega)) ?_
              refine SR_pu (RD_len Try.runUnderlying22 rfl) rfl ?_
              refine SR_yes rfl rfl (by first | rfl | exact decide_eq_true (by omega) | exact decide_eq_false (by omega) | decide | (simp; done) | (simp; omega)) ?_
              refine SR_pu (RD_lss rfl rfl) rfl ?_
              refine SR_yes rfl rfl (by first | rfl | exact decide_eq_true (by omega) | exact decide_eq_false (by omega) | decide | (simp; done) | (simp; omega)) ?_
              refine SR_pu (RD_move rfl) rfl ?_
              refine SR_guard rfl rfl (fun hg30_25 => ?_) (fun hg30_25 => ?_)
              · obtain ⟨z2, hz2⟩ : ∃ z, l2[o]? = some z := ⟨_, List.getElem?_eq_getElem (by have := of_decide_eq_true hg30_25; omega)⟩
                obtain ⟨u2, hu2⟩ : ∃ u : Nat, z2 % 256 % ((i + 1 : Nat) : Int) = (u : Int) := ⟨(z2 % 256 % ((i + 1 : Nat) : Int)).toNat, by rw [Int.toNat_of_nonneg (Int.emod_nonneg _ (by omega))]⟩
                have hul2 : u2 < i + 1 := by have := Int.emod_lt_of_pos (z2 % 256) (show (0 : Int) < ((i + 1 : Nat) : Int) by omega); omega
                obtain ⟨y2, hy7⟩ : ∃ y, ds[u2]? = some y := ⟨_, List.getElem?_eq_getElem (by omega)⟩
                obtain ⟨m2, hm2⟩ : ∃ m, m = max iy u2 := ⟨_, rfl⟩
                obtain ⟨w2, hw2⟩ : ∃ w, ds[m2]? = some w := ⟨_, List.getElem?_eq_getElem (by omega)⟩
                have hcm2 : LS.commit l st (LS.of k.p q dy l (EV Es iy)) y2 = (true, (LS.of k.p q w2 l (EV Es m2))) := hch.commit (w := k.p) (t := q) hy2 hy7 hm2 hw2
                obtain ⟨yb2, hyb2, _⟩ := hch.at hy7
                obtain ⟨ob2, hob2, _⟩ := hch.at hy2
                have hev2 := hev iy
                refine SR_yes rfl rfl (hg30_25) ?_
                refine SR_pu (RD_move rfl) rfl ?_
                refine SR_yes rfl rfl (hg30_25) ?_
                refine SR_pu (RD_move rfl) rfl ?_
                refine SR_yes rfl rfl (hg30_25) ?_
                refine SR_pu (RD_move rfl) rfl ?_
                refine SR_yes rfl rfl (hg30_25) ?_
                refine SR_pu (RD_move rfl) rfl ?_
                refine SR_yes rfl rfl (hg30_25) ?_
                refine SR_rd (RD_ixO (i := (o : Nat)) (cs := l2.map intV) Try.runUnderlying22 Try.sizeOf3 rfl rfl (by simpa using hn2) (by omega) (by have := of_decide_eq_true hg30_25; omega)) Has.ro rfl ?_
                refine SR_yes rfl rfl (hg30_25) ?_
                refine SR_rd (RD_loadO (v := intV z2) (cs := l2.map intV) Try.isAgg3 rfl (by simp [hz2])) Has.ro rfl ?_
                refine SR_yes rfl rfl (hg30_25) ?_
                refine SR_pu (RD_mask 8 rfl rfl rfl (by decide) 256 rfl) rfl ?_
                refine SR_yes rfl rfl (hg30_25) ?_
                refine SR_pu (RD_move rfl) rfl ?_
                refine SR_yes rfl rfl (hg30_25) ?_
                refine SR_pu (RD_len Try.runUnderlying22 rfl) rfl ?_
                refine SR_yes rfl rfl (hg30_25) ?_
                refine SR_pu (RD_remi rfl rfl (by omega) (by omega)) rfl ?_
                refine SR_yes rfl rfl (hg30_25) ?_
                refine SR_rd (RD_ixO (i := (u2 : Nat)) (cs := ds.map intV) Try.runUnderlying22 Try.sizeOf3 rfl (congrArg some (ie hu2)) (by simp; omega) (by omega) (by omega)) Has.ro rfl ?_
                refine SR_yes rfl rfl (hg30_25) ?_
                refine SR_rd (RD_loadO (v := intV y2) (cs := ds.map intV) Try.isAgg3 rfl (by simp [hy7])) Has.ro rfl ?_
                refine SR_yes rfl rfl (hg30_25) ?_
                refine SR_call Try.call40 (.cons rfl (.cons rfl (.nil))) (CallsK.at3 (clog_Commit_yes' py q (LS.of k.p q dy l (EV Es iy)) rfl st k ⟨l, S⟩ rfl hch.ok y2 ⟨_, hyb2⟩ ⟨_, hob2⟩ (hvw y2) (hvw dy) hch.arena (show (EV Es iy).length ≤ 1000000 by omega) (by dsimp only; omega) true (LS.of k.p q w2 l (EV Es m2)) hcm2)) (lts rfl) ?_
                rintro _ L8 ⟨rfl, hL8⟩
                refine SR.lands hL8 ?_
                refine SR_yes rfl rfl (hg30_25) ?_
                refine SR_pu (RD_not rfl) rfl ?_
                refine SR_yes rfl rfl (by first | rfl | exact decide_eq_true (by omega) | exact decide_eq_false (by omega) | decide | (simp; done) | (simp; omega)) ?_
                refine SR_pu (RD_pick_t rfl (hg30_25) rfl) rfl ?_
                refine SR_pu (RD_pick_f rfl (by first | rfl | exact decide_eq_true (by omega) | exact decide_eq_false (by omega) | decide | (simp; done) | (simp; omega)) rfl) rfl ?_
                refine SR_nil ?_
                refine SN.le (l := [(1, _), (2, _), (7, _), (8, _), (9, _), (10, _), (13, _), (20, _), (163, _)]) ?_ (.cons rfl (.cons rfl (.cons rfl (.cons rfl (.cons rfl (.cons rfl (.cons rfl (.cons rfl (.cons rfl (.nil))))))))))
                exact J0 (⟨(m1, w1, m2, w2), ⟨by dsimp only; omega, hw1⟩, by dsimp only; omega, hw2⟩) _ _ (.cons rfl (.cons rfl (.cons rfl (.cons rfl (.cons rfl (.cons rfl (.cons rfl (.cons rfl (.cons' rfl (rfl) (.nil)))))))))) (.fin)
              · refine SR_no rfl rfl (hg30_25) (lts rfl) ?_
                refine SR_no rfl rfl (hg30_25) (lts rfl) ?_
                refine SR_no rfl rfl (hg30_25) (lts rfl) ?_
                refine SR_no rfl rfl (hg30_25) (lts rfl) ?_
                refine SR_no rfl rfl (hg30_25) (lts rfl) ?_
                refine SR_no rfl rfl (hg30_25) (lts rfl) ?_
                refine SR_no rfl rfl (hg30_25) (lts rfl) ?_
                refine SR_no rfl rfl (hg30_25) (lts rfl) ?_
                refine SR_no rfl rfl (hg30_25) (lts rfl) ?_
                refine SR_no rfl rfl (hg30_25) (lts rfl) ?_
                refine SR_no rfl rfl (hg30_25) (lts rfl) ?_
                refine SR_no rfl rfl (hg30_25) (lts rfl) ?_
                refine SR_no rfl rfl (hg30_25) (lts rfl) ?_
                refine SR_no rfl rfl (hg30_25) (lts rfl) ?_
                refine SR_yes rfl rfl (by first | rfl | exact decide_eq_true (by omega) | exact decide_eq_false (by omega) | decide | (simp; done) | (simp; omega)) ?_
                refine SR_pu (RD_pick_f rfl (hg30_25) rfl) rfl ?_
                refine SR_pu (RD_pick_f rfl (by first | rfl | exact decide_eq_true (by omega) | exact decide_eq_false (by omega) | decide | (simp; done) | (simp; omega)) rfl) rfl ?_
                refine SR_nil ?_
                refine SN.le (l := [(1, _), (2, _), (7, _), (8, _), (9, _), (10, _), (13, _), (20, _), (163, _)]) ?_ (.cons rfl (.cons rfl (.cons rfl (.cons rfl (.cons rfl (.cons rfl (.cons rfl (.cons rfl (.cons rfl (.nil))))))))))
                exact J0 (⟨(m1, w1, iy, dy), ⟨by dsimp only; omega, hw1⟩, by dsimp only; omega, hy2⟩) _ _ (.cons rfl (.cons rfl (.cons rfl (.cons rfl (.cons rfl (.cons rfl (.cons rfl (.cons rfl (.cons' rfl (rfl) (.nil)))))))))) (.fin)
            · refine SR_no rfl rfl (hg30_4) (lts rfl) ?_
              refine SR_no rfl rfl (hg30_4) (lts rfl) ?_
              refine SR_no rfl rfl (hg30_4) (lts rfl) ?_
              refine SR_no rfl rfl (hg30_4) (lts rfl) ?_
              refine SR_no rfl rfl (hg30_4) (lts rfl) ?_
              refine SR_no rfl rfl (hg30_4) (lts rfl) ?_
              refine SR_no rfl rfl (hg30_4) (lts rfl) ?_
              refine SR_no rfl rfl (hg30_4) (lts rfl) ?_
              refine SR_no rfl rfl (hg30_4) (lts rfl) ?_
              refine SR_no rfl rfl (hg30_4) (lts rfl) ?_
              refine SR_no rfl rfl (hg30_4) (lts rfl) ?_
              refine SR_no rfl rfl (hg30_4) (lts rfl) ?_
              refine SR_no rfl rfl (hg30_4) (lts rfl) ?_
              refine SR_no rfl rfl (hg30_4) (lts rfl) ?_
              refine SR_pu (RD_pick_f rfl (hg30_4) rfl) rfl ?_
              refine SR_pu (RD_move rfl) rfl ?_
              refine SR_yes rfl rfl (by first | rfl | exact decide_eq_true (by omega) | exact decide_eq_false (by omega) | decide | (simp; done) | (simp; omega)) ?_
              refine SR_pu (RD_move rfl) rfl ?_
              refine SR_yes rfl rfl (by first | rfl | exact decide_eq_true (by omega) | exact decide_eq_false (by omega) | decide | (simp; done) | (simp; omega)) ?_
              refine SR_pu (RD_move rfl) rfl ?_
              refine SR_yes rfl rfl (by first | rfl | exact decide_eq_true (by omega) | exact decide_eq_false (by omega) | decide | (simp; done) | (simp; omega)) ?_
              refine SR_pu (RD_len Try.runUnderlying22 rfl) rfl ?_
              refine SR_yes rfl rfl (by first | rfl | exact decide_eq_true (by omega) | exact decide_eq_false (by omega) | decide | (simp; done) | (simp; omega)) ?_
              refine SR_pu (RD_lss rfl rfl) rfl ?_
              refine SR_yes rfl rfl (by first | rfl | exact decide_eq_true (by omega) | exact decide_eq_false (by omega) | decide | (simp; done) | (simp; omega)) ?_
              refine SR_pu (RD_move rfl) rfl ?_
              refine SR_guard rfl rfl (fun hg30_25 => ?_) (fun hg30_25 => ?_)
              · obtain ⟨z2, hz2⟩ : ∃ z, l2[o]? = some z := ⟨_, List.getElem?_eq_getElem (by have := of_decide_eq_true hg30_25; omega)⟩
                obtain ⟨u2, hu2⟩ : ∃ u : Nat, z2 % 256 % ((i + 1 : Nat) : Int) = (u : Int) := ⟨(z2 % 256 % ((i + 1 : Nat) : Int)).toNat, by rw [Int.toNat_of_nonneg (Int.emod_nonneg _ (by omega))]⟩
                have hul2 : u2 < i + 1 := by have := Int.emod_lt_of_pos (z2 % 256) (show (0 : Int) < ((i + 1 : Nat) : Int) by omega); omega
                obtain ⟨y2, hy7⟩ : ∃ y, ds[u2]? = some y := ⟨_, List.getElem?_eq_getElem (by omega)⟩
                obtain ⟨m2, hm2⟩ : ∃ m, m = max iy u2 := ⟨_, rfl⟩
                obtain ⟨w2, hw2⟩ : ∃ w, ds[m2]? = some w := ⟨_, List.getElem?_eq_getElem (by omega)⟩
                have hcm2 : LS.commit l st (LS.of k.p q dy l (EV Es iy)) y2 = (true, (LS.of k.p q w2 l (EV Es m2))) := hch.commit (w := k.p) (t := q) hy2 hy7 hm2 hw2
                obtain ⟨yb2, hyb2, _⟩ := hch.at hy7
                obtain ⟨ob2, hob2, _⟩ := hch.at hy2
                have hev2 := hev iy
                refine SR_yes rfl rfl (hg30_25) ?_
                refine SR_pu (RD_move rfl) rfl ?_
                refine SR_yes rfl rfl (hg30_25) ?_
                refine SR_pu (RD_move rfl) rfl ?_
                refine SR_yes rfl rfl (hg30_25) ?_
                refine SR_pu (RD_move rfl) rfl ?_
                refine SR_yes rfl rfl (hg30_25) ?_
                refine SR_pu (RD_move rfl) rfl ?_
                refine SR_yes rfl rfl (hg30_25) ?_
                refine SR_rd (RD_ixO (i := (o : Nat)) (cs := l2.map intV) Try.runUnderlying22 Try.sizeOf3 rfl rfl (by simpa using hn2) (by omega) (by have := of_decide_eq_true hg30_25; omega)) Has.ro rfl ?_
                refine SR_yes rfl rfl (hg30_25) ?_
                refine SR_rd (RD_loadO (v := intV z2) (cs := l2.map intV) Try.isAgg3 rfl (by simp [hz2])) Has.ro rfl ?_
                refine SR_yes rfl rfl (hg30_25) ?_
                refine SR_pu (RD_mask 8 rfl rfl rfl (by decide) 256 rfl) rfl ?_
                refine SR_yes rfl rfl (hg30_25) ?_
                refine SR_pu (RD_move rfl) rfl ?_
                refine SR_yes rfl rfl (hg30_25) ?_
                refine SR_pu (RD_len Try.runUnderlying22 rfl) rfl ?_
                refine SR_yes rfl rfl (hg30_25) ?_
                refine SR_pu (RD_remi rfl rfl (by omega) (by omega)) rfl ?_
                refine SR_yes rfl rfl (hg30_25) ?_
                refine SR_rd (RD_ixO (i := (u2 : Nat)) (cs := ds.map intV) Try.runUnderlying22 Try.sizeOf3 rfl (congrArg some (ie hu2)) (by simp; omega) (by omega) (by omega)) Has.ro rfl ?_
                refine SR_yes rfl rfl (hg30_25) ?_
                refine SR_rd (RD_loadO (v := intV y2) (cs := ds.map intV) Try.isAgg3 rfl (by simp [hy7])) Has.ro rfl ?_
                refine SR_yes rfl rfl (hg30_25) ?_
                refine SR_call Try.call40 (.cons rfl (.cons rfl (.nil))) (CallsK.at3 (clog_Commit_yes' py q (LS.of k.p q dy l (EV Es iy)) rfl st k ⟨l, S⟩ rfl hch.ok y2 ⟨_, hyb2⟩ ⟨_, hob2⟩ (hvw y2) (hvw dy) hch.arena (show (EV Es iy).length ≤ 1000000 by omega) (by dsimp only; omega) true (LS.of k.p q w2 l (EV Es m2)) hcm2)) (lts rfl) ?_
                rintro _ L8 ⟨rfl, hL8⟩
                refine SR.lands hL8 ?_
                refine SR_yes rfl rfl (hg30_25) ?_
                refine SR_pu (RD_not rfl) rfl ?_
                refine SR_yes rfl rfl (by first | rfl | exact decide_eq_true (by omega) | exact decide_eq_false (by omega) | decide | (simp; done) | (simp; omega)) ?_
                refine SR_pu (RD_pick_t rfl (hg30_25) rfl) rfl ?_
                refine SR_pu (RD_pick_f rfl (by first | rfl | exact decide_eq_true (by omega) | exact decide_eq_false (by omega) | decide | (simp; done) | (simp; omega)) rfl) rfl ?_
                refine SR_nil ?_
                refine SN.le (l := [(1, _), (2, _), (7, _), (8, _), (9, _), (10, _), (13, _), (20, _), (163, _)]) ?_ (.cons rfl (.cons rfl (.cons rfl (.cons rfl (.cons rfl (.cons rfl (.cons rfl (.cons rfl (.cons rfl (.nil))))))))))
                exact J0 (⟨(ix, dx, m2, w2), ⟨by dsimp only; omega, hx2⟩, by dsimp only; omega, hw2⟩) _ _ (.cons rfl (.cons rfl (.cons rfl (.cons rfl (.cons rfl (.cons rfl (.cons rfl (.cons rfl (.cons' rfl (rfl) (.nil)))))))))) (.fin)
              · refine SR_no rfl rfl (hg30_25) (lts rfl) ?_
                refine SR_no rfl rfl (hg30_25) (lts rfl) ?_
                refine SR_no rfl rfl (hg30_25) (lts rfl) ?_
                refine SR_no rfl rfl (hg30_25) (lts rfl) ?_
                refine SR_no rfl rfl (hg30_25) (lts rfl) ?_
                refine SR_no rfl rfl (hg30_25) (lts rfl) ?_
                refine SR_no rfl rfl (hg30_25) (lts rfl) ?_
                refine SR_no rfl rfl (hg30_25) (lts rfl) ?_
                refine SR_no rfl rfl (hg30_25) (lts rfl) ?_
                refine SR_no rfl rfl (hg30_25) (lts rfl) ?_
                refine SR_no rfl rfl (hg30_25) (lts rfl) ?_
                refine SR_no rfl rfl (hg30_25) (lts rfl) ?_
                refine SR_no rfl rfl (hg30_25) (lts rfl) ?_
                refine SR_no rfl rfl (hg30_25) (lts rfl) ?_
                refine SR_yes rfl rfl (by first | rfl | exact decide_eq_true (by omega) | exact decide_eq_false (by omega) | decide | (simp; done) | (simp; omega)) ?_
                refine SR_pu (RD_pick_f rfl (hg30_25) rfl) rfl ?_
                refine SR_pu (RD_pick_f rfl (by first | rfl | exact decide_eq_true (by omega) | exact decide_eq_false (by omega) | decide | (simp; done) | (simp; omega)) rfl) rfl ?_
                refine SR_nil ?_
                refine SN.le (l := [(1, _), (2, _), (7, _), (8, _), (9, _), (10, _), (13, _), (20, _), (163, _)]) ?_ (.cons rfl (.cons rfl (.cons rfl (.cons rfl (.cons rfl (.cons rfl (.cons rfl (.cons rfl (.cons rfl (.nil))))))))))
                exact J0 (⟨(ix, dx, iy, dy), ⟨by dsimp only; omega, hx2⟩, by dsimp only; omega, hy2⟩) _ _ (.cons rfl (.cons rfl (.cons rfl (.cons rfl (.cons rfl (.cons rfl (.cons rfl (.cons rfl (.cons' rfl (rfl) (.nil)))))))))) (.fin)
        · clear ih3
          have hcz : LS.commit l st (LS.of k.p q 1 l (EV Es 0)) dx = (true, (LS.of k.p q dx l (EV Es ix))) := hch.commit (w := k.p) (t := q) hd0 hx2 (m := ix) (by omega) hx2
          obtain ⟨xb, hxb, _⟩ := hch.at hx2
          obtain ⟨rb, hrb, _⟩ := hch.at hd0
          have hevx := hev ix
          refine SC_exit rfl ?_
          refine SN_seq ?_
          refine SC_seq ?_
          refine SC_region ?_
          refine SR_pu (RD_move rfl) rfl ?_
          refine SR_pu (RD_move rfl) rfl ?_
          refine SR_call Try.call38 (.cons rfl (.cons rfl (.nil))) (CallsK.at (clog_New k.p q st)) (lts rfl) ?_
          rintro _ L12 ⟨pz, rfl, hL12⟩
          rw [hroot] at hL12
          change Lands L12 (At logI pz (LS.of k.p q 1 l (EV Es 0)) :: _) at hL12
          refine SR.lands hL12 ?_
          refine SR_pu (RD_assign rfl) rfl ?_
          refine SR_nil ?_
          refine SN.le (l := [(9, _), (24, _)]) ?_ (.cons rfl (.cons rfl (.nil)))
          refine SN_seq ?_
          refine SC_seq ?_
          refine SC_seq ?_
          refine SC_region ?_
          refine SR_pu (RD_move rfl) rfl ?_
          refine SR_pu (RD_eqlP Try.underlying70 rfl rfl) rfl ?_
          refine SR_pu (RD_move rfl) rfl ?_
          refine SR_yes rfl rfl (by first | rfl | exact decide_eq_true (by omega) | exact decide_eq_false (by omega) | decide | (simp; done) | (simp; omega)) ?_
          refine SR_pu (RD_move rfl) rfl ?_
          refine SR_yes rfl rfl (by first | rfl | exact decide_eq_true (by omega) | exact decide_eq_false (by omega) | decide | (simp; done) | (simp; omega)) ?_
          refine SR_pu (RD_move rfl) rfl ?_
          refine SR_yes rfl rfl (by first | rfl | exact decide_eq_true (by omega) | exact decide_eq_false (by omega) | decide | (simp; done) | (simp; omega)) ?_
          refine SR_call Try.call42 (.cons rfl (.nil)) (CallsK.at (clog_Tip px (LS.of k.p q dx l (EV Es ix)))) (lts rfl) ?_
          rintro _ L13 ⟨rfl, hL13⟩
          refine SR.lands hL13 ?_
          refine SR_yes rfl rfl (by first | rfl | exact decide_eq_true (by omega) | exact decide_eq_false (by omega) | decide | (simp; done) | (simp; omega)) ?_
          refine SR_call Try.call40 (.cons rfl (.cons rfl (.nil))) (CallsK.at3 (clog_Commit_yes' pz q (LS.of k.p q 1 l (EV Es 0)) rfl st k ⟨l, S⟩ rfl hch.ok dx ⟨_, hxb⟩ ⟨_, hrb⟩ (hvw dx) (hvw 1) hch.arena (show (EV Es 0).length ≤ 1000000 from Nat.zero_le _) (by dsimp only; omega) true (LS.of k.p q dx l (EV Es ix)) hcz)) (lts rfl) ?_
          rintro _ L14 ⟨rfl, hL14⟩
          refine SR.lands hL14 ?_
          refine SR_yes rfl rfl (by first | rfl | exact decide_eq_true (by omega) | exact decide_eq_false (by omega) | decide | (simp; done) | (simp; omega)) ?_
          refine SR_pu (RD_not rfl) rfl ?_
          refine SR_pu (RD_pick_f rfl (by first | rfl | exact decide_eq_true (by omega) | exact decide_eq_false (by omega) | decide | (simp; done) | (simp; omega)) rfl) rfl ?_
          refine SR_pu (RD_move rfl) rfl ?_
          refine SR_yes rfl rfl (by first | rfl | exact decide_eq_true (by omega) | exact decide_eq_false (by omega) | decide | (simp; done) | (simp; omega)) ?_
          refine SR_pu (RD_move rfl) rfl ?_
          refine SR_yes rfl rfl (by first | rfl | exact decide_eq_true (by omega) | exact decide_eq_false (by omega) | decide | (simp; done) | (simp; omega)) ?_
          refine SR_call Try.call41 (.cons rfl (.nil)) (CallsK.at (clog_Envs pz (LS.of k.p q dx l (EV Es ix)) (show (EV Es ix).length ≤ 100000000 by omega))) (lts rfl) ?_
          rintro _ L15 ⟨ra, rc, rfl, hL15⟩
          change Lands L15 (rowP 39 4 ra (EV Es ix).length rc ((EV Es ix).flatMap EnvD.cells) :: _) at hL15
          refine SR.lands hL15 ?_
          refine SR_yes rfl rfl (by first | rfl | exact decide_eq_true (by omega) | exact decide_eq_false (by omega) | decide | (simp; done) | (simp; omega)) ?_
          refine SR_pu (RD_move rfl) rfl ?_
          refine SR_yes rfl rfl (by first | rfl | exact decide_eq_true (by omega) | exact decide_eq_false (by omega) | decide | (simp; done) | (simp; omega)) ?_
          refine SR_call Try.call41 (.cons rfl (.nil)) (CallsK.at (clog_Envs px (LS.of k.p q dx l (EV Es ix)) (show (EV Es ix).length ≤ 100000000 by omega))) (lts rfl) ?_
          rintro _ L16 ⟨sa, sc, rfl, hL16⟩
          change Lands L16 (rowP 39 4 sa (EV Es ix).length sc ((EV Es ix).flatMap EnvD.cells) :: _) at hL16
          refine SR.lands hL16 ?_
          refine SR_yes rfl rfl (by first | rfl | exact decide_eq_true (by omega) | exact decide_eq_false (by omega) | decide | (simp; done) | (simp; omega)) ?_
          refine SR_call Try.call18 (.cons rfl (.cons rfl (.nil))) (ref_Same14 ra _ rc (EV Es ix) rfl rfl sa _ sc (EV Es ix) rfl rfl (show (EV Es ix).length ≤ _ by omega)) (lts rfl) ?_
          rintro _ L17 ⟨rfl, hL17⟩
          rw [decide_eq_true rfl]
          refine SR.lands hL17 ?_
          refine SR_yes rfl rfl (by first | rfl | exact decide_eq_true (by omega) | exact decide_eq_false (by omega) | decide | (simp; done) | (simp; omega)) ?_
          refine SR_pu (RD_not rfl) rfl ?_
          refine SR_pu (RD_pick_f rfl (by first | rfl | exact decide_eq_true (by omega) | exact decide_eq_false (by omega) | decide | (simp; done) | (simp; omega)) rfl) rfl ?_
          refine SR_nil ?_
          refine SN.le (l := [(200, _)]) ?_ (.cons rfl (.nil))
          refine SN_seq ?_
          refine SC_cond_false rfl (rfl) ?_
          refine SC_skip ?_
          refine SN_seq ?_
          refine SC_seq ?_
          refine SC_region ?_
          refine SR_call Try.call43 (.nil) (clog_awake) (lts rfl) ?_
          rintro _ L18 ⟨rfl, hL18⟩
          refine SR.lands hL18 ?_
          refine SR_pu (RD_assign rfl) rfl ?_
          refine SR_nil ?_
          refine SN.le (l := [(6, _)]) ?_ (.cons rfl (.nil))
          refine SN_seq ?_
          refine SC_ret1 rfl rfl ?_
          exact ⟨rfl, .fin⟩
    · refine SC_region ?_
      refine SR_pu (RD_move rfl) rfl ?_
      refine SR_pu (RD_move rfl) rfl ?_
      refine SR_pu (RD_len Try.runUnderlying22 rfl) rfl ?_
      refine SR_pu (RD_lss rfl rfl) rfl ?_
      refine SR_pu (RD_move rfl) rfl ?_
      refine SR_guard rfl rfl (fun hg15_4 => ?_) (fun hg15_4 => ?_)
      · refine SR_yes rfl rfl (hg15_4) ?_
        refine SR_pu (RD_move rfl) rfl ?_
        refine SR_yes rfl rfl (hg15_4) ?_
        refine SR_pu (RD_lss rfl rfl) rfl ?_
        refine SR_pu (RD_pick_t rfl (hg15_4) rfl) rfl ?_
        refine SR_nil ?_
        refine SN.le (l := [(0, _), (1, _), (2, _), (7, _), (8, _), (9, _), (10, _), (11, _), (13, _), (14, _), (15, _), (69, _)]) ?_ (.cons rfl (.cons rfl (.cons rfl (.cons rfl (.cons rfl (.cons rfl (.cons rfl (.cons rfl (.cons rfl (.cons rfl (.cons rfl (.cons rfl (.nil)))))))))))))
        exact J0 (()) _ _ (.cons rfl (.cons rfl (.cons rfl (.cons rfl (.cons rfl (.cons rfl (.cons rfl (.cons rfl (.cons rfl (.cons rfl (.cons rfl (.cons' rfl (congrArg Value.bool (decide_eq_decide.2 (by have := of_decide_eq_true hg15_4; omega))) (.nil))))))))))))) (.fin)
      · refine SR_no rfl rfl (hg15_4) (lts rfl) ?_
        refine SR_no rfl rfl (hg15_4) (lts rfl) ?_
        refine SR_pu (RD_pick_f rfl (hg15_4) rfl) rfl ?_
        refine SR_nil ?_
        refine SN.le (l := [(0, _), (1, _), (2, _), (7, _), (8, _), (9, _), (10, _), (11, _), (13, _), (14, _), (15, _), (69, _)]) ?_ (.cons rfl (.cons rfl (.cons rfl (.cons rfl (.cons rfl (.cons rfl (.cons rfl (.cons rfl (.cons rfl (.cons rfl (.cons rfl (.cons rfl (.nil)))))))))))))
        exact J0 (()) _ _ (.cons rfl (.cons rfl (.cons rfl (.cons rfl (.cons rfl (.cons rfl (.cons rfl (.cons rfl (.cons rfl (.cons rfl (.cons rfl (.cons' rfl (congrArg Value.bool (decide_eq_false (by have := of_decide_eq_false hg15_4; omega)).symm) (.nil))))))))))))) (.fin)

end Go.Proofs.Ytnifaajdiolbjaa
