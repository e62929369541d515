/- Forks: the statement. -/
import Derived.Test.YtdmmaammpjdmbaaTq
namespace Go.Proofs.Ytdmmaammpjdmbaa
open Go Go.Proofs
set_option maxRecDepth 100000

theorem law_TreeForks {W : World} {F : List HProp} [Abs F] (n_ long : Int) :
    CallsK W Try.prog 8 #[.int .i64 n_, .int .i64 long] (F) (fun v L => v = .bool true ∧ Lands L F) := by
  refine CallsK_enter (n := 136) Try.func8 rfl rfl rfl ?_
  obtain ⟨n, hn0⟩ : ∃ n : Nat, n_ % 8 + 2 = (n : Int) := ⟨(n_ % 8 + 2).toNat, by omega⟩
  obtain ⟨g, hg0⟩ : ∃ g : Nat, long % 4 + 1 = (g : Int) := ⟨(long % 4 + 1).toNat, by omega⟩
  have hn : 2 ≤ n ∧ n ≤ 9 := by omega
  have hg : 1 ≤ g ∧ g ≤ 4 := by omega
  refine SC_seq ?_
  refine SC_region ?_
  refine SR_pu (RD_assign rfl) rfl ?_
  refine SR_nil ?_
  refine SN.le (l := [(0, _), (1, _)]) ?_ (.cons rfl (.cons rfl (.nil)))
  refine SN_seq ?_
  refine SC_seq ?_
  refine SC_region ?_
  refine SR_call Try.call15 (.cons rfl (.nil)) (enve_New 1) (lts rfl) ?_
  rintro _ L0 ⟨k, rfl, hL0⟩
  refine SR.lands hL0 ?_
  refine SR_pu (RD_assign rfl) rfl ?_
  refine SR_nil ?_
  refine SN.le (l := [(0, _), (1, _), (5, _)]) ?_ (.cons rfl (.cons rfl (.cons rfl (.nil))))
  refine SN_seq ?_
  refine SC_seq ?_
  refine SC_seq ?_
  refine SC_region ?_
  refine SR_pu (RD_move rfl) rfl ?_
  refine SR_pu (RD_eqlP Try.underlying25 rfl rfl) rfl ?_
  refine SR_nil ?_
  refine SN.le (l := [(0, _), (1, _), (5, _), (23, _)]) ?_ (.cons rfl (.cons rfl (.cons rfl (.cons rfl (.nil)))))
  refine SN_seq ?_
  refine SC_cond_false rfl (rfl) ?_
  refine SC_skip ?_
  refine SN_seq ?_
  refine SC_seq ?_
  refine SC_region ?_
  refine SR_pu (RD_move rfl) rfl ?_
  refine SR_call Try.call33 (.cons rfl (.nil)) (CallsK.at (tree_New k ⟨[], []⟩ (by simp) [rootB] 1 (by decide +kernel) (by decide +kernel))) (lts rfl) ?_
  rintro _ L1 ⟨p, rfl, hL1⟩
  try dsimp only at hL1
  change Lands L1 (At treeI p (tS0 k.p) :: _) at hL1
  refine SR.lands hL1 ?_
  refine SR_pu (RD_assign rfl) rfl ?_
  refine SR_nil ?_
  refine SN.le (l := [(0, _), (1, _), (5, _), (6, _)]) ?_ (.cons rfl (.cons rfl (.cons rfl (.cons rfl (.nil)))))
  refine SN_seq ?_
  refine SC_seq ?_
  refine SC_seq ?_
  refine SC_region ?_
  refine SR_pu (RD_move rfl) rfl ?_
  refine SR_pu (RD_eqlP Try.underlying54 rfl rfl) rfl ?_
  refine SR_nil ?_
  refine SN.le (l := [(0, _), (1, _), (5, _), (6, _), (27, _)]) ?_ (.cons rfl (.cons rfl (.cons rfl (.cons rfl (.cons rfl (.nil))))))
  refine SN_seq ?_
  refine SC_cond_false rfl (rfl) ?_
  refine SC_skip ?_
  refine SN_seq ?_
  refine SC_seq ?_
  refine SC_region ?_
  refine SR_pu (RD_move rfl) rfl ?_
  refine SR_pu (RD_mask 3 rfl rfl rfl (by decide) 8 rfl) rfl ?_
  refine SR_pu (RD_addi rfl rfl (by omega) (by omega)) rfl ?_
  refine SR_pu (RD_move rfl) rfl ?_
  refine SR_pu (RD_mask 2 rfl rfl rfl (by decide) 4 rfl) rfl ?_
  refine SR_pu (RD_addi rfl rfl (by omega) (by omega)) rfl ?_
  refine SR_pu (RD_assign rfl) rfl ?_
  refine SR_pu (RD_assign rfl) rfl ?_
  refine SR_nil ?_
  refine SN.le (l := [(0, _), (1, _), (5, _), (6, _)]) ?_ (.cons rfl (.cons rfl (.cons rfl (.cons rfl (.nil)))))
  rw [hn0, hg0]
  refine SN_seq ?_
  refine SC_seq ?_
  refine SC_region ?_
  refine SR_pu (RD_move rfl) rfl ?_
  refine SR_call Try.call21 (.cons rfl (.nil)) (CallsK.at (cert_Root k ⟨[rootB], []⟩ (by simp) [rootB] 1 (by decide +kernel) (by decide +kernel))) (lts rfl) ?_
  rintro _ L2 ⟨rfl, hL2⟩
  try dsimp only at hL2
  refine SR.lands hL2 ?_
  refine SR_pu (RD_assign rfl) rfl ?_
  refine SR_nil ?_
  refine SN.le (l := [(0, _), (1, _), (6, _), (7, _)]) ?_ (.cons rfl (.cons rfl (.cons rfl (.cons rfl (.nil)))))
  refine SN_seq ?_
  refine SC_seq ?_
  refine SC_region ?_
  refine SR_pu (RD_assign rfl) rfl ?_
  refine SR_nil ?_
  refine SN.le (l := [(0, _), (1, _), (6, _), (7, _), (8, _)]) ?_ (.cons rfl (.cons rfl (.cons rfl (.cons rfl (.cons rfl (.nil))))))
  refine SN_seq ?_
  refine SC_seq ?_
  refine SC_seq ?_
  refine SC_region ?_
  refine SR_pu (RD_assign rfl) rfl ?_
  refine SR_nil ?_
  refine SN.le (l := [(0, _), (1, _), (6, _), (7, _), (8, _), (9, _)]) ?_ (.cons rfl (.cons rfl (.cons rfl (.cons rfl (.cons rfl (.cons rfl (.nil)))))))
  refine SN_seq ?_
  refine SC_block ?_
  have hFI0 : FI k.p g (tS0 k.p) [rootB] 0 0 := ⟨by have h := TL.start (l := [rootB]) k.p (by simp); rw [show dnum [rootB] rootB = 1 by simp [dnum]] at h; exact h, TS.Ok.new k.p 1, rfl, rfl, fun d b hd hr => by have h : d ≠ 1 := hr; simp [tS0, mget, h] at hd, by simp [tS0], by simp⟩
  refine SC_ind (X := Nat × TS × List (List UInt8) × Option Addr × Nat × List Int) (fun x => x.1 ≤ n ∧ FI k.p g x.2.1 x.2.2.1 x.1 0 ∧ x.2.2.2.2.2.length = x.1 ∧ EP x.2.1 g x.2.2.2.2.2) (fun x => n - x.1) (fun x => [(0, .int .i64 (n : Nat)), (1, .int .i64 (g : Nat)), (6, .pointer (some ⟨p, 0, none⟩)), (7, .int .i64 1), (8, .slice x.2.2.2.1 x.1 x.2.2.2.2.1), (9, .int .i64 (x.1 : Nat))]) (fun x => rowP 3 1 x.2.2.2.1 x.1 x.2.2.2.2.1 (x.2.2.2.2.2.map intV) :: At treeI p x.2.1 :: At worldI k ⟨x.2.2.1, []⟩ :: F) ((0, tS0 k.p, [rootB], none, 0, [])) (⟨by dsimp only; omega, hFI0, rfl, fun j e h => by simp at h⟩) (.cons rfl (.cons rfl (.cons rfl (.cons rfl (.cons rfl (.cons rfl (.nil))))))) ((row_new 3 1 none).trans (show Lands _ (rowP 3 1 none 0 0 [] :: At treeI p (tS0 k.p) :: At worldI k ⟨[rootB], []⟩ :: F) from .fin)) ?_
  intro ⟨i, s, l, a, c, E⟩ hi ih0
  obtain ⟨hi1, hFI, hEl, hEP⟩ := hi
  dsimp only at hi1 hFI hEl hEP ih0 ⊢
  refine SC_seq ?_
  refine SC_seq ?_
  refine SC_region ?_
  refine SR_pu (RD_move rfl) rfl ?_
  refine SR_pu (RD_move rfl) rfl ?_
  refine SR_pu (RD_lss rfl rfl) rfl ?_
  refine SR_nil ?_
  refine SN.le (l := [(0, _), (1, _), (6, _), (7, _), (8, _), (9, _), (38, _)]) ?_ (.cons rfl (.cons rfl (.cons rfl (.cons rfl (.cons rfl (.cons rfl (.cons rfl (.nil))))))))
  refine SN_seq ?_
  refine SC_cond rfl (fun hc38 => ?_) (fun hc38 => ?_)
  · have hin : i < n := by simp at hc38; omega
    refine SC_skip ?_
    refine SN_seq ?_
    refine SC_seq ?_
    refine SC_block ?_
    refine SC_seq ?_
    refine SC_region ?_
    refine SR_pu (RD_move rfl) rfl ?_
    refine SR_pu (RD_assign rfl) rfl ?_
    refine SR_pu (RD_assign rfl) rfl ?_
    refine SR_nil ?_
    refine SN.le (l := [(0, _), (1, _), (6, _), (7, _), (8, _), (9, _), (10, _), (11, _)]) ?_ (.cons rfl (.cons rfl (.cons rfl (.cons rfl (.cons rfl (.cons rfl (.cons rfl (.cons rfl (.nil)))))))))
    refine SN_seq ?_
    refine SC_seq ?_
    refine SC_seq ?_
    refine SC_region ?_
    refine SR_pu (RD_assign rfl) rfl ?_
    refine SR_nil ?_
    refine SN.le (l := [(0, _), (1, _), (6, _), (7, _), (8, _), (9, _), (10, _), (11, _), (12, _)]) ?_ (.cons rfl (.cons rfl (.cons rfl (.cons rfl (.cons rfl (.cons rfl (.cons rfl (.cons rfl (.cons rfl (.nil))))))))))
    refine SN_seq ?_
    refine SC_block ?_
    refine SC_ind (X := Nat × TS × List (List UInt8) × Int) (fun x => x.1 ≤ g ∧ FI k.p g x.2.1 x.2.2.1 i x.1 ∧ ON x.2.1 i x.1 x.2.2.2 ∧ EP x.2.1 g E) (fun x => g - x.1) (fun x => [(0, .int .i64 (n : Nat)), (1, .int .i64 (g : Nat)), (6, .pointer (some ⟨p, 0, none⟩)), (7, .int .i64 1), (8, .slice a i c), (9, .int .i64 (i : Nat)), (10, .int .i64 x.2.2.2), (11, .int .i64 (x.1 : Nat)), (12, .int .i64 (x.1 : Nat))]) (fun x => rowP 3 1 a i c (E.map intV) :: At treeI p x.2.1 :: At worldI k ⟨x.2.2.1, []⟩ :: F) ((0, s, l, 1)) (⟨by dsimp only; omega, hFI, by obtain ⟨r, h1, h2, h3⟩ := hFI.ok.root; rw [hFI.root] at h1; exact ⟨r, h1, h2, fun _ => hFI.root.symm, fun h => by dsimp only at h; omega⟩, hEP⟩) (.cons rfl (.cons rfl (.cons rfl (.cons rfl (.cons rfl (.cons rfl (.cons rfl (.cons rfl (.cons rfl (.nil)))))))))) (.fin) ?_
    intro ⟨m, s, l, on⟩ hi ih1
    obtain ⟨hm1, hFI, hON, hEP⟩ := hi
    dsimp only at hm1 hFI hON hEP ih1 ⊢
    refine SC_seq ?_
    refine SC_seq ?_
    refine SC_region ?_
    refine SR_pu (RD_move rfl) rfl ?_
    refine SR_pu (RD_move rfl) rfl ?_
    refine SR_pu (RD_lss rfl rfl) rfl ?_
    refine SR_nil ?_
    refine SN.le (l := [(0, _), (1, _), (6, _), (7, _), (8, _), (9, _), (10, _), (11, _), (12, _), (44, _)]) ?_ (.cons rfl (.cons rfl (.cons rfl (.cons rfl (.cons rfl (.cons rfl (.cons rfl (.cons rfl (.cons rfl (.cons rfl (.nil)))))))))))
    refine SN_seq ?_
    refine SC_cond rfl (fun hc44 => ?_) (fun hc44 => ?_)
    · have hmg : m < g := by simp at hc44; omega
      obtain ⟨s', l', hadd, hFI', hON', hEP'⟩ := hFI.step hON (by omega) (by omega) (by omega) rfl
      have har := hFI.arena
      have hig : i * g ≤ 40 := Nat.le_trans (Nat.mul_le_mul (show i ≤ 10 by omega) hg.2) (by decide)
      refine SC_skip ?_
      refine SN_seq ?_
      refine SC_seq ?_
      refine SC_block ?_
      refine SC_seq ?_
      refine SC_region ?_
      refine SR_pu (RD_move rfl) rfl ?_
      refine SR_pu (RD_move rfl) rfl ?_
      refine SR_pu (RD_addi rfl rfl (by omega) (by omega)) rfl ?_
      refine SR_pu (RD_move rfl) rfl ?_
      refine SR_pu (RD_move rfl) rfl ?_
      refine SR_pu (RD_move rfl) rfl ?_
      refine SR_pu (RD_move rfl) rfl ?_
      refine SR_ox (OX_lit1 Try.underlying22 Try.type3 rfl rfl rfl rfl (.cons rfl (.nil)) (.cons rfl (.nil))) rfl ?_
      rintro _ _ ⟨b55, rfl, rfl⟩
      refine SR_pu (RD_build (.cons rfl (.cons rfl (.cons rfl (.nil)))) built34_0_1_2) rfl ?_
      refine SR_pu (RD_build (.cons rfl (.cons rfl (.cons rfl (.nil)))) built69_0_1_2) rfl ?_
      refine SR_call Try.call40 (.cons rfl (.cons rfl (.nil))) (CallsK.at2 (tree_Add' p s k hFI.w ⟨l, []⟩ ⟨(m : Int) + 1, (i : Int), (m : Int), on, ⟨some ⟨b55, 0, none⟩, 1, 1, [(i : Int)]⟩, ⟨none, 0, 0, []⟩⟩ rfl rfl (fit_one _ _ _ _ _ _ _) (by dsimp only; omega) _ 0 s' l' hadd)) (lts rfl) ?_
      rintro _ L3 ⟨rfl, hL3⟩
      try dsimp only at hL3
      refine SR.lands hL3 ?_
      refine SR_pu (RD_move rfl) rfl ?_
      refine SR_pu (RD_extract rfl rfl) rfl ?_
      refine SR_pu (RD_extract rfl rfl) rfl ?_
      refine SR_pu (RD_assign rfl) rfl ?_
      refine SR_pu (RD_assign rfl) rfl ?_
      refine SR_nil ?_
      refine SN.le (l := [(0, _), (1, _), (6, _), (7, _), (8, _), (9, _), (11, _), (12, _), (13, _), (14, _)]) ?_ (.cons rfl (.cons rfl (.cons rfl (.cons rfl (.cons rfl (.cons rfl (.cons rfl (.cons rfl (.cons rfl (.cons rfl (.nil)))))))))))
      refine SN_seq ?_
      refine SC_seq ?_
      refine SC_seq ?_
      refine SC_region ?_
      refine SR_pu (RD_move rfl) rfl ?_
      refine SR_pu (RD_neq rfl rfl) rfl ?_
      refine SR_nil ?_
      refine SN.le (l := [(0, _), (1, _), (6, _), (7, _), (8, _), (9, _), (11, _), (12, _), (13, _), (62, _)]) ?_ (.cons rfl (.cons rfl (.cons rfl (.cons rfl (.cons rfl (.cons rfl (.cons rfl (.cons rfl (.cons rfl (.cons rfl (.nil)))))))))))
      refine SN_seq ?_
      refine SC_cond_false rfl (rfl) ?_
      refine SC_skip ?_
      refine SN_seq ?_
      refine SC_region ?_
      refine SR_pu (RD_move rfl) rfl ?_
      refine SR_pu (RD_move rfl) rfl ?_
      refine SR_pu (RD_addi rfl rfl (by omega) (by omega)) rfl ?_
      refine SR_pu (RD_assign rfl) rfl ?_
      refine SR_pu (RD_assign rfl) rfl ?_
      refine SR_nil ?_
      refine SN.le (l := [(0, _), (1, _), (6, _), (7, _), (8, _), (9, _), (10, _), (11, _), (12, _)]) ?_ (.cons rfl (.cons rfl (.cons rfl (.cons rfl (.cons rfl (.cons rfl (.cons rfl (.cons rfl (.cons rfl (.nil))))))))))
      refine SN_block ?_
      refine SN_seq ?_
      refine SC_region ?_
      refine SR_pu (RD_move rfl) rfl ?_
      refine SR_pu (RD_addi rfl rfl (by omega) (by omega)) rfl ?_
      refine SR_pu (RD_assign rfl) rfl ?_
      refine SR_nil ?_
      refine SN.le (l := [(0, _), (1, _), (6, _), (7, _), (8, _), (9, _), (10, _), (11, _), (12, _)]) ?_ (.cons rfl (.cons rfl (.cons rfl (.cons rfl (.cons rfl (.cons rfl (.cons rfl (.cons rfl (.cons rfl (.nil))))))))))
      refine SC_again (ih1 ((m + 1, s', l', _)) (⟨by dsimp only; omega, hFI', hON', hEP' E hEP⟩) (by dsimp only; omega)) (.fin) (.cons rfl (.cons rfl (.cons rfl (.cons rfl (.cons rfl (.cons rfl (.cons rfl (.cons' rfl (ie (by dsimp only; omega)) (.cons' rfl (ie (by dsimp only; omega)) (.nil))))))))))
    · have hmg : g = m := by simp at hc44; omega
      subst hmg
      clear ih1
      refine SC_exit rfl ?_
      refine SN_seq ?_
      refine SC_region ?_
      refine SR_pu (RD_move rfl) rfl ?_
      refine SR_pu (RD_move rfl) rfl ?_
      refine SR_ox (OX_lit1 Try.underlying22 Try.type3 rfl rfl rfl rfl (.cons rfl (.nil)) (.cons rfl (.nil))) rfl ?_
      rintro _ _ ⟨b68, rfl, rfl⟩
      refine SR_ox (OX_app 1 Try.underlying22 Try.underlying22 Try.type3 rfl rfl rfl rfl rfl (by first | rfl | simp; done | (simp; omega)) 8 rfl (by omega) (by omega)) rfl ?_
      rintro _ _ ⟨a69, c69, rfl, rfl⟩
      refine SR_pu (RD_assign rfl) rfl ?_
      refine SR_nil ?_
      refine SN.le (l := [(0, _), (1, _), (6, _), (7, _), (8, _), (9, _)]) ?_ (.cons rfl (.cons rfl (.cons rfl (.cons rfl (.cons rfl (.cons rfl (.nil)))))))
      refine SN_block ?_
      refine SN_seq ?_
      refine SC_region ?_
      refine SR_pu (RD_move rfl) rfl ?_
      refine SR_pu (RD_addi rfl rfl (by omega) (by omega)) rfl ?_
      refine SR_pu (RD_assign rfl) rfl ?_
      refine SR_nil ?_
      refine SN.le (l := [(0, _), (1, _), (6, _), (7, _), (8, _), (9, _)]) ?_ (.cons rfl (.cons rfl (.cons rfl (.cons rfl (.cons rfl (.cons rfl (.nil)))))))
      obtain ⟨q, hq, hqv, _, hq1⟩ := hON
      have hEP2 : EP s g (E ++ [on]) := fun j e he => by
        by_cases hj : j < E.length
        · rw [List.getElem?_append_left hj] at he; exact hEP j e he
        · have hj2 : j = i := by have := (List.getElem?_eq_some_iff.1 he).1; simp at this; omega
          subst hj2
          rw [List.getElem?_append_right (by omega), hEl] at he
          simp at he; subst he
          exact ⟨q, hq, (hq1 (by omega)).1, hqv, (hq1 (by omega)).2⟩
      refine SC_again (ih0 ((i + 1, s, l, a69, c69, E ++ [on])) (⟨by dsimp only; omega, hFI.next, by simp [hEl], hEP2⟩) (by dsimp only; omega)) (by dsimp only; simp only [List.map_append, List.map_cons, List.map_nil, intV]; exact .fin) (.cons rfl (.cons rfl (.cons rfl (.cons rfl (.cons rfl (.cons' rfl (ie (by dsimp only; omega)) (.nil)))))))
  · have hin : n = i := by simp at hc38; omega
    subst hin
    clear ih0
    have hng : n * g ≤ 36 := Nat.le_trans (Nat.mul_le_mul hn.2 hg.2) (by decide)
    have hngI : (n : Int) * (g : Int) = ((n * g : Nat) : Int) := by simp
    refine SC_exit rfl ?_
    refine SN_seq ?_
    refine SC_seq ?_
    refine SC_seq ?_
    refine SC_region ?_
    refine SR_pu (RD_move rfl) rfl ?_
    refine SR_call Try.call41 (.cons rfl (.nil)) (CallsK.at (tree_Len p s)) (lts rfl) ?_
    rintro _ L4 ⟨rfl, hL4⟩
    refine SR.lands hL4 ?_
    refine SR_pu (RD_move rfl) rfl ?_
    refine SR_pu (RD_move rfl) rfl ?_
    refine SR_pu (RD_muli rfl rfl (by omega) (by omega)) rfl ?_
    refine SR_pu (RD_addi rfl rfl (by omega) (by omega)) rfl ?_
    refine SR_pu (RD_neq rfl rfl) rfl ?_
    refine SR_nil ?_
    refine SN.le (l := [(1, _), (6, _), (7, _), (8, _), (76, _)]) ?_ (.cons rfl (.cons rfl (.cons rfl (.cons rfl (.cons rfl (.nil))))))
    refine SN_seq ?_
    refine SC_cond_false rfl (by have h := hFI.len; rw [h]; simp) ?_
    refine SC_skip ?_
    refine SN_seq ?_
    refine SC_seq ?_
    refine SC_seq ?_
    refine SC_region ?_
    refine SR_pu (RD_move rfl) rfl ?_
    refine SR_pu (RD_len Try.runUnderlying22 rfl) rfl ?_
    refine SR_pu (RD_move rfl) rfl ?_
    refine SR_nil ?_
    refine SN.le (l := [(1, _), (6, _), (7, _), (8, _), (78, _), (79, _)]) ?_ (.cons rfl (.cons rfl (.cons rfl (.cons rfl (.cons rfl (.cons rfl (.nil)))))))
    refine SN_seq ?_
    refine SC_block ?_
    refine SC_ind (X := Nat) (fun i => i ≤ n) (fun i => n - i) (fun i => [(1, .int .i64 (g : Nat)), (6, .pointer (some ⟨p, 0, none⟩)), (7, .int .i64 1), (8, .slice a n c), (78, .int .i64 (n : Nat)), (79, .int .i64 (i : Nat))]) (fun i => rowP 3 1 a n c (E.map intV) :: At treeI p s :: At worldI k ⟨l, []⟩ :: F) (0) (by omega) (.cons rfl (.cons rfl (.cons rfl (.cons rfl (.cons rfl (.cons rfl (.nil))))))) (.fin) ?_
    intro i hi ih2
    refine SC_seq ?_
    refine SC_region ?_
    refine SR_pu (RD_lss rfl rfl) rfl ?_
    refine SR_nil ?_
    refine SN.le (l := [(1, _), (6, _), (7, _), (8, _), (78, _), (79, _), (80, _)]) ?_ (.cons rfl (.cons rfl (.cons rfl (.cons rfl (.cons rfl (.cons rfl (.cons rfl (.nil))))))))
    refine SN_seq ?_
    refine SC_seq ?_
    refine SC_cond rfl (fun hc80 => ?_) (fun hc80 => ?_)
    · have hin : i < n := by simp at hc80; omega
      obtain ⟨d, hd⟩ : ∃ d, E[i]? = some d := ⟨_, List.getElem?_eq_getElem (by omega)⟩
      obtain ⟨b, hb, hbr, hbv, hba⟩ := hEP i d hd
      obtain ⟨pw, hpw, hpl⟩ := hFI.way_root b.view.toNat d b hb rfl
      rw [hFI.root] at hpw
      have hvv : viewOf (mget s.T d) = g := by rw [hb]; exact hbv
      have hpg : pw.length = g := by omega
      refine SC_skip ?_
      refine SN_seq ?_
      refine SC_seq ?_
      refine SC_block ?_
      refine SC_seq ?_
      refine SC_region ?_
      refine SR_pu (RD_move rfl) rfl ?_
      refine SR_pu (RD_assign rfl) rfl ?_
      refine SR_nil ?_
      refine SN.le (l := [(1, _), (6, _), (7, _), (8, _), (15, _), (78, _), (79, _)]) ?_ (.cons rfl (.cons rfl (.cons rfl (.cons rfl (.cons rfl (.cons rfl (.cons rfl (.nil))))))))
      refine SN_seq ?_
      refine SC_seq ?_
      refine SC_region ?_
      refine SR_pu (RD_move rfl) rfl ?_
      refine SR_pu (RD_move rfl) rfl ?_
      refine SR_pu (RD_move rfl) rfl ?_
      refine SR_pu (RD_move rfl) rfl ?_
      refine SR_rd (RD_ixO Try.runUnderlying22 Try.sizeOf3 rfl rfl (by first | assumption | (simp; done) | (simp; omega)) (by omega) (by omega)) Has.ro rfl ?_
      refine SR_rd (RD_loadO (v := intV d) (cs := E.map intV) Try.isAgg3 rfl (by simp [hd])) Has.ro rfl ?_
      refine SR_call Try.call35 (.cons rfl (.cons rfl (.cons rfl (.nil)))) (CallsK.at (tree_Path_yes p s hFI.ok 1 d (by obtain ⟨r, h1, _⟩ := hFI.ok.root; rw [hFI.root] at h1; exact ⟨r, h1⟩) ⟨b, hb⟩ (by rw [hvv]; omega))) (lts rfl) ?_
      rintro _ L5 ⟨a5, c5, rfl, hL5⟩
      rw [hpw]
      rw [hpw] at hL5
      refine SR.lands hL5 ?_
      refine SR_pu (RD_move rfl) rfl ?_
      refine SR_pu (RD_extract rfl rfl) rfl ?_
      refine SR_pu (RD_extract rfl rfl) rfl ?_
      refine SR_pu (RD_assign rfl) rfl ?_
      refine SR_pu (RD_assign rfl) rfl ?_
      refine SR_nil ?_
      refine SN.le (l := [(1, _), (6, _), (7, _), (8, _), (15, _), (16, _), (17, _), (78, _), (79, _)]) ?_ (.cons rfl (.cons rfl (.cons rfl (.cons rfl (.cons rfl (.cons rfl (.cons rfl (.cons rfl (.cons rfl (.nil))))))))))
      refine SN_seq ?_
      refine SC_seq ?_
      refine SC_seq ?_
      refine SC_region ?_
      refine SR_pu (RD_move rfl) rfl ?_
      refine SR_pu (RD_not rfl) rfl ?_
      refine SR_pu (RD_move rfl) rfl ?_
      refine SR_yes rfl rfl (rfl) ?_
      refine SR_pu (RD_move rfl) rfl ?_
      refine SR_yes rfl rfl (rfl) ?_
      refine SR_pu (RD_len Try.runUnderlying22 rfl) rfl ?_
      refine SR_yes rfl rfl (rfl) ?_
      refine SR_pu (RD_move rfl) rfl ?_
      refine SR_yes rfl rfl (rfl) ?_
      refine SR_pu (RD_neq rfl rfl) rfl ?_
      refine SR_pu (RD_pick_f rfl (rfl) rfl) rfl ?_
      refine SR_pu (RD_move rfl) rfl ?_
      refine SR_yes rfl rfl (by simp [hpg]) ?_
      refine SR_pu (RD_move rfl) rfl ?_
      refine SR_yes rfl rfl (by simp [hpg]) ?_
      refine SR_pu (RD_move rfl) rfl ?_
      refine SR_yes rfl rfl (by simp [hpg]) ?_
      refine SR_pu (RD_move rfl) rfl ?_
      refine SR_yes rfl rfl (by simp [hpg]) ?_
      refine SR_rd (RD_ixO Try.runUnderlying22 Try.sizeOf3 rfl rfl (by first | assumption | (simp; done) | (simp; omega)) (by omega) (by omega)) Has.ro rfl ?_
      refine SR_yes rfl rfl (by simp [hpg]) ?_
      refine SR_rd (RD_loadO (v := intV d) (cs := E.map intV) Try.isAgg3 rfl (by simp [hd])) Has.ro rfl ?_
      refine SR_yes rfl rfl (by simp [hpg]) ?_
      refine SR_call Try.call38 (.cons rfl (.cons rfl (.nil))) (CallsK.at (tree_View p s d)) (lts rfl) ?_
      rintro _ L6 ⟨rfl, hL6⟩
      rw [hvv]
      refine SR.lands hL6 ?_
      refine SR_yes rfl rfl (by simp [hpg]) ?_
      refine SR_pu (RD_move rfl) rfl ?_
      refine SR_yes rfl rfl (by simp [hpg]) ?_
      refine SR_pu (RD_neq rfl rfl) rfl ?_
      refine SR_pu (RD_pick_f rfl (by simp [hpg]) rfl) rfl ?_
      refine SR_nil ?_
      refine SN.le (l := [(1, _), (6, _), (7, _), (8, _), (15, _), (78, _), (79, _), (109, _)]) ?_ (.cons rfl (.cons rfl (.cons rfl (.cons rfl (.cons rfl (.cons rfl (.cons rfl (.cons rfl (.nil)))))))))
      refine SN_seq ?_
      refine SC_cond_false rfl (by simp) ?_
      refine SC_skip ?_
      refine SN_seq ?_
      refine SC_seq ?_
      refine SC_region ?_
      refine SR_pu (RD_move rfl) rfl ?_
      refine SR_pu (RD_len Try.runUnderlying22 rfl) rfl ?_
      refine SR_pu (RD_move rfl) rfl ?_
      refine SR_nil ?_
      refine SN.le (l := [(1, _), (6, _), (7, _), (8, _), (15, _), (78, _), (79, _), (111, _), (112, _)]) ?_ (.cons rfl (.cons rfl (.cons rfl (.cons rfl (.cons rfl (.cons rfl (.cons rfl (.cons rfl (.cons rfl (.nil))))))))))
      refine SN_seq ?_
      refine SC_block ?_
      refine SC_ind (X := Nat) (fun j => j ≤ n) (fun j => n - j) (fun j => [(1, .int .i64 (g : Nat)), (6, .pointer (some ⟨p, 0, none⟩)), (7, .int .i64 1), (8, .slice a n c), (15, .int .i64 (i : Nat)), (78, .int .i64 (n : Nat)), (79, .int .i64 (i : Nat)), (111, .int .i64 (n : Nat)), (112, .int .i64 (j : Nat))]) (fun j => rowP 3 1 a n c (E.map intV) :: At treeI p s :: At worldI k ⟨l, []⟩ :: F) (0) (by omega) (.cons rfl (.cons rfl (.cons rfl (.cons rfl (.cons rfl (.cons rfl (.cons rfl (.cons rfl (.cons rfl (.nil)))))))))) (.fin) ?_
      intro j hi ih3
      refine SC_seq ?_
      refine SC_region ?_
      refine SR_pu (RD_lss rfl rfl) rfl ?_
      refine SR_nil ?_
      refine SN.le (l := [(1, _), (6, _), (7, _), (8, _), (15, _), (78, _), (79, _), (111, _), (112, _), (113, _)]) ?_ (.cons rfl (.cons rfl (.cons rfl (.cons rfl (.cons rfl (.cons rfl (.cons rfl (.cons rfl (.cons rfl (.cons rfl (.nil)))))))))))
      refine SN_seq ?_
      refine SC_seq ?_
      refine SC_cond rfl (fun hc113 => ?_) (fun hc113 => ?_)
      · have hjn : j < n := by simp at hc113; omega
        obtain ⟨e, he⟩ : ∃ e, E[j]? = some e := ⟨_, List.getElem?_eq_getElem (by omega)⟩
        obtain ⟨b2, hb2, _⟩ := hEP j e he
        have hends : (s.way e d).isSome = decide ((i : Int) = (j : Int)) := (hFI.ends hEP hd he).trans (decide_eq_decide.2 (by omega))
        refine SC_skip ?_
        refine SN_seq ?_
        refine SC_seq ?_
        refine SC_block ?_
        refine SC_seq ?_
        refine SC_region ?_
        refine SR_pu (RD_move rfl) rfl ?_
        refine SR_pu (RD_assign rfl) rfl ?_
        refine SR_nil ?_
        refine SN.le (l := [(1, _), (6, _), (7, _), (8, _), (15, _), (18, _), (78, _), (79, _), (111, _), (112, _)]) ?_ (.cons rfl (.cons rfl (.cons rfl (.cons rfl (.cons rfl (.cons rfl (.cons rfl (.cons rfl (.cons rfl (.cons rfl (.nil)))))))))))
        refine SN_seq ?_
        refine SC_seq ?_
        refine SC_drawn (.cons 0 true (.cons 1 true (.cons 2 true (.cons 3 true (.cons 4 true (.cons 5 true (.cons 6 true (.cons 7 true (.cons 8 true (.cons 9 false (.cons 10 true (.cons 11 true (.cons 12 true (.cons 13 true (.cons 14 true (.nil)))))))))))))))) (by kernel_rfl) (by kernel_rfl) ?_
        refine SQ_pu rfl (RD_move rfl) rfl ?_
        refine SQ_pu rfl (RD_move rfl) rfl ?_
        refine SQ_pu rfl (RD_move rfl) rfl ?_
        refine SQ_rd rfl (RD_ixO Try.runUnderlying22 Try.sizeOf3 rfl rfl (by first | assumption | (simp; done) | (simp; omega)) (by omega) (by omega)) Has.ro rfl ?_
        refine SQ_rd rfl (RD_loadO (v := intV e) (cs := E.map intV) Try.isAgg3 rfl (by simp [he])) Has.ro rfl ?_
        refine SQ_pu rfl (RD_move rfl) rfl ?_
        refine SQ_pu rfl (RD_move rfl) rfl ?_
        refine SQ_rd rfl (RD_ixO Try.runUnderlying22 Try.sizeOf3 rfl rfl (by first | assumption | (simp; done) | (simp; omega)) (by omega) (by omega)) Has.ro rfl ?_
        refine SQ_rd rfl (RD_loadO (v := intV d) (cs := E.map intV) Try.isAgg3 rfl (by simp [hd])) Has.ro rfl ?_
        refine SQ_call rfl Try.call35 (.cons rfl (.cons rfl (.cons rfl (.nil)))) (CallsK.at (tree_Path_yes p s hFI.ok e d ⟨b2, hb2⟩ ⟨b, hb⟩ (by rw [hvv]; omega))) (lts rfl) ?_
        rintro _ L7 ⟨a7, c7, rfl, hL7⟩
        rw [hends]
        refine ⟨.lands hL7 (.w rfl (.h Has.ro (.w rfl (.h Has.ro (.nil))))), ?_⟩
        refine SQ.lands hL7 ?_
        refine SQ_pu rfl (RD_move rfl) rfl ?_
        refine SQ_pu rfl (RD_extract rfl rfl) rfl ?_
        refine SQ_pu rfl (RD_extract rfl rfl) rfl ?_
        refine SQ_pu rfl (RD_assign rfl) rfl ?_
        refine SQ_pu rfl (RD_assign rfl) rfl ?_
        refine SQ_nil ?_
        refine SN.le (l := [(1, _), (6, _), (7, _), (8, _), (15, _), (18, _), (20, _), (78, _), (79, _), (111, _), (112, _)]) ?_ (.cons rfl (.cons rfl (.cons rfl (.cons rfl (.cons rfl (.cons rfl (.cons rfl (.cons rfl (.cons rfl (.cons rfl (.cons rfl (.nil))))))))))))
        refine SN_seq ?_
        refine SC_seq ?_
        refine SC_region ?_
        refine SR_pu (RD_move rfl) rfl ?_
        refine SR_pu (RD_move rfl) rfl ?_
        refine SR_pu (RD_move rfl) rfl ?_
        refine SR_pu (RD_eql rfl rfl) rfl ?_
        refine SR_pu (RD_neqB Try.underlying4 rfl rfl) rfl ?_
        refine SR_nil ?_
        refine SN.le (l := [(1, _), (6, _), (7, _), (8, _), (15, _), (78, _), (79, _), (111, _), (112, _), (132, _)]) ?_ (.cons rfl (.cons rfl (.cons rfl (.cons rfl (.cons rfl (.cons rfl (.cons rfl (.cons rfl (.cons rfl (.cons rfl (.nil)))))))))))
        refine SN_seq ?_
        refine SC_cond_false rfl (by simp) ?_
        refine SC_skip ?_
        refine SN_block ?_
        refine SN_seq ?_
        refine SC_region ?_
        refine SR_pu (RD_addi rfl rfl (by omega) (by omega)) rfl ?_
        refine SR_pu (RD_move rfl) rfl ?_
        refine SR_nil ?_
        refine SN.le (l := [(1, _), (6, _), (7, _), (8, _), (15, _), (78, _), (79, _), (111, _), (112, _)]) ?_ (.cons rfl (.cons rfl (.cons rfl (.cons rfl (.cons rfl (.cons rfl (.cons rfl (.cons rfl (.cons rfl (.nil))))))))))
        refine SC_again (ih3 (j + 1) (by omega) (by omega)) (.fin) (.cons rfl (.cons rfl (.cons rfl (.cons rfl (.cons rfl (.cons rfl (.cons rfl (.cons rfl (.cons' rfl (ie (by omega)) (.nil))))))))))
      · refine SC_exit rfl ?_
        refine SN_block ?_
        refine SN_seq ?_
        refine SC_region ?_
        refine SR_pu (RD_addi rfl rfl (by omega) (by omega)) rfl ?_
        refine SR_pu (RD_move rfl) rfl ?_
        refine SR_nil ?_
        refine SN.le (l := [(1, _), (6, _), (7, _), (8, _), (78, _), (79, _)]) ?_ (.cons rfl (.cons rfl (.cons rfl (.cons rfl (.cons rfl (.cons rfl (.nil)))))))
        refine SC_again (ih2 (i + 1) (by omega) (by omega)) (.fin) (.cons rfl (.cons rfl (.cons rfl (.cons rfl (.cons rfl (.cons' rfl (ie (by omega)) (.nil)))))))
    · refine SC_exit rfl ?_
      refine SN_seq ?_
      refine SC_seq ?_
      refine SC_region ?_
      refine SR_call Try.call39 (.nil) (tree_awake) (lts rfl) ?_
      rintro _ L9 ⟨rfl, hL9⟩
      refine SR.lands hL9 ?_
      refine SR_pu (RD_assign rfl) rfl ?_
      refine SR_nil ?_
      refine SN.le (l := [(4, _)]) ?_ (.cons rfl (.nil))
      refine SN_seq ?_
      refine SC_ret1 rfl rfl ?_
      exact ⟨rfl, .fin⟩

end Go.Proofs.Ytdmmaammpjdmbaa
