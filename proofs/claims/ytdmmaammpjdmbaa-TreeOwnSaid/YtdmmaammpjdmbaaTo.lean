/- The tree keeps its own: the statement. -/
import Derived.Test.YtdmmaammpjdmbaaMk
import Derived.Test.YtdmmaammpjdmbaaTq
namespace Go.Proofs.Ytdmmaammpjdmbaa
open Go Go.Proofs
set_option maxRecDepth 100000
def oE (i : Nat) : List EnvD := (List.range i).map fun j : Nat => ⟨(j : Int), 0, 1, ((j + 1 : Nat) : Int)⟩
theorem oE_succ (i : Nat) : oE (i + 1) = oE i ++ [⟨(i : Int), 0, 1, ((i + 1 : Nat) : Int)⟩] := by simp [oE, List.range_succ]
theorem oE_len (i : Nat) : (oE i).length = i := by simp [oE]
theorem oE_at {i j : Nat} (h : j < i) : (oE i)[j]? = some ⟨(j : Int), 0, 1, ((j + 1 : Nat) : Int)⟩ := by simp [oE, h]
theorem oE_ok (i : Nat) (hi : i ≤ 4) : ∀ e ∈ oE i, e.Good := fun e he => by
  simp only [oE, List.mem_map, List.mem_range] at he
  obtain ⟨j, hj, rfl⟩ := he
  exact ⟨by unfold I64; dsimp only; omega, by unfold I64; dsimp only; omega, ⟨by dsimp only; omega, by dsimp only; omega⟩⟩
theorem set_env {l : List EnvD} {i : Nat} {e : EnvD} (h : l[i]? = some e) (v : Int) : (l.flatMap EnvD.cells).set (i * 4 + 2) (.int .u64 v) = (l.set i ⟨e.client, e.nonce, v, e.cipher⟩).flatMap EnvD.cells := by
  induction l generalizing i with
  | nil => simp at h
  | cons x l ih =>
    cases i with
    | zero => simp at h; subst h; rfl
    | succ i =>
      have := ih (i := i) (by simpa using h)
      rw [List.flatMap_cons, show (i + 1) * 4 + 2 = x.cells.length + (i * 4 + 2) by rw [EnvD.cells_len]; omega, List.set_append_right _ _ (by omega), Nat.add_sub_cancel_left, this]
      rfl
theorem own_add (w : Nat) {l : List (List UInt8)} (he : Ext [rootB] l) (hl : l.length ≤ 100) {N : Nat} (hN : N ≤ 4) :
    ∃ D s' l', (tS0 w).add l ⟨1, 0, 0, 1, [1, 2], oE N⟩ = ((D, 0), s', l') ∧ mget s'.T D = some ⟨1, 0, 0, 1, [1, 2], oE N⟩ ∧ s'.w = w := by
  have h0 : TL (tS0 w) [rootB] := by
    have h := TL.start (l := [rootB]) w (by simp)
    rw [show dnum [rootB] rootB = 1 by simp [dnum]] at h; exact h
  have hg : Blk.Good ⟨1, 0, 0, 1, [1, 2], oE N⟩ := ⟨by unfold I64; dsimp only; omega, by unfold I64; dsimp only; omega, by unfold I64; dsimp only; omega, by unfold I64; dsimp only; omega, fun x hx => by simp at hx; unfold I64; omega, oE_ok N hN, by simp, by rw [oE_len]; omega⟩
  have ho : (tS0 w).Ok := TS.Ok.new w 1
  have hT := h0.ext he
  have hno := (hT.new hg (by omega) fun d hd => by
    simp only [tS0, mget] at hd
    split at hd
    · cases hd
    · cases hd).1
  have h2 := (hT.add ho hg (by omega) (by simp [tS0]) (q := zBlk) (by simp [tS0, mget]) rfl (by dsimp only; omega) hno).1
  refine ⟨_, _, _, h2, ?_, rfl⟩
  rw [mget_app _ _ _ _ hno, if_pos rfl]

theorem law_TreeOwn {W : World} {F : List HProp} [Abs F] (n_ at_ : Int) :
    CallsK W Try.prog 10 #[.int .i64 n_, .int .i64 at_] (F) (fun v L => v = .bool true ∧ Lands L F) := by
  refine CallsK_enter (n := 170) Try.func10 rfl rfl rfl ?_
  obtain ⟨N, hN0⟩ : ∃ N : Nat, n_ % 4 + 1 = (N : Int) := ⟨(n_ % 4 + 1).toNat, by omega⟩
  have hN : 1 ≤ N ∧ N ≤ 4 := by omega
  refine SC_seq ?_
  refine SC_region ?_
  refine SR_pu (RD_assign rfl) rfl ?_
  refine SR_nil ?_
  refine SN.le (l := [(0, _), (1, _)]) ?_ (.cons rfl (.cons rfl (.nil)))
  refine SN_seq ?_
  refine SC_seq ?_
  refine SC_region ?_
  refine SR_call Try.call15 (.cons rfl (.nil)) (enve_New 1) (lts rfl) ?_
  rintro _ L0 ⟨k, rfl, hL0⟩
  refine SR.lands (hL0.trans (Lands.cons vault_new)) ?_
  refine SR_pu (RD_assign rfl) rfl ?_
  refine SR_nil ?_
  refine SN.le (l := [(0, _), (1, _), (5, _)]) ?_ (.cons rfl (.cons rfl (.cons rfl (.nil))))
  refine SN_seq ?_
  refine SC_seq ?_
  refine SC_seq ?_
  refine SC_region ?_
  refine SR_pu (RD_move rfl) rfl ?_
  refine SR_pu (RD_eqlP Try.underlying25 rfl rfl) rfl ?_
  refine SR_nil ?_
  refine SN.le (l := [(0, _), (1, _), (5, _), (19, _)]) ?_ (.cons rfl (.cons rfl (.cons rfl (.cons rfl (.nil)))))
  refine SN_seq ?_
  refine SC_cond_false rfl (rfl) ?_
  refine SC_skip ?_
  refine SN_seq ?_
  refine SC_seq ?_
  refine SC_region ?_
  refine SR_pu (RD_move rfl) rfl ?_
  refine SR_call Try.call33 (.cons rfl (.nil)) (CallsK.at (tree_New k ⟨[], []⟩ (by simp) [rootB] 1 (by decide +kernel) (by decide +kernel))) (lts rfl) ?_
  rintro _ L1 ⟨p, rfl, hL1⟩
  try dsimp only at hL1
  change Lands L1 (At treeI p (tS0 k.p) :: _) at hL1
  refine SR.lands hL1 ?_
  refine SR_pu (RD_assign rfl) rfl ?_
  refine SR_nil ?_
  refine SN.le (l := [(0, _), (1, _), (5, _), (6, _)]) ?_ (.cons rfl (.cons rfl (.cons rfl (.cons rfl (.nil)))))
  refine SN_seq ?_
  refine SC_seq ?_
  refine SC_seq ?_
  refine SC_region ?_
  refine SR_pu (RD_move rfl) rfl ?_
  refine SR_pu (RD_eqlP Try.underlying54 rfl rfl) rfl ?_
  refine SR_nil ?_
  refine SN.le (l := [(0, _), (1, _), (5, _), (6, _), (23, _)]) ?_ (.cons rfl (.cons rfl (.cons rfl (.cons rfl (.cons rfl (.nil))))))
  refine SN_seq ?_
  refine SC_cond_false rfl (rfl) ?_
  refine SC_skip ?_
  refine SN_seq ?_
  refine SC_seq ?_
  refine SC_region ?_
  refine SR_pu (RD_move rfl) rfl ?_
  refine SR_call Try.call21 (.cons rfl (.nil)) (CallsK.at (cert_Root k ⟨[rootB], []⟩ (by simp) [rootB] 1 (by decide +kernel) (by decide +kernel))) (lts rfl) ?_
  rintro _ L2 ⟨rfl, hL2⟩
  try dsimp only at hL2
  refine SR.lands hL2 ?_
  refine SR_ox (OX_lit1 Try.underlying22 Try.type3 rfl rfl rfl rfl (.cons rfl (.cons rfl (.nil))) (.cons rfl (.cons rfl (.nil)))) rfl ?_
  rintro _ _ ⟨b26, rfl, rfl⟩
  refine SR_pu (RD_build (.cons rfl (.cons rfl (.nil))) built34_1_2) rfl ?_
  refine SR_pu (RD_build (.cons rfl (.cons rfl (.nil))) built69_0_2) rfl ?_
  refine SR_ox (OX_alloc Try.zeroValue69 rfl) rfl ?_
  rintro _ _ ⟨b7, rfl, rfl⟩
  refine SR_ox0 (OX_stA Try.sizeOf69 rfl rfl rfl rfl) ?_
  rintro _ _ rfl
  refine SR_nil ?_
  refine SN.le (l := [(0, _), (1, _), (5, _), (6, _), (7, _)]) ?_ (.cons rfl (.cons rfl (.cons rfl (.cons rfl (.cons rfl (.nil))))))
  refine SN_seq ?_
  refine SC_seq ?_
  refine SC_seq ?_
  refine SC_region ?_
  refine SR_pu (RD_assign rfl) rfl ?_
  refine SR_nil ?_
  refine SN.le (l := [(0, _), (1, _), (5, _), (6, _), (7, _), (8, _)]) ?_ (.cons rfl (.cons rfl (.cons rfl (.cons rfl (.cons rfl (.cons rfl (.nil)))))))
  refine SN_seq ?_
  refine SC_block ?_
  refine SC.lands (Lands.trans (.fin : Lands _ (pt b26 (.cells [.int .i64 1, .int .i64 2].toArray 3) :: pt b7 (.cells [.int .i64 1, .int .i64 0, .int .i64 0, .int .i64 1, .slice (some ⟨b26, 0, none⟩) 2 2, .slice none 0 0].toArray 69) :: At treeI p (tS0 k.p) :: At worldI k ⟨[rootB], []⟩ :: At vaultI k.v 0 :: F)) (lit_row (E := 3) (z := 1) (b := b26) (cs := [.int .i64 1, .int .i64 2]) 2 rfl)) ?_
  refine SC_ind (X := Nat × List (List UInt8) × List (Int × List Int) × Option Addr × Nat) (fun x => x.1 ≤ N ∧ Ext [rootB] x.2.1 ∧ x.2.1.length ≤ 1 + x.1) (fun x => N - x.1) (fun x => [(0, .int .i64 n_), (1, .int .i64 at_), (5, .pointer (some ⟨k.p, 0, none⟩)), (6, .pointer (some ⟨p, 0, none⟩)), (7, .pointer (some ⟨b7, 0, none⟩)), (8, .int .i64 (x.1 : Nat))]) (fun x => rowP 78 4 x.2.2.2.1 x.1 x.2.2.2.2 ((oE x.1).flatMap EnvD.cells) :: rowP 3 1 (some ⟨b26, 0, none⟩) 2 2 [.int .i64 1, .int .i64 2] :: pt b7 (.cells [.int .i64 1, .int .i64 0, .int .i64 0, .int .i64 1, .slice (some ⟨b26, 0, none⟩) 2 2, .slice x.2.2.2.1 x.1 x.2.2.2.2].toArray 69) :: At treeI p (tS0 k.p) :: At worldI k ⟨x.2.1, x.2.2.1⟩ :: At vaultI k.v x.1 :: F) ((0, [rootB], [], none, 0)) (⟨by simp, Ext.same, by simp⟩) (.cons rfl (.cons rfl (.cons rfl (.cons rfl (.cons rfl (.cons rfl (.nil))))))) (((row_new 78 4 none).trans (show Lands _ (rowP 78 4 none 0 0 [] :: rowP 3 1 (some ⟨b26, 0, none⟩) 2 2 [.int .i64 1, .int .i64 2] :: pt b7 (.cells [.int .i64 1, .int .i64 0, .int .i64 0, .int .i64 1, .slice (some ⟨b26, 0, none⟩) 2 2, .slice none 0 0].toArray 69) :: At treeI p (tS0 k.p) :: At worldI k ⟨[rootB], []⟩ :: At vaultI k.v 0 :: F) from .fin))) ?_
  intro ⟨i, l, S, ea, ec⟩ hi ih
  obtain ⟨hi1, hx1, hx2⟩ := hi
  dsimp only at hi1 hx1 hx2 ih ⊢
  refine SC_seq ?_
  refine SC_seq ?_
  refine SC_region ?_
  refine SR_pu (RD_move rfl) rfl ?_
  refine SR_pu (RD_move rfl) rfl ?_
  refine SR_pu (RD_mask 2 rfl rfl rfl (by decide) 4 rfl) rfl ?_
  refine SR_pu (RD_addi rfl rfl (by omega) (by omega)) rfl ?_
  refine SR_pu (RD_lss rfl rfl) rfl ?_
  refine SR_nil ?_
  refine SN.le (l := [(0, _), (1, _), (5, _), (6, _), (7, _), (8, _), (33, _)]) ?_ (.cons rfl (.cons rfl (.cons rfl (.cons rfl (.cons rfl (.cons rfl (.cons rfl (.nil))))))))
  refine SN_seq ?_
  refine SC_cond rfl (fun hc33 => ?_) (fun hc33 => ?_)
  · have hin : i < N := by simp at hc33; omega
    refine SC_skip ?_
    refine SN_seq ?_
    refine SC_seq ?_
    refine SC_block ?_
    refine SC_drawn (.cons 0 true (.cons 1 true (.cons 2 true (.cons 3 true (.cons 4 false (.cons 5 false (.cons 6 false (.cons 7 true (.cons 8 false (.nil)))))))))) (by kernel_rfl) (by kernel_rfl) ?_
    first
      | refine SQ_pu rfl (RD_fieldAddr 5 Try.runUnderlying69 rfl rfl Try.sizeOf67 rfl) rfl ?_
      | refine SQ_rd rfl (RD_fieldAddrO 5 Try.runUnderlying69 rfl rfl Try.sizeOf67 rfl (by simp <;> omega)) Has.ro rfl ?_
    refine SQ_rd rfl (RD_load Try.isAgg67 rfl) (Has.ce rfl) rfl ?_
    refine SQ_pu rfl (RD_move rfl) rfl ?_
    refine SQ_pu rfl (RD_move rfl) rfl ?_
    refine SQ_call rfl Try.call46 (.cons rfl (.cons rfl (.cons rfl (.cons rfl (.cons rfl (.nil)))))) (CallsK.at2 (w_Make k ⟨l, S⟩ i (by omega) (i : Int) 0 1 (by omega) (by omega) (by omega) none 0 0 [] rfl (by simp) (by dsimp only; omega))) (lts rfl) ?_
    rintro _ L3 ⟨rfl, hL3⟩
    try dsimp only at hL3
    refine ⟨.lands hL3 (.h (Has.ce rfl) (.nil)), ?_⟩
    refine SQ.lands hL3 ?_
    refine SQ_ox rfl (OX_lit Try.underlying67 Try.type78 rfl rfl rfl rfl (.cons rfl (.nil)) (.cons rfl rfl (.nil))) rfl ?_
    rintro _ _ ⟨b41, rfl, rfl⟩
    refine ⟨.h (Has.ce rfl) (.nil), ?_⟩
    refine SQ_ox rfl (OX_app 4 Try.underlying67 Try.underlying67 Try.type78 rfl rfl rfl rfl rfl (by first | rfl | simp; done | (simp; omega)) 32 rfl (by omega) (by omega)) rfl ?_
    rintro _ _ ⟨a42, c42, rfl, rfl⟩
    refine ⟨.w rfl (.nil), ?_⟩
    first
      | refine SQ_pu rfl (RD_fieldAddr 5 Try.runUnderlying69 rfl rfl Try.sizeOf67 rfl) rfl ?_
      | refine SQ_rd rfl (RD_fieldAddrO 5 Try.runUnderlying69 rfl rfl Try.sizeOf67 rfl (by simp <;> omega)) Has.ro rfl ?_
    refine SQ_ox0 rfl (OX_st Try.sizeOf67 rfl rfl) ?_
    rintro _ _ rfl
    refine ⟨.w rfl (.nil), ?_⟩
    refine SQ_nil ?_
    refine SN.le (l := [(0, _), (1, _), (5, _), (6, _), (7, _), (8, _)]) ?_ (.cons rfl (.cons rfl (.cons rfl (.cons rfl (.cons rfl (.cons rfl (.nil)))))))
    refine SN_block ?_
    refine SN_seq ?_
    refine SC_region ?_
    refine SR_pu (RD_move rfl) rfl ?_
    refine SR_pu (RD_addi rfl rfl (by omega) (by omega)) rfl ?_
    refine SR_pu (RD_assign rfl) rfl ?_
    refine SR_nil ?_
    refine SN.le (l := [(0, _), (1, _), (5, _), (6, _), (7, _), (8, _)]) ?_ (.cons rfl (.cons rfl (.cons rfl (.cons rfl (.cons rfl (.cons rfl (.nil)))))))
    refine SC_again (ih ((i + 1, dput l (envB ⟨(i : Int), 0, 1, ((i + 1 : Nat) : Int)⟩), addTo S (1000 + (i : Int)) (dnum (dput l (envB ⟨(i : Int), 0, 1, ((i + 1 : Nat) : Int)⟩)) (envB ⟨(i : Int), 0, 1, ((i + 1 : Nat) : Int)⟩) : Nat), a42, c42)) (⟨by dsimp only; omega, hx1.trans (Ext.put _ _), by have := dput_len l (envB ⟨(i : Int), 0, 1, ((i + 1 : Nat) : Int)⟩); dsimp only; omega⟩) (by dsimp only; omega)) (by dsimp only; rw [oE_succ, List.flatMap_append, List.flatMap_cons, List.flatMap_nil]; exact .fin) (.cons rfl (.cons rfl (.cons rfl (.cons rfl (.cons rfl (.cons' rfl (ie (by dsimp only; omega)) (.nil)))))))
  · have hin : N = i := by simp at hc33; omega
    subst hin
    clear ih
    obtain ⟨o, ho⟩ : ∃ o : Nat, at_ % 256 % (N : Int) = (o : Int) := ⟨(at_ % 256 % (N : Int)).toNat, by rw [Int.toNat_of_nonneg (Int.emod_nonneg _ (by omega))]⟩
    have hoN : o < N := by have := Int.emod_lt_of_pos (at_ % 256) (show (0 : Int) < (N : Int) by omega); omega
    have hat := oE_at hoN
    obtain ⟨D, s', l', hadd, hgD, hw⟩ := own_add k.p hx1 (by omega) hN.2
    refine SC_exit rfl ?_
    refine SN_seq ?_
    refine SC_seq ?_
    refine SC_region ?_
    refine SR_pu (RD_move rfl) rfl ?_
    refine SR_pu (RD_mask 8 rfl rfl rfl (by decide) 256 rfl) rfl ?_
    first
      | refine SR_pu (RD_fieldAddr 5 Try.runUnderlying69 rfl rfl Try.sizeOf67 rfl) rfl ?_
      | refine SR_rd (RD_fieldAddrO 5 Try.runUnderlying69 rfl rfl Try.sizeOf67 rfl (by simp <;> omega)) Has.ro rfl ?_
    refine SR_rd (RD_load Try.isAgg67 rfl) (Has.ce rfl) rfl ?_
    refine SR_pu (RD_len Try.runUnderlying67 rfl) rfl ?_
    refine SR_pu (RD_remi rfl rfl (by omega) (by omega)) rfl ?_
    refine SR_pu (RD_assign rfl) rfl ?_
    refine SR_nil ?_
    refine SN.le (l := [(6, _), (7, _), (9, _)]) ?_ (.cons rfl (.cons rfl (.cons rfl (.nil))))
    rw [ho]
    refine SN_seq ?_
    refine SC_seq ?_
    refine SC_region ?_
    first
      | refine SR_pu (RD_fieldAddr 5 Try.runUnderlying69 rfl rfl Try.sizeOf67 rfl) rfl ?_
      | refine SR_rd (RD_fieldAddrO 5 Try.runUnderlying69 rfl rfl Try.sizeOf67 rfl (by simp <;> omega)) Has.ro rfl ?_
    refine SR_rd (RD_load Try.isAgg67 rfl) (Has.ce rfl) rfl ?_
    refine SR_pu (RD_move rfl) rfl ?_
    refine SR_rd (RD_ixO (i := (o : Nat)) (cs := (oE N).flatMap EnvD.cells) Try.runUnderlying67 Try.sizeOf78 rfl rfl (by rw [env_len, oE_len]) (by omega) (by omega)) Has.ro rfl ?_
    refine SR_rd (RD_fieldAddrO (cs := (oE N).flatMap EnvD.cells) 2 Try.runUnderlying78 rfl rfl Try.sizeOf42 rfl (by rw [env_len, oE_len]; omega)) Has.ro rfl ?_
    refine SR_rd (RD_loadO (v := .int .u64 1) (cs := (oE N).flatMap EnvD.cells) Try.isAgg42 rfl (by rw [show ((o : Nat) : Int).toNat * (3 + 1) + 2 = o * 4 + 2 by omega, env_get hat 2 (by omega)]; rfl)) Has.ro rfl ?_
    refine SR_pu (RD_assign rfl) rfl ?_
    refine SR_nil ?_
    refine SN.le (l := [(6, _), (7, _), (9, _), (10, _)]) ?_ (.cons rfl (.cons rfl (.cons rfl (.cons rfl (.nil)))))
    refine SN_seq ?_
    refine SC_seq ?_
    refine SC_region ?_
    refine SR_pu (RD_move rfl) rfl ?_
    refine SR_rd (RD_loadA (vs := BlkD.cells ⟨1, 0, 0, 1, ⟨some ⟨b26, 0, none⟩, 2, 2, [1, 2]⟩, ⟨ea, N, ec, oE N⟩⟩) Try.isAgg69 Try.sizeOf69 rfl rfl) Has.wh rfl ?_
    refine SR_call Try.call40 (.cons rfl (.cons rfl (.nil))) (CallsK.at2 (tree_Add' p (tS0 k.p) k rfl ⟨l, S⟩ ⟨1, 0, 0, 1, ⟨some ⟨b26, 0, none⟩, 2, 2, [1, 2]⟩, ⟨ea, N, ec, oE N⟩⟩ rfl rfl ⟨rfl, oE_len N, by simp, by dsimp only; omega, fun e he => (oE_ok N hN.2 e he).2.2⟩ (by dsimp only; omega) D 0 s' l' hadd)) (lts rfl) ?_
    rintro _ L4 ⟨rfl, hL4⟩
    try dsimp only at hL4
    refine SR.lands hL4 ?_
    refine SR_pu (RD_move rfl) rfl ?_
    refine SR_pu (RD_extract rfl rfl) rfl ?_
    refine SR_pu (RD_extract rfl rfl) rfl ?_
    refine SR_pu (RD_assign rfl) rfl ?_
    refine SR_pu (RD_assign rfl) rfl ?_
    refine SR_nil ?_
    refine SN.le (l := [(6, _), (7, _), (9, _), (10, _), (11, _), (12, _)]) ?_ (.cons rfl (.cons rfl (.cons rfl (.cons rfl (.cons rfl (.cons rfl (.nil)))))))
    refine SN_seq ?_
    refine SC_seq ?_
    refine SC_region ?_
    first
      | refine SR_pu (RD_fieldAddr 5 Try.runUnderlying69 rfl rfl Try.sizeOf67 rfl) rfl ?_
      | refine SR_rd (RD_fieldAddrO 5 Try.runUnderlying69 rfl rfl Try.sizeOf67 rfl (by simp <;> omega)) Has.ro rfl ?_
    refine SR_rd (RD_load Try.isAgg67 rfl) (Has.ce rfl) rfl ?_
    refine SR_pu (RD_move rfl) rfl ?_
    refine SR_rd (RD_ixO (i := (o : Nat)) (cs := (oE N).flatMap EnvD.cells) Try.runUnderlying67 Try.sizeOf78 rfl rfl (by rw [env_len, oE_len]) (by omega) (by omega)) Has.ro rfl ?_
    refine SR_rd (RD_fieldAddrO (cs := (oE N).flatMap EnvD.cells) 2 Try.runUnderlying78 rfl rfl Try.sizeOf42 rfl (by rw [env_len, oE_len]; omega)) Has.ro rfl ?_
    refine SR_ox0 (OX_stRow Try.sizeOf42 rfl rfl (by rw [env_len, oE_len]; omega)) ?_
    rintro _ _ rfl
    refine SR_nil ?_
    refine SN.le (l := [(6, _), (7, _), (9, _), (10, _), (11, _), (12, _)]) ?_ (.cons rfl (.cons rfl (.cons rfl (.cons rfl (.cons rfl (.cons rfl (.nil)))))))
    refine SN_seq ?_
    refine SC_seq ?_
    refine SC_region ?_
    first
      | refine SR_pu (RD_fieldAddr 2 Try.runUnderlying69 rfl rfl Try.sizeOf34 rfl) rfl ?_
      | refine SR_rd (RD_fieldAddrO 2 Try.runUnderlying69 rfl rfl Try.sizeOf34 rfl (by simp <;> omega)) Has.ro rfl ?_
    first
      | refine SR_pu (RD_fieldAddr 2 Try.runUnderlying34 rfl rfl Try.sizeOf22 rfl) rfl ?_
      | refine SR_rd (RD_fieldAddrO 2 Try.runUnderlying34 rfl rfl Try.sizeOf22 rfl (by simp <;> omega)) Has.ro rfl ?_
    refine SR_rd (RD_load Try.isAgg22 rfl) (Has.ce rfl) rfl ?_
    refine SR_rd (RD_ixO (i := (0 : Nat)) (cs := [.int .i64 1, .int .i64 2]) Try.runUnderlying22 Try.sizeOf3 rfl rfl rfl (by omega) (by omega)) Has.ro rfl ?_
    refine SR_ox0 (OX_stRow Try.sizeOf3 rfl rfl (by simp)) ?_
    rintro _ _ rfl
    refine SR_nil ?_
    refine SN.le (l := [(6, _), (7, _), (9, _), (10, _), (11, _), (12, _)]) ?_ (.cons rfl (.cons rfl (.cons rfl (.cons rfl (.cons rfl (.cons rfl (.nil)))))))
    refine SN_seq ?_
    refine SC_seq ?_
    refine SC_region ?_
    refine SR_pu (RD_move rfl) rfl ?_
    refine SR_pu (RD_move rfl) rfl ?_
    refine SR_call Try.call42 (.cons rfl (.cons rfl (.nil))) (CallsK.at (tree_Block p s' D)) (lts rfl) ?_
    rintro _ L5 ⟨x, rfl, hp5, hf5, hL5⟩
    rw [hgD] at hp5 ⊢
    have hv5 : x.by_.l = [1, 2] ∧ x.envs.l = oE N := ⟨congrArg Blk.by_ hp5, congrArg Blk.envs hp5⟩
    have hn5 : x.by_.n = 2 := by have := hf5.1; rw [hv5.1] at this; exact this.symm
    have hm5 : x.envs.n = N := by have := hf5.2.1; rw [hv5.2, oE_len] at this; exact this.symm
    rw [hv5.1, hv5.2] at hL5
    refine SR.lands hL5 ?_
    refine SR_pu (RD_move rfl) rfl ?_
    refine SR_pu (RD_extract rfl rfl) rfl ?_
    refine SR_pu (RD_extract rfl rfl) rfl ?_
    refine SR_ox (OX_alloc Try.zeroValue69 rfl) rfl ?_
    rintro _ _ ⟨b13, rfl, rfl⟩
    refine SR_ox0 (OX_stA (vs := x.cells) Try.sizeOf69 rfl rfl rfl rfl) ?_
    rintro _ _ rfl
    refine SR_pu (RD_assign rfl) rfl ?_
    refine SR_nil ?_
    refine SN.le (l := [(6, _), (7, _), (9, _), (10, _), (11, _), (12, _), (13, _), (14, _)]) ?_ (.cons rfl (.cons rfl (.cons rfl (.cons rfl (.cons rfl (.cons rfl (.cons rfl (.cons rfl (.nil)))))))))
    refine SN_seq ?_
    refine SC_seq ?_
    refine SC_seq ?_
    refine SC_region ?_
    refine SR_pu (RD_move rfl) rfl ?_
    refine SR_pu (RD_neq rfl rfl) rfl ?_
    refine SR_pu (RD_move rfl) rfl ?_
    refine SR_yes rfl rfl (by first | rfl | (simp; done) | (simp [hm5]; done) | (simp [hn5]; done) | (simp; omega)) ?_
    refine SR_pu (RD_move rfl) rfl ?_
    refine SR_yes rfl rfl (by first | rfl | (simp; done) | (simp [hm5]; done) | (simp [hn5]; done) | (simp; omega)) ?_
    refine SR_pu (RD_not rfl) rfl ?_
    refine SR_pu (RD_pick_f rfl (by first | rfl | (simp; done) | (simp [hm5]; done) | (simp [hn5]; done) | (simp; omega)) rfl) rfl ?_
    refine SR_pu (RD_move rfl) rfl ?_
    refine SR_yes rfl rfl (by first | rfl | (simp; done) | (simp [hm5]; done) | (simp [hn5]; done) | (simp; omega)) ?_
    first
      | refine SR_pu (RD_fieldAddr 5 Try.runUnderlying69 rfl rfl Try.sizeOf67 rfl) rfl ?_
      | refine SR_rd (RD_fieldAddrO 5 Try.runUnderlying69 rfl rfl Try.sizeOf67 rfl (by simp <;> omega)) Has.ro rfl ?_
    refine SR_yes rfl rfl (by first | rfl | (simp; done) | (simp [hm5]; done) | (simp [hn5]; done) | (simp; omega)) ?_
    refine SR_rd (RD_load Try.isAgg67 rfl) (Has.ce rfl) rfl ?_
    refine SR_yes rfl rfl (by first | rfl | (simp; done) | (simp [hm5]; done) | (simp [hn5]; done) | (simp; omega)) ?_
    refine SR_pu (RD_len Try.runUnderlying67 rfl) rfl ?_
    refine SR_yes rfl rfl (by first | rfl | (simp; done) | (simp [hm5]; done) | (simp [hn5]; done) | (simp; omega)) ?_
    first
      | refine SR_pu (RD_fieldAddr 5 Try.runUnderlying69 rfl rfl Try.sizeOf67 rfl) rfl ?_
      | refine SR_rd (RD_fieldAddrO 5 Try.runUnderlying69 rfl rfl Try.sizeOf67 rfl (by simp <;> omega)) Has.ro rfl ?_
    refine SR_yes rfl rfl (by first | rfl | (simp; done) | (simp [hm5]; done) | (simp [hn5]; done) | (simp; omega)) ?_
    refine SR_rd (RD_load Try.isAgg67 rfl) (Has.ce rfl) rfl ?_
    refine SR_yes rfl rfl (by first | rfl | (simp; done) | (simp [hm5]; done) | (simp [hn5]; done) | (simp; omega)) ?_
    refine SR_pu (RD_len Try.runUnderlying67 rfl) rfl ?_
    refine SR_yes rfl rfl (by first | rfl | (simp; done) | (simp [hm5]; done) | (simp [hn5]; done) | (simp; omega)) ?_
    refine SR_pu (RD_neq rfl rfl) rfl ?_
    refine SR_pu (RD_pick_f rfl (by first | rfl | (simp; done) | (simp [hm5]; done) | (simp [hn5]; done) | (simp; omega)) rfl) rfl ?_
    refine SR_pu (RD_move rfl) rfl ?_
    refine SR_yes rfl rfl (by first | rfl | (simp; done) | (simp [hm5]; done) | (simp [hn5]; done) | (simp; omega)) ?_
    first
      | refine SR_pu (RD_fieldAddr 5 Try.runUnderlying69 rfl rfl Try.sizeOf67 rfl) rfl ?_
      | refine SR_rd (RD_fieldAddrO 5 Try.runUnderlying69 rfl rfl Try.sizeOf67 rfl (by simp <;> omega)) Has.ro rfl ?_
    refine SR_yes rfl rfl (by first | rfl | (simp; done) | (simp [hm5]; done) | (simp [hn5]; done) | (simp; omega)) ?_
    refine SR_rd (RD_load Try.isAgg67 rfl) (Has.ce rfl) rfl ?_
    refine SR_yes rfl rfl (by first | rfl | (simp; done) | (simp [hm5]; done) | (simp [hn5]; done) | (simp; omega)) ?_
    refine SR_pu (RD_move rfl) rfl ?_
    refine SR_yes rfl rfl (by first | rfl | (simp; done) | (simp [hm5]; done) | (simp [hn5]; done) | (simp; omega)) ?_
    refine SR_rd (RD_ixO (i := (o : Nat)) (cs := (oE N).flatMap EnvD.cells) Try.runUnderlying67 Try.sizeOf78 rfl rfl (by rw [env_len, oE_len, hm5]) (by omega) (by omega)) Has.ro rfl ?_
    refine SR_yes rfl rfl (by first | rfl | (simp; done) | (simp [hm5]; done) | (simp [hn5]; done) | (simp; omega)) ?_
    refine SR_rd (RD_fieldAddrO (cs := (oE N).flatMap EnvD.cells) 2 Try.runUnderlying78 rfl rfl Try.sizeOf42 rfl (by rw [env_len, oE_len]; omega)) Has.ro rfl ?_
    refine SR_yes rfl rfl (by first | rfl | (simp; done) | (simp [hm5]; done) | (simp [hn5]; done) | (simp; omega)) ?_
    refine SR_rd (RD_loadO (v := .int .u64 1) (cs := (oE N).flatMap EnvD.cells) Try.isAgg42 rfl (by rw [show ((o : Nat) : Int).toNat * (3 + 1) + 2 = o * 4 + 2 by omega, env_get hat 2 (by omega)]; rfl)) Has.ro rfl ?_
    refine SR_yes rfl rfl (by first | rfl | (simp; done) | (simp [hm5]; done) | (simp [hn5]; done) | (simp; omega)) ?_
    refine SR_pu (RD_move rfl) rfl ?_
    refine SR_yes rfl rfl (by first | rfl | (simp; done) | (simp [hm5]; done) | (simp [hn5]; done) | (simp; omega)) ?_
    refine SR_pu (RD_neq rfl rfl) rfl ?_
    refine SR_pu (RD_pick_f rfl (by first | rfl | (simp; done) | (simp [hm5]; done) | (simp [hn5]; done) | (simp; omega)) rfl) rfl ?_
    refine SR_pu (RD_move rfl) rfl ?_
    refine SR_yes rfl rfl (by first | rfl | (simp; done) | (simp [hm5]; done) | (simp [hn5]; done) | (simp; omega)) ?_
    first
      | refine SR_pu (RD_fieldAddr 2 Try.runUnderlying69 rfl rfl Try.sizeOf34 rfl) rfl ?_
      | refine SR_rd (RD_fieldAddrO 2 Try.runUnderlying69 rfl rfl Try.sizeOf34 rfl (by simp <;> omega)) Has.ro rfl ?_
    refine SR_yes rfl rfl (by first | rfl | (simp; done) | (simp [hm5]; done) | (simp [hn5]; done) | (simp; omega)) ?_
    first
      | refine SR_pu (RD_fieldAddr 2 Try.runUnderlying34 rfl rfl Try.sizeOf22 rfl) rfl ?_
      | refine SR_rd (RD_fieldAddrO 2 Try.runUnderlying34 rfl rfl Try.sizeOf22 rfl (by simp <;> omega)) Has.ro rfl ?_
    refine SR_yes rfl rfl (by first | rfl | (simp; done) | (simp [hm5]; done) | (simp [hn5]; done) | (simp; omega)) ?_
    refine SR_rd (RD_load Try.isAgg22 rfl) (Has.ce rfl) rfl ?_
    refine SR_yes rfl rfl (by first | rfl | (simp; done) | (simp [hm5]; done) | (simp [hn5]; done) | (simp; omega)) ?_
    refine SR_pu (RD_len Try.runUnderlying22 rfl) rfl ?_
    refine SR_yes rfl rfl (by first | rfl | (simp; done) | (simp [hm5]; done) | (simp [hn5]; done) | (simp; omega)) ?_
    refine SR_pu (RD_neq rfl rfl) rfl ?_
    refine SR_pu (RD_pick_f rfl (by first | rfl | (simp; done) | (simp [hm5]; done) | (simp [hn5]; done) | (simp; omega)) rfl) rfl ?_
    refine SR_pu (RD_move rfl) rfl ?_
    refine SR_yes rfl rfl (by first | rfl | (simp; done) | (simp [hm5]; done) | (simp [hn5]; done) | (simp; omega)) ?_
    first
      | refine SR_pu (RD_fieldAddr 2 Try.runUnderlying69 rfl rfl Try.sizeOf34 rfl) rfl ?_
      | refine SR_rd (RD_fieldAddrO 2 Try.runUnderlying69 rfl rfl Try.sizeOf34 rfl (by simp <;> omega)) Has.ro rfl ?_
    refine SR_yes rfl rfl (by first | rfl | (simp; done) | (simp [hm5]; done) | (simp [hn5]; done) | (simp; omega)) ?_
    first
      | refine SR_pu (RD_fieldAddr 2 Try.runUnderlying34 rfl rfl Try.sizeOf22 rfl) rfl ?_
      | refine SR_rd (RD_fieldAddrO 2 Try.runUnderlying34 rfl rfl Try.sizeOf22 rfl (by simp <;> omega)) Has.ro rfl ?_
    refine SR_yes rfl rfl (by first | rfl | (simp; done) | (simp [hm5]; done) | (simp [hn5]; done) | (simp; omega)) ?_
    refine SR_rd (RD_load Try.isAgg22 rfl) (Has.ce rfl) rfl ?_
    refine SR_yes rfl rfl (by first | rfl | (simp; done) | (simp [hm5]; done) | (simp [hn5]; done) | (simp; omega)) ?_
    refine SR_rd (RD_ixO (i := (0 : Nat)) (cs := [1, 2].map intV) Try.runUnderlying22 Try.sizeOf3 rfl rfl (by rw [hn5]; rfl) (by omega) (by omega)) Has.ro rfl ?_
    refine SR_yes rfl rfl (by first | rfl | (simp; done) | (simp [hm5]; done) | (simp [hn5]; done) | (simp; omega)) ?_
    refine SR_rd (RD_loadO (v := .int .i64 1) (cs := [1, 2].map intV) Try.isAgg3 rfl rfl) Has.ro rfl ?_
    refine SR_yes rfl rfl (by first | rfl | (simp; done) | (simp [hm5]; done) | (simp [hn5]; done) | (simp; omega)) ?_
    refine SR_pu (RD_neq rfl rfl) rfl ?_
    refine SR_pu (RD_pick_f rfl (by first | rfl | (simp; done) | (simp [hm5]; done) | (simp [hn5]; done) | (simp; omega)) rfl) rfl ?_
    refine SR_nil ?_
    refine SN.le (l := [(6, _), (7, _), (9, _), (10, _), (11, _), (13, _), (116, _)]) ?_ (.cons rfl (.cons rfl (.cons rfl (.cons rfl (.cons rfl (.cons rfl (.cons rfl (.nil))))))))
    refine SN_seq ?_
    refine SC_cond_false rfl (by simp) ?_
    refine SC_skip ?_
    refine SN_seq ?_
    refine SC_seq ?_
    refine SC_region ?_
    first
      | refine SR_pu (RD_fieldAddr 5 Try.runUnderlying69 rfl rfl Try.sizeOf67 rfl) rfl ?_
      | refine SR_rd (RD_fieldAddrO 5 Try.runUnderlying69 rfl rfl Try.sizeOf67 rfl (by simp <;> omega)) Has.ro rfl ?_
    refine SR_rd (RD_load Try.isAgg67 rfl) (Has.ce rfl) rfl ?_
    refine SR_pu (RD_move rfl) rfl ?_
    refine SR_rd (RD_ixO (i := (o : Nat)) (cs := (oE N).flatMap EnvD.cells) Try.runUnderlying67 Try.sizeOf78 rfl rfl (by rw [env_len, oE_len, hm5]) (by omega) (by omega)) Has.ro rfl ?_
    refine SR_rd (RD_fieldAddrO (cs := (oE N).flatMap EnvD.cells) 2 Try.runUnderlying78 rfl rfl Try.sizeOf42 rfl (by rw [env_len, oE_len]; omega)) Has.ro rfl ?_
    refine SR_ox0 (OX_stRow Try.sizeOf42 rfl rfl (by rw [env_len, oE_len]; omega)) ?_
    rintro _ _ rfl
    refine SR_nil ?_
    refine SN.le (l := [(6, _), (7, _), (9, _), (10, _), (11, _), (13, _)]) ?_ (.cons rfl (.cons rfl (.cons rfl (.cons rfl (.cons rfl (.cons rfl (.nil)))))))
    refine SN_seq ?_
    refine SC_seq ?_
    refine SC_region ?_
    first
      | refine SR_pu (RD_fieldAddr 2 Try.runUnderlying69 rfl rfl Try.sizeOf34 rfl) rfl ?_
      | refine SR_rd (RD_fieldAddrO 2 Try.runUnderlying69 rfl rfl Try.sizeOf34 rfl (by simp <;> omega)) Has.ro rfl ?_
    first
      | refine SR_pu (RD_fieldAddr 2 Try.runUnderlying34 rfl rfl Try.sizeOf22 rfl) rfl ?_
      | refine SR_rd (RD_fieldAddrO 2 Try.runUnderlying34 rfl rfl Try.sizeOf22 rfl (by simp <;> omega)) Has.ro rfl ?_
    refine SR_rd (RD_load Try.isAgg22 rfl) (Has.ce rfl) rfl ?_
    refine SR_rd (RD_ixO (i := (1 : Nat)) (cs := [1, 2].map intV) Try.runUnderlying22 Try.sizeOf3 rfl rfl (by rw [hn5]; rfl) (by omega) (by omega)) Has.ro rfl ?_
    refine SR_ox0 (OX_stRow Try.sizeOf3 rfl rfl (by simp)) ?_
    rintro _ _ rfl
    refine SR_nil ?_
    refine SN.le (l := [(6, _), (7, _), (9, _), (10, _), (11, _)]) ?_ (.cons rfl (.cons rfl (.cons rfl (.cons rfl (.cons rfl (.nil))))))
    refine SN_seq ?_
    refine SC_seq ?_
    refine SC_region ?_
    refine SR_pu (RD_move rfl) rfl ?_
    refine SR_pu (RD_move rfl) rfl ?_
    refine SR_call Try.call42 (.cons rfl (.cons rfl (.nil))) (CallsK.at (tree_Block p s' D)) (lts rfl) ?_
    rintro _ L6 ⟨y, rfl, hp6, hf6, hL6⟩
    rw [hgD] at hp6 ⊢
    have hv6 : y.by_.l = [1, 2] ∧ y.envs.l = oE N := ⟨congrArg Blk.by_ hp6, congrArg Blk.envs hp6⟩
    have hn6 : y.by_.n = 2 := by have := hf6.1; rw [hv6.1] at this; exact this.symm
    have hm6 : y.envs.n = N := by have := hf6.2.1; rw [hv6.2, oE_len] at this; exact this.symm
    rw [hv6.1, hv6.2] at hL6
    refine SR.lands hL6 ?_
    refine SR_pu (RD_move rfl) rfl ?_
    refine SR_pu (RD_extract rfl rfl) rfl ?_
    refine SR_pu (RD_extract rfl rfl) rfl ?_
    refine SR_ox (OX_alloc Try.zeroValue69 rfl) rfl ?_
    rintro _ _ ⟨b15, rfl, rfl⟩
    refine SR_ox0 (OX_stA (vs := y.cells) Try.sizeOf69 rfl rfl rfl rfl) ?_
    rintro _ _ rfl
    refine SR_pu (RD_assign rfl) rfl ?_
    refine SR_nil ?_
    refine SN.le (l := [(7, _), (9, _), (10, _), (15, _), (16, _)]) ?_ (.cons rfl (.cons rfl (.cons rfl (.cons rfl (.cons rfl (.nil))))))
    refine SN_seq ?_
    refine SC_seq ?_
    refine SC_region ?_
    refine SR_pu (RD_move rfl) rfl ?_
    refine SR_pu (RD_move rfl) rfl ?_
    refine SR_yes rfl rfl (by first | rfl | exact decide_eq_true (by omega) | exact decide_eq_false (by omega) | decide | (simp; done) | (simp; omega)) ?_
    first
      | refine SR_pu (RD_fieldAddr 5 Try.runUnderlying69 rfl rfl Try.sizeOf67 rfl) rfl ?_
      | refine SR_rd (RD_fieldAddrO 5 Try.runUnderlying69 rfl rfl Try.sizeOf67 rfl (by simp <;> omega)) Has.ro rfl ?_
    refine SR_yes rfl rfl (by first | rfl | exact decide_eq_true (by omega) | exact decide_eq_false (by omega) | decide | (simp; done) | (simp; omega)) ?_
    refine SR_rd (RD_load Try.isAgg67 rfl) (Has.ce rfl) rfl ?_
    refine SR_yes rfl rfl (by first | rfl | exact decide_eq_true (by omega) | exact decide_eq_false (by omega) | decide | (simp; done) | (simp; omega)) ?_
    refine SR_pu (RD_len Try.runUnderlying67 rfl) rfl ?_
    refine SR_yes rfl rfl (by first | rfl | exact decide_eq_true (by omega) | exact decide_eq_false (by omega) | decide | (simp; done) | (simp; omega)) ?_
    first
      | refine SR_pu (RD_fieldAddr 5 Try.runUnderlying69 rfl rfl Try.sizeOf67 rfl) rfl ?_
      | refine SR_rd (RD_fieldAddrO 5 Try.runUnderlying69 rfl rfl Try.sizeOf67 rfl (by simp <;> omega)) Has.ro rfl ?_
    refine SR_yes rfl rfl (by first | rfl | exact decide_eq_true (by omega) | exact decide_eq_false (by omega) | decide | (simp; done) | (simp; omega)) ?_
    refine SR_rd (RD_load Try.isAgg67 rfl) (Has.ce rfl) rfl ?_
    refine SR_yes rfl rfl (by first | rfl | exact decide_eq_true (by omega) | exact decide_eq_false (by omega) | decide | (simp; done) | (simp; omega)) ?_
    refine SR_pu (RD_len Try.runUnderlying67 rfl) rfl ?_
    refine SR_yes rfl rfl (by first | rfl | exact decide_eq_true (by omega) | exact decide_eq_false (by omega) | decide | (simp; done) | (simp; omega)) ?_
    refine SR_pu (RD_eql rfl rfl) rfl ?_
    refine SR_pu (RD_pick_t rfl (by first | rfl | exact decide_eq_true (by omega) | exact decide_eq_false (by omega) | decide | (simp; done) | (simp; omega)) rfl) rfl ?_
    refine SR_pu (RD_move rfl) rfl ?_
    refine SR_yes rfl rfl (by first | rfl | exact decide_eq_true (by omega) | exact decide_eq_false (by omega) | decide | (simp; done) | (simp; omega)) ?_
    first
      | refine SR_pu (RD_fieldAddr 2 Try.runUnderlying69 rfl rfl Try.sizeOf34 rfl) rfl ?_
      | refine SR_rd (RD_fieldAddrO 2 Try.runUnderlying69 rfl rfl Try.sizeOf34 rfl (by simp <;> omega)) Has.ro rfl ?_
    refine SR_yes rfl rfl (by first | rfl | exact decide_eq_true (by omega) | exact decide_eq_false (by omega) | decide | (simp; done) | (simp; omega)) ?_
    first
      | refine SR_pu (RD_fieldAddr 2 Try.runUnderlying34 rfl rfl Try.sizeOf22 rfl) rfl ?_
      | refine SR_rd (RD_fieldAddrO 2 Try.runUnderlying34 rfl rfl Try.sizeOf22 rfl (by simp <;> omega)) Has.ro rfl ?_
    refine SR_yes rfl rfl (by first | rfl | exact decide_eq_true (by omega) | exact decide_eq_false (by omega) | decide | (simp; done) | (simp; omega)) ?_
    refine SR_rd (RD_load Try.isAgg22 rfl) (Has.ce rfl) rfl ?_
    refine SR_yes rfl rfl (by first | rfl | exact decide_eq_true (by omega) | exact decide_eq_false (by omega) | decide | (simp; done) | (simp; omega)) ?_
    refine SR_pu (RD_len Try.runUnderlying22 rfl) rfl ?_
    refine SR_yes rfl rfl (by first | rfl | exact decide_eq_true (by omega) | exact decide_eq_false (by omega) | decide | (simp; done) | (simp; omega)) ?_
    refine SR_pu (RD_eql rfl rfl) rfl ?_
    refine SR_pu (RD_pick_t rfl (by first | rfl | exact decide_eq_true (by omega) | exact decide_eq_false (by omega) | decide | (simp; done) | (simp; omega)) rfl) rfl ?_
    refine SR_pu (RD_move rfl) rfl ?_
    refine SR_yes rfl rfl (by first | rfl | exact decide_eq_true (by omega) | exact decide_eq_false (by omega) | decide | (simp; done) | (simp; omega)) ?_
    first
      | refine SR_pu (RD_fieldAddr 5 Try.runUnderlying69 rfl rfl Try.sizeOf67 rfl) rfl ?_
      | refine SR_rd (RD_fieldAddrO 5 Try.runUnderlying69 rfl rfl Try.sizeOf67 rfl (by simp <;> omega)) Has.ro rfl ?_
    refine SR_yes rfl rfl (by first | rfl | exact decide_eq_true (by omega) | exact decide_eq_false (by omega) | decide | (simp; done) | (simp; omega)) ?_
    refine SR_rd (RD_load Try.isAgg67 rfl) (Has.ce rfl) rfl ?_
    refine SR_yes rfl rfl (by first | rfl | exact decide_eq_true (by omega) | exact decide_eq_false (by omega) | decide | (simp; done) | (simp; omega)) ?_
    refine SR_pu (RD_move rfl) rfl ?_
    refine SR_yes rfl rfl (by first | rfl | exact decide_eq_true (by omega) | exact decide_eq_false (by omega) | decide | (simp; done) | (simp; omega)) ?_
    refine SR_rd (RD_ixO (i := (o : Nat)) (cs := (oE N).flatMap EnvD.cells) Try.runUnderlying67 Try.sizeOf78 rfl rfl (by rw [env_len, oE_len, hm6]) (by omega) (by omega)) Has.ro rfl ?_
    refine SR_yes rfl rfl (by first | rfl | exact decide_eq_true (by omega) | exact decide_eq_false (by omega) | decide | (simp; done) | (simp; omega)) ?_
    refine SR_rd (RD_fieldAddrO (cs := (oE N).flatMap EnvD.cells) 2 Try.runUnderlying78 rfl rfl Try.sizeOf42 rfl (by rw [env_len, oE_len]; omega)) Has.ro rfl ?_
    refine SR_yes rfl rfl (by first | rfl | exact decide_eq_true (by omega) | exact decide_eq_false (by omega) | decide | (simp; done) | (simp; omega)) ?_
    refine SR_rd (RD_loadO (v := .int .u64 1) (cs := (oE N).flatMap EnvD.cells) Try.isAgg42 rfl (by rw [show ((o : Nat) : Int).toNat * (3 + 1) + 2 = o * 4 + 2 by omega, env_get hat 2 (by omega)]; rfl)) Has.ro rfl ?_
    refine SR_yes rfl rfl (by first | rfl | exact decide_eq_true (by omega) | exact decide_eq_false (by omega) | decide | (simp; done) | (simp; omega)) ?_
    refine SR_pu (RD_move rfl) rfl ?_
    refine SR_yes rfl rfl (by first | rfl | exact decide_eq_true (by omega) | exact decide_eq_false (by omega) | decide | (simp; done) | (simp; omega)) ?_
    refine SR_pu (RD_eql rfl rfl) rfl ?_
    refine SR_pu (RD_pick_t rfl (by first | rfl | exact decide_eq_true (by omega) | exact decide_eq_false (by omega) | decide | (simp; done) | (simp; omega)) rfl) rfl ?_
    refine SR_pu (RD_move rfl) rfl ?_
    refine SR_yes rfl rfl (by first | rfl | exact decide_eq_true (by omega) | exact decide_eq_false (by omega) | decide | (simp; done) | (simp; omega)) ?_
    first
      | refine SR_pu (RD_fieldAddr 2 Try.runUnderlying69 rfl rfl Try.sizeOf34 rfl) rfl ?_
      | refine SR_rd (RD_fieldAddrO 2 Try.runUnderlying69 rfl rfl Try.sizeOf34 rfl (by simp <;> omega)) Has.ro rfl ?_
    refine SR_yes rfl rfl (by first | rfl | exact decide_eq_true (by omega) | exact decide_eq_false (by omega) | decide | (simp; done) | (simp; omega)) ?_
    first
      | refine SR_pu (RD_fieldAddr 2 Try.runUnderlying34 rfl rfl Try.sizeOf22 rfl) rfl ?_
      | refine SR_rd (RD_fieldAddrO 2 Try.runUnderlying34 rfl rfl Try.sizeOf22 rfl (by simp <;> omega)) Has.ro rfl ?_
    refine SR_yes rfl rfl (by first | rfl | exact decide_eq_true (by omega) | exact decide_eq_false (by omega) | decide | (simp; done) | (simp; omega)) ?_
    refine SR_rd (RD_load Try.isAgg22 rfl) (Has.ce rfl) rfl ?_
    refine SR_yes rfl rfl (by first | rfl | exact decide_eq_true (by omega) | exact decide_eq_false (by omega) | decide | (simp; done) | (simp; omega)) ?_
    refine SR_rd (RD_ixO (i := (1 : Nat)) (cs := [1, 2].map intV) Try.runUnderlying22 Try.sizeOf3 rfl rfl (by rw [hn6]; rfl) (by omega) (by omega)) Has.ro rfl ?_
    refine SR_yes rfl rfl (by first | rfl | exact decide_eq_true (by omega) | exact decide_eq_false (by omega) | decide | (simp; done) | (simp; omega)) ?_
    refine SR_rd (RD_loadO (v := .int .i64 2) (cs := [1, 2].map intV) Try.isAgg3 rfl rfl) Has.ro rfl ?_
    refine SR_yes rfl rfl (by first | rfl | exact decide_eq_true (by omega) | exact decide_eq_false (by omega) | decide | (simp; done) | (simp; omega)) ?_
    refine SR_pu (RD_eql rfl rfl) rfl ?_
    refine SR_pu (RD_pick_t rfl (by first | rfl | exact decide_eq_true (by omega) | exact decide_eq_false (by omega) | decide | (simp; done) | (simp; omega)) rfl) rfl ?_
    refine SR_pu (RD_move rfl) rfl ?_
    refine SR_yes rfl rfl (by first | rfl | exact decide_eq_true (by omega) | exact decide_eq_false (by omega) | decide | (simp; done) | (simp; omega)) ?_
    refine SR_call Try.call39 (.nil) (tree_awake) (lts rfl) ?_
    rintro _ L9 ⟨rfl, hL9⟩
    refine SR.lands hL9 ?_
    refine SR_pu (RD_pick_t rfl (by first | rfl | exact decide_eq_true (by omega) | exact decide_eq_false (by omega) | decide | (simp; done) | (simp; omega)) rfl) rfl ?_
    refine SR_pu (RD_assign rfl) rfl ?_
    refine SR_nil ?_
    refine SN.le (l := [(4, _)]) ?_ (.cons rfl (.nil))
    refine SN_seq ?_
    refine SC_ret1 rfl rfl ?_
    exact ⟨rfl, .fin⟩

end Go.Proofs.Ytdmmaammpjdmbaa
