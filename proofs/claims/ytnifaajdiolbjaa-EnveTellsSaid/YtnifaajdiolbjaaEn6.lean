/- Envelopes of one client, nonce and fee are told alike, whatever is in them: the statement. -/
import Derived.Test.YtnifaajdiolbjaaEn4
namespace Go.Proofs.Ytnifaajdiolbjaa
open Go Go.Proofs
set_option maxRecDepth 100000
theorem w_TLen {W : World} {F : List HProp} [Abs F] (k : WK) (s : WS) : CallsK W Try.prog 54 #[.pointer (some ⟨k.t, 0, none⟩)] (At worldI k s :: F) (fun v L => v = .int .i64 s.l.length ∧ Lands L (At worldI k s :: F)) :=
  world_arena (l' := s.l) (term_Len k.t s.l)
/-- What Make makes. -/
def mkA (s : WS) (n : Nat) (cl nc fe : Int) : EnvD × List (List UInt8) × List (Int × List Int) × Nat :=
  if 0 ≤ cl ∧ cl ≤ 999 then (⟨cl, nc, fe, ((n + 1 : Nat) : Int)⟩, dput s.l (envB ⟨cl, nc, fe, ((n + 1 : Nat) : Int)⟩), addTo s.S (1000 + cl) (dnum (dput s.l (envB ⟨cl, nc, fe, ((n + 1 : Nat) : Int)⟩)) (envB ⟨cl, nc, fe, ((n + 1 : Nat) : Int)⟩) : Nat), n + 1) else (⟨0, 0, 0, 0⟩, s.l, s.S, n)
theorem mkA_facts {s : WS} {n : Nat} {cl nc fe : Int} {e : EnvD} {l' : List (List UInt8)} {S' : List (Int × List Int)} {n' : Nat} (h1 : 0 ≤ nc ∧ nc < 18446744073709551616) (h2 : 0 ≤ fe ∧ fe < 18446744073709551616) (h : mkA s n cl nc fe = (e, l', S', n')) : e.Ok ∧ l'.length ≤ s.l.length + 1 ∧ n' ≤ n + 1 := by
  unfold mkA at h
  split at h
  · simp only [Prod.mk.injEq] at h
    obtain ⟨rfl, rfl, rfl, rfl⟩ := h
    exact ⟨⟨h1, h2⟩, dput_len _ _, by omega⟩
  · simp only [Prod.mk.injEq] at h
    obtain ⟨rfl, rfl, rfl, rfl⟩ := h
    exact ⟨⟨by dsimp only; omega, by dsimp only; omega⟩, by omega, by omega⟩

theorem w_Make_no {W : World} {F : List HProp} [Abs F] (k : WK) (cl nc fe : Int) (hc : ¬ (0 ≤ cl ∧ cl ≤ 999)) (a0 : Option Addr) (n0 c0 : Nat) :
    CallsK W Try.prog 35 #[.pointer (some ⟨k.p, 0, none⟩), .int .i64 cl, .int .u64 nc, .int .u64 fe, .slice a0 n0 c0] (F) (fun v L => v = (EnvD.mk 0 0 0 0).val ∧ Lands L F) := by
  refine CallsK_enter (n := 41) Try.func35 rfl rfl rfl ?_
  refine SC_seq ?_
  refine SC_region ?_
  refine SR_ox (OX_alloc Try.zeroValue39 rfl) rfl ?_
  rintro _ _ ⟨b10, rfl, rfl⟩
  refine SR_nil ?_
  refine SN.le (l := [(0, _), (1, _), (2, _), (3, _), (4, _), (10, _)]) ?_ (.cons rfl (.cons rfl (.cons rfl (.cons rfl (.cons rfl (.cons rfl (.nil)))))))
  refine SN_seq ?_
  refine SC_seq ?_
  refine SC_seq ?_
  refine SC_region ?_
  refine SR_pu (RD_move rfl) rfl ?_
  refine SR_pu (RD_lss rfl rfl) rfl ?_
  refine SR_pu (RD_move rfl) rfl ?_
  refine SR_guard rfl rfl (fun hg1_2 => ?_) (fun hg1_2 => ?_)
  · refine SR_yes rfl rfl (hg1_2) ?_
    refine SR_pu (RD_move rfl) rfl ?_
    refine SR_yes rfl rfl (hg1_2) ?_
    refine SR_pu (RD_gtr rfl rfl) rfl ?_
    refine SR_pu (RD_pick_f rfl (hg1_2) rfl) rfl ?_
    refine SR_nil ?_
    refine SN.le (l := [(0, _), (1, _), (2, _), (3, _), (4, _), (10, _), (17, _)]) ?_ (.cons rfl (.cons rfl (.cons rfl (.cons rfl (.cons rfl (.cons rfl (.cons rfl (.nil))))))))
    refine SN_seq ?_
    refine SC_cond_true rfl (decide_eq_true (by have := of_decide_eq_false hg1_2; omega)) ?_
    refine SC_seq ?_
    refine SC_region ?_
    refine SR_pu (RD_build (.nil) built39) rfl ?_
    refine SR_ox0 (OX_stA (vs := EnvD.cells ⟨0, 0, 0, 0⟩) Try.sizeOf39 rfl rfl rfl rfl) ?_
    rintro _ _ rfl
    refine SR_nil ?_
    refine SN.le (l := [(10, _)]) ?_ (.cons rfl (.nil))
    refine SN_seq ?_
    refine SC_retC rfl Try.isAgg39 Try.sizeOf39 rfl rfl Has.wh ?_
    exact ⟨rfl, .fin⟩
  · refine SR_no rfl rfl (hg1_2) (lts rfl) ?_
    refine SR_no rfl rfl (hg1_2) (lts rfl) ?_
    refine SR_pu (RD_pick_t rfl (hg1_2) rfl) rfl ?_
    refine SR_nil ?_
    refine SN.le (l := [(0, _), (1, _), (2, _), (3, _), (4, _), (10, _), (17, _)]) ?_ (.cons rfl (.cons rfl (.cons rfl (.cons rfl (.cons rfl (.cons rfl (.cons rfl (.nil))))))))
    refine SN_seq ?_
    refine SC_cond_true rfl (rfl) ?_
    refine SC_seq ?_
    refine SC_region ?_
    refine SR_pu (RD_build (.nil) built39) rfl ?_
    refine SR_ox0 (OX_stA (vs := EnvD.cells ⟨0, 0, 0, 0⟩) Try.sizeOf39 rfl rfl rfl rfl) ?_
    rintro _ _ rfl
    refine SR_nil ?_
    refine SN.le (l := [(10, _)]) ?_ (.cons rfl (.nil))
    refine SN_seq ?_
    refine SC_retC rfl Try.isAgg39 Try.sizeOf39 rfl rfl Has.wh ?_
    exact ⟨rfl, .fin⟩

theorem w_MakeA {W : World} {F : List HProp} [Abs F] (k : WK) (s : WS) (n : Nat) (hn : n ≤ 1000000) (cl nc fe : Int) (h1 : 0 ≤ nc ∧ nc < 18446744073709551616) (h2 : 0 ≤ fe ∧ fe < 18446744073709551616) (a0 : Option Addr) (n0 c0 : Nat) (cs0 : List Value) [Ones cs0] [HasRow F a0 cs0] (h0 : cs0.length = n0 * 1) (hb : n0 ≤ 1000000) (hl : s.l.length ≤ 1000000000) {e : EnvD} {l' : List (List UInt8)} {S' : List (Int × List Int)} {n' : Nat} (h : mkA s n cl nc fe = (e, l', S', n')) :
    CallsK W Try.prog 35 #[.pointer (some ⟨k.p, 0, none⟩), .int .i64 cl, .int .u64 nc, .int .u64 fe, .slice a0 n0 c0] (At worldI k s :: At vaultI k.v n :: F) (fun v L => v = e.val ∧ Lands L (At worldI k ⟨l', S'⟩ :: At vaultI k.v n' :: F)) := by
  unfold mkA at h
  by_cases hc : 0 ≤ cl ∧ cl ≤ 999
  · rw [if_pos hc] at h
    simp only [Prod.mk.injEq] at h
    obtain ⟨rfl, rfl, rfl, rfl⟩ := h
    exact w_Make k s n hn cl nc fe hc h1 h2 a0 n0 c0 cs0 h0 hb hl
  · rw [if_neg hc] at h
    simp only [Prod.mk.injEq] at h
    obtain ⟨rfl, rfl, rfl, rfl⟩ := h
    exact w_Make_no k cl nc fe hc a0 n0 c0

theorem law_EnveBlind {W : World} {F : List HProp} [Abs F] (a0 : Option Addr) (n0 c0 : Nat) (es : List EnvD) [HasRow F a0 (es.flatMap EnvD.cells)] (hn0 : es.length = n0) (hes : ∀ e ∈ es, e.Good) (a1 : Option Addr) (n1 c1 : Nat) (ps : List BSl) [HasRow F a1 (ps.map BSl.val)] (hn1 : ps.length = n1) (hps : ∀ s ∈ ps, s.Ok F ∧ s.n ≤ 140737488355328) (a2 : Option Addr) (n2 c2 : Nat) (qs : List BSl) [HasRow F a2 (qs.map BSl.val)] (hn2 : qs.length = n2) (hqs : ∀ s ∈ qs, s.Ok F ∧ s.n ≤ 140737488355328) :
    CallsK W Try.prog 11 #[.slice a0 n0 c0, .slice a1 n1 c1, .slice a2 n2 c2] (F) (fun v L => v = .bool true ∧ Lands L F) := by
  refine CallsK_enter (n := 113) Try.func11 rfl rfl rfl ?_
  refine SC_seq ?_
  refine SC_region ?_
  refine SR_pu (RD_assign rfl) rfl ?_
  refine SR_nil ?_
  refine SN.le (l := [(0, _), (1, _), (2, _)]) ?_ (.cons rfl (.cons rfl (.cons rfl (.nil))))
  refine SN_seq ?_
  refine SC_seq ?_
  refine SC_region ?_
  refine SR_call Try.call16 (.cons rfl (.nil)) (enve_New 1) (lts rfl) ?_
  rintro _ L0 ⟨k1, rfl, hL0⟩
  refine SR.lands (hL0.trans (Lands.cons vault_new)) ?_
  refine SR_call Try.call16 (.cons rfl (.nil)) (enve_New 1) (lts rfl) ?_
  rintro _ L1 ⟨k2, rfl, hL1⟩
  refine SR.lands (hL1.trans (Lands.cons vault_new)) ?_
  refine SR_pu (RD_assign rfl) rfl ?_
  refine SR_pu (RD_assign rfl) rfl ?_
  refine SR_nil ?_
  refine SN.le (l := [(0, _), (1, _), (2, _), (7, _), (8, _)]) ?_ (.cons rfl (.cons rfl (.cons rfl (.cons rfl (.cons rfl (.nil))))))
  refine SN_seq ?_
  refine SC_seq ?_
  refine SC_seq ?_
  refine SC_region ?_
  refine SR_pu (RD_move rfl) rfl ?_
  refine SR_pu (RD_eqlP Try.underlying35 rfl rfl) rfl ?_
  refine SR_pu (RD_move rfl) rfl ?_
  refine SR_yes rfl rfl (rfl) ?_
  refine SR_pu (RD_move rfl) rfl ?_
  refine SR_yes rfl rfl (rfl) ?_
  refine SR_pu (RD_eqlP Try.underlying35 rfl rfl) rfl ?_
  refine SR_pu (RD_pick_f rfl (rfl) rfl) rfl ?_
  refine SR_nil ?_
  refine SN.le (l := [(0, _), (1, _), (2, _), (7, _), (8, _), (21, _)]) ?_ (.cons rfl (.cons rfl (.cons rfl (.cons rfl (.cons rfl (.cons rfl (.nil)))))))
  refine SN_seq ?_
  refine SC_cond_false rfl (rfl) ?_
  refine SC_skip ?_
  refine SN_seq ?_
  refine SC_seq ?_
  refine SC_seq ?_
  refine SC_region ?_
  refine SR_pu (RD_assign rfl) rfl ?_
  refine SR_nil ?_
  refine SN.le (l := [(0, _), (1, _), (2, _), (7, _), (8, _), (9, _)]) ?_ (.cons rfl (.cons rfl (.cons rfl (.cons rfl (.cons rfl (.cons rfl (.nil)))))))
  refine SN_seq ?_
  refine SC_block ?_
  obtain ⟨N, hN⟩ : ∃ N : Nat, N = min n0 20 := ⟨_, rfl⟩
  refine SC_ind (X := Nat × List (List UInt8) × List (Int × List Int) × Nat) (fun x => x.1 ≤ N ∧ x.2.1.length ≤ 2 * x.1 ∧ x.2.2.2 ≤ x.1) (fun x => N - x.1) (fun x => [(0, .slice a0 n0 c0), (1, .slice a1 n1 c1), (2, .slice a2 n2 c2), (7, .pointer (some ⟨k1.p, 0, none⟩)), (8, .pointer (some ⟨k2.p, 0, none⟩)), (9, .int .i64 (x.1 : Nat))]) (fun x => At worldI k1 ⟨x.2.1, x.2.2.1⟩ :: At vaultI k1.v x.2.2.2 :: At worldI k2 ⟨x.2.1, x.2.2.1⟩ :: At vaultI k2.v x.2.2.2 :: F) ((0, [], [], 0)) (⟨by simp, by simp, by simp⟩) (.cons rfl (.cons rfl (.cons rfl (.cons rfl (.cons rfl (.cons rfl (.nil))))))) (.fin) ?_
  intro ⟨i, l, S, n⟩ hi ih
  obtain ⟨hi1, hi2, hi3⟩ := hi
  dsimp only at hi1 hi2 hi3 ih ⊢
  refine SC_seq ?_
  refine SC_seq ?_
  refine SC_join (X := Unit) (fun x => [(0, .slice a0 n0 c0), (1, .slice a1 n1 c1), (2, .slice a2 n2 c2), (7, .pointer (some ⟨k1.p, 0, none⟩)), (8, .pointer (some ⟨k2.p, 0, none⟩)), (9, .int .i64 (i : Nat)), (29, .bool (decide (i < N)))]) (fun x => At worldI k1 ⟨l, S⟩ :: At vaultI k1.v n :: At worldI k2 ⟨l, S⟩ :: At vaultI k2.v n :: F) (fun _ => ?_) (fun J0 => ?_)
  · refine SN_seq ?_
    refine SC_cond rfl (fun hc29 => ?_) (fun hc29 => ?_)
    · have hin : i < N := of_decide_eq_true hc29
      obtain ⟨f, hf⟩ : ∃ f, es[i]? = some f := ⟨_, List.getElem?_eq_getElem (by omega)⟩
      have hfg := hes f (List.mem_of_getElem? hf)
      refine SC_skip ?_
      refine SN_seq ?_
      refine SC_seq ?_
      refine SC_block ?_
      refine SC_seq ?_
      refine SC_region ?_
      refine SR_pu (RD_assign rfl) rfl ?_
      refine SR_pu (RD_assign rfl) rfl ?_
      refine SR_nil ?_
      refine SN.le (l := [(0, _), (1, _), (2, _), (7, _), (8, _), (9, _), (10, _), (11, _)]) ?_ (.cons rfl (.cons rfl (.cons rfl (.cons rfl (.cons rfl (.cons rfl (.cons rfl (.cons rfl (.nil)))))))))
      refine SN_seq ?_
      refine SC_seq ?_
      refine SC_seq ?_
      refine SC_region ?_
      refine SR_pu (RD_move rfl) rfl ?_
      refine SR_pu (RD_move rfl) rfl ?_
      refine SR_pu (RD_len Try.runUnderlying94 rfl) rfl ?_
      refine SR_pu (RD_lss rfl rfl) rfl ?_
      refine SR_nil ?_
      refine SN.le (l := [(0, _), (1, _), (2, _), (7, _), (8, _), (9, _), (10, _), (11, _), (35, _)]) ?_ (.cons rfl (.cons rfl (.cons rfl (.cons rfl (.cons rfl (.cons rfl (.cons rfl (.cons rfl (.cons rfl (.nil))))))))))
      refine SN_seq ?_
      refine SC_join (X := {x : BSl // x.Ok F ∧ x.n ≤ 140737488355328}) (fun x => [(0, .slice a0 n0 c0), (1, .slice a1 n1 c1), (2, .slice a2 n2 c2), (7, .pointer (some ⟨k1.p, 0, none⟩)), (8, .pointer (some ⟨k2.p, 0, none⟩)), (9, .int .i64 (i : Nat)), (10, x.1.val), (11, .slice none 0 0)]) (fun x => At worldI k1 ⟨l, S⟩ :: At vaultI k1.v n :: At worldI k2 ⟨l, S⟩ :: At vaultI k2.v n :: F) (fun ⟨p, hp, hpz⟩ => ?_) (fun J0 => ?_)
      · haveI := hp.r
        have hpn := hp.hn
        refine SN_seq ?_
        refine SC_seq ?_
        refine SC_seq ?_
        refine SC_region ?_
        refine SR_pu (RD_move rfl) rfl ?_
        refine SR_pu (RD_move rfl) rfl ?_
        refine SR_pu (RD_len Try.runUnderlying94 rfl) rfl ?_
        refine SR_pu (RD_lss rfl rfl) rfl ?_
        refine SR_nil ?_
        refine SN.le (l := [(0, _), (1, _), (2, _), (7, _), (8, _), (9, _), (10, _), (11, _), (43, _)]) ?_ (.cons rfl (.cons rfl (.cons rfl (.cons rfl (.cons rfl (.cons rfl (.cons rfl (.cons rfl (.cons rfl (.nil))))))))))
        refine SN_seq ?_
        refine SC_join (X := {x : BSl // x.Ok F ∧ x.n ≤ 140737488355328}) (fun x => [(0, .slice a0 n0 c0), (1, .slice a1 n1 c1), (2, .slice a2 n2 c2), (7, .pointer (some ⟨k1.p, 0, none⟩)), (8, .pointer (some ⟨k2.p, 0, none⟩)), (9, .int .i64 (i : Nat)), (10, p.val), (11, x.1.val)]) (fun x => At worldI k1 ⟨l, S⟩ :: At vaultI k1.v n :: At worldI k2 ⟨l, S⟩ :: At vaultI k2.v n :: F) (fun ⟨q, hq, hqz⟩ => ?_) (fun J0 => ?_)
        · haveI := hq.r
          have hqn := hq.hn
          refine SN_seq ?_
          refine SC_seq ?_
          refine SC_seq ?_
          refine SC_region ?_
          refine SR_pu (RD_move rfl) rfl ?_
          refine SR_pu (RD_len (n := p.n) (c := p.c) (a := p.a) Try.runUnderlying53 rfl) rfl ?_
          refine SR_pu (RD_move rfl) rfl ?_
          refine SR_pu (RD_len (n := q.n) (c := q.c) (a := q.a) Try.runUnderlying53 rfl) rfl ?_
          refine SR_pu (RD_addi rfl rfl (by omega) (by omega)) rfl ?_
          refine SR_pu (RD_gtr rfl rfl) rfl ?_
          refine SR_nil ?_
          refine SN.le (l := [(0, _), (1, _), (2, _), (7, _), (8, _), (9, _), (10, _), (11, _), (53, _)]) ?_ (.cons rfl (.cons rfl (.cons rfl (.cons rfl (.cons rfl (.cons rfl (.cons rfl (.cons rfl (.cons rfl (.nil))))))))))
          refine SN_seq ?_
          refine SC_cond rfl (fun hc53 => ?_) (fun hc53 => ?_)
          · refine SC_seq ?_
            refine SC_region ?_
            refine SR_call Try.call48 (.nil) (enve_awake) (lts rfl) ?_
            rintro _ L2 ⟨rfl, hL2⟩
            refine SR.lands hL2 ?_
            refine SR_pu (RD_assign rfl) rfl ?_
            refine SR_nil ?_
            refine SN.le (l := [(6, _)]) ?_ (.cons rfl (.nil))
            refine SN_seq ?_
            refine SC_ret1 rfl rfl ?_
            exact ⟨rfl, .fin⟩
          · have hlen : p.n + q.n ≤ 300 := by have := of_decide_eq_false hc53; omega
            refine SC_skip ?_
            refine SN_seq ?_
            refine SC_seq ?_
            obtain ⟨e, l', S', n', hmk⟩ : ∃ e l' S' n', mkA ⟨l, S⟩ n f.client f.nonce f.fee = (e, l', S', n') := ⟨_, _, _, _, rfl⟩
            obtain ⟨heo, hl', hn'⟩ := mkA_facts hfg.2.2.1 hfg.2.2.2 hmk
            dsimp only at hl'
            have hll' := dput_len l' (envB e)
            refine SC_join (X := Nat × Nat) (fun x => [(0, .slice a0 n0 c0), (1, .slice a1 n1 c1), (2, .slice a2 n2 c2), (7, .pointer (some ⟨k1.p, 0, none⟩)), (8, .pointer (some ⟨k2.p, 0, none⟩)), (9, .int .i64 (i : Nat)), (12, .pointer (some ⟨x.1, 0, none⟩)), (13, .pointer (some ⟨x.2, 0, none⟩))]) (fun x => pt x.1 (.cells e.cells.toArray 39) :: pt x.2 (.cells e.cells.toArray 39) :: At worldI k1 ⟨l', S'⟩ :: At vaultI k1.v n' :: At worldI k2 ⟨l', S'⟩ :: At vaultI k2.v n' :: F) (fun ⟨b1, b2⟩ => ?_) (fun J0 => ?_)
            · refine SN_seq ?_
              refine SC_seq ?_
              refine SC_drawn (.cons 0 true (.cons 1 true (.cons 2 true (.cons 3 true (.cons 4 true (.cons 5 true (.cons 7 true (.cons 8 true (.cons 6 false (.cons 9 false (.cons 10 true (.cons 11 true (.cons 12 true (.cons 13 true (.cons 16 true (.cons 14 false (.cons 15 false (.cons 17 false (.cons 18 false (.cons 19 true (.cons 20 true (.nil)))))))))))))))))))))) (by kernel_rfl) (by kernel_rfl) ?_
              refine SQ_rd rfl (RD_loadA (vs := e.cells) Try.isAgg39 Try.sizeOf39 rfl rfl) Has.wh rfl ?_
              refine SQ_rd rfl (RD_loadA (vs := e.cells) Try.isAgg39 Try.sizeOf39 rfl rfl) Has.wh rfl ?_
              refine SQ_pu rfl (RD_neqEnv e e rfl rfl rfl) rfl ?_
              refine SQ_pu rfl (RD_move rfl) rfl ?_
              refine SQ_pyes rfl rfl rfl (by simp) (RD_move rfl) rfl ?_
              refine SQ_yes rfl rfl rfl (by simp) (RD_loadA (vs := e.cells) Try.isAgg39 Try.sizeOf39 rfl rfl) Has.wh rfl ?_
              refine SQ_pyes rfl rfl rfl (by simp) (RD_move rfl) rfl ?_
              refine SQ_yes rfl rfl rfl (by simp) (RD_loadA (vs := e.cells) Try.isAgg39 Try.sizeOf39 rfl rfl) Has.wh rfl ?_
              refine SQ_one (SA_call rfl (.mk rfl rfl (by simp)) Try.call29 (.cons rfl (.cons rfl (.nil))) (CallsK.at (w_EnvDigest k1 ⟨l', S'⟩ e heo (by dsimp only; omega) _ _ rfl rfl)) (lts rfl) ?_)
              rintro _ L6 ⟨rfl, hL6⟩
              dsimp only at hL6
              refine ⟨.lands hL6 (.h Has.wh (.w rfl (.h Has.wh (.h Has.wh (.nil))))), ?_⟩
              refine SQ.lands hL6 ?_
              refine SQ_one (SA_call rfl (.mk rfl rfl (by simp)) Try.call29 (.cons rfl (.cons rfl (.nil))) (CallsK.at (w_EnvDigest k2 ⟨l', S'⟩ e heo (by dsimp only; omega) _ _ rfl rfl)) (lts rfl) ?_)
              rintro _ L7 ⟨rfl, hL7⟩
              dsimp only at hL7
              refine ⟨.lands hL7 (.w rfl (.h Has.wh (.h Has.wh (.h Has.wh (.nil))))), ?_⟩
              refine SQ.lands hL7 ?_
              refine SQ_pyes rfl rfl rfl (by simp) (RD_neq rfl rfl) rfl ?_
              refine SQ_pu rfl (RD_pick_f rfl (by simp) rfl) rfl ?_
              refine SQ_pu rfl (RD_move rfl) rfl ?_
              refine SQ_pyes rfl rfl rfl (by simp) (RD_move rfl) rfl ?_
              refine SQ_pyes rfl rfl rfl (by simp) (RD_move rfl) rfl ?_
              refine SQ_one (SA_call rfl (.mk rfl rfl (by simp)) Try.call23 (.cons rfl (.nil)) (CallsK.at (w_Terms k1 ⟨dput l' (envB e), S'⟩)) (lts rfl) ?_)
              rintro _ L8 ⟨rfl, hL8⟩
              refine ⟨.lands hL8 (.h Has.wh (.h Has.wh (.h Has.wh (.h Has.wh (.nil))))), ?_⟩
              refine SQ.lands hL8 ?_
              refine SQ_one (SA_call rfl (.mk rfl rfl (by simp)) Try.call54 (.cons rfl (.nil)) (CallsK.at (w_TLen k1 ⟨dput l' (envB e), S'⟩)) (lts rfl) ?_)
              rintro _ L9 ⟨rfl, hL9⟩
              refine ⟨.lands hL9 (.h Has.wh (.h Has.wh (.h Has.wh (.h Has.wh (.nil))))), ?_⟩
              refine SQ.lands hL9 ?_
              refine SQ_one (SA_call rfl (.mk rfl rfl (by simp)) Try.call23 (.cons rfl (.nil)) (CallsK.at (w_Terms k2 ⟨dput l' (envB e), S'⟩)) (lts rfl) ?_)
              rintro _ L10 ⟨rfl, hL10⟩
              refine ⟨.lands hL10 (.h Has.wh (.h Has.wh (.h Has.wh (.h Has.wh (.nil))))), ?_⟩
              refine SQ.lands hL10 ?_
              refine SQ_one (SA_call rfl (.mk rfl rfl (by simp)) Try.call54 (.cons rfl (.nil)) (CallsK.at (w_TLen k2 ⟨dput l' (envB e), S'⟩)) (lts rfl) ?_)
              rintro _ L11 ⟨rfl, hL11⟩
              refine ⟨.lands hL11 (.h Has.wh (.h Has.wh (.h Has.wh (.h Has.wh (.nil))))), ?_⟩
              refine SQ.lands hL11 ?_
              refine SQ_pyes rfl rfl rfl (by simp) (RD_neq rfl rfl) rfl ?_
              refine SQ_pu rfl (RD_pick_f rfl (by simp) rfl) rfl ?_
              refine SQ_nil ?_
              refine SN.le (l := [(0, _), (1, _), (2, _), (7, _), (8, _), (9, _), (111, _)]) ?_ (.cons rfl (.cons rfl (.cons rfl (.cons rfl (.cons rfl (.cons rfl (.cons rfl (.nil))))))))
              refine SN_seq ?_
              refine SC_cond_false rfl (by simp) ?_
              refine SC_skip ?_
              refine SN_block ?_
              refine SN_seq ?_
              refine SC_region ?_
              refine SR_pu (RD_move rfl) rfl ?_
              refine SR_pu (RD_addi rfl rfl (by omega) (by omega)) rfl ?_
              refine SR_pu (RD_assign rfl) rfl ?_
              refine SR_nil ?_
              refine SN.le (l := [(0, _), (1, _), (2, _), (7, _), (8, _), (9, _)]) ?_ (.cons rfl (.cons rfl (.cons rfl (.cons rfl (.cons rfl (.cons rfl (.nil)))))))
              refine SC_again (ih ((i + 1, dput l' (envB e), S', n')) (⟨by dsimp only; omega, by dsimp only; omega, by dsimp only; omega⟩) (by dsimp only; omega)) (.fin) (.cons rfl (.cons rfl (.cons rfl (.cons rfl (.cons rfl (.cons' rfl (ie (by dsimp only; omega)) (.nil)))))))
            · refine SC_drawn (.cons 0 true (.cons 1 true (.cons 2 true (.cons 3 true (.cons 4 true (.cons 5 true (.cons 6 true (.cons 7 true (.cons 8 true (.cons 9 true (.cons 10 true (.cons 11 true (.cons 12 true (.cons 13 true (.cons 14 true (.cons 15 true (.cons 16 true (.cons 18 true (.cons 19 true (.cons 20 true (.cons 21 true (.cons 22 true (.cons 23 true (.cons 24 true (.cons 25 true (.cons 26 true (.cons 27 true (.cons 28 true (.cons 29 true (.cons 30 true (.cons 31 true (.cons 32 true (.cons 33 true (.cons 34 true (.alts [17, 36, 37] (fun i => bif Nat.beq i 17 then (.alts [35, 36, 37] (fun i => bif Nat.beq i 35 then (.alts [36, 37] (fun i => bif Nat.beq i 36 then (.cons 37 false (.cons 38 false (.cons 39 false (.nil)))) else (.cons 36 false (.cons 38 false (.cons 39 false (.nil)))))) else bif Nat.beq i 36 then (.alts [35, 37] (fun i => bif Nat.beq i 35 then (.cons 37 false (.cons 38 false (.cons 39 false (.nil)))) else (.cons 35 false (.cons 38 false (.cons 39 false (.nil)))))) else (.alts [35, 36] (fun i => bif Nat.beq i 35 then (.cons 36 false (.cons 38 false (.cons 39 false (.nil)))) else (.cons 35 false (.cons 38 false (.cons 39 false (.nil)))))))) else bif Nat.beq i 36 then (.alts [17, 37] (fun i => bif Nat.beq i 17 then (.alts [35, 37] (fun i => bif Nat.beq i 35 then (.cons 37 false (.cons 38 false (.cons 39 false (.nil)))) else (.cons 35 false (.cons 38 false (.cons 39 false (.nil)))))) else (.cons 17 false (.cons 35 false (.cons 38 false (.cons 39 false (.nil))))))) else (.alts [17, 36] (fun i => bif Nat.beq i 17 then (.alts [35, 36] (fun i => bif Nat.beq i 35 then (.cons 36 false (.cons 38 false (.cons 39 false (.nil)))) else (.cons 35 false (.cons 38 false (.cons 39 false (.nil)))))) else (.cons 17 false (.cons 35 false (.cons 38 false (.cons 39 false (.nil))))))))))))))))))))))))))))))))))))))))))) (by kernel_rfl) (by kernel_rfl) ?_
              refine SQ_pu rfl (RD_move rfl) rfl ?_
              refine SQ_pu rfl (RD_move rfl) rfl ?_
              refine SQ_pu rfl (RD_move rfl) rfl ?_
              refine SQ_rd rfl (RD_ixO (i := (i : Nat)) (cs := es.flatMap EnvD.cells) Try.runUnderlying31 Try.sizeOf39 rfl rfl (by rw [env_len, hn0]) (by omega) (by omega)) Has.ro rfl ?_
              refine SQ_rd rfl (RD_fieldAddrO (cs := es.flatMap EnvD.cells) 0 Try.runUnderlying39 rfl rfl Try.sizeOf3 rfl (by rw [env_len, hn0]; omega)) Has.ro rfl ?_
              refine SQ_rd rfl (RD_loadO (v := .int .i64 f.client) (cs := es.flatMap EnvD.cells) Try.isAgg3 rfl (by rw [show ((i : Nat) : Int).toNat * (3 + 1) + 0 = i * 4 + 0 by omega, env_get hf 0 (by omega)]; rfl)) Has.ro rfl ?_
              refine SQ_pu rfl (RD_move rfl) rfl ?_
              refine SQ_pu rfl (RD_move rfl) rfl ?_
              refine SQ_rd rfl (RD_ixO (i := (i : Nat)) (cs := es.flatMap EnvD.cells) Try.runUnderlying31 Try.sizeOf39 rfl rfl (by rw [env_len, hn0]) (by omega) (by omega)) Has.ro rfl ?_
              refine SQ_rd rfl (RD_fieldAddrO (cs := es.flatMap EnvD.cells) 1 Try.runUnderlying39 rfl rfl Try.sizeOf37 rfl (by rw [env_len, hn0]; omega)) Has.ro rfl ?_
              refine SQ_rd rfl (RD_loadO (v := .int .u64 f.nonce) (cs := es.flatMap EnvD.cells) Try.isAgg37 rfl (by rw [show ((i : Nat) : Int).toNat * (3 + 1) + 1 = i * 4 + 1 by omega, env_get hf 1 (by omega)]; rfl)) Has.ro rfl ?_
              refine SQ_pu rfl (RD_move rfl) rfl ?_
              refine SQ_pu rfl (RD_move rfl) rfl ?_
              refine SQ_rd rfl (RD_ixO (i := (i : Nat)) (cs := es.flatMap EnvD.cells) Try.runUnderlying31 Try.sizeOf39 rfl rfl (by rw [env_len, hn0]) (by omega) (by omega)) Has.ro rfl ?_
              refine SQ_rd rfl (RD_fieldAddrO (cs := es.flatMap EnvD.cells) 2 Try.runUnderlying39 rfl rfl Try.sizeOf37 rfl (by rw [env_len, hn0]; omega)) Has.ro rfl ?_
              refine SQ_rd rfl (RD_loadO (v := .int .u64 f.fee) (cs := es.flatMap EnvD.cells) Try.isAgg37 rfl (by rw [show ((i : Nat) : Int).toNat * (3 + 1) + 2 = i * 4 + 2 by omega, env_get hf 2 (by omega)]; rfl)) Has.ro rfl ?_
              refine SQ_pu rfl (RD_move rfl) rfl ?_
              refine SQ_pu rfl (RD_move rfl) rfl ?_
              refine SQ_pu rfl (RD_move rfl) rfl ?_
              refine SQ_pu rfl (RD_move rfl) rfl ?_
              refine SQ_rd rfl (RD_ixO (i := (i : Nat)) (cs := es.flatMap EnvD.cells) Try.runUnderlying31 Try.sizeOf39 rfl rfl (by rw [env_len, hn0]) (by omega) (by omega)) Has.ro rfl ?_
              refine SQ_rd rfl (RD_fieldAddrO (cs := es.flatMap EnvD.cells) 0 Try.runUnderlying39 rfl rfl Try.sizeOf3 rfl (by rw [env_len, hn0]; omega)) Has.ro rfl ?_
              refine SQ_rd rfl (RD_loadO (v := .int .i64 f.client) (cs := es.flatMap EnvD.cells) Try.isAgg3 rfl (by rw [show ((i : Nat) : Int).toNat * (3 + 1) + 0 = i * 4 + 0 by omega, env_get hf 0 (by omega)]; rfl)) Has.ro rfl ?_
              refine SQ_pu rfl (RD_move rfl) rfl ?_
              refine SQ_pu rfl (RD_move rfl) rfl ?_
              refine SQ_rd rfl (RD_ixO (i := (i : Nat)) (cs := es.flatMap EnvD.cells) Try.runUnderlying31 Try.sizeOf39 rfl rfl (by rw [env_len, hn0]) (by omega) (by omega)) Has.ro rfl ?_
              refine SQ_rd rfl (RD_fieldAddrO (cs := es.flatMap EnvD.cells) 1 Try.runUnderlying39 rfl rfl Try.sizeOf37 rfl (by rw [env_len, hn0]; omega)) Has.ro rfl ?_
              refine SQ_rd rfl (RD_loadO (v := .int .u64 f.nonce) (cs := es.flatMap EnvD.cells) Try.isAgg37 rfl (by rw [show ((i : Nat) : Int).toNat * (3 + 1) + 1 = i * 4 + 1 by omega, env_get hf 1 (by omega)]; rfl)) Has.ro rfl ?_
              refine SQ_pu rfl (RD_move rfl) rfl ?_
              refine SQ_pu rfl (RD_move rfl) rfl ?_
              refine SQ_rd rfl (RD_ixO (i := (i : Nat)) (cs := es.flatMap EnvD.cells) Try.runUnderlying31 Try.sizeOf39 rfl rfl (by rw [env_len, hn0]) (by omega) (by omega)) Has.ro rfl ?_
              refine SQ_rd rfl (RD_fieldAddrO (cs := es.flatMap EnvD.cells) 2 Try.runUnderlying39 rfl rfl Try.sizeOf37 rfl (by rw [env_len, hn0]; omega)) Has.ro rfl ?_
              refine SQ_rd rfl (RD_loadO (v := .int .u64 f.fee) (cs := es.flatMap EnvD.cells) Try.isAgg37 rfl (by rw [show ((i : Nat) : Int).toNat * (3 + 1) + 2 = i * 4 + 2 by omega, env_get hf 2 (by omega)]; rfl)) Has.ro rfl ?_
              refine SQ_pu rfl (RD_move rfl) rfl ?_
              refine SQ_three ?_ ?_ ?_
              · refine SA_call rfl .free Try.call35 (.cons rfl (.cons rfl (.cons rfl (.cons rfl (.cons rfl (.nil)))))) (CallsK.at2 (w_MakeA k1 ⟨l, S⟩ n (by omega) f.client f.nonce f.fee hfg.2.2.1 hfg.2.2.2 p.a p.n p.c (p.bs.map byteV) (by simpa using hpn) (by omega) (by dsimp only; omega) hmk)) (lts rfl) ?_
                rintro _ L4 ⟨rfl, hL4⟩
                refine ⟨.lands hL4 (.h Has.ro (.h Has.ro (.h Has.ro (.h Has.ro (.h Has.ro (.h Has.ro (.h Has.ro (.h Has.ro (.h Has.ro (.w rfl (.h Has.ro (.h Has.ro (.w rfl (.h Has.ro (.h Has.ro (.w rfl (.h Has.ro (.h Has.ro (.nil))))))))))))))))))), ?_⟩
                refine SQ.lands hL4 ?_
                refine SQ_three ?_ ?_ ?_
                · refine SA_call rfl .free Try.call35 (.cons rfl (.cons rfl (.cons rfl (.cons rfl (.cons rfl (.nil)))))) (CallsK.at2 (w_MakeA k2 ⟨l, S⟩ n (by omega) f.client f.nonce f.fee hfg.2.2.1 hfg.2.2.2 q.a q.n q.c (q.bs.map byteV) (by simpa using hqn) (by omega) (by dsimp only; omega) hmk)) (lts rfl) ?_
                  rintro _ L5 ⟨rfl, hL5⟩
                  refine ⟨.lands hL5 (.w rfl (.h Has.ro (.h Has.ro (.w rfl (.h Has.ro (.h Has.ro (.w rfl (.h Has.ro (.h Has.ro (.h Has.ro (.h Has.ro (.h Has.ro (.h Has.ro (.h Has.ro (.h Has.ro (.h Has.ro (.h Has.ro (.h Has.ro (.nil))))))))))))))))))), ?_⟩
                  refine SQ.lands hL5 ?_
                  refine SQ_two ?_ ?_
                  · refine SA_ox rfl .free (OX_alloc Try.zeroValue39 rfl) rfl ?_
                    rintro _ _ ⟨b12, rfl, rfl⟩
                    refine ⟨.h Has.ro (.h Has.ro (.h Has.ro (.h Has.ro (.h Has.ro (.h Has.ro (.h Has.ro (.h Has.ro (.h Has.ro (.h Has.ro (.h Has.ro (.h Has.ro (.h Has.ro (.h Has.ro (.h Has.ro (.h Has.ro (.h Has.ro (.h Has.ro (.nil)))))))))))))))))), ?_⟩
                    refine SQ_ox rfl (OX_alloc Try.zeroValue39 rfl) rfl ?_
                    rintro _ _ ⟨b13, rfl, rfl⟩
                    refine ⟨.h Has.ro (.h Has.ro (.h Has.ro (.h Has.ro (.h Has.ro (.h Has.ro (.h Has.ro (.h Has.ro (.h Has.ro (.h Has.ro (.h Has.ro (.h Has.ro (.h Has.ro (.h Has.ro (.h Has.ro (.h Has.ro (.h Has.ro (.h Has.ro (.nil)))))))))))))))))), ?_⟩
                    refine SQ_ox0 rfl (OX_stA (vs := e.cells) Try.sizeOf39 rfl rfl rfl rfl) ?_
                    rintro _ _ rfl
                    refine ⟨.h Has.ro (.h Has.ro (.h Has.ro (.h Has.ro (.h Has.ro (.h Has.ro (.h Has.ro (.h Has.ro (.h Has.ro (.w rfl (.w rfl (.w rfl (.w rfl (.w rfl (.w rfl (.w rfl (.w rfl (.w rfl (.nil)))))))))))))))))), ?_⟩
                    refine SQ_ox0 rfl (OX_stA (vs := e.cells) Try.sizeOf39 rfl rfl rfl rfl) ?_
                    rintro _ _ rfl
                    refine ⟨.w rfl (.w rfl (.w rfl (.w rfl (.w rfl (.w rfl (.w rfl (.w rfl (.w rfl (.w rfl (.w rfl (.w rfl (.w rfl (.w rfl (.w rfl (.w rfl (.w rfl (.w rfl (.nil)))))))))))))))))), ?_⟩
                    refine SQ_nil ?_
                    refine SN.le (l := [(0, _), (1, _), (2, _), (7, _), (8, _), (9, _), (12, _), (13, _)]) ?_ (.cons rfl (.cons rfl (.cons rfl (.cons rfl (.cons rfl (.cons rfl (.cons rfl (.cons rfl (.nil)))))))))
                    exact J0 ((b12, b13)) _ _ (.cons rfl (.cons rfl (.cons rfl (.cons rfl (.cons rfl (.cons rfl (.cons rfl (.cons rfl (.nil))))))))) (.fin)
                  · refine SA_ox rfl .free (OX_alloc Try.zeroValue39 rfl) rfl ?_
                    rintro _ _ ⟨b13, rfl, rfl⟩
                    refine ⟨.h Has.ro (.h Has.ro (.h Has.ro (.h Has.ro (.h Has.ro (.h Has.ro (.h Has.ro (.h Has.ro (.h Has.ro (.h Has.ro (.h Has.ro (.h Has.ro (.h Has.ro (.h Has.ro (.h Has.ro (.h Has.ro (.h Has.ro (.h Has.ro (.nil)))))))))))))))))), ?_⟩
                    refine SQ_ox rfl (OX_alloc Try.zeroValue39 rfl) rfl ?_
                    rintro _ _ ⟨b12, rfl, rfl⟩
                    refine ⟨.h Has.ro (.h Has.ro (.h Has.ro (.h Has.ro (.h Has.ro (.h Has.ro (.h Has.ro (.h Has.ro (.h Has.ro (.h Has.ro (.h Has.ro (.h Has.ro (.h Has.ro (.h Has.ro (.h Has.ro (.h Has.ro (.h Has.ro (.h Has.ro (.nil)))))))))))))))))), ?_⟩
                    refine SQ_ox0 rfl (OX_stA (vs := e.cells) Try.sizeOf39 rfl rfl rfl rfl) ?_
                    rintro _ _ rfl
                    refine ⟨.h Has.ro (.h Has.ro (.h Has.ro (.h Has.ro (.h Has.ro (.h Has.ro (.h Has.ro (.h Has.ro (.h Has.ro (.w rfl (.w rfl (.w rfl (.w rfl (.w rfl (.w rfl (.w rfl (.w rfl (.w rfl (.nil)))))))))))))))))), ?_⟩
                    refine SQ_ox0 rfl (OX_stA (vs := e.cells) Try.sizeOf39 rfl rfl rfl rfl) ?_
                    rintro _ _ rfl
                    refine ⟨.w rfl (.w rfl (.w rfl (.w rfl (.w rfl (.w rfl (.w rfl (.w rfl (.w rfl (.w rfl (.w rfl (.w rfl (.w rfl (.w rfl (.w rfl (.w rfl (.w rfl (.w rfl (.nil)))))))))))))))))), ?_⟩
                    refine SQ_nil ?_
                    refine SN.le (l := [(0, _), (1, _), (2, _), (7, _), (8, _), (9, _), (12, _), (13, _)]) ?_ (.cons rfl (.cons rfl (.cons rfl (.cons rfl (.cons rfl (.cons rfl (.cons rfl (.cons rfl (.nil)))))))))
                    exact J0 ((b12, b13)) _ _ (.cons rfl (.cons rfl (.cons rfl (.cons rfl (.cons rfl (.cons rfl (.cons rfl (.cons rfl (.nil))))))))) (.fin)
                · refine SA_ox rfl .free (OX_alloc Try.zeroValue39 rfl) rfl ?_
                  rintro _ _ ⟨b12, rfl, rfl⟩
                  refine ⟨.h Has.ro (.h Has.ro (.h Has.ro (.h Has.ro (.h Has.ro (.h Has.ro (.h Has.ro (.h Has.ro (.h Has.ro (.h Has.ro (.h Has.ro (.h Has.ro (.h Has.ro (.h Has.ro (.h Has.ro (.h Has.ro (.h Has.ro (.h Has.ro (.nil)))))))))))))))))), ?_⟩
                  refine SQ_two ?_ ?_
                  · refine SA_call rfl .free Try.call35 (.cons rfl (.cons rfl (.cons rfl (.cons rfl (.cons rfl (.nil)))))) (CallsK.at2 (w_MakeA k2 ⟨l, S⟩ n (by omega) f.client f.nonce f.fee hfg.2.2.1 hfg.2.2.2 q.a q.n q.c (q.bs.map byteV) (by simpa using hqn) (by omega) (by dsimp only; omega) hmk)) (lts rfl) ?_
                    rintro _ L5 ⟨rfl, hL5⟩
                    refine ⟨.lands hL5 (.w rfl (.h Has.ro (.h Has.ro (.w rfl (.h Has.ro (.h Has.ro (.w rfl (.h Has.ro (.h Has.ro (.h Has.ro (.h Has.ro (.h Has.ro (.h Has.ro (.h Has.ro (.h Has.ro (.h Has.ro (.h Has.ro (.h Has.ro (.nil))))))))))))))))))), ?_⟩
                    refine SQ.lands hL5 ?_
                    refine SQ_ox rfl (OX_alloc Try.zeroValue39 rfl) rfl ?_
                    rintro _ _ ⟨b13, rfl, rfl⟩
                    refine ⟨.h Has.ro (.h Has.ro (.h Has.ro (.h Has.ro (.h Has.ro (.h Has.ro (.h Has.ro (.h Has.ro (.h Has.ro (.h Has.ro (.h Has.ro (.h Has.ro (.h Has.ro (.h Has.ro (.h Has.ro (.h Has.ro (.h Has.ro (.h Has.ro (.nil)))))))))))))))))), ?_⟩
                    refine SQ_ox0 rfl (OX_stA (vs := e.cells) Try.sizeOf39 rfl rfl rfl rfl) ?_
                    rintro _ _ rfl
                    refine ⟨.h Has.ro (.h Has.ro (.h Has.ro (.h Has.ro (.h Has.ro (.h Has.ro (.h Has.ro (.h Has.ro (.h Has.ro (.w rfl (.w rfl (.w rfl (.w rfl (.w rfl (.w rfl (.w rfl (.w rfl (.w rfl (.nil)))))))))))))))))), ?_⟩
                    refine SQ_ox0 rfl (OX_stA (vs := e.cells) Try.sizeOf39 rfl rfl rfl rfl) ?_
                    rintro _ _ rfl
                    refine ⟨.w rfl (.w rfl (.w rfl (.w rfl (.w rfl (.w rfl (.w rfl (.w rfl (.w rfl (.w rfl (.w rfl (.w rfl (.w rfl (.w rfl (.w rfl (.w rfl (.w rfl (.w rfl (.nil)))))))))))))))))), ?_⟩
                    refine SQ_nil ?_
                    refine SN.le (l := [(0, _), (1, _), (2, _), (7, _), (8, _), (9, _), (12, _), (13, _)]) ?_ (.cons rfl (.cons rfl (.cons rfl (.cons rfl (.cons rfl (.cons rfl (.cons rfl (.cons rfl (.nil)))))))))
                    exact J0 ((b12, b13)) _ _ (.cons rfl (.cons rfl (.cons rfl (.cons rfl (.cons rfl (.cons rfl (.cons rfl (.cons rfl (.nil))))))))) (.fin)
                  · refine SA_ox rfl .free (OX_alloc Try.zeroValue39 rfl) rfl ?_
                    rintro _ _ ⟨b13, rfl, rfl⟩
                    refine ⟨.h Has.ro (.h Has.ro (.h Has.ro (.h Has.ro (.h Has.ro (.h Has.ro (.h Has.ro (.h Has.ro (.h Has.ro (.h Has.ro (.h Has.ro (.h Has.ro (.h Has.ro (.h Has.ro (.h Has.ro (.h Has.ro (.h Has.ro (.h Has.ro (.nil)))))))))))))))))), ?_⟩
                    refine SQ_call rfl Try.call35 (.cons rfl (.cons rfl (.cons rfl (.cons rfl (.cons rfl (.nil)))))) (CallsK.at2 (w_MakeA k2 ⟨l, S⟩ n (by omega) f.client f.nonce f.fee hfg.2.2.1 hfg.2.2.2 q.a q.n q.c (q.bs.map byteV) (by simpa using hqn) (by omega) (by dsimp only; omega) hmk)) (lts rfl) ?_
                    rintro _ L5 ⟨rfl, hL5⟩
                    refine ⟨.lands hL5 (.w rfl (.h Has.ro (.h Has.ro (.w rfl (.h Has.ro (.h Has.ro (.w rfl (.h Has.ro (.h Has.ro (.h Has.ro (.h Has.ro (.h Has.ro (.h Has.ro (.h Has.ro (.h Has.ro (.h Has.ro (.h Has.ro (.h Has.ro (.nil))))))))))))))))))), ?_⟩
                    refine SQ.lands hL5 ?_
                    refine SQ_ox0 rfl (OX_stA (vs := e.cells) Try.sizeOf39 rfl rfl rfl rfl) ?_
                    rintro _ _ rfl
                    refine ⟨.h Has.ro (.h Has.ro (.h Has.ro (.h Has.ro (.h Has.ro (.h Has.ro (.h Has.ro (.h Has.ro (.h Has.ro (.w rfl (.w rfl (.w rfl (.w rfl (.w rfl (.w rfl (.w rfl (.w rfl (.w rfl (.nil)))))))))))))))))), ?_⟩
                    refine SQ_ox0 rfl (OX_stA (vs := e.cells) Try.sizeOf39 rfl rfl rfl rfl) ?_
                    rintro _ _ rfl
                    refine ⟨.w rfl (.w rfl (.w rfl (.w rfl (.w rfl (.w rfl (.w rfl (.w rfl (.w rfl (.w rfl (.w rfl (.w rfl (.w rfl (.w rfl (.w rfl (.w rfl (.w rfl (.w rfl (.nil)))))))))))))))))), ?_⟩
                    refine SQ_nil ?_
                    refine SN.le (l := [(0, _), (1, _), (2, _), (7, _), (8, _), (9, _), (12, _), (13, _)]) ?_ (.cons rfl (.cons rfl (.cons rfl (.cons rfl (.cons rfl (.cons rfl (.cons rfl (.cons rfl (.nil)))))))))
                    exact J0 ((b12, b13)) _ _ (.cons rfl (.cons rfl (.cons rfl (.cons rfl (.cons rfl (.cons rfl (.cons rfl (.cons rfl (.nil))))))))) (.fin)
                · refine SA_ox rfl .free (OX_alloc Try.zeroValue39 rfl) rfl ?_
                  rintro _ _ ⟨b13, rfl, rfl⟩
                  refine ⟨.h Has.ro (.h Has.ro (.h Has.ro (.h Has.ro (.h Has.ro (.h Has.ro (.h Has.ro (.h Has.ro (.h Has.ro (.h Has.ro (.h Has.ro (.h Has.ro (.h Has.ro (.h Has.ro (.h Has.ro (.h Has.ro (.h Has.ro (.h Has.ro (.nil)))))))))))))))))), ?_⟩
                  refine SQ_two ?_ ?_
                  · refine SA_call rfl .free Try.call35 (.cons rfl (.cons rfl (.cons rfl (.cons rfl (.cons rfl (.nil)))))) (CallsK.at2 (w_MakeA k2 ⟨l, S⟩ n (by omega) f.client f.nonce f.fee hfg.2.2.1 hfg.2.2.2 q.a q.n q.c (q.bs.map byteV) (by simpa using hqn) (by omega) (by dsimp only; omega) hmk)) (lts rfl) ?_
                    rintro _ L5 ⟨rfl, hL5⟩
                    refine ⟨.lands hL5 (.w rfl (.h Has.ro (.h Has.ro (.w rfl (.h Has.ro (.h Has.ro (.w rfl (.h Has.ro (.h Has.ro (.h Has.ro (.h Has.ro (.h Has.ro (.h Has.ro (.h Has.ro (.h Has.ro (.h Has.ro (.h Has.ro (.h Has.ro (.nil))))))))))))))))))), ?_⟩
                    refine SQ.lands hL5 ?_
                    refine SQ_ox rfl (OX_alloc Try.zeroValue39 rfl) rfl ?_
                    rintro _ _ ⟨b12, rfl, rfl⟩
                    refine ⟨.h Has.ro (.h Has.ro (.h Has.ro (.h Has.ro (.h Has.ro (.h Has.ro (.h Has.ro (.h Has.ro (.h Has.ro (.h Has.ro (.h Has.ro (.h Has.ro (.h Has.ro (.h Has.ro (.h Has.ro (.h Has.ro (.h Has.ro (.h Has.ro (.nil)))))))))))))))))), ?_⟩
                    refine SQ_ox0 rfl (OX_stA (vs := e.cells) Try.sizeOf39 rfl rfl rfl rfl) ?_
                    rintro _ _ rfl
                    refine ⟨.h Has.ro (.h Has.ro (.h Has.ro (.h Has.ro (.h Has.ro (.h Has.ro (.h Has.ro (.h Has.ro (.h Has.ro (.w rfl (.w rfl (.w rfl (.w rfl (.w rfl (.w rfl (.w rfl (.w rfl (.w rfl (.nil)))))))))))))))))), ?_⟩
                    refine SQ_ox0 rfl (OX_stA (vs := e.cells) Try.sizeOf39 rfl rfl rfl rfl) ?_
                    rintro _ _ rfl
                    refine ⟨.w rfl (.w rfl (.w rfl (.w rfl (.w rfl (.w rfl (.w rfl (.w rfl (.w rfl (.w rfl (.w rfl (.w rfl (.w rfl (.w rfl (.w rfl (.w rfl (.w rfl (.w rfl (.nil)))))))))))))))))), ?_⟩
                    refine SQ_nil ?_
                    refine SN.le (l := [(0, _), (1, _), (2, _), (7, _), (8, _), (9, _), (12, _), (13, _)]) ?_ (.cons rfl (.cons rfl (.cons rfl (.cons rfl (.cons rfl (.cons rfl (.cons rfl (.cons rfl (.nil)))))))))
                    exact J0 ((b12, b13)) _ _ (.cons rfl (.cons rfl (.cons rfl (.cons rfl (.cons rfl (.cons rfl (.cons rfl (.cons rfl (.nil))))))))) (.fin)
                  · refine SA_ox rfl .free (OX_alloc Try.zeroValue39 rfl) rfl ?_
                    rintro _ _ ⟨b12, rfl, rfl⟩
                    refine ⟨.h Has.ro (.h Has.ro (.h Has.ro (.h Has.ro (.h Has.ro (.h Has.ro (.h Has.ro (.h Has.ro (.h Has.ro (.h Has.ro (.h Has.ro (.h Has.ro (.h Has.ro (.h Has.ro (.h Has.ro (.h Has.ro (.h Has.ro (.h Has.ro (.nil)))))))))))))))))), ?_⟩
                    refine SQ_call rfl Try.call35 (.cons rfl (.cons rfl (.cons rfl (.cons rfl (.cons rfl (.nil)))))) (CallsK.at2 (w_MakeA k2 ⟨l, S⟩ n (by omega) f.client f.nonce f.fee hfg.2.2.1 hfg.2.2.2 q.a q.n q.c (q.bs.map byteV) (by simpa using hqn) (by omega) (by dsimp only; omega) hmk)) (lts rfl) ?_
                    rintro _ L5 ⟨rfl, hL5⟩
                    refine ⟨.lands hL5 (.w rfl (.h Has.ro (.h Has.ro (.w rfl (.h Has.ro (.h Has.ro (.w rfl (.h Has.ro (.h Has.ro (.h Has.ro (.h Has.ro (.h Has.ro (.h Has.ro (.h Has.ro (.h Has.ro (.h Has.ro (.h Has.ro (.h Has.ro (.nil))))))))))))))))))), ?_⟩
                    refine SQ.lands hL5 ?_
                    refine SQ_ox0 rfl (OX_stA (vs := e.cells) Try.sizeOf39 rfl rfl rfl rfl) ?_
                    rintro _ _ rfl
                    refine ⟨.h Has.ro (.h Has.ro (.h Has.ro (.h Has.ro (.h Has.ro (.h Has.ro (.h Has.ro (.h Has.ro (.h Has.ro (.w rfl (.w rfl (.w rfl (.w rfl (.w rfl (.w rfl (.w rfl (.w rfl (.w rfl (.nil)))))))))))))))))), ?_⟩
                    refine SQ_ox0 rfl (OX_stA (vs := e.cells) Try.sizeOf39 rfl rfl rfl rfl) ?_
                    rintro _ _ rfl
                    refine ⟨.w rfl (.w rfl (.w rfl (.w rfl (.w rfl (.w rfl (.w rfl (.w rfl (.w rfl (.w rfl (.w rfl (.w rfl (.w rfl (.w rfl (.w rfl (.w rfl (.w rfl (.w rfl (.nil)))))))))))))))))), ?_⟩
                    refine SQ_nil ?_
                    refine SN.le (l := [(0, _), (1, _), (2, _), (7, _), (8, _), (9, _), (12, _), (13, _)]) ?_ (.cons rfl (.cons rfl (.cons rfl (.cons rfl (.cons rfl (.cons rfl (.cons rfl (.cons rfl (.nil)))))))))
                    exact J0 ((b12, b13)) _ _ (.cons rfl (.cons rfl (.cons rfl (.cons rfl (.cons rfl (.cons rfl (.cons rfl (.cons rfl (.nil))))))))) (.fin)
              · refine SA_ox rfl .free (OX_alloc Try.zeroValue39 rfl) rfl ?_
                rintro _ _ ⟨b12, rfl, rfl⟩
                refine ⟨.h Has.ro (.h Has.ro (.h Has.ro (.h Has.ro (.h Has.ro (.h Has.ro (.h Has.ro (.h Has.ro (.h Has.ro (.h Has.ro (.h Has.ro (.h Has.ro (.h Has.ro (.h Has.ro (.h Has.ro (.h Has.ro (.h Has.ro (.h Has.ro (.nil)))))))))))))))))), ?_⟩
                refine SQ_two ?_ ?_
                · refine SA_call rfl .free Try.call35 (.cons rfl (.cons rfl (.cons rfl (.cons rfl (.cons rfl (.nil)))))) (CallsK.at2 (w_MakeA k1 ⟨l, S⟩ n (by omega) f.client f.nonce f.fee hfg.2.2.1 hfg.2.2.2 p.a p.n p.c (p.bs.map byteV) (by simpa using hpn) (by omega) (by dsimp only; omega) hmk)) (lts rfl) ?_
                  rintro _ L4 ⟨rfl, hL4⟩
                  refine ⟨.lands hL4 (.h Has.ro (.h Has.ro (.h Has.ro (.h Has.ro (.h Has.ro (.h Has.ro (.h Has.ro (.h Has.ro (.h Has.ro (.w rfl (.h Has.ro (.h Has.ro (.w rfl (.h Has.ro (.h Has.ro (.w rfl (.h Has.ro (.h Has.ro (.nil))))))))))))))))))), ?_⟩
                  refine SQ.lands hL4 ?_
                  refine SQ_two ?_ ?_
                  · refine SA_call rfl .free Try.call35 (.cons rfl (.cons rfl (.cons rfl (.cons rfl (.cons rfl (.nil)))))) (CallsK.at2 (w_MakeA k2 ⟨l, S⟩ n (by omega) f.client f.nonce f.fee hfg.2.2.1 hfg.2.2.2 q.a q.n q.c (q.bs.map byteV) (by simpa using hqn) (by omega) (by dsimp only; omega) hmk)) (lts rfl) ?_
                    rintro _ L5 ⟨rfl, hL5⟩
                    refine ⟨.lands hL5 (.w rfl (.h Has.ro (.h Has.ro (.w rfl (.h Has.ro (.h Has.ro (.w rfl (.h Has.ro (.h Has.ro (.h Has.ro (.h Has.ro (.h Has.ro (.h Has.ro (.h Has.ro (.h Has.ro (.h Has.ro (.h Has.ro (.h Has.ro (.nil))))))))))))))))))), ?_⟩
                    refine SQ.lands hL5 ?_
                    refine SQ_ox rfl (OX_alloc Try.zeroValue39 rfl) rfl ?_
                    rintro _ _ ⟨b13, rfl, rfl⟩
                    refine ⟨.h Has.ro (.h Has.ro (.h Has.ro (.h Has.ro (.h Has.ro (.h Has.ro (.h Has.ro (.h Has.ro (.h Has.ro (.h Has.ro (.h Has.ro (.h Has.ro (.h Has.ro (.h Has.ro (.h Has.ro (.h Has.ro (.h Has.ro (.h Has.ro (.nil)))))))))))))))))), ?_⟩
                    refine SQ_ox0 rfl (OX_stA (vs := e.cells) Try.sizeOf39 rfl rfl rfl rfl) ?_
                    rintro _ _ rfl
                    refine ⟨.h Has.ro (.h Has.ro (.h Has.ro (.h Has.ro (.h Has.ro (.h Has.ro (.h Has.ro (.h Has.ro (.h Has.ro (.w rfl (.w rfl (.w rfl (.w rfl (.w rfl (.w rfl (.w rfl (.w rfl (.w rfl (.nil)))))))))))))))))), ?_⟩
                    refine SQ_ox0 rfl (OX_stA (vs := e.cells) Try.sizeOf39 rfl rfl rfl rfl) ?_
                    rintro _ _ rfl
                    refine ⟨.w rfl (.w rfl (.w rfl (.w rfl (.w rfl (.w rfl (.w rfl (.w rfl (.w rfl (.w rfl (.w rfl (.w rfl (.w rfl (.w rfl (.w rfl (.w rfl (.w rfl (.w rfl (.nil)))))))))))))))))), ?_⟩
                    refine SQ_nil ?_
                    refine SN.le (l := [(0, _), (1, _), (2, _), (7, _), (8, _), (9, _), (12, _), (13, _)]) ?_ (.cons rfl (.cons rfl (.cons rfl (.cons rfl (.cons rfl (.cons rfl (.cons rfl (.cons rfl (.nil)))))))))
                    exact J0 ((b12, b13)) _ _ (.cons rfl (.cons rfl (.cons rfl (.cons rfl (.cons rfl (.cons rfl (.cons rfl (.cons rfl (.nil))))))))) (.fin)
                  · refine SA_ox rfl .free (OX_alloc Try.zeroValue39 rfl) rfl ?_
                    rintro _ _ ⟨b13, rfl, rfl⟩
                    refine ⟨.h Has.ro (.h Has.ro (.h Has.ro (.h Has.ro (.h Has.ro (.h Has.ro (.h Has.ro (.h Has.ro (.h Has.ro (.h Has.ro (.h Has.ro (.h Has.ro (.h Has.ro (.h Has.ro (.h Has.ro (.h Has.ro (.h Has.ro (.h Has.ro (.nil)))))))))))))))))), ?_⟩
                    refine SQ_call rfl Try.call35 (.cons rfl (.cons rfl (.cons rfl (.cons rfl (.cons rfl (.nil)))))) (CallsK.at2 (w_MakeA k2 ⟨l, S⟩ n (by omega) f.client f.nonce f.fee hfg.2.2.1 hfg.2.2.2 q.a q.n q.c (q.bs.map byteV) (by simpa using hqn) (by omega) (by dsimp only; omega) hmk)) (lts rfl) ?_
                    rintro _ L5 ⟨rfl, hL5⟩
                    refine ⟨.lands hL5 (.w rfl (.h Has.ro (.h Has.ro (.w rfl (.h Has.ro (.h Has.ro (.w rfl (.h Has.ro (.h Has.ro (.h Has.ro (.h Has.ro (.h Has.ro (.h Has.ro (.h Has.ro (.h Has.ro (.h Has.ro (.h Has.ro (.h Has.ro (.nil))))))))))))))))))), ?_⟩
                    refine SQ.lands hL5 ?_
                    refine SQ_ox0 rfl (OX_stA (vs := e.cells) Try.sizeOf39 rfl rfl rfl rfl) ?_
                    rintro _ _ rfl
                    refine ⟨.h Has.ro (.h Has.ro (.h Has.ro (.h Has.ro (.h Has.ro (.h Has.ro (.h Has.ro (.h Has.ro (.h Has.ro (.w rfl (.w rfl (.w rfl (.w rfl (.w rfl (.w rfl (.w rfl (.w rfl (.w rfl (.nil)))))))))))))))))), ?_⟩
                    refine SQ_ox0 rfl (OX_stA (vs := e.cells) Try.sizeOf39 rfl rfl rfl rfl) ?_
                    rintro _ _ rfl
                    refine ⟨.w rfl (.w rfl (.w rfl (.w rfl (.w rfl (.w rfl (.w rfl (.w rfl (.w rfl (.w rfl (.w rfl (.w rfl (.w rfl (.w rfl (.w rfl (.w rfl (.w rfl (.w rfl (.nil)))))))))))))))))), ?_⟩
                    refine SQ_nil ?_
                    refine SN.le (l := [(0, _), (1, _), (2, _), (7, _), (8, _), (9, _), (12, _), (13, _)]) ?_ (.cons rfl (.cons rfl (.cons rfl (.cons rfl (.cons rfl (.cons rfl (.cons rfl (.cons rfl (.nil)))))))))
                    exact J0 ((b12, b13)) _ _ (.cons rfl (.cons rfl (.cons rfl (.cons rfl (.cons rfl (.cons rfl (.cons rfl (.cons rfl (.nil))))))))) (.fin)
                · refine SA_ox rfl .free (OX_alloc Try.zeroValue39 rfl) rfl ?_
                  rintro _ _ ⟨b13, rfl, rfl⟩
                  refine ⟨.h Has.ro (.h Has.ro (.h Has.ro (.h Has.ro (.h Has.ro (.h Has.ro (.h Has.ro (.h Has.ro (.h Has.ro (.h Has.ro (.h Has.ro (.h Has.ro (.h Has.ro (.h Has.ro (.h Has.ro (.h Has.ro (.h Has.ro (.h Has.ro (.nil)))))))))))))))))), ?_⟩
                  refine SQ_call rfl Try.call35 (.cons rfl (.cons rfl (.cons rfl (.cons rfl (.cons rfl (.nil)))))) (CallsK.at2 (w_MakeA k1 ⟨l, S⟩ n (by omega) f.client f.nonce f.fee hfg.2.2.1 hfg.2.2.2 p.a p.n p.c (p.bs.map byteV) (by simpa using hpn) (by omega) (by dsimp only; omega) hmk)) (lts rfl) ?_
                  rintro _ L4 ⟨rfl, hL4⟩
                  refine ⟨.lands hL4 (.h Has.ro (.h Has.ro (.h Has.ro (.h Has.ro (.h Has.ro (.h Has.ro (.h Has.ro (.h Has.ro (.h Has.ro (.w rfl (.h Has.ro (.h Has.ro (.w rfl (.h Has.ro (.h Has.ro (.w rfl (.h Has.ro (.h Has.ro (.nil))))))))))))))))))), ?_⟩
                  refine SQ.lands hL4 ?_
                  refine SQ_call rfl Try.call35 (.cons rfl (.cons rfl (.cons rfl (.cons rfl (.cons rfl (.nil)))))) (CallsK.at2 (w_MakeA k2 ⟨l, S⟩ n (by omega) f.client f.nonce f.fee hfg.2.2.1 hfg.2.2.2 q.a q.n q.c (q.bs.map byteV) (by simpa using hqn) (by omega) (by dsimp only; omega) hmk)) (lts rfl) ?_
                  rintro _ L5 ⟨rfl, hL5⟩
                  refine ⟨.lands hL5 (.w rfl (.h Has.ro (.h Has.ro (.w rfl (.h Has.ro (.h Has.ro (.w rfl (.h Has.ro (.h Has.ro (.h Has.ro (.h Has.ro (.h Has.ro (.h Has.ro (.h Has.ro (.h Has.ro (.h Has.ro (.h Has.ro (.h Has.ro (.nil))))))))))))))))))), ?_⟩
                  refine SQ.lands hL5 ?_
                  refine SQ_ox0 rfl (OX_stA (vs := e.cells) Try.sizeOf39 rfl rfl rfl rfl) ?_
                  rintro _ _ rfl
                  refine ⟨.h Has.ro (.h Has.ro (.h Has.ro (.h Has.ro (.h Has.ro (.h Has.ro (.h Has.ro (.h Has.ro (.h Has.ro (.w rfl (.w rfl (.w rfl (.w rfl (.w rfl (.w rfl (.w rfl (.w rfl (.w rfl (.nil)))))))))))))))))), ?_⟩
                  refine SQ_ox0 rfl (OX_stA (vs := e.cells) Try.sizeOf39 rfl rfl rfl rfl) ?_
                  rintro _ _ rfl
                  refine ⟨.w rfl (.w rfl (.w rfl (.w rfl (.w rfl (.w rfl (.w rfl (.w rfl (.w rfl (.w rfl (.w rfl (.w rfl (.w rfl (.w rfl (.w rfl (.w rfl (.w rfl (.w rfl (.nil)))))))))))))))))), ?_⟩
                  refine SQ_nil ?_
                  refine SN.le (l := [(0, _), (1, _), (2, _), (7, _), (8, _), (9, _), (12, _), (13, _)]) ?_ (.cons rfl (.cons rfl (.cons rfl (.cons rfl (.cons rfl (.cons rfl (.cons rfl (.cons rfl (.nil)))))))))
                  exact J0 ((b12, b13)) _ _ (.cons rfl (.cons rfl (.cons rfl (.cons rfl (.cons rfl (.cons rfl (.cons rfl (.cons rfl (.nil))))))))) (.fin)
              · refine SA_ox rfl .free (OX_alloc Try.zeroValue39 rfl) rfl ?_
                rintro _ _ ⟨b13, rfl, rfl⟩
                refine ⟨.h Has.ro (.h Has.ro (.h Has.ro (.h Has.ro (.h Has.ro (.h Has.ro (.h Has.ro (.h Has.ro (.h Has.ro (.h Has.ro (.h Has.ro (.h Has.ro (.h Has.ro (.h Has.ro (.h Has.ro (.h Has.ro (.h Has.ro (.h Has.ro (.nil)))))))))))))))))), ?_⟩
                refine SQ_two ?_ ?_
                · refine SA_call rfl .free Try.call35 (.cons rfl (.cons rfl (.cons rfl (.cons rfl (.cons rfl (.nil)))))) (CallsK.at2 (w_MakeA k1 ⟨l, S⟩ n (by omega) f.client f.nonce f.fee hfg.2.2.1 hfg.2.2.2 p.a p.n p.c (p.bs.map byteV) (by simpa using hpn) (by omega) (by dsimp only; omega) hmk)) (lts rfl) ?_
                  rintro _ L4 ⟨rfl, hL4⟩
                  refine ⟨.lands hL4 (.h Has.ro (.h Has.ro (.h Has.ro (.h Has.ro (.h Has.ro (.h Has.ro (.h Has.ro (.h Has.ro (.h Has.ro (.w rfl (.h Has.ro (.h Has.ro (.w rfl (.h Has.ro (.h Has.ro (.w rfl (.h Has.ro (.h Has.ro (.nil))))))))))))))))))), ?_⟩
                  refine SQ.lands hL4 ?_
                  refine SQ_two ?_ ?_
                  · refine SA_call rfl .free Try.call35 (.cons rfl (.cons rfl (.cons rfl (.cons rfl (.cons rfl (.nil)))))) (CallsK.at2 (w_MakeA k2 ⟨l, S⟩ n (by omega) f.client f.nonce f.fee hfg.2.2.1 hfg.2.2.2 q.a q.n q.c (q.bs.map byteV) (by simpa using hqn) (by omega) (by dsimp only; omega) hmk)) (lts rfl) ?_
                    rintro _ L5 ⟨rfl, hL5⟩
                    refine ⟨.lands hL5 (.w rfl (.h Has.ro (.h Has.ro (.w rfl (.h Has.ro (.h Has.ro (.w rfl (.h Has.ro (.h Has.ro (.h Has.ro (.h Has.ro (.h Has.ro (.h Has.ro (.h Has.ro (.h Has.ro (.h Has.ro (.h Has.ro (.h Has.ro (.nil))))))))))))))))))), ?_⟩
                    refine SQ.lands hL5 ?_
                    refine SQ_ox rfl (OX_alloc Try.zeroValue39 rfl) rfl ?_
                    rintro _ _ ⟨b12, rfl, rfl⟩
                    refine ⟨.h Has.ro (.h Has.ro (.h Has.ro (.h Has.ro (.h Has.ro (.h Has.ro (.h Has.ro (.h Has.ro (.h Has.ro (.h Has.ro (.h Has.ro (.h Has.ro (.h Has.ro (.h Has.ro (.h Has.ro (.h Has.ro (.h Has.ro (.h Has.ro (.nil)))))))))))))))))), ?_⟩
                    refine SQ_ox0 rfl (OX_stA (vs := e.cells) Try.sizeOf39 rfl rfl rfl rfl) ?_
                    rintro _ _ rfl
                    refine ⟨.h Has.ro (.h Has.ro (.h Has.ro (.h Has.ro (.h Has.ro (.h Has.ro (.h Has.ro (.h Has.ro (.h Has.ro (.w rfl (.w rfl (.w rfl (.w rfl (.w rfl (.w rfl (.w rfl (.w rfl (.w rfl (.nil)))))))))))))))))), ?_⟩
                    refine SQ_ox0 rfl (OX_stA (vs := e.cells) Try.sizeOf39 rfl rfl rfl rfl) ?_
                    rintro _ _ rfl
                    refine ⟨.w rfl (.w rfl (.w rfl (.w rfl (.w rfl (.w rfl (.w rfl (.w rfl (.w rfl (.w rfl (.w rfl (.w rfl (.w rfl (.w rfl (.w rfl (.w rfl (.w rfl (.w rfl (.nil)))))))))))))))))), ?_⟩
                    refine SQ_nil ?_
                    refine SN.le (l := [(0, _), (1, _), (2, _), (7, _), (8, _), (9, _), (12, _), (13, _)]) ?_ (.cons rfl (.cons rfl (.cons rfl (.cons rfl (.cons rfl (.cons rfl (.cons rfl (.cons rfl (.nil)))))))))
                    exact J0 ((b12, b13)) _ _ (.cons rfl (.cons rfl (.cons rfl (.cons rfl (.cons rfl (.cons rfl (.cons rfl (.cons rfl (.nil))))))))) (.fin)
                  · refine SA_ox rfl .free (OX_alloc Try.zeroValue39 rfl) rfl ?_
                    rintro _ _ ⟨b12, rfl, rfl⟩
                    refine ⟨.h Has.ro (.h Has.ro (.h Has.ro (.h Has.ro (.h Has.ro (.h Has.ro (.h Has.ro (.h Has.ro (.h Has.ro (.h Has.ro (.h Has.ro (.h Has.ro (.h Has.ro (.h Has.ro (.h Has.ro (.h Has.ro (.h Has.ro (.h Has.ro (.nil)))))))))))))))))), ?_⟩
                    refine SQ_call rfl Try.call35 (.cons rfl (.cons rfl (.cons rfl (.cons rfl (.cons rfl (.nil)))))) (CallsK.at2 (w_MakeA k2 ⟨l, S⟩ n (by omega) f.client f.nonce f.fee hfg.2.2.1 hfg.2.2.2 q.a q.n q.c (q.bs.map byteV) (by simpa using hqn) (by omega) (by dsimp only; omega) hmk)) (lts rfl) ?_
                    rintro _ L5 ⟨rfl, hL5⟩
                    refine ⟨.lands hL5 (.w rfl (.h Has.ro (.h Has.ro (.w rfl (.h Has.ro (.h Has.ro (.w rfl (.h Has.ro (.h Has.ro (.h Has.ro (.h Has.ro (.h Has.ro (.h Has.ro (.h Has.ro (.h Has.ro (.h Has.ro (.h Has.ro (.h Has.ro (.nil))))))))))))))))))), ?_⟩
                    refine SQ.lands hL5 ?_
                    refine SQ_ox0 rfl (OX_stA (vs := e.cells) Try.sizeOf39 rfl rfl rfl rfl) ?_
                    rintro _ _ rfl
                    refine ⟨.h Has.ro (.h Has.ro (.h Has.ro (.h Has.ro (.h Has.ro (.h Has.ro (.h Has.ro (.h Has.ro (.h Has.ro (.w rfl (.w rfl (.w rfl (.w rfl (.w rfl (.w rfl (.w rfl (.w rfl (.w rfl (.nil)))))))))))))))))), ?_⟩
                    refine SQ_ox0 rfl (OX_stA (vs := e.cells) Try.sizeOf39 rfl rfl rfl rfl) ?_
                    rintro _ _ rfl
                    refine ⟨.w rfl (.w rfl (.w rfl (.w rfl (.w rfl (.w rfl (.w rfl (.w rfl (.w rfl (.w rfl (.w rfl (.w rfl (.w rfl (.w rfl (.w rfl (.w rfl (.w rfl (.w rfl (.nil)))))))))))))))))), ?_⟩
                    refine SQ_nil ?_
                    refine SN.le (l := [(0, _), (1, _), (2, _), (7, _), (8, _), (9, _), (12, _), (13, _)]) ?_ (.cons rfl (.cons rfl (.cons rfl (.cons rfl (.cons rfl (.cons rfl (.cons rfl (.cons rfl (.nil)))))))))
                    exact J0 ((b12, b13)) _ _ (.cons rfl (.cons rfl (.cons rfl (.cons rfl (.cons rfl (.cons rfl (.cons rfl (.cons rfl (.nil))))))))) (.fin)
                · refine SA_ox rfl .free (OX_alloc Try.zeroValue39 rfl) rfl ?_
                  rintro _ _ ⟨b12, rfl, rfl⟩
                  refine ⟨.h Has.ro (.h Has.ro (.h Has.ro (.h Has.ro (.h Has.ro (.h Has.ro (.h Has.ro (.h Has.ro (.h Has.ro (.h Has.ro (.h Has.ro (.h Has.ro (.h Has.ro (.h Has.ro (.h Has.ro (.h Has.ro (.h Has.ro (.h Has.ro (.nil)))))))))))))))))), ?_⟩
                  refine SQ_call rfl Try.call35 (.cons rfl (.cons rfl (.cons rfl (.cons rfl (.cons rfl (.nil)))))) (CallsK.at2 (w_MakeA k1 ⟨l, S⟩ n (by omega) f.client f.nonce f.fee hfg.2.2.1 hfg.2.2.2 p.a p.n p.c (p.bs.map byteV) (by simpa using hpn) (by omega) (by dsimp only; omega) hmk)) (lts rfl) ?_
                  rintro _ L4 ⟨rfl, hL4⟩
                  refine ⟨.lands hL4 (.h Has.ro (.h Has.ro (.h Has.ro (.h Has.ro (.h Has.ro (.h Has.ro (.h Has.ro (.h Has.ro (.h Has.ro (.w rfl (.h Has.ro (.h Has.ro (.w rfl (.h Has.ro (.h Has.ro (.w rfl (.h Has.ro (.h Has.ro (.nil))))))))))))))))))), ?_⟩
                  refine SQ.lands hL4 ?_
                  refine SQ_call rfl Try.call35 (.cons rfl (.cons rfl (.cons rfl (.cons rfl (.cons rfl (.nil)))))) (CallsK.at2 (w_MakeA k2 ⟨l, S⟩ n (by omega) f.client f.nonce f.fee hfg.2.2.1 hfg.2.2.2 q.a q.n q.c (q.bs.map byteV) (by simpa using hqn) (by omega) (by dsimp only; omega) hmk)) (lts rfl) ?_
                  rintro _ L5 ⟨rfl, hL5⟩
                  refine ⟨.lands hL5 (.w rfl (.h Has.ro (.h Has.ro (.w rfl (.h Has.ro (.h Has.ro (.w rfl (.h Has.ro (.h Has.ro (.h Has.ro (.h Has.ro (.h Has.ro (.h Has.ro (.h Has.ro (.h Has.ro (.h Has.ro (.h Has.ro (.h Has.ro (.nil))))))))))))))))))), ?_⟩
                  refine SQ.lands hL5 ?_
                  refine SQ_ox0 rfl (OX_stA (vs := e.cells) Try.sizeOf39 rfl rfl rfl rfl) ?_
                  rintro _ _ rfl
                  refine ⟨.h Has.ro (.h Has.ro (.h Has.ro (.h Has.ro (.h Has.ro (.h Has.ro (.h Has.ro (.h Has.ro (.h Has.ro (.w rfl (.w rfl (.w rfl (.w rfl (.w rfl (.w rfl (.w rfl (.w rfl (.w rfl (.nil)))))))))))))))))), ?_⟩
                  refine SQ_ox0 rfl (OX_stA (vs := e.cells) Try.sizeOf39 rfl rfl rfl rfl) ?_
                  rintro _ _ rfl
                  refine ⟨.w rfl (.w rfl (.w rfl (.w rfl (.w rfl (.w rfl (.w rfl (.w rfl (.w rfl (.w rfl (.w rfl (.w rfl (.w rfl (.w rfl (.w rfl (.w rfl (.w rfl (.w rfl (.nil)))))))))))))))))), ?_⟩
                  refine SQ_nil ?_
                  refine SN.le (l := [(0, _), (1, _), (2, _), (7, _), (8, _), (9, _), (12, _), (13, _)]) ?_ (.cons rfl (.cons rfl (.cons rfl (.cons rfl (.cons rfl (.cons rfl (.cons rfl (.cons rfl (.nil)))))))))
                  exact J0 ((b12, b13)) _ _ (.cons rfl (.cons rfl (.cons rfl (.cons rfl (.cons rfl (.cons rfl (.cons rfl (.cons rfl (.nil))))))))) (.fin)
        · refine SC_cond rfl (fun hc43 => ?_) (fun hc43 => ?_)
          · obtain ⟨s, hs⟩ : ∃ s, qs[i]? = some s := ⟨_, List.getElem?_eq_getElem (by have := of_decide_eq_true hc43; omega)⟩
            refine SC_region ?_
            refine SR_pu (RD_move rfl) rfl ?_
            refine SR_pu (RD_move rfl) rfl ?_
            refine SR_rd (RD_ixO (i := (i : Nat)) (cs := qs.map BSl.val) Try.runUnderlying94 Try.sizeOf53 rfl rfl (by simpa using hn2) (by omega) (by have := List.getElem?_eq_some_iff.1 hs; have := this.1; omega)) Has.ro rfl ?_
            refine SR_rd (RD_loadO (v := s.val) (cs := qs.map BSl.val) Try.isAgg53 rfl (by simp [hs])) Has.ro rfl ?_
            refine SR_pu (RD_assign rfl) rfl ?_
            refine SR_nil ?_
            refine SN.le (l := [(0, _), (1, _), (2, _), (7, _), (8, _), (9, _), (10, _), (11, _)]) ?_ (.cons rfl (.cons rfl (.cons rfl (.cons rfl (.cons rfl (.cons rfl (.cons rfl (.cons rfl (.nil)))))))))
            exact J0 (⟨s, hqs s (List.mem_of_getElem? hs)⟩) _ _ (.cons rfl (.cons rfl (.cons rfl (.cons rfl (.cons rfl (.cons rfl (.cons rfl (.cons rfl (.nil))))))))) (.fin)
          · refine SC_skip ?_
            exact J0 (⟨⟨none, 0, 0, []⟩, ⟨rfl, HasRow.nil⟩, Nat.zero_le _⟩) _ _ (.cons rfl (.cons rfl (.cons rfl (.cons rfl (.cons rfl (.cons rfl (.cons rfl (.cons rfl (.nil))))))))) (.fin)
      · refine SC_cond rfl (fun hc35 => ?_) (fun hc35 => ?_)
        · obtain ⟨s, hs⟩ : ∃ s, ps[i]? = some s := ⟨_, List.getElem?_eq_getElem (by have := of_decide_eq_true hc35; omega)⟩
          refine SC_region ?_
          refine SR_pu (RD_move rfl) rfl ?_
          refine SR_pu (RD_move rfl) rfl ?_
          refine SR_rd (RD_ixO (i := (i : Nat)) (cs := ps.map BSl.val) Try.runUnderlying94 Try.sizeOf53 rfl rfl (by simpa using hn1) (by omega) (by have := List.getElem?_eq_some_iff.1 hs; have := this.1; omega)) Has.ro rfl ?_
          refine SR_rd (RD_loadO (v := s.val) (cs := ps.map BSl.val) Try.isAgg53 rfl (by simp [hs])) Has.ro rfl ?_
          refine SR_pu (RD_assign rfl) rfl ?_
          refine SR_nil ?_
          refine SN.le (l := [(0, _), (1, _), (2, _), (7, _), (8, _), (9, _), (10, _), (11, _)]) ?_ (.cons rfl (.cons rfl (.cons rfl (.cons rfl (.cons rfl (.cons rfl (.cons rfl (.cons rfl (.nil)))))))))
          exact J0 (⟨s, hps s (List.mem_of_getElem? hs)⟩) _ _ (.cons rfl (.cons rfl (.cons rfl (.cons rfl (.cons rfl (.cons rfl (.cons rfl (.cons rfl (.nil))))))))) (.fin)
        · refine SC_skip ?_
          exact J0 (⟨⟨none, 0, 0, []⟩, ⟨rfl, HasRow.nil⟩, Nat.zero_le _⟩) _ _ (.cons rfl (.cons rfl (.cons rfl (.cons rfl (.cons rfl (.cons rfl (.cons rfl (.cons rfl (.nil))))))))) (.fin)
    · clear ih
      refine SC_exit rfl ?_
      refine SN_seq ?_
      refine SC_seq ?_
      refine SC_region ?_
      refine SR_call Try.call48 (.nil) (enve_awake) (lts rfl) ?_
      rintro _ L3 ⟨rfl, hL3⟩
      refine SR.lands hL3 ?_
      refine SR_pu (RD_assign rfl) rfl ?_
      refine SR_nil ?_
      refine SN.le (l := [(6, _)]) ?_ (.cons rfl (.nil))
      refine SN_seq ?_
      refine SC_ret1 rfl rfl ?_
      exact ⟨rfl, .fin⟩
  · refine SC_region ?_
    refine SR_pu (RD_move rfl) rfl ?_
    refine SR_pu (RD_move rfl) rfl ?_
    refine SR_pu (RD_len Try.runUnderlying31 rfl) rfl ?_
    refine SR_pu (RD_lss rfl rfl) rfl ?_
    refine SR_pu (RD_move rfl) rfl ?_
    refine SR_guard rfl rfl (fun hg5_4 => ?_) (fun hg5_4 => ?_)
    · refine SR_yes rfl rfl (hg5_4) ?_
      refine SR_pu (RD_move rfl) rfl ?_
      refine SR_yes rfl rfl (hg5_4) ?_
      refine SR_pu (RD_lss rfl rfl) rfl ?_
      refine SR_pu (RD_pick_t rfl (hg5_4) rfl) rfl ?_
      refine SR_nil ?_
      refine SN.le (l := [(0, _), (1, _), (2, _), (7, _), (8, _), (9, _), (29, _)]) ?_ (.cons rfl (.cons rfl (.cons rfl (.cons rfl (.cons rfl (.cons rfl (.cons rfl (.nil))))))))
      exact J0 (()) _ _ (.cons rfl (.cons rfl (.cons rfl (.cons rfl (.cons rfl (.cons rfl (.cons' rfl (congrArg Value.bool (decide_eq_decide.2 (by have := of_decide_eq_true hg5_4; omega))) (.nil)))))))) (.fin)
    · refine SR_no rfl rfl (hg5_4) (lts rfl) ?_
      refine SR_no rfl rfl (hg5_4) (lts rfl) ?_
      refine SR_pu (RD_pick_f rfl (hg5_4) rfl) rfl ?_
      refine SR_nil ?_
      refine SN.le (l := [(0, _), (1, _), (2, _), (7, _), (8, _), (9, _), (29, _)]) ?_ (.cons rfl (.cons rfl (.cons rfl (.cons rfl (.cons rfl (.cons rfl (.cons rfl (.nil))))))))
      exact J0 (()) _ _ (.cons rfl (.cons rfl (.cons rfl (.cons rfl (.cons rfl (.cons rfl (.cons' rfl (congrArg Value.bool (decide_eq_false (by have := of_decide_eq_false hg5_4; omega)).symm) (.nil)))))))) (.fin)

end Go.Proofs.Ytnifaajdiolbjaa
