/- Part 13 of the proof: lemmas that the walk of TopWindow needs. -/
import Derived.Test.YtdhpjdhloaoepaaGreatPw12
set_option linter.unusedSimpArgs false
set_option linter.unusedVariables false
/- A replica lays ahead. -/
namespace Go.Proofs.YtdhpjdhloaoepaaGreat
open Go Go.Proofs
attribute [local irreducible] SC SN SR SQ SA SO
set_option maxRecDepth 100000

theorem wn_Make {W : World} {F : List HProp} [Abs F] (K : NK) (hK : K.Ok) (g : GS) (s : NS) (q : QcD) {cs : List Value} [HasRow F q.by_.a cs] (hcs : cs = q.by_.l.map intV) (hqn : q.by_.l.length = q.by_.n) (hqb : q.by_.n ≤ 10000) (hq : q.p = s.hi) (hld : K.c.lead s.ps.view = K.me) (E r : List EnvD) (hE : skipE s.ts s.tip 100 s.hb = some E) (hr : batchL K.c.bt.toNat (s.pool.filter fun e => !skipC g.N (sortS (numsC g.N E)) e) = some r) (hc : layG K.me g s E r = true) :
    CallsK W Tryz.prog 86 #[.pointer (some ⟨K.k.p, 0, none⟩), K.c.val, .int .i64 K.me, .int .i64 s.ps.view, q.val, .pointer (some ⟨K.t, 0, none⟩), .pointer (some ⟨K.lp, 0, none⟩), .pointer (some ⟨K.po, 0, none⟩)] (At wnI K.k g :: At treeI K.t ⟨K.k.p, s.root, s.T⟩ :: At logI K.lp ⟨K.k.p, K.t, s.tip, s.lg, s.ks⟩ :: At poolI K.po ⟨K.k.p, min (max K.c.po 0) 1000, s.pool⟩ :: F) (fun u L => ∃ b' : BlkD, u = .tuple #[b'.val, .bool true] ∧ b'.pure = (layB K.c K.me s r) ∧ b'.Fit ∧ Lands L (rowP 3 1 b'.by_.a b'.by_.n b'.by_.c (b'.by_.l.map intV) :: rowP 43 4 b'.envs.a b'.envs.n b'.envs.c (b'.envs.l.flatMap EnvD.cells) :: At wnI K.k ⟨leadLC g.N (layB K.c K.me s r), addTo g.S K.me (leadDC g.N (layB K.c K.me s r) : Nat), g.V⟩ :: At treeI K.t ⟨K.k.p, s.root, s.T⟩ :: At logI K.lp ⟨K.k.p, K.t, s.tip, s.lg, s.ks⟩ :: At poolI K.po ⟨K.k.p, min (max K.c.po 0) 1000, s.pool⟩ :: F)) := by
  refine CallsK.opn (open_wn (k := K.k) (g := g)) fun ⟨l, v⟩ ⟨f1, f2, f3, f4⟩ => ?_
  dsimp only at f1 f2 f3 f4
  unfold layG at hc
  simp only [Bool.and_eq_true, decide_eq_true_eq, List.all_eq_true] at hc
  obtain ⟨c1, c2, c3, c4, c5, c6, c7, c8, c9, c10, c11, c12, c13, c14, c15⟩ := hc
  have hqv : q.view = s.hv := congrArg PQ.view hq
  have hqk : q.block = s.hb := congrArg PQ.block hq
  have hql : q.by_.l = s.hby := congrArg PQ.by_ hq
  have hN := (GS.ok_1 c1).1
  have hm : ∀ e, memC g.N (envC e) = true → envB e ∈ l := fun e h => by rw [← f1] at h; exact (env_mem l e).1 h
  have hso : sortS (numsC g.N E) = sortI (numsL l E) := by rw [sortS_eq, ← f1, numsL_enc]
  have hfi : (s.pool.filter fun e => !skipC g.N (sortS (numsC g.N E)) e) = s.pool.filter fun e => !skipP l (sortI (numsL l E)) e := by
    rw [hso, ← f1]
    exact List.filter_congr fun e _ => by rw [skip_enc]
  have hb : (⟨s.ps.view, K.me, q.view, q.block, q.by_.l, r⟩ : Blk) = layB K.c K.me s r := by rw [hqv, hqk, hql]; rfl
  rw [hfi] at hr
  rw [hso] at c11
  have hE2 : skipE ⟨K.k.p, s.root, s.T⟩ s.tip 100 q.block = some E := by rw [hqk, ← hE]; exact skip_w _ 0 s.root s.T s.tip 100 s.hb
  refine CallsK.imp (CallsK.at4 (prop_Make K.k ⟨l, g.S⟩ K.c K.me s.ps.view q hcs hqn hqb K.t ⟨K.k.p, s.root, s.T⟩ K.lp ⟨K.k.p, K.t, s.tip, s.lg, s.ks⟩ K.po ⟨K.k.p, min (max K.c.po 0) 1000, s.pool⟩ rfl hld (by rw [hqk]; exact c6) (by rw [hqv]; exact c7) 100 E hE2 c8 (fun e h => (envG_ok (c9 e h)).2.2) (fun e h => hm e (c10 e h)) (apartB_ok c11) (by have := wn_len f1 hN; show l.length ≤ _; omega) (fun e h => (envG_ok (c12 e h)).2.2) (fun e h => hm e (c13 e h)) (by show s.pool.length ≤ _; omega) K.c.bt.toNat (by have := hK.bt; omega) (by have := hK.bt; omega) r hr)) fun u L ⟨b', hu, hp, hf, hL⟩ => ⟨b', hu, by rw [hp, hb], hf, ?_⟩
  rw [hb] at hL
  dsimp only at hL
  have e := leadD_enc l (layB K.c K.me s r)
  rw [f1] at e
  rw [← e] at hL
  exact hL.trans ((close_wn K.k ⟨leadLC g.N (layB K.c K.me s r), addTo g.S K.me (leadDC g.N (layB K.c K.me s r) : Nat), g.V⟩ (l := (layB K.c K.me s r).leadL l) (v := v) (by rw [leadL_enc, f1]) f2 f3 f4).trans .fin)

theorem lay_laid {W : World} {F : List HProp} [Abs F] (K : NK) (hK : K.Ok) (s : NS) (od : List MsgD) (A : Arc) (g : GS) (ho : Out A od s.out) (hy : s.hby.length ≤ 200) (h : s.ps.view ≤ s.laid) :
    CallsK W Tryz.prog 61 #[.pointer (some ⟨K.p, 0, none⟩)] (At nodI K (s, od) :: At wnI K.k g :: At arcI () A :: F) (fun _ L => ∃ od' A', A.le A' ∧ Out A' od' (s).out ∧ Lands L (At nodI K (s, od') :: At wnI K.k g :: At arcI () A' :: F)) := by
  refine CallsK_enter (n := 78) Tryz.func61 rfl rfl rfl ?_
  refine Ws ?_
  refine SC.opn (open_nod (K := K) (y := (s, od))) fun _ _ => ?_
  dsimp only
  refine SC.opn (open_hd (K := K)) fun ⟨br, a, c⟩ _ => ?_
  dsimp only
  iterate 5 refine Ws ?_
  refine We (CallsK.at (sf_High K.sf ⟨K.t, s.hv, s.hb, s.hby, s.lock, s.last⟩ (by show s.hby.length ≤ _; omega))) ?_
  rintro _ L1 ⟨qa, qc, rfl, hL1⟩
  refine SR.lands hL1 ?_
  refine Wa fun b2 => ?_
  refine SR_ox0 (OX_stA (vs := (⟨s.hv, s.hb, ⟨qa, s.hby.length, qc, s.hby⟩⟩ : QcD).cells) Tryz.sizeOf39 rfl rfl rfl rfl) ?_
  rintro _ _ rfl
  iterate 4 refine Ws ?_
  refine Wd [.r 0, .r 1, .r 2, .r 3, .r 4, .e 5, .r 6, .r 7, .r 8, .r 9, .r 10, .r 11, .r 12, .r 13, .r 14, .r 15, .r 16, .r 17, .r 18, .r 19, .r 20, .r 21, .r 22, .r 23, .r 24, .r 25] ?_
  iterate 5 refine Wq ?_
  refine SQ_call rfl Tryz.call77 (.cons rfl (.nil)) (CallsK.atPtA (pt_View K ⟨(s).laid, od⟩ br a c (s).ps)) (lts rfl) ?_
  rintro _ L2 ⟨rfl, hL2⟩
  refine ⟨.lands hL2 (.h (Has.ce rfl) (.nil)), ?_⟩
  refine SQ.lands hL2 ?_
  iterate 2 refine Wq ?_
  refine SQ_no rfl rfl rfl (decide_eq_true h) (lts rfl) ?_
  refine SQ_no rfl rfl rfl (decide_eq_true h) (lts rfl) ?_
  refine SQ_no rfl rfl rfl (decide_eq_true h) (lts rfl) ?_
  refine SQ_no rfl rfl rfl (decide_eq_true h) (lts rfl) ?_
  refine SQ_no rfl rfl rfl (decide_eq_true h) (lts rfl) ?_
  refine SQ_no rfl rfl rfl (decide_eq_true h) (lts rfl) ?_
  refine SQ_nou rfl rfl rfl (lts rfl) ?_
  refine SQ_nou rfl rfl rfl (lts rfl) ?_
  refine SQ_nou rfl rfl rfl (lts rfl) ?_
  refine SQ_nou rfl rfl rfl (lts rfl) ?_
  refine SQ_nou rfl rfl rfl (lts rfl) ?_
  refine SQ_nou rfl rfl rfl (lts rfl) ?_
  refine SQ_nou rfl rfl rfl (lts rfl) ?_
  refine SQ_nou rfl rfl rfl (lts rfl) ?_
  refine SQ_nou rfl rfl rfl (lts rfl) ?_
  refine SQ_nou rfl rfl rfl (lts rfl) ?_
  refine SQ_no rfl rfl rfl (decide_eq_true h) (lts rfl) ?_
  refine SQ_pu rfl (RD_pick_t rfl (decide_eq_true h) rfl) rfl ?_
  iterate 2 refine Ws ?_
  refine SC_cond_true rfl (rfl) ?_
  refine SC_ret0 rfl ?_
  exact ⟨od, A, Arc.le.rfl, ho, ((close_hd K ⟨(s).laid, od⟩).trans ((close_nod K (s, od)).trans .fin))⟩

theorem lay_not {W : World} {F : List HProp} [Abs F] (K : NK) (hK : K.Ok) (s : NS) (od : List MsgD) (A : Arc) (g : GS) (ho : Out A od s.out) (hy : s.hby.length ≤ 200) (h : ¬ s.ps.view ≤ s.laid) (hld : K.c.lead s.ps.view ≠ K.me) :
    CallsK W Tryz.prog 61 #[.pointer (some ⟨K.p, 0, none⟩)] (At nodI K (s, od) :: At wnI K.k g :: At arcI () A :: F) (fun _ L => ∃ od' A', A.le A' ∧ Out A' od' (s).out ∧ Lands L (At nodI K (s, od') :: At wnI K.k g :: At arcI () A' :: F)) := by
  refine CallsK_enter (n := 78) Tryz.func61 rfl rfl rfl ?_
  refine Ws ?_
  refine SC.opn (open_nod (K := K) (y := (s, od))) fun _ _ => ?_
  dsimp only
  refine SC.opn (open_hd (K := K)) fun ⟨br, a, c⟩ _ => ?_
  dsimp only
  iterate 5 refine Ws ?_
  refine We (CallsK.at (sf_High K.sf ⟨K.t, s.hv, s.hb, s.hby, s.lock, s.last⟩ (by show s.hby.length ≤ _; omega))) ?_
  rintro _ L1 ⟨qa, qc, rfl, hL1⟩
  refine SR.lands hL1 ?_
  refine Wa fun b2 => ?_
  refine SR_ox0 (OX_stA (vs := (⟨s.hv, s.hb, ⟨qa, s.hby.length, qc, s.hby⟩⟩ : QcD).cells) Tryz.sizeOf39 rfl rfl rfl rfl) ?_
  rintro _ _ rfl
  iterate 4 refine Ws ?_
  refine Wd [.r 0, .r 1, .r 2, .r 3, .r 4, .e 5, .r 6, .r 7, .r 8, .r 9, .r 10, .r 11, .r 12, .r 13, .r 14, .r 15, .r 16, .r 17, .r 18, .r 19, .r 20, .r 21, .r 22, .r 23, .r 24, .r 25] ?_
  iterate 5 refine Wq ?_
  refine SQ_call rfl Tryz.call77 (.cons rfl (.nil)) (CallsK.atPtA (pt_View K ⟨(s).laid, od⟩ br a c (s).ps)) (lts rfl) ?_
  rintro _ L2 ⟨rfl, hL2⟩
  refine ⟨.lands hL2 (.h (Has.ce rfl) (.nil)), ?_⟩
  refine SQ.lands hL2 ?_
  iterate 2 refine Wq ?_
  refine SQ_pyes rfl rfl rfl (decide_eq_false h) (RD_move rfl) rfl ?_
  first
    | refine SQ_pyes rfl rfl rfl (decide_eq_false h) (RD_nilCheck rfl) rfl ?_
    | refine SQ_pyes rfl rfl rfl (decide_eq_false h) (RD_nilCheckF rfl) rfl ?_
  first
    | refine SQ_pyes rfl rfl rfl (decide_eq_false h) (RD_fieldAddr 19 Tryz.runUnderlying91 rfl rfl Tryz.sizeOf88 rfl) rfl ?_
    | refine SQ_yes rfl rfl rfl (decide_eq_false h) (RD_fieldAddrO 19 Tryz.runUnderlying91 rfl rfl Tryz.sizeOf88 rfl (by simp <;> omega)) Has.ro rfl ?_
  refine SQ_yes rfl rfl rfl (decide_eq_false h) (RD_load Tryz.isAgg88 rfl) (Has.ce rfl) rfl ?_
  refine SQ_pyes rfl rfl rfl (decide_eq_false h) (RD_neqP Tryz.underlying88 rfl rfl) rfl ?_
  refine SQ_pyes rfl rfl rfl (decide_eq_false h) (RD_move rfl) rfl ?_
  refine SQ_no rfl rfl rfl (rfl) (lts rfl) ?_
  refine SQ_no rfl rfl rfl (rfl) (lts rfl) ?_
  refine SQ_no rfl rfl rfl (rfl) (lts rfl) ?_
  refine SQ_no rfl rfl rfl (rfl) (lts rfl) ?_
  refine SQ_no rfl rfl rfl (rfl) (lts rfl) ?_
  refine SQ_no rfl rfl rfl (rfl) (lts rfl) ?_
  refine SQ_no rfl rfl rfl (rfl) (lts rfl) ?_
  refine SQ_no rfl rfl rfl (rfl) (lts rfl) ?_
  refine SQ_no rfl rfl rfl (rfl) (lts rfl) ?_
  refine SQ_no rfl rfl rfl (rfl) (lts rfl) ?_
  refine SQ_pyes rfl rfl rfl (decide_eq_false h) (RD_pick_f rfl (rfl) rfl) rfl ?_
  refine SQ_pu rfl (RD_pick_f rfl (decide_eq_false h) rfl) rfl ?_
  iterate 2 refine Ws ?_
  refine SC_cond_false rfl (rfl) ?_
  iterate 3 refine Ws ?_
  refine SC_drawn (.cons 0 true (.cons 1 true (.cons 2 true (.cons 3 true (.cons 4 true (.cons 5 true (.cons 6 true (.cons 7 true (.cons 8 true (.cons 9 true (.cons 10 true (.cons 11 true (.cons 12 true (.cons 14 true (.cons 15 true (.cons 16 true (.cons 17 true (.cons 18 true (.cons 19 true (.cons 20 true (.cons 21 true (.cons 22 true (.cons 23 true (.cons 24 true (.cons 25 true (.cons 26 true (.alts [13, 31] (fun i => bif Nat.beq i 13 then (.alts [27, 31] (fun i => bif Nat.beq i 27 then (.cons 28 true (.cons 29 true (.cons 30 true (.cons 31 false (.goto [true, true, true, true, true, true, true, true, true, true, true, true, true, true, true, true, true, true, true, true, true, true, true, true, true, true, true, true, true, true, true, true, false, false] 2))))) else (.cons 27 false (.cons 28 true (.cons 29 true (.cons 30 true (.goto [true, true, true, true, true, true, true, true, true, true, true, true, true, true, true, true, true, true, true, true, true, true, true, true, true, true, true, true, true, true, true, true, false, false] 2))))))) else (.cons 13 false (.cons 27 false (.cons 28 true (.cons 29 true (.cons 30 true (.goto [true, true, true, true, true, true, true, true, true, true, true, true, true, true, true, true, true, true, true, true, true, true, true, true, true, true, true, true, true, true, true, true, false, false] 2)))))))))))))))))))))))))))))))))) (by kernel_rfl) (by kernel_rfl) ?_
  iterate 7 refine Wq ?_
  refine SQ_rd rfl (RD_loadA (vs := K.c.cells) Tryz.isAgg23 Tryz.sizeOf23 rfl rfl) (Has.ces (cs := [.pointer (some ⟨K.k.p, 0, none⟩), .int .i64 K.c.f, .int .i64 K.c.n, .int .i64 K.c.cl, .int .i64 K.c.ba, .int .i64 K.c.mo, .int .i64 K.c.bt, .int .i64 K.c.po, .int .i64 K.c.wi, .int .i64 K.me, .pointer (some ⟨K.t, 0, none⟩), .pointer (some ⟨K.sf, 0, none⟩), .pointer (some ⟨K.lp, 0, none⟩), .pointer (some ⟨K.ta, 0, none⟩), .pointer (some ⟨K.pc, 0, none⟩), .pointer (some ⟨K.po, 0, none⟩), .pointer (some ⟨K.rv.r, 0, none⟩), .int .i64 s.laid, .pointer (none), .pointer (none), .pointer (br), .slice a od.length c]) fun j v h => by rcases j with _ | _ | _ | _ | _ | _ | _ | _ | j <;> simp [CfgD.cells] at h ⊢ <;> exact h) rfl ?_
  iterate 5 refine Wq ?_
  refine SQ_rd rfl (RD_loadA (vs := (⟨s.hv, s.hb, ⟨qa, s.hby.length, qc, s.hby⟩⟩ : QcD).cells) Tryz.isAgg39 Tryz.sizeOf39 rfl rfl) Has.wh rfl ?_
  iterate 12 refine Wq ?_
  refine SQ.le (l := [(0, _), (40, _), (44, _), (48, _), (49, _), (51, _), (55, _), (59, _), (63, _)]) ?_ (.cons rfl (.cons rfl (.cons rfl (.cons rfl (.cons rfl (.cons rfl (.cons rfl (.cons rfl (.cons rfl (.nil))))))))))
  refine SQ_join (X := Nat) (.cons 32 false (.cons 33 true (.nil))) [true, true, true, true, true, true, true, true, true, true, true, true, true, true, true, true, true, true, true, true, true, true, true, true, true, true, true, true, true, true, true, true, false, false] 2 (by kernel_rfl) (fun b => [(3, .pointer (some ⟨b, 0, none⟩)), (65, zBlkD.val), (66, .bool false)]) (fun b => pt b (.cells [.int .i64 0, .int .i64 0, .int .i64 0, .int .i64 0, .slice none 0 0, .slice none 0 0].toArray 146) :: pt b2 (.cells (⟨s.hv, s.hb, ⟨qa, s.hby.length, qc, s.hby⟩⟩ : QcD).cells.toArray 39) :: rowP 3 1 qa s.hby.length qc (s.hby.map intV) :: pt K.p (.cells ([.pointer (some ⟨K.k.p, 0, none⟩), .int .i64 K.c.f, .int .i64 K.c.n, .int .i64 K.c.cl, .int .i64 K.c.ba, .int .i64 K.c.mo, .int .i64 K.c.bt, .int .i64 K.c.po, .int .i64 K.c.wi, .int .i64 K.me, .pointer (some ⟨K.t, 0, none⟩), .pointer (some ⟨K.sf, 0, none⟩), .pointer (some ⟨K.lp, 0, none⟩), .pointer (some ⟨K.ta, 0, none⟩), .pointer (some ⟨K.pc, 0, none⟩), .pointer (some ⟨K.po, 0, none⟩), .pointer (some ⟨K.rv.r, 0, none⟩), .int .i64 s.laid, .pointer (none), .pointer (none), .pointer (br), .slice a od.length c]).toArray 91) :: rowP 46 19 a od.length c (od.flatMap MsgD.cells) :: At treeI K.t ⟨K.k.p, s.root, s.T⟩ :: At sfI K.sf ⟨K.t, s.hv, s.hb, s.hby, s.lock, s.last⟩ :: At logI K.lp ⟨K.k.p, K.t, s.tip, s.lg, s.ks⟩ :: At talI K.ta ⟨K.k.p, K.c, s.m⟩ :: At paceI K.pc s.ps :: At poolI K.po ⟨K.k.p, min (max K.c.po 0) 1000, s.pool⟩ :: At revI K.rv ⟨s.rl, s.rn, s.led⟩ :: At wnI K.k g :: At arcI () A :: F) (fun b => pt b2 (.cells (⟨s.hv, s.hb, ⟨qa, s.hby.length, qc, s.hby⟩⟩ : QcD).cells.toArray 39) :: rowP 3 1 qa s.hby.length qc (s.hby.map intV) :: pt K.p (.cells ([.pointer (some ⟨K.k.p, 0, none⟩), .int .i64 K.c.f, .int .i64 K.c.n, .int .i64 K.c.cl, .int .i64 K.c.ba, .int .i64 K.c.mo, .int .i64 K.c.bt, .int .i64 K.c.po, .int .i64 K.c.wi, .int .i64 K.me, .pointer (some ⟨K.t, 0, none⟩), .pointer (some ⟨K.sf, 0, none⟩), .pointer (some ⟨K.lp, 0, none⟩), .pointer (some ⟨K.ta, 0, none⟩), .pointer (some ⟨K.pc, 0, none⟩), .pointer (some ⟨K.po, 0, none⟩), .pointer (some ⟨K.rv.r, 0, none⟩), .int .i64 s.laid, .pointer (none), .pointer (none), .pointer (br), .slice a od.length c]).toArray 91) :: rowP 46 19 a od.length c (od.flatMap MsgD.cells) :: At treeI K.t ⟨K.k.p, s.root, s.T⟩ :: At sfI K.sf ⟨K.t, s.hv, s.hb, s.hby, s.lock, s.last⟩ :: At logI K.lp ⟨K.k.p, K.t, s.tip, s.lg, s.ks⟩ :: At talI K.ta ⟨K.k.p, K.c, s.m⟩ :: At paceI K.pc s.ps :: At poolI K.po ⟨K.k.p, min (max K.c.po 0) 1000, s.pool⟩ :: At revI K.rv ⟨s.rl, s.rn, s.led⟩ :: At wnI K.k g :: At arcI () A :: F) (fun b T2 hT2 => ?_) (fun K2 => ?_)
  · refine SQ.le (l := [(3, _), (65, _), (66, _), (0, _), (40, _), (44, _), (48, _), (49, _), (51, _), (55, _), (59, _), (63, _)]) ?_ (.cons rfl (.cons rfl (.cons rfl (.cons rfl (.cons rfl (.cons rfl (.cons rfl (.cons rfl (.cons rfl (.cons rfl (.cons rfl (.cons rfl (.nil)))))))))))))
    refine SQ_ox0 rfl (OX_stA (vs := zBlkD.cells) Tryz.sizeOf146 rfl rfl rfl rfl) ?_
    rintro _ _ rfl
    refine ⟨Keeps.lands .fin (Keeps.all hT2), ?_⟩
    refine Wq ?_
    iterate 7 refine Ws ?_
    refine SC_cond_false rfl (rfl) ?_
    refine Ws ?_
    refine SN_stop0 rfl ?_
    exact ⟨od, A, Arc.le.rfl, ho, ((close_hd K ⟨(s).laid, od⟩).trans ((close_nod K (s, od)).trans .fin))⟩
  · refine SQ_two ?_ ?_
    · refine SA_call rfl .free Tryz.call77 (.cons rfl (.nil)) (CallsK.atPtA (pt_View K ⟨(s).laid, od⟩ br a c (s).ps)) (lts rfl) ?_
      rintro _ L3 ⟨rfl, hL3⟩
      refine ⟨.lands hL3 (.h (Has.ce rfl) (.h (Has.ce rfl) (.h (Has.ce rfl) (.h Has.wh (.h (Has.ce rfl) (.h (Has.ces (cs := [.pointer (some ⟨K.k.p, 0, none⟩), .int .i64 K.c.f, .int .i64 K.c.n, .int .i64 K.c.cl, .int .i64 K.c.ba, .int .i64 K.c.mo, .int .i64 K.c.bt, .int .i64 K.c.po, .int .i64 K.c.wi, .int .i64 K.me, .pointer (some ⟨K.t, 0, none⟩), .pointer (some ⟨K.sf, 0, none⟩), .pointer (some ⟨K.lp, 0, none⟩), .pointer (some ⟨K.ta, 0, none⟩), .pointer (some ⟨K.pc, 0, none⟩), .pointer (some ⟨K.po, 0, none⟩), .pointer (some ⟨K.rv.r, 0, none⟩), .int .i64 s.laid, .pointer (none), .pointer (none), .pointer (br), .slice a od.length c]) fun j v h => by rcases j with _ | _ | _ | _ | _ | _ | _ | _ | j <;> simp [CfgD.cells] at h ⊢ <;> exact h) (.h (Has.ce rfl) (.nil)))))))), ?_⟩
      refine SQ.lands hL3 ?_
      refine SQ_two ?_ ?_
      · refine SA_call rfl .free Tryz.call86 (.cons rfl (.cons rfl (.cons rfl (.cons rfl (.cons rfl (.cons rfl (.cons rfl (.cons rfl (.nil))))))))) (prop_Make_no K.k.p K.c K.me s.ps.view (⟨s.hv, s.hb, ⟨qa, s.hby.length, qc, s.hby⟩⟩ : QcD) K.t K.lp K.po hld) (lts rfl) ?_
        rintro _ L4 ⟨rfl, hL4⟩
        refine ⟨.lands hL4 (.w rfl (.w rfl (.w rfl (.w rfl (.w rfl (.w rfl (.w rfl (.nil)))))))), ?_⟩
        refine SQ.lands hL4 ?_
        iterate 3 refine Wq ?_
        refine SQ_ox rfl (OX_alloc Tryz.zeroValue146 rfl) rfl ?_
        rintro _ _ ⟨b3, rfl, rfl⟩
        refine ⟨.h (Has.ce rfl) (.h (Has.ce rfl) (.h (Has.ce rfl) (.h Has.wh (.h (Has.ce rfl) (.h (Has.ces (cs := [.pointer (some ⟨K.k.p, 0, none⟩), .int .i64 K.c.f, .int .i64 K.c.n, .int .i64 K.c.cl, .int .i64 K.c.ba, .int .i64 K.c.mo, .int .i64 K.c.bt, .int .i64 K.c.po, .int .i64 K.c.wi, .int .i64 K.me, .pointer (some ⟨K.t, 0, none⟩), .pointer (some ⟨K.sf, 0, none⟩), .pointer (some ⟨K.lp, 0, none⟩), .pointer (some ⟨K.ta, 0, none⟩), .pointer (some ⟨K.pc, 0, none⟩), .pointer (some ⟨K.po, 0, none⟩), .pointer (some ⟨K.rv.r, 0, none⟩), .int .i64 s.laid, .pointer (none), .pointer (none), .pointer (br), .slice a od.length c]) fun j v h => by rcases j with _ | _ | _ | _ | _ | _ | _ | _ | j <;> simp [CfgD.cells] at h ⊢ <;> exact h) (.h (Has.ce rfl) (.nil))))))), ?_⟩
        exact K2 (b3) _ _ _ (.cons rfl (.cons rfl (.cons rfl (.cons rfl (.cons rfl (.cons rfl (.cons rfl (.cons rfl (.cons rfl (.cons rfl (.cons rfl (.cons rfl (.nil))))))))))))) (.fin) (.cons (Has.ce rfl) (.cons (Has.ce rfl) (.cons (Has.ce rfl) (.cons Has.wh (.cons (Has.ce rfl) (.cons (Has.ces (cs := [.pointer (some ⟨K.k.p, 0, none⟩), .int .i64 K.c.f, .int .i64 K.c.n, .int .i64 K.c.cl, .int .i64 K.c.ba, .int .i64 K.c.mo, .int .i64 K.c.bt, .int .i64 K.c.po, .int .i64 K.c.wi, .int .i64 K.me, .pointer (some ⟨K.t, 0, none⟩), .pointer (some ⟨K.sf, 0, none⟩), .pointer (some ⟨K.lp, 0, none⟩), .pointer (some ⟨K.ta, 0, none⟩), .pointer (some ⟨K.pc, 0, none⟩), .pointer (some ⟨K.po, 0, none⟩), .pointer (some ⟨K.rv.r, 0, none⟩), .int .i64 s.laid, .pointer (none), .pointer (none), .pointer (br), .slice a od.length c]) fun j v h => by rcases j with _ | _ | _ | _ | _ | _ | _ | _ | j <;> simp [CfgD.cells] at h ⊢ <;> exact h) (.cons (Has.ce rfl) (.nil))))))))
      · refine SA_ox rfl .free (OX_alloc Tryz.zeroValue146 rfl) rfl ?_
        rintro _ _ ⟨b3, rfl, rfl⟩
        refine ⟨.h (Has.ce rfl) (.h (Has.ce rfl) (.h (Has.ce rfl) (.h Has.wh (.h (Has.ce rfl) (.h (Has.ces (cs := [.pointer (some ⟨K.k.p, 0, none⟩), .int .i64 K.c.f, .int .i64 K.c.n, .int .i64 K.c.cl, .int .i64 K.c.ba, .int .i64 K.c.mo, .int .i64 K.c.bt, .int .i64 K.c.po, .int .i64 K.c.wi, .int .i64 K.me, .pointer (some ⟨K.t, 0, none⟩), .pointer (some ⟨K.sf, 0, none⟩), .pointer (some ⟨K.lp, 0, none⟩), .pointer (some ⟨K.ta, 0, none⟩), .pointer (some ⟨K.pc, 0, none⟩), .pointer (some ⟨K.po, 0, none⟩), .pointer (some ⟨K.rv.r, 0, none⟩), .int .i64 s.laid, .pointer (none), .pointer (none), .pointer (br), .slice a od.length c]) fun j v h => by rcases j with _ | _ | _ | _ | _ | _ | _ | _ | j <;> simp [CfgD.cells] at h ⊢ <;> exact h) (.h (Has.ce rfl) (.nil))))))), ?_⟩
        refine SQ_call rfl Tryz.call86 (.cons rfl (.cons rfl (.cons rfl (.cons rfl (.cons rfl (.cons rfl (.cons rfl (.cons rfl (.nil))))))))) (prop_Make_no K.k.p K.c K.me s.ps.view (⟨s.hv, s.hb, ⟨qa, s.hby.length, qc, s.hby⟩⟩ : QcD) K.t K.lp K.po hld) (lts rfl) ?_
        rintro _ L4 ⟨rfl, hL4⟩
        refine ⟨.lands hL4 (.w rfl (.w rfl (.w rfl (.w rfl (.w rfl (.w rfl (.w rfl (.nil)))))))), ?_⟩
        refine SQ.lands hL4 ?_
        iterate 3 refine Wq ?_
        exact K2 (b3) _ _ _ (.cons rfl (.cons rfl (.cons rfl (.cons rfl (.cons rfl (.cons rfl (.cons rfl (.cons rfl (.cons rfl (.cons rfl (.cons rfl (.cons rfl (.nil))))))))))))) (.fin) (.cons (Has.ce rfl) (.cons (Has.ce rfl) (.cons (Has.ce rfl) (.cons Has.wh (.cons (Has.ce rfl) (.cons (Has.ces (cs := [.pointer (some ⟨K.k.p, 0, none⟩), .int .i64 K.c.f, .int .i64 K.c.n, .int .i64 K.c.cl, .int .i64 K.c.ba, .int .i64 K.c.mo, .int .i64 K.c.bt, .int .i64 K.c.po, .int .i64 K.c.wi, .int .i64 K.me, .pointer (some ⟨K.t, 0, none⟩), .pointer (some ⟨K.sf, 0, none⟩), .pointer (some ⟨K.lp, 0, none⟩), .pointer (some ⟨K.ta, 0, none⟩), .pointer (some ⟨K.pc, 0, none⟩), .pointer (some ⟨K.po, 0, none⟩), .pointer (some ⟨K.rv.r, 0, none⟩), .int .i64 s.laid, .pointer (none), .pointer (none), .pointer (br), .slice a od.length c]) fun j v h => by rcases j with _ | _ | _ | _ | _ | _ | _ | _ | j <;> simp [CfgD.cells] at h ⊢ <;> exact h) (.cons (Has.ce rfl) (.nil))))))))
    · refine SA_ox rfl .free (OX_alloc Tryz.zeroValue146 rfl) rfl ?_
      rintro _ _ ⟨b3, rfl, rfl⟩
      refine ⟨.h (Has.ce rfl) (.h (Has.ce rfl) (.h (Has.ce rfl) (.h Has.wh (.h (Has.ce rfl) (.h (Has.ces (cs := [.pointer (some ⟨K.k.p, 0, none⟩), .int .i64 K.c.f, .int .i64 K.c.n, .int .i64 K.c.cl, .int .i64 K.c.ba, .int .i64 K.c.mo, .int .i64 K.c.bt, .int .i64 K.c.po, .int .i64 K.c.wi, .int .i64 K.me, .pointer (some ⟨K.t, 0, none⟩), .pointer (some ⟨K.sf, 0, none⟩), .pointer (some ⟨K.lp, 0, none⟩), .pointer (some ⟨K.ta, 0, none⟩), .pointer (some ⟨K.pc, 0, none⟩), .pointer (some ⟨K.po, 0, none⟩), .pointer (some ⟨K.rv.r, 0, none⟩), .int .i64 s.laid, .pointer (none), .pointer (none), .pointer (br), .slice a od.length c]) fun j v h => by rcases j with _ | _ | _ | _ | _ | _ | _ | _ | j <;> simp [CfgD.cells] at h ⊢ <;> exact h) (.h (Has.ce rfl) (.nil))))))), ?_⟩
      refine SQ_call rfl Tryz.call77 (.cons rfl (.nil)) (CallsK.atPtA (pt_View K ⟨(s).laid, od⟩ br a c (s).ps)) (lts rfl) ?_
      rintro _ L3 ⟨rfl, hL3⟩
      refine ⟨.lands hL3 (.h (Has.ce rfl) (.h (Has.ce rfl) (.h (Has.ce rfl) (.h Has.wh (.h (Has.ce rfl) (.h (Has.ces (cs := [.pointer (some ⟨K.k.p, 0, none⟩), .int .i64 K.c.f, .int .i64 K.c.n, .int .i64 K.c.cl, .int .i64 K.c.ba, .int .i64 K.c.mo, .int .i64 K.c.bt, .int .i64 K.c.po, .int .i64 K.c.wi, .int .i64 K.me, .pointer (some ⟨K.t, 0, none⟩), .pointer (some ⟨K.sf, 0, none⟩), .pointer (some ⟨K.lp, 0, none⟩), .pointer (some ⟨K.ta, 0, none⟩), .pointer (some ⟨K.pc, 0, none⟩), .pointer (some ⟨K.po, 0, none⟩), .pointer (some ⟨K.rv.r, 0, none⟩), .int .i64 s.laid, .pointer (none), .pointer (none), .pointer (br), .slice a od.length c]) fun j v h => by rcases j with _ | _ | _ | _ | _ | _ | _ | _ | j <;> simp [CfgD.cells] at h ⊢ <;> exact h) (.h (Has.ce rfl) (.nil)))))))), ?_⟩
      refine SQ.lands hL3 ?_
      refine SQ_call rfl Tryz.call86 (.cons rfl (.cons rfl (.cons rfl (.cons rfl (.cons rfl (.cons rfl (.cons rfl (.cons rfl (.nil))))))))) (prop_Make_no K.k.p K.c K.me s.ps.view (⟨s.hv, s.hb, ⟨qa, s.hby.length, qc, s.hby⟩⟩ : QcD) K.t K.lp K.po hld) (lts rfl) ?_
      rintro _ L4 ⟨rfl, hL4⟩
      refine ⟨.lands hL4 (.w rfl (.w rfl (.w rfl (.w rfl (.w rfl (.w rfl (.w rfl (.nil)))))))), ?_⟩
      refine SQ.lands hL4 ?_
      iterate 3 refine Wq ?_
      exact K2 (b3) _ _ _ (.cons rfl (.cons rfl (.cons rfl (.cons rfl (.cons rfl (.cons rfl (.cons rfl (.cons rfl (.cons rfl (.cons rfl (.cons rfl (.cons rfl (.nil))))))))))))) (.fin) (.cons (Has.ce rfl) (.cons (Has.ce rfl) (.cons (Has.ce rfl) (.cons Has.wh (.cons (Has.ce rfl) (.cons (Has.ces (cs := [.pointer (some ⟨K.k.p, 0, none⟩), .int .i64 K.c.f, .int .i64 K.c.n, .int .i64 K.c.cl, .int .i64 K.c.ba, .int .i64 K.c.mo, .int .i64 K.c.bt, .int .i64 K.c.po, .int .i64 K.c.wi, .int .i64 K.me, .pointer (some ⟨K.t, 0, none⟩), .pointer (some ⟨K.sf, 0, none⟩), .pointer (some ⟨K.lp, 0, none⟩), .pointer (some ⟨K.ta, 0, none⟩), .pointer (some ⟨K.pc, 0, none⟩), .pointer (some ⟨K.po, 0, none⟩), .pointer (some ⟨K.rv.r, 0, none⟩), .int .i64 s.laid, .pointer (none), .pointer (none), .pointer (br), .slice a od.length c]) fun j v h => by rcases j with _ | _ | _ | _ | _ | _ | _ | _ | j <;> simp [CfgD.cells] at h ⊢ <;> exact h) (.cons (Has.ce rfl) (.nil))))))))

theorem lay_yes {W : World} {F : List HProp} [Abs F] (K : NK) (hK : K.Ok) (s : NS) (od : List MsgD) (A : Arc) (g : GS) (ho : Out A od s.out) (hy : s.hby.length ≤ 200) (h : ¬ s.ps.view ≤ s.laid) (hld : K.c.lead s.ps.view = K.me) (E r : List EnvD) (hE : skipE s.ts s.tip 100 s.hb = some E) (hr : batchL K.c.bt.toNat (s.pool.filter fun e => !skipC g.N (sortS (numsC g.N E)) e) = some r) (hc : layG K.me g s E r = true) :
    CallsK W Tryz.prog 61 #[.pointer (some ⟨K.p, 0, none⟩)] (At nodI K (s, od) :: At wnI K.k g :: At arcI () A :: F) (fun _ L => ∃ od' A', A.le A' ∧ Out A' od' ((allP K.c K.me { s with laid := s.ps.view } (.blk 0 0 (layB K.c K.me s r)))).out ∧ Lands L (At nodI K ((allP K.c K.me { s with laid := s.ps.view } (.blk 0 0 (layB K.c K.me s r))), od') :: At wnI K.k ⟨leadLC g.N (layB K.c K.me s r), addTo g.S K.me (leadDC g.N (layB K.c K.me s r) : Nat), g.V⟩ :: At arcI () A' :: F)) := by
  refine CallsK_enter (n := 78) Tryz.func61 rfl rfl rfl ?_
  have hfit : (layB K.c K.me s r).Fits := layB_fits hr hc
  have hol : s.out.length ≤ 5000 := by
    unfold layG at hc
    simp only [Bool.and_eq_true, decide_eq_true_eq] at hc
    exact hc.2.1
  refine Ws ?_
  refine SC.opn (open_nod (K := K) (y := (s, od))) fun _ _ => ?_
  dsimp only
  refine SC.opn (open_hd (K := K)) fun ⟨br, a, c⟩ _ => ?_
  dsimp only
  iterate 5 refine Ws ?_
  refine We (CallsK.at (sf_High K.sf ⟨K.t, s.hv, s.hb, s.hby, s.lock, s.last⟩ (by show s.hby.length ≤ _; omega))) ?_
  rintro _ L1 ⟨qa, qc, rfl, hL1⟩
  refine SR.lands hL1 ?_
  refine Wa fun b2 => ?_
  refine SR_ox0 (OX_stA (vs := (⟨s.hv, s.hb, ⟨qa, s.hby.length, qc, s.hby⟩⟩ : QcD).cells) Tryz.sizeOf39 rfl rfl rfl rfl) ?_
  rintro _ _ rfl
  iterate 4 refine Ws ?_
  refine Wd [.r 0, .r 1, .r 2, .r 3, .r 4, .e 5, .r 6, .r 7, .r 8, .r 9, .r 10, .r 11, .r 12, .r 13, .r 14, .r 15, .r 16, .r 17, .r 18, .r 19, .r 20, .r 21, .r 22, .r 23, .r 24, .r 25] ?_
  iterate 5 refine Wq ?_
  refine SQ_call rfl Tryz.call77 (.cons rfl (.nil)) (CallsK.atPtA (pt_View K ⟨(s).laid, od⟩ br a c (s).ps)) (lts rfl) ?_
  rintro _ L2 ⟨rfl, hL2⟩
  refine ⟨.lands hL2 (.h (Has.ce rfl) (.nil)), ?_⟩
  refine SQ.lands hL2 ?_
  iterate 2 refine Wq ?_
  refine SQ_pyes rfl rfl rfl (decide_eq_false h) (RD_move rfl) rfl ?_
  first
    | refine SQ_pyes rfl rfl rfl (decide_eq_false h) (RD_nilCheck rfl) rfl ?_
    | refine SQ_pyes rfl rfl rfl (decide_eq_false h) (RD_nilCheckF rfl) rfl ?_
  first
    | refine SQ_pyes rfl rfl rfl (decide_eq_false h) (RD_fieldAddr 19 Tryz.runUnderlying91 rfl rfl Tryz.sizeOf88 rfl) rfl ?_
    | refine SQ_yes rfl rfl rfl (decide_eq_false h) (RD_fieldAddrO 19 Tryz.runUnderlying91 rfl rfl Tryz.sizeOf88 rfl (by simp <;> omega)) Has.ro rfl ?_
  refine SQ_yes rfl rfl rfl (decide_eq_false h) (RD_load Tryz.isAgg88 rfl) (Has.ce rfl) rfl ?_
  refine SQ_pyes rfl rfl rfl (decide_eq_false h) (RD_neqP Tryz.underlying88 rfl rfl) rfl ?_
  refine SQ_pyes rfl rfl rfl (decide_eq_false h) (RD_move rfl) rfl ?_
  refine SQ_no rfl rfl rfl (rfl) (lts rfl) ?_
  refine SQ_no rfl rfl rfl (rfl) (lts rfl) ?_
  refine SQ_no rfl rfl rfl (rfl) (lts rfl) ?_
  refine SQ_no rfl rfl rfl (rfl) (lts rfl) ?_
  refine SQ_no rfl rfl rfl (rfl) (lts rfl) ?_
  refine SQ_no rfl rfl rfl (rfl) (lts rfl) ?_
  refine SQ_no rfl rfl rfl (rfl) (lts rfl) ?_
  refine SQ_no rfl rfl rfl (rfl) (lts rfl) ?_
  refine SQ_no rfl rfl rfl (rfl) (lts rfl) ?_
  refine SQ_no rfl rfl rfl (rfl) (lts rfl) ?_
  refine SQ_pyes rfl rfl rfl (decide_eq_false h) (RD_pick_f rfl (rfl) rfl) rfl ?_
  refine SQ_pu rfl (RD_pick_f rfl (decide_eq_false h) rfl) rfl ?_
  iterate 2 refine Ws ?_
  refine SC_cond_false rfl (rfl) ?_
  iterate 3 refine Ws ?_
  refine SC_drawn (.cons 0 true (.cons 1 true (.cons 2 true (.cons 3 true (.cons 4 true (.cons 5 true (.cons 6 true (.cons 7 true (.cons 8 true (.cons 9 true (.cons 10 true (.cons 11 true (.cons 12 true (.cons 14 true (.cons 15 true (.cons 16 true (.cons 17 true (.cons 18 true (.cons 19 true (.cons 20 true (.cons 21 true (.cons 22 true (.cons 23 true (.cons 24 true (.cons 25 true (.cons 26 true (.alts [13, 31] (fun i => bif Nat.beq i 13 then (.alts [27, 31] (fun i => bif Nat.beq i 27 then (.cons 28 true (.cons 29 true (.cons 30 true (.cons 31 false (.goto [true, true, true, true, true, true, true, true, true, true, true, true, true, true, true, true, true, true, true, true, true, true, true, true, true, true, true, true, true, true, true, true, false, false] 2))))) else (.cons 27 false (.cons 28 true (.cons 29 true (.cons 30 true (.goto [true, true, true, true, true, true, true, true, true, true, true, true, true, true, true, true, true, true, true, true, true, true, true, true, true, true, true, true, true, true, true, true, false, false] 2))))))) else (.cons 13 false (.cons 27 false (.cons 28 true (.cons 29 true (.cons 30 true (.goto [true, true, true, true, true, true, true, true, true, true, true, true, true, true, true, true, true, true, true, true, true, true, true, true, true, true, true, true, true, true, true, true, false, false] 2)))))))))))))))))))))))))))))))))) (by kernel_rfl) (by kernel_rfl) ?_
  iterate 7 refine Wq ?_
  refine SQ_rd rfl (RD_loadA (vs := K.c.cells) Tryz.isAgg23 Tryz.sizeOf23 rfl rfl) (Has.ces (cs := [.pointer (some ⟨K.k.p, 0, none⟩), .int .i64 K.c.f, .int .i64 K.c.n, .int .i64 K.c.cl, .int .i64 K.c.ba, .int .i64 K.c.mo, .int .i64 K.c.bt, .int .i64 K.c.po, .int .i64 K.c.wi, .int .i64 K.me, .pointer (some ⟨K.t, 0, none⟩), .pointer (some ⟨K.sf, 0, none⟩), .pointer (some ⟨K.lp, 0, none⟩), .pointer (some ⟨K.ta, 0, none⟩), .pointer (some ⟨K.pc, 0, none⟩), .pointer (some ⟨K.po, 0, none⟩), .pointer (some ⟨K.rv.r, 0, none⟩), .int .i64 s.laid, .pointer (none), .pointer (none), .pointer (br), .slice a od.length c]) fun j v h => by rcases j with _ | _ | _ | _ | _ | _ | _ | _ | j <;> simp [CfgD.cells] at h ⊢ <;> exact h) rfl ?_
  iterate 5 refine Wq ?_
  refine SQ_rd rfl (RD_loadA (vs := (⟨s.hv, s.hb, ⟨qa, s.hby.length, qc, s.hby⟩⟩ : QcD).cells) Tryz.isAgg39 Tryz.sizeOf39 rfl rfl) Has.wh rfl ?_
  iterate 12 refine Wq ?_
  refine SQ.le (l := [(0, _), (40, _), (44, _), (48, _), (49, _), (51, _), (55, _), (59, _), (63, _)]) ?_ (.cons rfl (.cons rfl (.cons rfl (.cons rfl (.cons rfl (.cons rfl (.cons rfl (.cons rfl (.cons rfl (.nil))))))))))
  refine SQ_join (X := {x : BlkD × Nat // x.1.pure = (layB K.c K.me s r) ∧ x.1.Fit}) (.cons 32 false (.cons 33 true (.nil))) [true, true, true, true, true, true, true, true, true, true, true, true, true, true, true, true, true, true, true, true, true, true, true, true, true, true, true, true, true, true, true, true, false, false] 2 (by kernel_rfl) (fun x => [(3, .pointer (some ⟨x.1.2, 0, none⟩)), (65, x.1.1.val), (66, .bool true)]) (fun x => pt x.1.2 (.cells [.int .i64 0, .int .i64 0, .int .i64 0, .int .i64 0, .slice none 0 0, .slice none 0 0].toArray 146) :: rowP 3 1 x.1.1.by_.a x.1.1.by_.n x.1.1.by_.c (x.1.1.by_.l.map intV) :: rowP 43 4 x.1.1.envs.a x.1.1.envs.n x.1.1.envs.c (x.1.1.envs.l.flatMap EnvD.cells) :: pt b2 (.cells (⟨s.hv, s.hb, ⟨qa, s.hby.length, qc, s.hby⟩⟩ : QcD).cells.toArray 39) :: rowP 3 1 qa s.hby.length qc (s.hby.map intV) :: pt K.p (.cells ([.pointer (some ⟨K.k.p, 0, none⟩), .int .i64 K.c.f, .int .i64 K.c.n, .int .i64 K.c.cl, .int .i64 K.c.ba, .int .i64 K.c.mo, .int .i64 K.c.bt, .int .i64 K.c.po, .int .i64 K.c.wi, .int .i64 K.me, .pointer (some ⟨K.t, 0, none⟩), .pointer (some ⟨K.sf, 0, none⟩), .pointer (some ⟨K.lp, 0, none⟩), .pointer (some ⟨K.ta, 0, none⟩), .pointer (some ⟨K.pc, 0, none⟩), .pointer (some ⟨K.po, 0, none⟩), .pointer (some ⟨K.rv.r, 0, none⟩), .int .i64 s.laid, .pointer (none), .pointer (none), .pointer (br), .slice a od.length c]).toArray 91) :: rowP 46 19 a od.length c (od.flatMap MsgD.cells) :: At treeI K.t ⟨K.k.p, s.root, s.T⟩ :: At sfI K.sf ⟨K.t, s.hv, s.hb, s.hby, s.lock, s.last⟩ :: At logI K.lp ⟨K.k.p, K.t, s.tip, s.lg, s.ks⟩ :: At talI K.ta ⟨K.k.p, K.c, s.m⟩ :: At paceI K.pc s.ps :: At poolI K.po ⟨K.k.p, min (max K.c.po 0) 1000, s.pool⟩ :: At revI K.rv ⟨s.rl, s.rn, s.led⟩ :: At wnI K.k ⟨leadLC g.N (layB K.c K.me s r), addTo g.S K.me (leadDC g.N (layB K.c K.me s r) : Nat), g.V⟩ :: At arcI () A :: F) (fun x => rowP 3 1 x.1.1.by_.a x.1.1.by_.n x.1.1.by_.c (x.1.1.by_.l.map intV) :: rowP 43 4 x.1.1.envs.a x.1.1.envs.n x.1.1.envs.c (x.1.1.envs.l.flatMap EnvD.cells) :: pt b2 (.cells (⟨s.hv, s.hb, ⟨qa, s.hby.length, qc, s.hby⟩⟩ : QcD).cells.toArray 39) :: rowP 3 1 qa s.hby.length qc (s.hby.map intV) :: pt K.p (.cells ([.pointer (some ⟨K.k.p, 0, none⟩), .int .i64 K.c.f, .int .i64 K.c.n, .int .i64 K.c.cl, .int .i64 K.c.ba, .int .i64 K.c.mo, .int .i64 K.c.bt, .int .i64 K.c.po, .int .i64 K.c.wi, .int .i64 K.me, .pointer (some ⟨K.t, 0, none⟩), .pointer (some ⟨K.sf, 0, none⟩), .pointer (some ⟨K.lp, 0, none⟩), .pointer (some ⟨K.ta, 0, none⟩), .pointer (some ⟨K.pc, 0, none⟩), .pointer (some ⟨K.po, 0, none⟩), .pointer (some ⟨K.rv.r, 0, none⟩), .int .i64 s.laid, .pointer (none), .pointer (none), .pointer (br), .slice a od.length c]).toArray 91) :: rowP 46 19 a od.length c (od.flatMap MsgD.cells) :: At treeI K.t ⟨K.k.p, s.root, s.T⟩ :: At sfI K.sf ⟨K.t, s.hv, s.hb, s.hby, s.lock, s.last⟩ :: At logI K.lp ⟨K.k.p, K.t, s.tip, s.lg, s.ks⟩ :: At talI K.ta ⟨K.k.p, K.c, s.m⟩ :: At paceI K.pc s.ps :: At poolI K.po ⟨K.k.p, min (max K.c.po 0) 1000, s.pool⟩ :: At revI K.rv ⟨s.rl, s.rn, s.led⟩ :: At wnI K.k ⟨leadLC g.N (layB K.c K.me s r), addTo g.S K.me (leadDC g.N (layB K.c K.me s r) : Nat), g.V⟩ :: At arcI () A :: F) (fun ⟨⟨b', y⟩, hbp, hbf⟩ T2 hT2 => ?_) (fun K2 => ?_)
  · refine SQ.le (l := [(3, _), (65, _), (66, _), (0, _), (40, _), (44, _), (48, _), (49, _), (51, _), (55, _), (59, _), (63, _)]) ?_ (.cons rfl (.cons rfl (.cons rfl (.cons rfl (.cons rfl (.cons rfl (.cons rfl (.cons rfl (.cons rfl (.cons rfl (.cons rfl (.cons rfl (.nil)))))))))))))
    dsimp only at hbp hbf ⊢
    refine SQ_ox0 rfl (OX_stA (vs := b'.cells) Tryz.sizeOf146 rfl rfl rfl rfl) ?_
    rintro _ _ rfl
    refine ⟨Keeps.lands .fin (Keeps.all hT2), ?_⟩
    refine Wq ?_
    iterate 7 refine Ws ?_
    refine SC_cond_true rfl (rfl) ?_
    iterate 4 refine Ws ?_
    refine Wc (CallsK.atPtA (pt_View K ⟨(s).laid, od⟩ br a c (s).ps)) ?_
    iterate 7 refine Ws ?_
    refine SR_rd (RD_loadA (vs := b'.cells) Tryz.isAgg146 Tryz.sizeOf146 rfl rfl) Has.wh rfl ?_
    refine SR_ox (OX_lit Tryz.underlying44 Tryz.type146 rfl rfl rfl rfl (.cons rfl (.nil)) (.cons rfl rfl (.nil))) rfl ?_
    rintro _ _ ⟨b75, rfl, rfl⟩
    refine SR_pu (RD_build (.cons rfl (.cons rfl (.nil))) built46_0_8) rfl ?_
    refine SR.lands (arc_pushPt (b := b75) (cs := b'.cells ++ []) 6 1 rfl) ?_
    refine SR.lands (arc_push (a := b'.by_.a) (cs := b'.by_.l.map intV)) ?_
    refine SR.lands (arc_push (a := b'.envs.a) (cs := b'.envs.l.flatMap EnvD.cells)) ?_
    have hMB : MIs (((A.add (some ⟨b75, 0, none⟩) (b'.cells ++ [])).add b'.by_.a (b'.by_.l.map intV)).add b'.envs.a (b'.envs.l.flatMap EnvD.cells)) (mBlk 0 0 ⟨some ⟨b75, 0, none⟩, 1, 1, [b']⟩) (.blk 0 0 (layB K.c K.me s r)) := by
      have h9 := MIs.blk (A := (((A.add (some ⟨b75, 0, none⟩) (b'.cells ++ [])).add b'.by_.a (b'.by_.l.map intV)).add b'.envs.a (b'.envs.l.flatMap EnvD.cells))) (a := some ⟨b75, 0, none⟩) (c := 1) (b := b') (by rw [← List.append_nil b'.cells]; exact HasRow.arcLe (Arc.le_add.trans Arc.le_add) HasRow.ofAdd) (BArc.of hbf (by rw [hbp]; exact hfit) (HasRow.arcLe Arc.le_add HasRow.ofAdd) HasRow.ofAdd)
      rw [hbp] at h9; exact h9
    refine We (CallsK.lands (close_hd K ⟨s.ps.view, od⟩) (CallsK.at2 (hd_all K ⟨s.ps.view, od⟩ (((A.add (some ⟨b75, 0, none⟩) (b'.cells ++ [])).add b'.by_.a (b'.by_.l.map intV)).add b'.envs.a (b'.envs.l.flatMap EnvD.cells)) _ _ hMB hK.me K.c.n.toNat (by have := hK.n; omega) (by have := hK.n; omega) (by show od.length ≤ _; rw [ho.len]; omega)))) ?_
    rintro _ L5 ⟨D, A4, rfl, g4, hD, hL5⟩
    refine SR.lands hL5 ?_
    refine Ws ?_
    refine SN_stop0 rfl ?_
    exact ⟨od ++ D, A4, (Arc.le_add.trans (Arc.le_add.trans (Arc.le_add.trans g4))), (ho.le (Arc.le_add.trans (Arc.le_add.trans (Arc.le_add.trans g4)))).app hD, (close_nod K (allP K.c K.me { s with laid := s.ps.view } (.blk 0 0 (layB K.c K.me s r)), od ++ D)).trans .fin⟩
  · refine SQ_two ?_ ?_
    · refine SA_call rfl .free Tryz.call77 (.cons rfl (.nil)) (CallsK.atPtA (pt_View K ⟨(s).laid, od⟩ br a c (s).ps)) (lts rfl) ?_
      rintro _ L3 ⟨rfl, hL3⟩
      refine ⟨.lands hL3 (.h (Has.ce rfl) (.h (Has.ce rfl) (.h (Has.ce rfl) (.h Has.wh (.h (Has.ce rfl) (.h (Has.ces (cs := [.pointer (some ⟨K.k.p, 0, none⟩), .int .i64 K.c.f, .int .i64 K.c.n, .int .i64 K.c.cl, .int .i64 K.c.ba, .int .i64 K.c.mo, .int .i64 K.c.bt, .int .i64 K.c.po, .int .i64 K.c.wi, .int .i64 K.me, .pointer (some ⟨K.t, 0, none⟩), .pointer (some ⟨K.sf, 0, none⟩), .pointer (some ⟨K.lp, 0, none⟩), .pointer (some ⟨K.ta, 0, none⟩), .pointer (some ⟨K.pc, 0, none⟩), .pointer (some ⟨K.po, 0, none⟩), .pointer (some ⟨K.rv.r, 0, none⟩), .int .i64 s.laid, .pointer (none), .pointer (none), .pointer (br), .slice a od.length c]) fun j v h => by rcases j with _ | _ | _ | _ | _ | _ | _ | _ | j <;> simp [CfgD.cells] at h ⊢ <;> exact h) (.h (Has.ce rfl) (.nil)))))))), ?_⟩
      refine SQ.lands hL3 ?_
      refine SQ_two ?_ ?_
      · refine SA_call rfl .free Tryz.call86 (.cons rfl (.cons rfl (.cons rfl (.cons rfl (.cons rfl (.cons rfl (.cons rfl (.cons rfl (.nil))))))))) (CallsK.at4 (wn_Make K hK g s (⟨s.hv, s.hb, ⟨qa, s.hby.length, qc, s.hby⟩⟩ : QcD) rfl rfl (by show s.hby.length ≤ _; omega) rfl hld E r hE hr hc)) (lts rfl) ?_
        rintro _ L4 ⟨b', rfl, hbp, hbf, hL4⟩
        refine ⟨.lands hL4 (.w rfl (.w rfl (.w rfl (.w rfl (.w rfl (.w rfl (.w rfl (.nil)))))))), ?_⟩
        refine SQ.lands hL4 ?_
        iterate 3 refine Wq ?_
        refine SQ_ox rfl (OX_alloc Tryz.zeroValue146 rfl) rfl ?_
        rintro _ _ ⟨b3, rfl, rfl⟩
        refine ⟨.h (Has.ce rfl) (.h (Has.ce rfl) (.h (Has.ce rfl) (.h Has.wh (.h (Has.ce rfl) (.h (Has.ces (cs := [.pointer (some ⟨K.k.p, 0, none⟩), .int .i64 K.c.f, .int .i64 K.c.n, .int .i64 K.c.cl, .int .i64 K.c.ba, .int .i64 K.c.mo, .int .i64 K.c.bt, .int .i64 K.c.po, .int .i64 K.c.wi, .int .i64 K.me, .pointer (some ⟨K.t, 0, none⟩), .pointer (some ⟨K.sf, 0, none⟩), .pointer (some ⟨K.lp, 0, none⟩), .pointer (some ⟨K.ta, 0, none⟩), .pointer (some ⟨K.pc, 0, none⟩), .pointer (some ⟨K.po, 0, none⟩), .pointer (some ⟨K.rv.r, 0, none⟩), .int .i64 s.laid, .pointer (none), .pointer (none), .pointer (br), .slice a od.length c]) fun j v h => by rcases j with _ | _ | _ | _ | _ | _ | _ | _ | j <;> simp [CfgD.cells] at h ⊢ <;> exact h) (.h (Has.ce rfl) (.nil))))))), ?_⟩
        exact K2 (⟨(b', b3), hbp, hbf⟩) _ _ _ (.cons rfl (.cons rfl (.cons rfl (.cons rfl (.cons rfl (.cons rfl (.cons rfl (.cons rfl (.cons rfl (.cons rfl (.cons rfl (.cons rfl (.nil))))))))))))) (.fin) (.cons (Has.ce rfl) (.cons (Has.ce rfl) (.cons (Has.ce rfl) (.cons Has.wh (.cons (Has.ce rfl) (.cons (Has.ces (cs := [.pointer (some ⟨K.k.p, 0, none⟩), .int .i64 K.c.f, .int .i64 K.c.n, .int .i64 K.c.cl, .int .i64 K.c.ba, .int .i64 K.c.mo, .int .i64 K.c.bt, .int .i64 K.c.po, .int .i64 K.c.wi, .int .i64 K.me, .pointer (some ⟨K.t, 0, none⟩), .pointer (some ⟨K.sf, 0, none⟩), .pointer (some ⟨K.lp, 0, none⟩), .pointer (some ⟨K.ta, 0, none⟩), .pointer (some ⟨K.pc, 0, none⟩), .pointer (some ⟨K.po, 0, none⟩), .pointer (some ⟨K.rv.r, 0, none⟩), .int .i64 s.laid, .pointer (none), .pointer (none), .pointer (br), .slice a od.length c]) fun j v h => by rcases j with _ | _ | _ | _ | _ | _ | _ | _ | j <;> simp [CfgD.cells] at h ⊢ <;> exact h) (.cons (Has.ce rfl) (.nil))))))))
      · refine SA_ox rfl .free (OX_alloc Tryz.zeroValue146 rfl) rfl ?_
        rintro _ _ ⟨b3, rfl, rfl⟩
        refine ⟨.h (Has.ce rfl) (.h (Has.ce rfl) (.h (Has.ce rfl) (.h Has.wh (.h (Has.ce rfl) (.h (Has.ces (cs := [.pointer (some ⟨K.k.p, 0, none⟩), .int .i64 K.c.f, .int .i64 K.c.n, .int .i64 K.c.cl, .int .i64 K.c.ba, .int .i64 K.c.mo, .int .i64 K.c.bt, .int .i64 K.c.po, .int .i64 K.c.wi, .int .i64 K.me, .pointer (some ⟨K.t, 0, none⟩), .pointer (some ⟨K.sf, 0, none⟩), .pointer (some ⟨K.lp, 0, none⟩), .pointer (some ⟨K.ta, 0, none⟩), .pointer (some ⟨K.pc, 0, none⟩), .pointer (some ⟨K.po, 0, none⟩), .pointer (some ⟨K.rv.r, 0, none⟩), .int .i64 s.laid, .pointer (none), .pointer (none), .pointer (br), .slice a od.length c]) fun j v h => by rcases j with _ | _ | _ | _ | _ | _ | _ | _ | j <;> simp [CfgD.cells] at h ⊢ <;> exact h) (.h (Has.ce rfl) (.nil))))))), ?_⟩
        refine SQ_call rfl Tryz.call86 (.cons rfl (.cons rfl (.cons rfl (.cons rfl (.cons rfl (.cons rfl (.cons rfl (.cons rfl (.nil))))))))) (CallsK.at4 (wn_Make K hK g s (⟨s.hv, s.hb, ⟨qa, s.hby.length, qc, s.hby⟩⟩ : QcD) rfl rfl (by show s.hby.length ≤ _; omega) rfl hld E r hE hr hc)) (lts rfl) ?_
        rintro _ L4 ⟨b', rfl, hbp, hbf, hL4⟩
        refine ⟨.lands hL4 (.w rfl (.w rfl (.w rfl (.w rfl (.w rfl (.w rfl (.w rfl (.nil)))))))), ?_⟩
        refine SQ.lands hL4 ?_
        iterate 3 refine Wq ?_
        exact K2 (⟨(b', b3), hbp, hbf⟩) _ _ _ (.cons rfl (.cons rfl (.cons rfl (.cons rfl (.cons rfl (.cons rfl (.cons rfl (.cons rfl (.cons rfl (.cons rfl (.cons rfl (.cons rfl (.nil))))))))))))) (.fin) (.cons (Has.ce rfl) (.cons (Has.ce rfl) (.cons (Has.ce rfl) (.cons Has.wh (.cons (Has.ce rfl) (.cons (Has.ces (cs := [.pointer (some ⟨K.k.p, 0, none⟩), .int .i64 K.c.f, .int .i64 K.c.n, .int .i64 K.c.cl, .int .i64 K.c.ba, .int .i64 K.c.mo, .int .i64 K.c.bt, .int .i64 K.c.po, .int .i64 K.c.wi, .int .i64 K.me, .pointer (some ⟨K.t, 0, none⟩), .pointer (some ⟨K.sf, 0, none⟩), .pointer (some ⟨K.lp, 0, none⟩), .pointer (some ⟨K.ta, 0, none⟩), .pointer (some ⟨K.pc, 0, none⟩), .pointer (some ⟨K.po, 0, none⟩), .pointer (some ⟨K.rv.r, 0, none⟩), .int .i64 s.laid, .pointer (none), .pointer (none), .pointer (br), .slice a od.length c]) fun j v h => by rcases j with _ | _ | _ | _ | _ | _ | _ | _ | j <;> simp [CfgD.cells] at h ⊢ <;> exact h) (.cons (Has.ce rfl) (.nil))))))))
    · refine SA_ox rfl .free (OX_alloc Tryz.zeroValue146 rfl) rfl ?_
      rintro _ _ ⟨b3, rfl, rfl⟩
      refine ⟨.h (Has.ce rfl) (.h (Has.ce rfl) (.h (Has.ce rfl) (.h Has.wh (.h (Has.ce rfl) (.h (Has.ces (cs := [.pointer (some ⟨K.k.p, 0, none⟩), .int .i64 K.c.f, .int .i64 K.c.n, .int .i64 K.c.cl, .int .i64 K.c.ba, .int .i64 K.c.mo, .int .i64 K.c.bt, .int .i64 K.c.po, .int .i64 K.c.wi, .int .i64 K.me, .pointer (some ⟨K.t, 0, none⟩), .pointer (some ⟨K.sf, 0, none⟩), .pointer (some ⟨K.lp, 0, none⟩), .pointer (some ⟨K.ta, 0, none⟩), .pointer (some ⟨K.pc, 0, none⟩), .pointer (some ⟨K.po, 0, none⟩), .pointer (some ⟨K.rv.r, 0, none⟩), .int .i64 s.laid, .pointer (none), .pointer (none), .pointer (br), .slice a od.length c]) fun j v h => by rcases j with _ | _ | _ | _ | _ | _ | _ | _ | j <;> simp [CfgD.cells] at h ⊢ <;> exact h) (.h (Has.ce rfl) (.nil))))))), ?_⟩
      refine SQ_call rfl Tryz.call77 (.cons rfl (.nil)) (CallsK.atPtA (pt_View K ⟨(s).laid, od⟩ br a c (s).ps)) (lts rfl) ?_
      rintro _ L3 ⟨rfl, hL3⟩
      refine ⟨.lands hL3 (.h (Has.ce rfl) (.h (Has.ce rfl) (.h (Has.ce rfl) (.h Has.wh (.h (Has.ce rfl) (.h (Has.ces (cs := [.pointer (some ⟨K.k.p, 0, none⟩), .int .i64 K.c.f, .int .i64 K.c.n, .int .i64 K.c.cl, .int .i64 K.c.ba, .int .i64 K.c.mo, .int .i64 K.c.bt, .int .i64 K.c.po, .int .i64 K.c.wi, .int .i64 K.me, .pointer (some ⟨K.t, 0, none⟩), .pointer (some ⟨K.sf, 0, none⟩), .pointer (some ⟨K.lp, 0, none⟩), .pointer (some ⟨K.ta, 0, none⟩), .pointer (some ⟨K.pc, 0, none⟩), .pointer (some ⟨K.po, 0, none⟩), .pointer (some ⟨K.rv.r, 0, none⟩), .int .i64 s.laid, .pointer (none), .pointer (none), .pointer (br), .slice a od.length c]) fun j v h => by rcases j with _ | _ | _ | _ | _ | _ | _ | _ | j <;> simp [CfgD.cells] at h ⊢ <;> exact h) (.h (Has.ce rfl) (.nil)))))))), ?_⟩
      refine SQ.lands hL3 ?_
      refine SQ_call rfl Tryz.call86 (.cons rfl (.cons rfl (.cons rfl (.cons rfl (.cons rfl (.cons rfl (.cons rfl (.cons rfl (.nil))))))))) (CallsK.at4 (wn_Make K hK g s (⟨s.hv, s.hb, ⟨qa, s.hby.length, qc, s.hby⟩⟩ : QcD) rfl rfl (by show s.hby.length ≤ _; omega) rfl hld E r hE hr hc)) (lts rfl) ?_
      rintro _ L4 ⟨b', rfl, hbp, hbf, hL4⟩
      refine ⟨.lands hL4 (.w rfl (.w rfl (.w rfl (.w rfl (.w rfl (.w rfl (.w rfl (.nil)))))))), ?_⟩
      refine SQ.lands hL4 ?_
      iterate 3 refine Wq ?_
      exact K2 (⟨(b', b3), hbp, hbf⟩) _ _ _ (.cons rfl (.cons rfl (.cons rfl (.cons rfl (.cons rfl (.cons rfl (.cons rfl (.cons rfl (.cons rfl (.cons rfl (.cons rfl (.cons rfl (.nil))))))))))))) (.fin) (.cons (Has.ce rfl) (.cons (Has.ce rfl) (.cons (Has.ce rfl) (.cons Has.wh (.cons (Has.ce rfl) (.cons (Has.ces (cs := [.pointer (some ⟨K.k.p, 0, none⟩), .int .i64 K.c.f, .int .i64 K.c.n, .int .i64 K.c.cl, .int .i64 K.c.ba, .int .i64 K.c.mo, .int .i64 K.c.bt, .int .i64 K.c.po, .int .i64 K.c.wi, .int .i64 K.me, .pointer (some ⟨K.t, 0, none⟩), .pointer (some ⟨K.sf, 0, none⟩), .pointer (some ⟨K.lp, 0, none⟩), .pointer (some ⟨K.ta, 0, none⟩), .pointer (some ⟨K.pc, 0, none⟩), .pointer (some ⟨K.po, 0, none⟩), .pointer (some ⟨K.rv.r, 0, none⟩), .int .i64 s.laid, .pointer (none), .pointer (none), .pointer (br), .slice a od.length c]) fun j v h => by rcases j with _ | _ | _ | _ | _ | _ | _ | _ | j <;> simp [CfgD.cells] at h ⊢ <;> exact h) (.cons (Has.ce rfl) (.nil))))))))

theorem node_lay {W : World} {F : List HProp} [Abs F] (K : NK) (hK : K.Ok) (s : NS) (od : List MsgD) (A : Arc) (g : GS) (ho : Out A od s.out) (g' : GS) (s' : NS) (h : layP K.c K.me g s = some (g', s')) :
    CallsK W Tryz.prog 61 #[.pointer (some ⟨K.p, 0, none⟩)] (At nodI K (s, od) :: At wnI K.k g :: At arcI () A :: F) (fun _ L => ∃ od' A', A.le A' ∧ Out A' od' (s').out ∧ Lands L (At nodI K (s', od') :: At wnI K.k g' :: At arcI () A' :: F)) := by
  unfold layP at h
  obtain ⟨hy, h⟩ := chk_some h
  have hy := of_decide_eq_true hy
  by_cases h1 : s.ps.view ≤ s.laid
  · rw [if_pos (.inl h1)] at h
    cases h
    exact lay_laid K hK s od A g ho hy h1
  · by_cases h2 : K.c.lead s.ps.view = K.me
    · rw [if_neg (fun x => x.elim h1 (fun x => x h2))] at h
      obtain ⟨E, hE, h⟩ := obind_some h
      obtain ⟨r, hr, h⟩ := obind_some h
      obtain ⟨hc, h⟩ := chk_some h
      cases h
      exact lay_yes K hK s od A g ho hy h1 h2 E r hE hr hc
    · rw [if_pos (.inr h2)] at h
      cases h
      exact lay_not K hK s od A g ho hy h1 h2

end Go.Proofs.YtdhpjdhloaoepaaGreat

/- A replica shares what is wanted, and does what is open. -/
namespace Go.Proofs.YtdhpjdhloaoepaaGreat
open Go Go.Proofs
attribute [local irreducible] SC SN SR SQ SA SO
set_option maxRecDepth 100000
theorem rev_WantedI {W : World} {F : List HProp} [Abs F] (k : RK) (s : RvS) (w : Int) (hw : 0 ≤ w) (hb : s.l.length ≤ 1000000) : CallsK W Tryz.prog 164 #[.pointer (some ⟨k.r, 0, none⟩), .int .i64 (s.n : Nat), .int .i64 w] (At revI k s :: F) (fun u L => ∃ a c, u = .slice a (s.wanted w.toNat).length c ∧ Lands L (rowP 3 1 a (s.wanted w.toNat).length c ((s.wanted w.toNat).map intV) :: At revI k s :: F)) := by
  have h := rev_Wanted (W := W) (F := F) k s w.toNat hb
  rw [show ((w.toNat : Nat) : Int) = w by omega] at h
  exact h
theorem rev_WantedN {W : World} {F : List HProp} [Abs F] (k : RK) (c : CfgD) (s : NS) (hw : 0 ≤ c.wi) (hb : s.rl.length ≤ 1000000) : CallsK W Tryz.prog 164 #[.pointer (some ⟨k.r, 0, none⟩), .int .i64 (s.rn : Nat), .int .i64 c.wi] (At revI k ⟨s.rl, s.rn, s.led⟩ :: F) (fun u L => ∃ a c2, u = .slice a (s.want c).length c2 ∧ Lands L (rowP 3 1 a (s.want c).length c2 ((s.want c).map intV) :: At revI k ⟨s.rl, s.rn, s.led⟩ :: F)) := rev_WantedI k ⟨s.rl, s.rn, s.led⟩ c.wi hw hb
theorem wn_Step {W : World} {F : List HProp} [Abs F] (k : RK) (K : WK) (g : GS) (s : RvS) (hw : k.w = K.p) (hb : s.l.length ≤ 1000000) (hV : g.V.length ≤ 1000) (hfee : ∀ e ∈ s.l, U64 e.fee) :
    CallsK W Tryz.prog 163 #[.pointer (some ⟨k.r, 0, none⟩)] (At revI k s :: At wnI K g :: F) (fun u L => ∃ a c, u = .slice a (stepC g (s.l.drop s.n) s.g).1 c ∧ Lands L (At revI k ⟨s.l, s.n + (stepC g (s.l.drop s.n) s.g).1, (stepC g (s.l.drop s.n) s.g).2⟩ :: At wnI K g :: F)) := by
  refine CallsK.opn (open_wn (k := K) (g := g)) fun ⟨l, v⟩ ⟨f1, f2, f3, f4⟩ => ?_
  dsimp only at f1 f2 f3 f4
  refine CallsK.imp (CallsK.at3 (rev_Step K ⟨l, g.S⟩ v (wn_fit f3 f4 hV) k hw s hb (fun e _ => wn_bad f4 e) hfee)) fun u L ⟨a, c, hu, hL⟩ => ⟨a, c, by rw [hu, wn_step f2 f3], ?_⟩
  rw [wn_step f2 f3] at hL
  exact hL.trans ((close_wn K g f1 f2 f3 f4).trans .fin)
theorem shareP_app (c : CfgD) (me : Int) : ∀ (l m : List Int) (g : GS) (s : NS), shareP c me (l ++ m) g s = shareP c me m (shareP c me l g s).1 (shareP c me l g s).2
  | [], _, _, _ => rfl
  | q :: l, m, g, s => by
    simp only [List.cons_append, shareP]
    split
    · exact shareP_app c me l m _ _
    · exact shareP_app c me l m _ _
/-- What sharing leaves as it was. -/
theorem shareP_same (c : CfgD) (me : Int) : ∀ (l : List Int) (g : GS) (s : NS), (shareP c me l g s).1.V.length = g.V.length ∧ (shareP c me l g s).2 = { s with out := (shareP c me l g s).2.out } ∧ (shareP c me l g s).2.out.length ≤ s.out.length + l.length * c.n.toNat
  | [], g, s => ⟨rfl, rfl, by simp [shareP]⟩
  | q :: l, g, s => by
    unfold shareP
    split
    · obtain ⟨h1, h2, h3⟩ := shareP_same c me l g s
      exact ⟨h1, h2, by rw [List.length_cons, Nat.add_mul]; omega⟩
    · obtain ⟨h1, h2, h3⟩ := shareP_same c me l (g.share me q) (allP c me s (.share 0 0 q))
      refine ⟨h1.trans ?_, h2, ?_⟩
      · unfold GS.share; split <;> simp
      · have : (allP c me s (.share 0 0 q)).out.length = s.out.length + c.n.toNat := by simp [allP]
        rw [List.length_cons, Nat.add_mul]; omega
theorem stepC_zero (g : GS) : ∀ (r : List EnvD) (l : LdS), (stepC g r l).1 = 0 → (stepC g r l).2 = l
  | [], _, _ => rfl
  | e :: r, l, h => by
    unfold stepC at h ⊢
    split
    · rename_i h2; rw [if_pos h2] at h; simp at h
    · rfl
theorem want_len (c : CfgD) (s : NS) : (s.want c).length ≤ c.wi.toNat := by unfold NS.want; rw [List.length_map, List.length_take]; omega

theorem node_open {W : World} {F : List HProp} [Abs F] (K : NK) (hK : K.Ok) (s : NS) (od : List MsgD) (A : Arc) (g : GS) (ho : Out A od s.out) (n : Nat) (g' : GS) (s' : NS) (h : openP K.c K.me n g s = some (g', s')) :
    CallsK W Tryz.prog 119 #[.pointer (some ⟨K.p, 0, none⟩)] (At nodI K (s, od) :: At wnI K.k g :: At arcI () A :: F) (fun _ L => ∃ od' A', A.le A' ∧ Out A' od' (s').out ∧ Lands L (At nodI K (s', od') :: At wnI K.k g' :: At arcI () A' :: F)) := by
  refine CallsK_enter (n := 61) Tryz.func119 rfl rfl rfl ?_
  iterate 6 refine Ws ?_
  refine SC_ind (X := Bool × Nat × GS × NS × List MsgD × Arc) (fun x => (x.1 = true → openP K.c K.me x.2.1 x.2.2.1 x.2.2.2.1 = some (g', s')) ∧ (x.1 = false → x.2.2.1 = g' ∧ x.2.2.2.1 = s') ∧ A.le x.2.2.2.2.2 ∧ Out x.2.2.2.2.2 x.2.2.2.2.1 x.2.2.2.1.out) (fun x => (bif x.1 then x.2.1 + 1 else 0)) (fun x => [(0, .pointer (some ⟨K.p, 0, none⟩)), (2, .bool x.1)]) (fun x => At nodI K (x.2.2.2.1, x.2.2.2.2.1) :: At wnI K.k x.2.2.1 :: At arcI () x.2.2.2.2.2 :: F) ((true, n, g, s, od, A)) (⟨fun _ => h, fun e => (nomatch e), Arc.le.rfl, ho⟩) (.cons rfl (.cons rfl (.nil))) (.fin) ?_
  intro ⟨more, n, g, s, od, A2⟩ hi ih0
  clear ho h
  obtain ⟨hi1, hi2, hi3, ho⟩ := hi
  dsimp only at hi1 hi2 hi3 ho ih0 ⊢
  iterate 6 refine Ws ?_
  cases more
  case false =>
    refine SC_cond_false rfl rfl ?_
    obtain ⟨e1, e2⟩ := hi2 rfl
    subst e1; subst e2
    refine Ws ?_
    refine SN_stop0 rfl ?_
    exact ⟨od, A2, hi3, ho, .fin⟩
  case true =>
    refine SC_cond_true rfl rfl ?_
    have hi1 := hi1 rfl
    obtain ⟨m, rfl⟩ : ∃ m, n = m + 1 := by
      cases n with
      | zero => cases hi1
      | succ m => exact ⟨m, rfl⟩
    unfold openP at hi1
    obtain ⟨hc, hi1⟩ := chk_some hi1
    simp only [Bool.and_eq_true, decide_eq_true_eq, List.all_eq_true] at hc
    obtain ⟨q1, q2, q3, q4, q5⟩ := hc
    have hV := (GS.ok_1 q1).2
    have hwl := want_len K.c s
    have hwi := hK.wi
    have hkn := hK.n
    refine SC.opn (open_nod (K := K) (y := (s, od))) fun _ _ => ?_
    dsimp only
    refine SC.opn (open_hd (K := K)) fun ⟨br, a, c⟩ _ => ?_
    dsimp only
    iterate 5 refine Ws ?_
    refine Wd [.r 0, .r 1, .r 2, .r 3, .r 4, .r 5, .r 6, .r 7, .r 9, .r 10, .r 11, .r 12, .r 13, .r 16, .e 8, .e 14, .r 15] ?_
    iterate 14 refine Wq ?_
    refine SQ_call rfl Tryz.call18 (.cons rfl (.nil)) (CallsK.at (rev_Cursor K.rv ⟨s.rl, s.rn, s.led⟩)) (lts rfl) ?_
    rintro _ L1 ⟨rfl, hL1⟩
    refine ⟨.lands hL1 (.h (Has.ce rfl) (.w rfl (.h (Has.ce rfl) (.nil)))), ?_⟩
    refine SQ.lands hL1 ?_
    refine SQ_call rfl Tryz.call164 (.cons rfl (.cons rfl (.cons rfl (.nil)))) (CallsK.at (rev_WantedN K.rv K.c s hwi.1 (by omega))) (lts rfl) ?_
    rintro _ L2 ⟨wa, wc, rfl, hL2⟩
    refine ⟨.lands hL2 (.w rfl (.h (Has.ce rfl) (.w rfl (.nil)))), ?_⟩
    refine SQ.lands hL2 ?_
    refine Wq ?_
    iterate 3 refine Ws ?_
    refine SC_ind (X := Nat × List MsgD × Arc) (fun x => x.1 ≤ (s.want K.c).length ∧ A2.le x.2.2 ∧ Out x.2.2 x.2.1 (shareP K.c K.me ((s.want K.c).take x.1) g s).2.out) (fun x => (s.want K.c).length - x.1) (fun x => [(0, .pointer (some ⟨K.p, 0, none⟩)), (27, .slice wa (s.want K.c).length wc), (28, .int .i64 ((s.want K.c).length : Nat)), (29, .int .i64 (x.1 : Nat))]) (fun x => At hdI K ⟨s.laid, x.2.1⟩ :: At treeI K.t ⟨K.k.p, s.root, s.T⟩ :: At sfI K.sf ⟨K.t, s.hv, s.hb, s.hby, s.lock, s.last⟩ :: At logI K.lp ⟨K.k.p, K.t, s.tip, s.lg, s.ks⟩ :: At talI K.ta ⟨K.k.p, K.c, s.m⟩ :: At paceI K.pc s.ps :: At poolI K.po ⟨K.k.p, min (max K.c.po 0) 1000, s.pool⟩ :: At revI K.rv ⟨s.rl, s.rn, s.led⟩ :: At wnI K.k (shareP K.c K.me ((s.want K.c).take x.1) g s).1 :: At arcI () x.2.2 :: rowP 3 1 wa (s.want K.c).length wc ((s.want K.c).map intV) :: F) ((0, od, A2)) (⟨Nat.zero_le _, Arc.le.rfl, ho⟩) (.cons rfl (.cons rfl (.cons rfl (.cons rfl (.nil))))) (by simp only [List.take_zero, shareP]; exact (close_hd K ⟨s.laid, od⟩).trans .fin) ?_
    intro ⟨i, od2, A3⟩ hi ih1
    obtain ⟨hj1, hj2, hj3⟩ := hi
    dsimp only at hj1 hj2 hj3 ih1 ⊢
    iterate 6 refine Ws ?_
    refine SC_cond rfl (fun hc30 => ?_) (fun hc30 => ?_)
    · have hin : i < (s.want K.c).length := by have := of_decide_eq_true hc30; omega
      obtain ⟨w, hwq⟩ : ∃ w, (s.want K.c)[i]? = some w := ⟨_, List.getElem?_eq_getElem hin⟩
      have hwI := i64B_ok (q3 w (List.mem_of_getElem? hwq))
      have htk : (shareP K.c K.me ((s.want K.c).take (i + 1)) g s) = shareP K.c K.me [w] (shareP K.c K.me ((s.want K.c).take i) g s).1 (shareP K.c K.me ((s.want K.c).take i) g s).2 := by rw [List.take_add_one, hwq, shareP_app]; rfl
      obtain ⟨hs1, hs2, hs3⟩ := shareP_same K.c K.me ((s.want K.c).take i) g s
      have hs4 : od2.length ≤ 10000 := by
        rw [hj3.len]
        have h8 : ((s.want K.c).take i).length * K.c.n.toNat ≤ 100 * 16 := Nat.mul_le_mul (by rw [List.length_take]; omega) (by omega)
        omega
      have hV3 : (shareP K.c K.me ((s.want K.c).take i) g s).1.V.length ≤ 1000 := by rw [hs1]; exact hV
      refine SC.opn (open_hd (K := K)) fun ⟨br, a, c⟩ _ => ?_
      dsimp only
      iterate 6 refine Ws ?_
      refine SR_rd (RD_ixO (cs := (s.want K.c).map intV) Tryz.runUnderlying37 Tryz.sizeOf3 rfl rfl (by simp) (by omega) (by omega)) Has.ro rfl ?_
      refine SR_rd (RD_loadO (v := .int .i64 w) (cs := (s.want K.c).map intV) Tryz.isAgg3 rfl (by simp [hwq, intV])) Has.ro rfl ?_
      iterate 4 refine Ws ?_
      refine Wd [.r 0, .r 1, .r 2, .r 3, .r 5, .r 6, .r 7, .r 8, .r 9, .e 4, .e 10, .r 11] ?_
      iterate 9 refine Wq ?_
      refine SQ_call rfl Tryz.call16 (.cons rfl (.nil)) (CallsK.at (wn_Vault K.k (shareP K.c K.me ((s.want K.c).take i) g s).1)) (lts rfl) ?_
      rintro _ L3 ⟨rfl, hL3⟩
      refine ⟨.lands hL3 (.h (Has.ce rfl) (.w rfl (.nil))), ?_⟩
      refine SQ.lands hL3 ?_
      refine SQ_call rfl Tryz.call17 (.cons rfl (.cons rfl (.cons rfl (.nil)))) (CallsK.at (wn_Shared K.k (shareP K.c K.me ((s.want K.c).take i) g s).1 K.me w hV3)) (lts rfl) ?_
      rintro _ L4 ⟨rfl, hL4⟩
      refine ⟨.lands hL4 (.w rfl (.h (Has.ce rfl) (.nil))), ?_⟩
      refine SQ.lands hL4 ?_
      refine Wq ?_
      iterate 2 refine Ws ?_
      refine SC_cond rfl (fun hc44 => ?_) (fun hc44 => ?_)
      · have hsh : (shareP K.c K.me ((s.want K.c).take i) g s).1.shared K.me w = false := by simpa using hc44
        have htk2 : (shareP K.c K.me ((s.want K.c).take (i + 1)) g s) = ((shareP K.c K.me ((s.want K.c).take i) g s).1.share K.me w, allP K.c K.me (shareP K.c K.me ((s.want K.c).take i) g s).2 (.share 0 0 w)) := by rw [htk]; simp only [shareP, hsh, Bool.false_eq_true, if_false]
        refine Ws ?_
        refine Wd [.r 0, .r 1, .r 2, .r 3, .r 5, .r 6, .r 7, .r 8, .r 9, .e 4, .e 10] ?_
        iterate 9 refine Wq ?_
        refine SQ_call rfl Tryz.call16 (.cons rfl (.nil)) (CallsK.at (wn_Vault K.k (shareP K.c K.me ((s.want K.c).take i) g s).1)) (lts rfl) ?_
        rintro _ L3 ⟨rfl, hL3⟩
        refine ⟨.lands hL3 (.h (Has.ce rfl) (.w rfl (.nil))), ?_⟩
        refine SQ.lands hL3 ?_
        refine SQ_call rfl Tryz.call130 (.cons rfl (.cons rfl (.cons rfl (.nil)))) (CallsK.at (wn_Share K.k (shareP K.c K.me ((s.want K.c).take i) g s).1 K.me w hV3)) (lts rfl) ?_
        rintro _ L5 ⟨rfl, hL5⟩
        refine ⟨.lands hL5 (.w rfl (.h (Has.ce rfl) (.nil))), ?_⟩
        refine SQ.lands hL5 ?_
        iterate 5 refine Ws ?_
        refine SR_pu (RD_build (.cons rfl (.cons rfl (.nil))) built46_0_4) rfl ?_
        refine We (CallsK.lands (close_hd K ⟨s.laid, od2⟩) (CallsK.at2 (hd_all K ⟨s.laid, od2⟩ A3 (mShare 0 0 w) (.share 0 0 w) (MIs.share hwI) hK.me K.c.n.toNat (by omega) (by omega) hs4))) ?_
        rintro _ L6 ⟨D, A4, rfl, g4, hD, hL6⟩
        refine SR.lands hL6 ?_
        iterate 7 refine Ws ?_
        refine SC_again (ih1 ((i + 1, od2 ++ D, A4)) (⟨by dsimp only; omega, hj2.trans g4, by dsimp only; rw [htk2]; exact (hj3.le g4).app hD⟩) (by dsimp only; omega)) (by dsimp only; rw [htk2]; exact .fin) (.cons rfl (.cons rfl (.cons rfl (.cons' rfl (ie (by dsimp only; omega)) (.nil)))))
      · have hsh : (shareP K.c K.me ((s.want K.c).take i) g s).1.shared K.me w = true := by simpa using hc44
        have htk2 : (shareP K.c K.me ((s.want K.c).take (i + 1)) g s) = (shareP K.c K.me ((s.want K.c).take i) g s) := by rw [htk]; simp only [shareP, hsh, if_true]
        iterate 7 refine Ws ?_
        refine SC_again (ih1 ((i + 1, od2, A3)) (⟨by dsimp only; omega, hj2, by dsimp only; rw [htk2]; exact hj3⟩) (by dsimp only; omega)) (by dsimp only; rw [htk2]; exact (close_hd K ⟨s.laid, od2⟩).trans .fin) (.cons rfl (.cons rfl (.cons rfl (.cons' rfl (ie (by dsimp only; omega)) (.nil)))))
    · have hin : i = (s.want K.c).length := by have := of_decide_eq_false hc30; omega
      subst hin
      rw [List.take_length] at hj3 ⊢
      obtain ⟨hs1, hs2, hs3⟩ := shareP_same K.c K.me (s.want K.c) g s
      refine SC.opn (open_hd (K := K)) fun ⟨br, a, c⟩ _ => ?_
      dsimp only
      iterate 8 refine Ws ?_
      refine We (CallsK.at2 (wn_Step K.rv K.k (shareP K.c K.me (s.want K.c) g s).1 ⟨s.rl, s.rn, s.led⟩ hK.rv (by show s.rl.length ≤ _; omega) (by rw [hs1]; exact hV) (fun e he => u64B_ok (q5 e he)))) ?_
      rintro _ L7 ⟨sa, sc, rfl, hL7⟩
      refine SR.lands hL7 ?_
      iterate 4 refine Ws ?_
      obtain ⟨s3, hs3e⟩ : ∃ s3 : NS, s3 = { s with out := (shareP K.c K.me (s.want K.c) g s).2.out, rn := s.rn + (stepC (shareP K.c K.me (s.want K.c) g s).1 (s.rl.drop s.rn) s.led).1, led := (stepC (shareP K.c K.me (s.want K.c) g s).1 (s.rl.drop s.rn) s.led).2 } := ⟨_, rfl⟩
      have e3 : ({ (shareP K.c K.me (s.want K.c) g s).2 with rn := s.rn + (stepC (shareP K.c K.me (s.want K.c) g s).1 (s.rl.drop s.rn) s.led).1, led := (stepC (shareP K.c K.me (s.want K.c) g s).1 (s.rl.drop s.rn) s.led).2 } : NS) = s3 := by rw [hs3e]; conv => { lhs; rw [hs2] }
      have hT : (((stepC (shareP K.c K.me (s.want K.c) g s).1 (s.rl.drop s.rn) s.led).1 : Nat) : Int) > 0 → openP K.c K.me m (shareP K.c K.me (s.want K.c) g s).1 s3 = some (g', s') := fun e => by
        rw [if_neg (by omega), e3] at hi1
        exact hi1
      have hF : ¬ (((stepC (shareP K.c K.me (s.want K.c) g s).1 (s.rl.drop s.rn) s.led).1 : Nat) : Int) > 0 → (shareP K.c K.me (s.want K.c) g s).1 = g' ∧ s3 = s' := fun e => by
        have e0 : (stepC (shareP K.c K.me (s.want K.c) g s).1 (s.rl.drop s.rn) s.led).1 = 0 := by omega
        rw [if_pos e0] at hi1
        have e4 : s3 = (shareP K.c K.me (s.want K.c) g s).2 := by rw [hs3e, e0, stepC_zero _ _ _ e0]; conv => { rhs; rw [hs2] }; rfl
        rw [e4, Option.some.inj hi1]
        exact ⟨rfl, rfl⟩
      have eT : s3.T = s.T ∧ s3.root = s.root := by rw [hs3e]; exact ⟨rfl, rfl⟩
      refine SC_again (ih0 ((decide ((((stepC (shareP K.c K.me (s.want K.c) g s).1 (s.rl.drop s.rn) s.led).1 : Nat) : Int) > 0), m, (shareP K.c K.me (s.want K.c) g s).1, s3, od2, A3)) (⟨fun e => hT (of_decide_eq_true e), fun e => hF (of_decide_eq_false e), hi3.trans hj2, by dsimp only; rw [hs3e]; exact hj3⟩) (by dsimp only; cases decide ((((stepC (shareP K.c K.me (s.want K.c) g s).1 (s.rl.drop s.rn) s.led).1 : Nat) : Int) > 0) <;> simp)) (by subst hs3e; exact (close_hd K ⟨s.laid, od2⟩).trans ((close_nod K ({ s with out := (shareP K.c K.me (s.want K.c) g s).2.out, rn := s.rn + (stepC (shareP K.c K.me (s.want K.c) g s).1 (s.rl.drop s.rn) s.led).1, led := (stepC (shareP K.c K.me (s.want K.c) g s).1 (s.rl.drop s.rn) s.led).2 }, od2)).trans .fin)) (.cons rfl (.cons rfl (.nil)))

end Go.Proofs.YtdhpjdhloaoepaaGreat

/- A replica fixes a block. -/
namespace Go.Proofs.YtdhpjdhloaoepaaGreat
open Go Go.Proofs
attribute [local irreducible] SC SN SR SQ SA SO
set_option maxRecDepth 100000
theorem SR.row_len {W : World} {P : Program} {L R : List HProp} {n : Nat} {ops : Array Oper} {os : List Oper} {k : Kont} {l : Env} {E z m c2 : Nat} {a : Option Addr} {cs : List Value} [t : TakeRow L a E z m c2 cs R] (h : cs.length = m * z → m ≤ c2 → SR W P n ops os k l L) : SR W P n ops os k l L := by
  unfold SR at h ⊢
  intro x w hx hw
  obtain ⟨m1, H, _⟩ := Den_head (Den_perm t.perm _ hw.2.2.2)
  exact h (rowP_len H).1 (rowP_len H).2 x w hx hw
theorem putC_mem {N : List Nat} {x : Nat} (h : memC N x = true) : putC N x = N := by unfold putC; rw [h]; rfl
theorem wn_DigestM {W : World} {F : List HProp} [Abs F] (k : WK) (g : GS) (e : EnvD) (he : e.Ok) (hN : g.N.length ≤ 100000) (hm : memC g.N (envC e) = true) : CallsK W Tryz.prog 127 #[.pointer (some ⟨k.p, 0, none⟩), e.val] (At wnI k g :: F) (fun u L => u = .int .i64 ((dnumC g.N (envC e) : Nat) : Int) ∧ Lands L (At wnI k g :: F)) := by
  have h := wn_Digest (W := W) (F := F) k g e he hN
  rw [putC_mem hm] at h
  exact h
@[reducible] def LS.re (s : LS) (w t : Nat) : LS := ⟨w, t, s.tip, s.l, s.ks⟩
theorem take1_re (l : List (List UInt8)) (s : LS) (w t : Nat) (e : EnvD) : (s.re w t).take1 l e = (s.take1 l e).re w t := by
  unfold LS.take1 LS.re
  split <;> rfl
theorem takeB_re (l : List (List UInt8)) (w t : Nat) : ∀ (es : List EnvD) (s : LS), (s.re w t).takeB l es = (s.takeB l es).re w t
  | [], _ => rfl
  | e :: es, s => by
    show ((s.re w t).take1 l e).takeB l es = ((s.take1 l e).takeB l es).re w t
    rw [take1_re, takeB_re l w t es]
theorem step_re (l : List (List UInt8)) (w t w2 : Nat) (root : Int) (T : List (Int × Blk)) (s : LS) (x : Int) : (s.re w t).step l ⟨w2, root, T⟩ x = (s.step l ⟨0, root, T⟩ x).re w t := by
  unfold LS.step
  rw [takeB_re]
theorem goB_re (l : List (List UInt8)) (w t w2 : Nat) (root : Int) (T : List (Int × Blk)) : ∀ (W : List Int) (s : LS), (s.re w t).goB l ⟨w2, root, T⟩ W = (s.goB l ⟨0, root, T⟩ W).re w t
  | [], _ => rfl
  | x :: W, s => by
    show ((s.re w t).step l ⟨w2, root, T⟩ x).goB l ⟨w2, root, T⟩ W = ((s.step l ⟨0, root, T⟩ x).goB l ⟨0, root, T⟩ W).re w t
    rw [step_re, goB_re l w t w2 root T W]
theorem commit_re (l : List (List UInt8)) (w t w2 : Nat) (root : Int) (T : List (Int × Blk)) (s : LS) (d : Int) : (s.re w t).commit l ⟨w2, root, T⟩ d = ((s.commit l ⟨0, root, T⟩ d).1, (s.commit l ⟨0, root, T⟩ d).2.re w t) := by
  unfold LS.commit
  rw [TS.way_w w2 0 root T d (s.re w t).tip, TS.way_w w2 0 root T (s.re w t).tip d]
  show (if ((⟨0, root, T⟩ : TS).way d s.tip).isSome then _ else (((⟨0, root, T⟩ : TS).way s.tip d).isSome, (s.re w t).goB l ⟨w2, root, T⟩ (((⟨0, root, T⟩ : TS).way s.tip d).getD []))) = _
  rw [goB_re]
  split <;> rfl
theorem wn_Commit {W : World} {F : List HProp} [Abs F] (K : NK) (g : GS) (s : NS) (d : Int) (h1 : g.ok = true) (h2 : okT s.root s.T = true) (h3 : (mget s.T d).isSome = true) (h4 : (mget s.T s.tip).isSome = true) (h5 : ∀ x ∈ s.T, ∀ e ∈ x.2.envs, memC g.N (envC e) = true) (h6 : s.lg.length ≤ 1000) :
    CallsK W Tryz.prog 220 #[.pointer (some ⟨K.lp, 0, none⟩), .int .i64 d] (At logI K.lp ⟨K.k.p, K.t, s.tip, s.lg, s.ks⟩ :: At treeI K.t ⟨K.k.p, s.root, s.T⟩ :: At wnI K.k g :: F) (fun u L => u = .bool (s.ls.commitC g.N s.ts d).1 ∧ Lands L (At logI K.lp ⟨K.k.p, K.t, (s.ls.commitC g.N s.ts d).2.tip, (s.ls.commitC g.N s.ts d).2.l, (s.ls.commitC g.N s.ts d).2.ks⟩ :: At treeI K.t ⟨K.k.p, s.root, s.T⟩ :: At wnI K.k g :: F)) := by
  refine CallsK.opn (open_wn (k := K.k) (g := g)) fun ⟨l, v⟩ ⟨f1, f2, f3, f4⟩ => ?_
  dsimp only at f1 f2 f3 f4
  obtain ⟨o1, o2⟩ := okT_ok K.k.p h2
  obtain ⟨b, hb⟩ := Option.isSome_iff_exists.1 h3
  obtain ⟨b2, hb2⟩ := Option.isSome_iff_exists.1 h4
  have hN := (GS.ok_1 h1).1
  have hc := commit_re l K.k.p K.t K.k.p s.root s.T s.ls d
  have he := commit_enc l s.ts s.ls d
  rw [f1] at he
  have hv1 := o2 d b hb
  have hv2 := o2 s.tip b2 hb2
  refine CallsK.imp (CallsK.at3 (clog_Commit_yes' K.lp K.t ⟨K.k.p, K.t, s.tip, s.lg, s.ks⟩ rfl ⟨K.k.p, s.root, s.T⟩ K.k ⟨l, g.S⟩ rfl o1 d ⟨b, hb⟩ ⟨b2, hb2⟩ (by show (viewOf (mget s.T d)).toNat ≤ 1000; rw [hb]; show b.view.toNat ≤ 1000; omega) (by show (viewOf (mget s.T s.tip)).toNat ≤ 1000; rw [hb2]; show b2.view.toNat ≤ 1000; omega) (fun x b hx e he => by have := h5 _ (mget_mem hx) e he; rw [← f1] at this; exact (env_mem l e).1 this) (by show s.lg.length ≤ _; omega) (by have := wn_len f1 hN; show l.length ≤ _; omega) (s.ls.commitC g.N s.ts d).1 ((s.ls.commitC g.N s.ts d).2.re K.k.p K.t) (by rw [he]; exact hc))) fun u L ⟨hu, hL⟩ => ⟨hu, hL.trans ((close_wn K.k g f1 f2 f3 f4).trans .fin)⟩
theorem wn_Drop {W : World} {F : List HProp} [Abs F] (K : NK) (g : GS) (p : Nat) (m : Int) (pl : List EnvD) (sk : List Int) (sa : Option Addr) (sn sc : Nat) {cs : List Value} [HasRow F sa cs] (hcs : cs = sk.map intV) (hn : sk.length = sn) (hb : sn ≤ 1000000000) (h1 : g.ok = true) (he : ∀ e ∈ pl, envG e = true) (hm : ∀ e ∈ pl, memC g.N (envC e) = true) (hs : pl.length ≤ 1000) :
    CallsK W Tryz.prog 222 #[.pointer (some ⟨p, 0, none⟩), .slice sa sn sc] (At wnI K.k g :: At poolI p ⟨K.k.p, m, pl⟩ :: F) (fun _ L => Lands L (At wnI K.k g :: At poolI p ⟨K.k.p, m, pl.filter fun e => !skipC g.N sk e⟩ :: F)) := by
  refine CallsK.opn (open_wn (k := K.k) (g := g)) fun ⟨l, v⟩ ⟨f1, f2, f3, f4⟩ => ?_
  dsimp only at f1 f2 f3 f4
  have hN := (GS.ok_1 h1).1
  have hfi : (pl.filter fun e => !skipC g.N sk e) = pl.filter fun e => !skipP l sk e := by
    rw [← f1]
    exact List.filter_congr fun e _ => by rw [skip_enc]
  rw [hfi]
  exact CallsK.imp (CallsK.at2 (pool_Drop K.k ⟨l, g.S⟩ p ⟨K.k.p, m, pl⟩ rfl sk sa sn sc hcs hn hb (by have := wn_len f1 hN; show l.length ≤ _; omega) (fun e h => (envG_ok (he e h)).2.2) (fun e h => by have := hm e h; rw [← f1] at this; exact (env_mem l e).1 this) (by show pl.length ≤ _; omega))) fun u L hL => hL.trans ((close_wn K.k g f1 f2 f3 f4).trans .fin)

theorem node_fix {W : World} {F : List HProp} [Abs F] (K : NK) (hK : K.Ok) (s : NS) (od : List MsgD) (A : Arc) (g : GS) (ho : Out A od s.out) (d : Int) (g' : GS) (s' : NS) (h : fixP K.c K.me g s d = some (g', s')) :
    CallsK W Tryz.prog 188 #[.pointer (some ⟨K.p, 0, none⟩), .int .i64 d] (At nodI K (s, od) :: At wnI K.k g :: At arcI () A :: F) (fun _ L => ∃ od' A', A.le A' ∧ Out A' od' (s').out ∧ Lands L (At nodI K (s', od') :: At wnI K.k g' :: At arcI () A' :: F)) := by
  refine CallsK_enter (n := 57) Tryz.func188 rfl rfl rfl ?_
  unfold fixP at h
  obtain ⟨hc, h⟩ := chk_some h
  simp only [Bool.and_eq_true, decide_eq_true_eq, List.all_eq_true] at hc
  obtain ⟨q1, q2, q3, q4, q5, q6, q7, q8, q9, q10⟩ := hc
  dsimp only at h
  obtain ⟨hc, h⟩ := chk_some h
  simp only [Bool.and_eq_true, decide_eq_true_eq, List.all_eq_true] at hc
  obtain ⟨r1, r2, r3, r4⟩ := hc
  have hnw : ((s.ls.commitC g.N s.ts d).2.l.drop s.lg.length).length = (s.ls.commitC g.N s.ts d).2.l.length - s.lg.length := List.length_drop
  have hN := (GS.ok_1 q1).1
  refine Ws ?_
  refine SC.opn (open_nod (K := K) (y := (s, od))) fun _ _ => ?_
  dsimp only
  refine SC.opn (open_hd (K := K)) fun ⟨br, a, c⟩ _ => ?_
  dsimp only
  iterate 5 refine Ws ?_
  refine Wc (CallsK.at (clog_Len K.lp ⟨K.k.p, K.t, s.tip, s.lg, s.ks⟩)) ?_
  iterate 10 refine Ws ?_
  refine Wc (CallsK.at3 (wn_Commit K g s d q1 q2 q3 q4 q5 q6)) ?_
  iterate 8 refine Ws ?_
  refine We (CallsK.at (clog_Envs K.lp ⟨K.k.p, K.t, (s.ls.commitC g.N s.ts d).2.tip, (s.ls.commitC g.N s.ts d).2.l, (s.ls.commitC g.N s.ts d).2.ks⟩ (by show (s.ls.commitC g.N s.ts d).2.l.length ≤ _; omega))) ?_
  rintro _ L3 ⟨ea, ec, rfl, hL3⟩
  refine SR.lands hL3 ?_
  refine SR.row_len (a := ea) fun hlen hnc => ?_
  dsimp only at hlen hnc ⊢
  refine SR.lands (arc_push (a := ea) (cs := (s.ls.commitC g.N s.ts d).2.l.flatMap EnvD.cells)) ?_
  haveI : ArcRow (A.add ea ((s.ls.commitC g.N s.ts d).2.l.flatMap EnvD.cells)) (sBase ea s.lg.length 4 ec) (((s.ls.commitC g.N s.ts d).2.l.drop s.lg.length).flatMap EnvD.cells) := ⟨hasRow_drop (h := HasRow.ofAdd) (cs := (s.ls.commitC g.N s.ts d).2.l.flatMap EnvD.cells) s.lg.length 4 ec (by rw [env_len]; omega) (flat_drop' (C := EnvD.cells) (z := 4) (fun _ => rfl) (s.ls.commitC g.N s.ts d).2.l s.lg.length).symm⟩
  refine Ws ?_
  refine SR_pu (RD_slice (kh := .i64) (km := .i64) Tryz.runUnderlying53 Tryz.sizeOf43 rfl (.inr ⟨_, rfl, rfl⟩) (.inl ⟨rfl, rfl, rfl⟩) (.inl ⟨rfl, rfl⟩) (by omega) (by omega) (by omega) (by omega)) rfl ?_
  iterate 10 refine Ws ?_
  refine We (CallsK.at (rev_Grow K.rv ⟨s.rl, s.rn, s.led⟩ ((s.ls.commitC g.N s.ts d).2.l.drop s.lg.length) (sBase ea s.lg.length 4 ec) ((s.ls.commitC g.N s.ts d).2.l.length - s.lg.length) (ec - s.lg.length) rfl hnw (by omega) (by show s.rl.length ≤ _; omega))) ?_
  rintro _ L4 hL4
  refine SR.lands hL4 ?_
  iterate 16 refine Ws ?_
  refine SC_ind (X := Nat × Option Addr × Nat) (fun x => x.1 ≤ ((s.ls.commitC g.N s.ts d).2.l.drop s.lg.length).length) (fun x => ((s.ls.commitC g.N s.ts d).2.l.drop s.lg.length).length - x.1) (fun x => [(0, .pointer (some ⟨K.p, 0, none⟩)), (6, .slice x.2.1 x.1 x.2.2), (33, .slice (sBase ea s.lg.length 4 ec) ((s.ls.commitC g.N s.ts d).2.l.length - s.lg.length) (ec - s.lg.length)), (34, .int .i64 (((s.ls.commitC g.N s.ts d).2.l.length - s.lg.length : Nat) : Int)), (35, .int .i64 (x.1 : Nat))]) (fun x => rowP 3 1 x.2.1 x.1 x.2.2 ((numsC g.N (((s.ls.commitC g.N s.ts d).2.l.drop s.lg.length).take x.1)).map intV) :: pt K.p (.cells ([.pointer (some ⟨K.k.p, 0, none⟩), .int .i64 K.c.f, .int .i64 K.c.n, .int .i64 K.c.cl, .int .i64 K.c.ba, .int .i64 K.c.mo, .int .i64 K.c.bt, .int .i64 K.c.po, .int .i64 K.c.wi, .int .i64 K.me, .pointer (some ⟨K.t, 0, none⟩), .pointer (some ⟨K.sf, 0, none⟩), .pointer (some ⟨K.lp, 0, none⟩), .pointer (some ⟨K.ta, 0, none⟩), .pointer (some ⟨K.pc, 0, none⟩), .pointer (some ⟨K.po, 0, none⟩), .pointer (some ⟨K.rv.r, 0, none⟩), .int .i64 s.laid, .pointer (none), .pointer (none), .pointer (br), .slice a od.length c]).toArray 91) :: rowP 46 19 a od.length c (od.flatMap MsgD.cells) :: At treeI K.t ⟨K.k.p, s.root, s.T⟩ :: At sfI K.sf ⟨K.t, s.hv, s.hb, s.hby, s.lock, s.last⟩ :: At logI K.lp ⟨K.k.p, K.t, (s.ls.commitC g.N s.ts d).2.tip, (s.ls.commitC g.N s.ts d).2.l, (s.ls.commitC g.N s.ts d).2.ks⟩ :: At talI K.ta ⟨K.k.p, K.c, s.m⟩ :: At paceI K.pc s.ps :: At poolI K.po ⟨K.k.p, min (max K.c.po 0) 1000, s.pool⟩ :: At revI K.rv ⟨s.rl ++ ((s.ls.commitC g.N s.ts d).2.l.drop s.lg.length), s.rn, s.led⟩ :: At wnI K.k g :: At arcI () (A.add ea ((s.ls.commitC g.N s.ts d).2.l.flatMap EnvD.cells)) :: F) ((0, none, 0)) (Nat.zero_le _) (.cons rfl (.cons rfl (.cons rfl (.cons rfl (.cons rfl (.nil)))))) (by simp only [List.take_zero, numsC, List.map_nil]; exact (row_new 3 1 none).trans .fin) ?_
  intro ⟨i, oa, oc⟩ hi ih
  dsimp only at hi ih ⊢
  iterate 6 refine Ws ?_
  refine SC_cond rfl (fun hc36 => ?_) (fun hc36 => ?_)
  · have hin : i < ((s.ls.commitC g.N s.ts d).2.l.drop s.lg.length).length := by have := of_decide_eq_true hc36; omega
    obtain ⟨e, heq⟩ : ∃ e, ((s.ls.commitC g.N s.ts d).2.l.drop s.lg.length)[i]? = some e := ⟨_, List.getElem?_eq_getElem hin⟩
    have hem := List.mem_of_getElem? heq
    have heo := (envG_ok (r3 e hem)).2.2
    have hsn : (numsC g.N (((s.ls.commitC g.N s.ts d).2.l.drop s.lg.length).take (i + 1))) = (numsC g.N (((s.ls.commitC g.N s.ts d).2.l.drop s.lg.length).take i)) ++ [((dnumC g.N (envC e) : Nat) : Int)] := by unfold numsC; rw [List.take_add_one, heq, List.map_append]; rfl
    iterate 6 refine Ws ?_
    refine SR_rd (RD_ixO (cs := ((s.ls.commitC g.N s.ts d).2.l.drop s.lg.length).flatMap EnvD.cells) Tryz.runUnderlying53 Tryz.sizeOf43 rfl rfl (by rw [env_len, List.length_drop]) (by omega) (by omega)) Has.ro rfl ?_
    refine SR_rd (RD_loadAO (vs := e.cells) (cs := ((s.ls.commitC g.N s.ts d).2.l.drop s.lg.length).flatMap EnvD.cells) Tryz.isAgg43 Tryz.sizeOf43 rfl rfl (by decide) (fun o v h => by have ho : o < 4 := (List.getElem?_eq_some_iff.1 h).1; rw [show ((i : Nat) : Int).toNat * (3 + 1) + o = i * 4 + o by omega, env_get heq o ho]; exact h)) Has.ro rfl ?_
    refine Wa fun b8 => ?_
    refine SR_ox0 (OX_stA (vs := e.cells) Tryz.sizeOf43 rfl rfl rfl rfl) ?_
    rintro _ _ rfl
    iterate 2 refine Ws ?_
    refine Wd [.r 0, .r 1, .r 2, .r 3, .r 4, .r 5, .e 6, .e 7, .e 8, .r 9] ?_
    iterate 5 refine Wq ?_
    refine SQ_rd rfl (RD_loadA (vs := e.cells) Tryz.isAgg43 Tryz.sizeOf43 rfl rfl) Has.wh rfl ?_
    refine SQ_call rfl Tryz.call127 (.cons rfl (.cons rfl (.nil))) (CallsK.at (wn_DigestM K.k g e heo (by omega) (r4 e hem))) (lts rfl) ?_
    rintro _ L5 ⟨rfl, hL5⟩
    refine ⟨.lands hL5 (.w rfl (.w rfl (.nil))), ?_⟩
    refine SQ.lands hL5 ?_
    refine SQ_ox rfl (OX_lit1 Tryz.underlying37 Tryz.type3 rfl rfl rfl rfl (.cons rfl (.nil)) (.cons rfl (.nil))) rfl ?_
    rintro _ _ ⟨b46, rfl, rfl⟩
    refine ⟨.h Has.wh (.h (Has.ce rfl) (.nil)), ?_⟩
    refine SQ_ox rfl (OX_app 1 Tryz.underlying37 Tryz.underlying37 Tryz.type3 rfl rfl rfl rfl rfl (by first | rfl | simp; done | (simp; omega)) 8 rfl (by omega) (by omega)) rfl ?_
    rintro _ _ ⟨a47, c47, rfl, rfl⟩
    refine ⟨.h Has.wh (.h (Has.ce rfl) (.nil)), ?_⟩
    refine Wq ?_
    iterate 7 refine Ws ?_
    refine SC_again (ih ((i + 1, a47, c47)) (by dsimp only; omega) (by dsimp only; omega)) (by dsimp only; rw [hsn]; simp only [List.map_append, List.map_cons, List.map_nil, intV]; exact .fin) (.cons rfl (.cons rfl (.cons rfl (.cons rfl (.cons' rfl (ie (by dsimp only; omega)) (.nil))))))
  · have hin : i = ((s.ls.commitC g.N s.ts d).2.l.drop s.lg.length).length := by have := of_decide_eq_false hc36; omega
    subst hin
    rw [List.take_length]
    iterate 9 refine Ws ?_
    refine We (CallsK.at2 (wn_Drop K g K.po (min (max K.c.po 0) 1000) s.pool (numsC g.N ((s.ls.commitC g.N s.ts d).2.l.drop s.lg.length)) oa ((s.ls.commitC g.N s.ts d).2.l.drop s.lg.length).length oc rfl (by simp [numsC]) (by omega) q1 q7 q8 q9)) ?_
    rintro _ L6 hL6
    refine SR.lands hL6 ?_
    iterate 4 refine Ws ?_
    refine We (CallsK.lands ((close_hd K ⟨s.laid, od⟩).trans (close_nod K (({ s with tip := (s.ls.commitC g.N s.ts d).2.tip, lg := (s.ls.commitC g.N s.ts d).2.l, ks := (s.ls.commitC g.N s.ts d).2.ks, rl := s.rl ++ ((s.ls.commitC g.N s.ts d).2.l.drop s.lg.length), pool := s.pool.filter fun e => !skipC g.N (numsC g.N ((s.ls.commitC g.N s.ts d).2.l.drop s.lg.length)) e } : NS), od))) (CallsK.at3 (node_open K hK ({ s with tip := (s.ls.commitC g.N s.ts d).2.tip, lg := (s.ls.commitC g.N s.ts d).2.l, ks := (s.ls.commitC g.N s.ts d).2.ks, rl := s.rl ++ ((s.ls.commitC g.N s.ts d).2.l.drop s.lg.length), pool := s.pool.filter fun e => !skipC g.N (numsC g.N ((s.ls.commitC g.N s.ts d).2.l.drop s.lg.length)) e } : NS) od (A.add ea ((s.ls.commitC g.N s.ts d).2.l.flatMap EnvD.cells)) g (ho.le Arc.le_add) 20 g' s' h))) ?_
    rintro _ L7 ⟨od2, A2, g2, ho2, hL7⟩
    refine SR.lands hL7 ?_
    refine Ws ?_
    refine SN_stop0 rfl ?_
    exact ⟨od2, A2, Arc.le_add.trans g2, ho2, .fin⟩

end Go.Proofs.YtdhpjdhloaoepaaGreat

/- A replica sees certificates, and enters views. -/
namespace Go.Proofs.YtdhpjdhloaoepaaGreat
open Go Go.Proofs
attribute [local irreducible] SC SN SR SQ SA SO
set_option maxRecDepth 100000
theorem CallsK.opnP {δ κ σ X : Type} {W : World} {P : Program} {f : FuncId} {args : Array Value} {L : List HProp} {Q : Value → δ → Prop} {I : κ → σ → HProp} {key : δ → κ} {s : δ → σ} {C : δ → X → Prop} {B : δ → X → List HProp → List HProp} {R : δ → List HProp} (o : ∀ d, Opens I (key d) (s d) (C d) (B d)) (h : CallsK W P f args L (fun v M => ∃ d, Q v d ∧ Lands M (At I (key d) (s d) :: R d))) : CallsK W P f args L (fun v M => ∃ d x, Q v d ∧ Lands M (B d x (R d))) := fun w hw => (h w hw).mono fun _ _ ⟨v, M, e, ⟨d, hq, hL⟩, hs⟩ => by
  obtain ⟨x, hx, hd⟩ := o d (R d) _ (hL _ hs.2.2.2)
  exact ⟨v, B d x (R d), e, ⟨d, x, hq, .fin⟩, hs.1, hs.2.1, hs.2.2.1, hd⟩
theorem hd_allO {W : World} {F : List HProp} [Abs F] (K : NK) (s : HS) (A : Arc) (m : MsgD) (y : PM) (hM : MIs A m y) (hme : I64 K.me) (n : Nat) (hn : K.c.n = (n : Nat)) (hnb : n ≤ 1000) (hb : s.od.length ≤ 10000) :
    CallsK W Tryz.prog 87 #[.pointer (some ⟨K.p, 0, none⟩), m.val] (At hdI K s :: At arcI () A :: F) (fun u L => ∃ (d : List MsgD × Arc) (x : Option Addr × Option Addr × Nat), (u = .tuple #[] ∧ A.le d.2 ∧ Out d.2 d.1 ((List.range n).map fun (i : Nat) => y.ft K.me (i : Int))) ∧ Lands L (pt K.p (.cells ([.pointer (some ⟨K.k.p, 0, none⟩), .int .i64 K.c.f, .int .i64 K.c.n, .int .i64 K.c.cl, .int .i64 K.c.ba, .int .i64 K.c.mo, .int .i64 K.c.bt, .int .i64 K.c.po, .int .i64 K.c.wi, .int .i64 K.me, .pointer (some ⟨K.t, 0, none⟩), .pointer (some ⟨K.sf, 0, none⟩), .pointer (some ⟨K.lp, 0, none⟩), .pointer (some ⟨K.ta, 0, none⟩), .pointer (some ⟨K.pc, 0, none⟩), .pointer (some ⟨K.po, 0, none⟩), .pointer (some ⟨K.rv.r, 0, none⟩), .int .i64 s.laid, .pointer (none), .pointer (none), .pointer (x.1), .slice x.2.1 ((s.od ++ d.1).length) x.2.2]).toArray 91) :: rowP 46 19 x.2.1 (s.od ++ d.1).length x.2.2 ((s.od ++ d.1).flatMap MsgD.cells) :: At arcI () d.2 :: F)) :=
  CallsK.opnP (δ := List MsgD × Arc) (Q := fun u d => u = .tuple #[] ∧ A.le d.2 ∧ Out d.2 d.1 ((List.range n).map fun (i : Nat) => y.ft K.me (i : Int))) (I := hdI) (key := fun _ => K) (s := fun d => ⟨s.laid, s.od ++ d.1⟩) (R := fun d => At arcI () d.2 :: F) (fun _ => open_hd) (CallsK.imp (hd_all K s A m y hM hme n hn hnb hb) fun u L ⟨D, A', h1, h2, h3, h4⟩ => ⟨(D, A'), ⟨h1, h2, h3⟩, h4⟩)
theorem enter_yes {s : PS} {v : Int} (h : ¬ v ≤ s.view) : (s.enter v false).1 = true := by unfold PS.enter; rw [if_neg h]
theorem enter_no {s : PS} {v : Int} (h : v ≤ s.view) : s.enter v false = (false, s) := by unfold PS.enter; rw [if_pos h]
theorem see_w (t w : Nat) (a b : Int) (c : List Int) (d e root : Int) (T : List (Int × Blk)) (v k : Int) (l : List Int) : (⟨t, a, b, c, d, e⟩ : SfS).see ⟨w, root, T⟩ v k l = (((⟨0, a, b, c, d, e⟩ : SfS).see ⟨0, root, T⟩ v k l).1, ⟨t, ((⟨0, a, b, c, d, e⟩ : SfS).see ⟨0, root, T⟩ v k l).2.hv, ((⟨0, a, b, c, d, e⟩ : SfS).see ⟨0, root, T⟩ v k l).2.hb, ((⟨0, a, b, c, d, e⟩ : SfS).see ⟨0, root, T⟩ v k l).2.hby, ((⟨0, a, b, c, d, e⟩ : SfS).see ⟨0, root, T⟩ v k l).2.lock, ((⟨0, a, b, c, d, e⟩ : SfS).see ⟨0, root, T⟩ v k l).2.last⟩) := by
  unfold SfS.see SfS.see1
  dsimp only
  split
  · rfl
  · by_cases hf : fixes (⟨0, root, T⟩ : TS) k
    · have hf2 : fixes (⟨w, root, T⟩ : TS) k := hf
      rw [if_pos hf, if_pos hf2]
      split <;> rfl
    · have hf2 : ¬ fixes (⟨w, root, T⟩ : TS) k := hf
      rw [if_neg hf, if_neg hf2]
      split <;> rfl

theorem node_enter_no {W : World} {F : List HProp} [Abs F] (K : NK) (hK : K.Ok) (s : NS) (od : List MsgD) (A : Arc) (g : GS) (ho : Out A od s.out) (v : Int) (m : MsgD) (q : PQ) (hM : MIs A m (.cert 0 0 q)) (h : v ≤ s.ps.view) :
    CallsK W Tryz.prog 189 #[.pointer (some ⟨K.p, 0, none⟩), .int .i64 v, .bool false, m.val] (At nodI K (s, od) :: At wnI K.k g :: At arcI () A :: F) (fun _ L => ∃ od' A', A.le A' ∧ Out A' od' (s).out ∧ Lands L (At nodI K (s, od') :: At wnI K.k g :: At arcI () A' :: F)) := by
  refine CallsK_enter (n := 25) Tryz.func189 rfl rfl rfl ?_
  iterate 2 refine Ws ?_
  refine Wb fun b7 => ?_
  iterate 3 refine Ws ?_
  refine SC.opn (open_nod (K := K) (y := (s, od))) fun _ _ => ?_
  dsimp only
  refine SC.opn (open_hd (K := K)) fun ⟨br, a, c⟩ _ => ?_
  dsimp only
  iterate 7 refine Ws ?_
  refine Wc (CallsK.at (pace_Enter K.pc s.ps v false)) ?_
  rw [enter_no h]
  iterate 2 refine Ws ?_
  refine SC_cond_false rfl (rfl) ?_
  refine Ws ?_
  refine SN_stop0 rfl ?_
  exact ⟨od, A, Arc.le.rfl, ho, ((close_hd K ⟨(s).laid, od⟩).trans ((close_nod K (s, od)).trans .fin))⟩

theorem node_enter_yes {W : World} {F : List HProp} [Abs F] (K : NK) (hK : K.Ok) (s : NS) (od : List MsgD) (A : Arc) (g : GS) (ho : Out A od s.out) (v : Int) (m : MsgD) (q : PQ) (hM : MIs A m (.cert 0 0 q)) (hv : ¬ v ≤ s.ps.view) (hb : s.out.length ≤ 5000) (g' : GS) (s' : NS) (h : layP K.c K.me g (allP K.c K.me { s with ps := (s.ps.enter v false).2 } (.cert 0 0 q)) = some (g', s')) :
    CallsK W Tryz.prog 189 #[.pointer (some ⟨K.p, 0, none⟩), .int .i64 v, .bool false, m.val] (At nodI K (s, od) :: At wnI K.k g :: At arcI () A :: F) (fun _ L => ∃ od' A', A.le A' ∧ Out A' od' (s').out ∧ Lands L (At nodI K (s', od') :: At wnI K.k g' :: At arcI () A' :: F)) := by
  refine CallsK_enter (n := 25) Tryz.func189 rfl rfl rfl ?_
  iterate 2 refine Ws ?_
  refine Wb fun b7 => ?_
  iterate 3 refine Ws ?_
  refine SC.opn (open_nod (K := K) (y := (s, od))) fun _ _ => ?_
  dsimp only
  refine SC.opn (open_hd (K := K)) fun ⟨br, a, c⟩ _ => ?_
  dsimp only
  iterate 7 refine Ws ?_
  refine Wc (CallsK.at (pace_Enter K.pc s.ps v false)) ?_
  iterate 2 refine Ws ?_
  refine SC_cond_true rfl (enter_yes hv) ?_
  iterate 2 refine Ws ?_
  refine SR_rd (RD_loadA (vs := m.cells) Tryz.isAgg46 Tryz.sizeOf46 rfl rfl) Has.wh rfl ?_
  refine We (CallsK.at (mess_Still m _ A hM)) ?_
  rintro _ L2 ⟨m', A2, rfl, g2, hM2, hL2⟩
  refine SR.lands hL2 ?_
  refine SR_ox0 (OX_stA (vs := m'.cells) Tryz.sizeOf46 rfl rfl rfl rfl) ?_
  rintro _ _ rfl
  iterate 13 refine Ws ?_
  refine SR_rd (RD_loadA (vs := m'.cells) Tryz.isAgg46 Tryz.sizeOf46 rfl rfl) Has.wh rfl ?_
  refine We (CallsK.lands (close_hd K ⟨s.laid, od⟩) (CallsK.at2 (hd_all K ⟨s.laid, od⟩ A2 m' _ hM2 hK.me K.c.n.toNat (by have := hK.n; omega) (by have := hK.n; omega) (by show od.length ≤ _; rw [ho.len]; omega)))) ?_
  rintro _ L3 ⟨D, A3, rfl, g3, hD, hL3⟩
  refine SR.lands hL3 ?_
  iterate 4 refine Ws ?_
  refine We (CallsK.lands (close_nod K ((allP K.c K.me { s with ps := (s.ps.enter v false).2 } (.cert 0 0 q)), od ++ D)) (CallsK.at3 (node_lay K hK (allP K.c K.me { s with ps := (s.ps.enter v false).2 } (.cert 0 0 q)) (od ++ D) A3 g ((ho.le (g2.trans g3)).app hD) g' s' h))) ?_
  rintro _ L4 ⟨od4, A4, g4, ho4, hL4⟩
  refine SR.lands hL4 ?_
  refine Ws ?_
  refine SN_stop0 rfl ?_
  exact ⟨od4, A4, g2.trans (g3.trans g4), ho4, .fin⟩

theorem node_enter {W : World} {F : List HProp} [Abs F] (K : NK) (hK : K.Ok) (s : NS) (od : List MsgD) (A : Arc) (g : GS) (ho : Out A od s.out) (v : Int) (m : MsgD) (q : PQ) (hM : MIs A m (.cert 0 0 q)) (g' : GS) (s' : NS) (h : enterP K.c K.me g s v q = some (g', s')) :
    CallsK W Tryz.prog 189 #[.pointer (some ⟨K.p, 0, none⟩), .int .i64 v, .bool false, m.val] (At nodI K (s, od) :: At wnI K.k g :: At arcI () A :: F) (fun _ L => ∃ od' A', A.le A' ∧ Out A' od' (s').out ∧ Lands L (At nodI K (s', od') :: At wnI K.k g' :: At arcI () A' :: F)) := by
  unfold enterP at h
  by_cases h1 : v ≤ s.ps.view
  · rw [if_pos h1] at h
    cases h
    exact node_enter_no K hK s od A g ho v m q hM h1
  · rw [if_neg h1] at h
    obtain ⟨hc, h⟩ := chk_some h
    exact node_enter_yes K hK s od A g ho v m q hM h1 (of_decide_eq_true hc) g' s' h

theorem node_seen {W : World} {F : List HProp} [Abs F] (K : NK) (hK : K.Ok) (s : NS) (od : List MsgD) (A : Arc) (g : GS) (ho : Out A od s.out) (q : QcD) (hq : RArc A q.by_) (hI : I64 q.view ∧ I64 q.block) (g' : GS) (s' : NS) (h : seenP K.c K.me g s q.p = some (g', s')) :
    CallsK W Tryz.prog 162 #[.pointer (some ⟨K.p, 0, none⟩), q.val] (At nodI K (s, od) :: At wnI K.k g :: At arcI () A :: F) (fun _ L => ∃ od' A', A.le A' ∧ Out A' od' (s').out ∧ Lands L (At nodI K (s', od') :: At wnI K.k g' :: At arcI () A' :: F)) := by
  refine CallsK_enter (n := 58) Tryz.func162 rfl rfl rfl ?_
  haveI : ArcRow A q.by_.a _ := ⟨hq.row⟩
  have hqn := hq.n
  have hqs := hq.s
  unfold seenP at h
  obtain ⟨hc, h⟩ := chk_some h
  simp only [Bool.and_eq_true, decide_eq_true_eq] at hc
  obtain ⟨q1, q2, q3⟩ := hc
  have q3 : q.view ≤ 1000 := q3
  have hI1 := hI.1
  unfold I64 at hI1
  dsimp only at h
  replace h : obind (if 0 < (s.sf.see s.ts q.view q.block q.by_.l).1 then fixP K.c K.me g (s.sfTo (s.sf.see s.ts q.view q.block q.by_.l).2) (s.sf.see s.ts q.view q.block q.by_.l).1 else some (g, (s.sfTo (s.sf.see s.ts q.view q.block q.by_.l).2))) (fun (g, s) => if s.ps.view ≤ q.view then enterP K.c K.me g s (q.view + 1) q.p else some (g, s)) = some (g', s') := h
  iterate 2 refine Ws ?_
  refine Wb fun b3 => ?_
  iterate 4 refine Ws ?_
  refine SC.opn (open_nod (K := K) (y := (s, od))) fun _ _ => ?_
  dsimp only
  refine SC.opn (open_hd (K := K)) fun ⟨br, a, c⟩ _ => ?_
  dsimp only
  refine Wd [.r 0, .r 1, .r 2, .r 3, .r 4, .r 5, .e 6] ?_
  iterate 6 refine Wq ?_
  refine SQ_call rfl Tryz.call111 (.cons rfl (.cons rfl (.nil))) (CallsK.at (tree_Has K.t ⟨K.k.p, s.root, s.T⟩ q.block)) (lts rfl) ?_
  rintro _ L1 ⟨rfl, hL1⟩
  refine ⟨.lands hL1 (.w rfl (.w rfl (.nil))), ?_⟩
  refine SQ.lands hL1 ?_
  iterate 2 refine Ws ?_
  refine SC_cond_true rfl (q1) ?_
  refine Ws ?_
  refine Wd [.r 0, .r 1, .r 2, .r 3, .r 4, .e 5, .r 6] ?_
  iterate 4 refine Wq ?_
  refine SQ_rd rfl (RD_loadA (vs := q.cells) Tryz.isAgg39 Tryz.sizeOf39 rfl rfl) Has.wh rfl ?_
  refine SQ_call rfl Tryz.call187 (.cons rfl (.cons rfl (.nil))) (CallsK.at2 (sf_See K.sf ⟨K.t, s.hv, s.hb, s.hby, s.lock, s.last⟩ ⟨K.k.p, s.root, s.T⟩ (fun d => by have := lowT_ok q2 d; dsimp only; omega) q.view q.block q.by_.l q.by_.a q.by_.n q.by_.c rfl hqn (by omega))) (lts rfl) ?_
  rintro _ L2 ⟨rfl, hL2⟩
  refine ⟨.lands hL2 (.w rfl (.w rfl (.nil))), ?_⟩
  rw [see_w K.t K.k.p] at hL2 ⊢
  dsimp only at hL2 ⊢
  refine SQ.lands hL2 ?_
  refine Wq ?_
  iterate 8 refine Ws ?_
  refine SC_cond rfl (fun hc19 => ?_) (fun hc19 => ?_)
  · have hd : 0 < (s.sf.see s.ts q.view q.block q.by_.l).1 := of_decide_eq_true hc19
    rw [if_pos hd] at h
    obtain ⟨⟨g1, s1⟩, hfix, h⟩ := obind_some h
    dsimp only at h
    iterate 3 refine Ws ?_
    refine We (CallsK.lands ((close_hd K ⟨s.laid, od⟩).trans (close_nod K ((s.sfTo (s.sf.see s.ts q.view q.block q.by_.l).2), od))) (CallsK.at3 (node_fix K hK (s.sfTo (s.sf.see s.ts q.view q.block q.by_.l).2) od A g ho (s.sf.see s.ts q.view q.block q.by_.l).1 g1 s1 hfix))) ?_
    rintro _ L3 ⟨od1, A1, gA1, ho1, hL3⟩
    refine SR.lands hL3 ?_
    iterate 3 refine Ws ?_
    refine SC.opn (open_nod (K := K) (y := (s1, od1))) fun _ _ => ?_
    dsimp only
    refine Wd [.r 0, .r 1, .r 2, .e 3, .r 4] ?_
    iterate 3 refine Wq ?_
    refine SQ_call rfl Tryz.call77 (.cons rfl (.nil)) (CallsK.at2 (hd_View K ⟨(s1).laid, od1⟩ (s1).ps)) (lts rfl) ?_
    rintro _ L4 ⟨rfl, hL4⟩
    refine ⟨.lands hL4 (.h (Has.ce rfl) (.nil)), ?_⟩
    refine SQ.lands hL4 ?_
    refine Wq ?_
    iterate 2 refine Ws ?_
    refine SC_cond rfl (fun hc50 => ?_) (fun hc50 => ?_)
    · have hv : (s1).ps.view ≤ q.view := by have := of_decide_eq_true hc50; exact this
      rw [if_pos hv] at h
      iterate 5 refine Ws ?_
      refine SR_rd (RD_loadA (vs := q.cells) Tryz.isAgg39 Tryz.sizeOf39 rfl rfl) Has.wh rfl ?_
      refine SR_pu (RD_build (.cons rfl (.cons rfl (.nil))) built46_0_5) rfl ?_
      refine We (CallsK.lands (close_nod K (s1, od1)) (CallsK.at3 (node_enter K hK s1 od1 A1 g1 ho1 (q.view + 1) (mCert 0 0 q) q.p (MIs.cert (hq.le gA1) hI) g' s' h))) ?_
      rintro _ L5 ⟨od5, A5, gA5, ho5, hL5⟩
      refine SR.lands hL5 ?_
      refine Ws ?_
      refine SN_stop0 rfl ?_
      exact ⟨od5, A5, Arc.le.trans (gA1) gA5, ho5, .fin⟩
    · have hv : ¬ (s1).ps.view ≤ q.view := by have := of_decide_eq_false hc50; exact this
      rw [if_neg hv] at h
      refine Ws ?_
      refine SN_stop0 rfl ?_
      cases h
      exact ⟨od1, A1, gA1, ho1, (close_nod K (s', od1)).trans .fin⟩
  · have hd : ¬ 0 < (s.sf.see s.ts q.view q.block q.by_.l).1 := of_decide_eq_false hc19
    rw [if_neg hd] at h
    obtain ⟨⟨g1, s1⟩, hfix, h⟩ := obind_some h
    cases hfix
    dsimp only at h
    refine SC.lands (close_hd K ⟨s.laid, od⟩) ?_
    iterate 3 refine Ws ?_
    refine Wd [.r 0, .r 1, .r 2, .e 3, .r 4] ?_
    iterate 3 refine Wq ?_
    refine SQ_call rfl Tryz.call77 (.cons rfl (.nil)) (CallsK.at2 (hd_View K ⟨((s.sfTo (s.sf.see s.ts q.view q.block q.by_.l).2)).laid, od⟩ ((s.sfTo (s.sf.see s.ts q.view q.block q.by_.l).2)).ps)) (lts rfl) ?_
    rintro _ L4 ⟨rfl, hL4⟩
    refine ⟨.lands hL4 (.h (Has.ce rfl) (.nil)), ?_⟩
    refine SQ.lands hL4 ?_
    refine Wq ?_
    iterate 2 refine Ws ?_
    refine SC_cond rfl (fun hc50 => ?_) (fun hc50 => ?_)
    · have hv : ((s.sfTo (s.sf.see s.ts q.view q.block q.by_.l).2)).ps.view ≤ q.view := by have := of_decide_eq_true hc50; exact this
      rw [if_pos hv] at h
      iterate 5 refine Ws ?_
      refine SR_rd (RD_loadA (vs := q.cells) Tryz.isAgg39 Tryz.sizeOf39 rfl rfl) Has.wh rfl ?_
      refine SR_pu (RD_build (.cons rfl (.cons rfl (.nil))) built46_0_5) rfl ?_
      refine We (CallsK.lands (close_nod K ((s.sfTo (s.sf.see s.ts q.view q.block q.by_.l).2), od)) (CallsK.at3 (node_enter K hK (s.sfTo (s.sf.see s.ts q.view q.block q.by_.l).2) od A g ho (q.view + 1) (mCert 0 0 q) q.p (MIs.cert (hq.le Arc.le.rfl) hI) g' s' h))) ?_
      rintro _ L5 ⟨od5, A5, gA5, ho5, hL5⟩
      refine SR.lands hL5 ?_
      refine Ws ?_
      refine SN_stop0 rfl ?_
      exact ⟨od5, A5, Arc.le.trans (Arc.le.rfl) gA5, ho5, .fin⟩
    · have hv : ¬ ((s.sfTo (s.sf.see s.ts q.view q.block q.by_.l).2)).ps.view ≤ q.view := by have := of_decide_eq_false hc50; exact this
      rw [if_neg hv] at h
      refine Ws ?_
      refine SN_stop0 rfl ?_
      rw [← (Prod.mk.inj (Option.some.inj h)).1, ← (Prod.mk.inj (Option.some.inj h)).2]
      exact ⟨od, A, Arc.le.rfl, ho, (close_nod K ((s.sfTo (s.sf.see s.ts q.view q.block q.by_.l).2), od)).trans .fin⟩

theorem node_ok {W : World} {F : List HProp} [Abs F] (K : NK) (hK : K.Ok) (s : NS) (od : List MsgD) (A : Arc) (g : GS) (ho : Out A od s.out) (q : QcD) (hq : RArc A q.by_) (hI : I64 q.view ∧ I64 q.block) (g' : GS) (s' : NS) (h : okP K.c K.me g s q.p = some (g', s')) :
    CallsK W Tryz.prog 182 #[.pointer (some ⟨K.p, 0, none⟩), q.val] (At nodI K (s, od) :: At wnI K.k g :: At arcI () A :: F) (fun _ L => ∃ od' A', A.le A' ∧ Out A' od' (s').out ∧ Lands L (At nodI K (s', od') :: At wnI K.k g' :: At arcI () A' :: F)) := by
  refine CallsK_enter (n := 17) Tryz.func182 rfl rfl rfl ?_
  haveI : ArcRow A q.by_.a _ := ⟨hq.row⟩
  have hqn := hq.n
  have hqs := hq.s
  have hkn := hK.n
  unfold okP at h
  obtain ⟨hc, h⟩ := chk_some h
  simp only [Bool.and_eq_true] at hc
  obtain ⟨q1, q2⟩ := hc
  have hN := (GS.ok_1 q1).1
  iterate 2 refine Ws ?_
  refine Wb fun b3 => ?_
  iterate 3 refine Ws ?_
  refine SC.opn (open_nod (K := K) (y := (s, od))) fun _ _ => ?_
  dsimp only
  refine SC.opn (open_hd (K := K)) fun ⟨br, a, c⟩ _ => ?_
  dsimp only
  refine Wd [.r 0, .r 1, .r 2, .r 3, .r 4, .r 5, .r 6, .r 7, .r 8, .e 9] ?_
  iterate 7 refine Wq ?_
  refine SQ_rd rfl (RD_loadA (vs := K.c.cells) Tryz.isAgg23 Tryz.sizeOf23 rfl rfl) (Has.ces (cs := [.pointer (some ⟨K.k.p, 0, none⟩), .int .i64 K.c.f, .int .i64 K.c.n, .int .i64 K.c.cl, .int .i64 K.c.ba, .int .i64 K.c.mo, .int .i64 K.c.bt, .int .i64 K.c.po, .int .i64 K.c.wi, .int .i64 K.me, .pointer (some ⟨K.t, 0, none⟩), .pointer (some ⟨K.sf, 0, none⟩), .pointer (some ⟨K.lp, 0, none⟩), .pointer (some ⟨K.ta, 0, none⟩), .pointer (some ⟨K.pc, 0, none⟩), .pointer (some ⟨K.po, 0, none⟩), .pointer (some ⟨K.rv.r, 0, none⟩), .int .i64 s.laid, .pointer (none), .pointer (none), .pointer (br), .slice a od.length c]) fun j v h => by rcases j with _ | _ | _ | _ | _ | _ | _ | _ | j <;> simp [CfgD.cells] at h ⊢ <;> exact h) rfl ?_
  refine SQ_rd rfl (RD_loadA (vs := q.cells) Tryz.isAgg39 Tryz.sizeOf39 rfl rfl) Has.wh rfl ?_
  refine SQ_call rfl Tryz.call209 (.cons rfl (.cons rfl (.cons rfl (.nil)))) (CallsK.at (wn_QcOk K.k g K.c q rfl hqn (by omega) (by omega) (by omega))) (lts rfl) ?_
  rintro _ L1 ⟨rfl, hL1⟩
  refine ⟨.lands hL1 (.w rfl (.w rfl (.w rfl (.nil)))), ?_⟩
  refine SQ.lands hL1 ?_
  iterate 2 refine Ws ?_
  refine SC_cond_true rfl (q2) ?_
  iterate 2 refine Ws ?_
  refine SR_rd (RD_loadA (vs := q.cells) Tryz.isAgg39 Tryz.sizeOf39 rfl rfl) Has.wh rfl ?_
  refine We (CallsK.lands ((close_hd K ⟨s.laid, od⟩).trans (close_nod K (s, od))) (CallsK.at3 (node_seen K hK s od A _ ho q hq hI g' s' h))) ?_
  rintro _ L2 ⟨od2, A2, g2, ho2, hL2⟩
  refine SR.lands hL2 ?_
  refine Ws ?_
  refine SN_stop0 rfl ?_
  exact ⟨od2, A2, g2, ho2, .fin⟩

theorem node_ask {W : World} {F : List HProp} [Abs F] (K : NK) (hK : K.Ok) (s : NS) (od : List MsgD) (A : Arc) (g : GS) (ho : Out A od s.out) (q : QcD) (hq : RArc A q.by_) (hI : I64 q.view ∧ I64 q.block) (hb : s.out.length ≤ 5000) (hl : lowT s.T = true) :
    CallsK W Tryz.prog 125 #[.pointer (some ⟨K.p, 0, none⟩), q.val] (At nodI K (s, od) :: At wnI K.k g :: At arcI () A :: F) (fun _ L => ∃ od' A', A.le A' ∧ Out A' od' ((allP K.c K.me s (.ask 0 0 (viewOf (mget s.T s.tip)) q.p))).out ∧ Lands L (At nodI K ((allP K.c K.me s (.ask 0 0 (viewOf (mget s.T s.tip)) q.p)), od') :: At wnI K.k g :: At arcI () A' :: F)) := by
  refine CallsK_enter (n := 18) Tryz.func125 rfl rfl rfl ?_
  have hkn := hK.n
  have hlv := lowT_ok hl s.tip
  iterate 2 refine Ws ?_
  refine Wb fun b3 => ?_
  iterate 2 refine Ws ?_
  refine SC.opn (open_nod (K := K) (y := (s, od))) fun _ _ => ?_
  dsimp only
  refine SC.opn (open_hd (K := K)) fun ⟨br, a, c⟩ _ => ?_
  dsimp only
  refine Wd [.r 0, .r 1, .r 2, .r 3, .r 4, .r 5, .r 6, .r 7, .r 8, .r 11, .e 9, .e 10, .r 12, .e 13] ?_
  iterate 9 refine Wq ?_
  refine SQ_rd rfl (RD_loadA (vs := q.cells) Tryz.isAgg39 Tryz.sizeOf39 rfl rfl) Has.wh rfl ?_
  refine SQ_call rfl Tryz.call148 (.cons rfl (.nil)) (CallsK.at (clog_Tip K.lp ⟨K.k.p, K.t, s.tip, s.lg, s.ks⟩)) (lts rfl) ?_
  rintro _ L1 ⟨rfl, hL1⟩
  refine ⟨.lands hL1 (.h Has.wh (.w rfl (.h (Has.ce rfl) (.nil)))), ?_⟩
  refine SQ.lands hL1 ?_
  refine SQ_call rfl Tryz.call165 (.cons rfl (.cons rfl (.nil))) (CallsK.at (tree_View K.t ⟨K.k.p, s.root, s.T⟩ s.tip)) (lts rfl) ?_
  rintro _ L2 ⟨rfl, hL2⟩
  refine ⟨.lands hL2 (.h Has.wh (.h (Has.ce rfl) (.w rfl (.nil)))), ?_⟩
  refine SQ.lands hL2 ?_
  refine SQ_pu rfl (RD_build (.cons rfl (.cons rfl (.cons rfl (.nil)))) built46_0_3_5) rfl ?_
  refine SQ_call rfl Tryz.call87 (.cons rfl (.cons rfl (.nil))) (CallsK.lands (close_hd K ⟨s.laid, od⟩) (CallsK.at2 (hd_allO K ⟨s.laid, od⟩ A (mAsk 0 0 (viewOf (mget s.T s.tip)) q) (.ask 0 0 (viewOf (mget s.T s.tip)) q.p) (MIs.ask ⟨by omega, by omega⟩ hq hI) hK.me K.c.n.toNat (by omega) (by omega) (by show od.length ≤ _; rw [ho.len]; omega)))) (lts rfl) ?_
  rintro _ L3 ⟨⟨D, A3⟩, ⟨br3, a3, c3⟩, ⟨rfl, g3, hD⟩, hL3⟩
  refine ⟨.lands hL3 (.h Has.wh (.h (Has.ce rfl) (.h (Has.ce rfl) (.nil)))), ?_⟩
  dsimp only at g3 hD hL3 ⊢
  refine SQ.lands hL3 ?_
  refine Ws ?_
  refine SN_stop0 rfl ?_
  exact ⟨od ++ D, A3, g3, (ho.le g3).app hD, (close_hd K ⟨s.laid, od ++ D⟩).trans ((close_nod K ((allP K.c K.me s (.ask 0 0 (viewOf (mget s.T s.tip)) q.p)), od ++ D)).trans .fin)⟩

end Go.Proofs.YtdhpjdhloaoepaaGreat
