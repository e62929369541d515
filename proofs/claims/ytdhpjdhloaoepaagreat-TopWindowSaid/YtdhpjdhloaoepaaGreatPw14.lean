/- Part 14 of the proof: lemmas that the walk of TopWindow needs. -/
import Derived.Test.YtdhpjdhloaoepaaGreatPw13
set_option linter.unusedSimpArgs false
set_option linter.unusedVariables false
/- A replica takes messages. -/
namespace Go.Proofs.YtdhpjdhloaoepaaGreat
open Go Go.Proofs
attribute [local irreducible] SC SN SR SQ SA SO
set_option maxRecDepth 100000
theorem sortI_p (l : List Int) : (sortI l).Perm l := List.mergeSort_perm _ _
theorem wn_PoolAdd {W : World} {F : List HProp} [Abs F] (K : WK) (g : GS) (p : Nat) (m : Int) (s : NS) (k : LK) (e : EnvD) (he : e.Ok) (h1 : g.N.length ≤ 100000) (hb : s.pool.length ≤ 1000000) (hroom : (s.pool.length : Int) < m) (hl : ∀ x ∈ s.pool, U64 x.fee) (hnx : U64 (s.led.nextOf e.client)) :
    CallsK W Tryz.prog 177 #[.pointer (some ⟨p, 0, none⟩), e.val, .pointer (some ⟨k.g, 0, none⟩)] (At wnI K g :: At poolI p ⟨K.p, m, s.pool⟩ :: At ldgI k s.led :: F) (fun u L => (∃ c : Int, u = .int .i64 c) ∧ Lands L (At wnI K ⟨okLC g.N e, g.S, g.V⟩ :: At poolI p ⟨K.p, m, if checkC s (okEC (okLC g.N e) g.S e) e = 0 then s.pool ++ [e] else s.pool⟩ :: At ldgI k s.led :: F)) := by
  refine CallsK.opn (open_wn (k := K) (g := g)) fun ⟨l, v⟩ ⟨f1, f2, f3, f4⟩ => ?_
  dsimp only at f1 f2 f3 f4
  refine CallsK.imp (CallsK.at3 (pool_Add K ⟨l, g.S⟩ p ⟨K.p, m, s.pool⟩ rfl k s.led e he (by have := wn_len f1 h1; show l.length ≤ _; omega) hb hroom hl hnx)) fun u L ⟨hu, hL⟩ => ⟨⟨_, hu⟩, ?_⟩
  have e1 : okEC (okLC g.N e) g.S e = decide (okE (okL l e) g.S e) := by rw [← f1, ← okL_enc, okE_enc]
  have e2 : (⟨K.p, m, s.pool⟩ : PoS).add ((⟨K.p, m, s.pool⟩ : PoS).check (decide (okE (okL l e) g.S e)) (s.led.nextOf e.client) (acFree s.led.acs e.client 1) e) e = ⟨K.p, m, if checkC s (okEC (okLC g.N e) g.S e) e = 0 then s.pool ++ [e] else s.pool⟩ := by
    rw [e1]
    show (if checkC s (decide (okE (okL l e) g.S e)) e = 0 then _ else _) = _
    split <;> rfl
  dsimp only at hL
  rw [e2] at hL
  exact hL.trans ((close_wn K ⟨okLC g.N e, g.S, g.V⟩ (l := okL l e) (v := v) (by rw [okL_enc, f1]) f2 f3 f4).trans .fin)

theorem rev_led {W : World} {F : List HProp} [Abs F] (k : RK) (a ra : Option Addr) (len c n rc : Nat) :
    CallsK W Tryz.prog 32 #[.pointer (some ⟨k.r, 0, none⟩)] (pt k.r (.cells [.pointer (some ⟨k.w, 0, none⟩), .slice a len c, .slice ra n rc, .pointer (some ⟨k.L.g, 0, none⟩)].toArray 104) :: F) (fun u L => u = .pointer (some ⟨k.L.g, 0, none⟩) ∧ Lands L (pt k.r (.cells [.pointer (some ⟨k.w, 0, none⟩), .slice a len c, .slice ra n rc, .pointer (some ⟨k.L.g, 0, none⟩)].toArray 104) :: F)) := by
  refine CallsK_enter (n := 7) Tryz.func32 rfl rfl rfl ?_
  iterate 14 refine Ws ?_
  refine SC_ret1 rfl rfl ?_
  exact ⟨rfl, .fin⟩

theorem node_takeEnv {W : World} {F : List HProp} [Abs F] (K : NK) (hK : K.Ok) (s : NS) (od : List MsgD) (A : Arc) (g : GS) (ho : Out A od s.out) (m : MsgD) (hg : m.env.Good) (g' : GS) (s' : NS) (h : envP K.c g s m.env = some (g', s')) :
    CallsK W Tryz.prog 154 #[.pointer (some ⟨K.p, 0, none⟩), m.val] (At nodI K (s, od) :: At wnI K.k g :: At arcI () A :: F) (fun _ L => ∃ od' A', A.le A' ∧ Out A' od' (s').out ∧ Lands L (At nodI K (s', od') :: At wnI K.k g' :: At arcI () A' :: F)) := by
  refine CallsK_enter (n := 29) Tryz.func154 rfl rfl rfl ?_
  unfold envP at h
  obtain ⟨hc, h⟩ := chk_some h
  simp only [Bool.and_eq_true, decide_eq_true_eq, List.all_eq_true] at hc
  obtain ⟨q1, q2, q3, q4, q5⟩ := hc
  have hN := (GS.ok_1 q1).1
  have heo := hg.2.2
  have hpl : (putC g.N (envC m.env)).length ≤ 1001 := by unfold putC; cases memC g.N (envC m.env) <;> simp <;> omega
  iterate 2 refine Ws ?_
  refine Wb fun b3 => ?_
  iterate 3 refine Ws ?_
  refine SC.opn (open_nod (K := K) (y := (s, od))) fun _ _ => ?_
  dsimp only
  refine SC.opn (open_hd (K := K)) fun ⟨br, a, c⟩ _ => ?_
  dsimp only
  refine Wd [.r 0, .r 1, .r 2, .r 3, .r 4, .r 5, .r 6, .r 7, .r 8, .r 9, .e 10, .e 11, .r 12] ?_
  iterate 9 refine Wq ?_
  refine SQ_rd rfl (RD_loadA (vs := m.env.cells) Tryz.isAgg43 Tryz.sizeOf43 rfl rfl) (Has.ces (cs := m.cells) fun j v h => by rcases j with _ | _ | _ | _ | j <;> simp [MsgD.cells, EnvD.cells, QcD.cells, BlkD.cells] at h ⊢ <;> exact h) rfl ?_
  refine SQ_call rfl Tryz.call127 (.cons rfl (.cons rfl (.nil))) (CallsK.at (wn_Digest K.k g m.env heo (by omega))) (lts rfl) ?_
  rintro _ L1 ⟨rfl, hL1⟩
  refine ⟨.lands hL1 (.w rfl (.w rfl (.h (Has.ce rfl) (.nil)))), ?_⟩
  refine SQ.lands hL1 ?_
  refine SQ_call rfl Tryz.call176 (.cons rfl (.cons rfl (.nil))) (CallsK.at (clog_Has K.lp ⟨K.k.p, K.t, s.tip, s.lg, s.ks⟩ _)) (lts rfl) ?_
  rintro _ L2 ⟨rfl, hL2⟩
  refine ⟨.lands hL2 (.h (Has.ces (cs := m.cells) fun j v h => by rcases j with _ | _ | _ | _ | j <;> simp [MsgD.cells, EnvD.cells, QcD.cells, BlkD.cells] at h ⊢ <;> exact h) (.h (Has.ce rfl) (.w rfl (.nil)))), ?_⟩
  refine SQ.lands hL2 ?_
  refine Wq ?_
  iterate 2 refine Ws ?_
  refine SC_cond rfl (fun hc16 => ?_) (fun hc16 => ?_)
  · have hno : ¬ ((dnumC (putC g.N (envC m.env)) (envC m.env) : Nat) : Int) ∈ s.ks := by simpa using hc16
    rw [if_neg hno] at h
    have hp : g' = ⟨okLC (putC g.N (envC m.env)) m.env, g.S, g.V⟩ ∧ s' = ({ s with pool := if checkC s (okEC (okLC (putC g.N (envC m.env)) m.env) g.S m.env) m.env = 0 then s.pool ++ [m.env] else s.pool } : NS) := by
      have h1 := Prod.mk.inj (Option.some.inj h)
      refine ⟨h1.1.symm, h1.2.symm.trans ?_⟩
      split <;> rfl
    obtain ⟨e1, e2⟩ := hp
    subst e1; subst e2
    refine SC.opn (open_rev (k := K.rv) (s := ⟨s.rl, s.rn, s.led⟩)) fun ⟨a0, c0, ra, rc, rs⟩ ⟨hle, hrs⟩ => ?_
    dsimp only at hle hrs ⊢
    refine Wd [.r 0, .r 1, .r 2, .r 3, .r 4, .r 5, .r 6, .r 7, .r 8, .r 9, .e 10, .e 11] ?_
    iterate 5 refine Wq ?_
    refine SQ_rd rfl (RD_loadA (vs := m.env.cells) Tryz.isAgg43 Tryz.sizeOf43 rfl rfl) (Has.ces (cs := m.cells) fun j v h => by rcases j with _ | _ | _ | _ | j <;> simp [MsgD.cells, EnvD.cells, QcD.cells, BlkD.cells] at h ⊢ <;> exact h) rfl ?_
    iterate 4 refine Wq ?_
    refine SQ_call rfl Tryz.call32 (.cons rfl (.nil)) (CallsK.atPt (rev_led K.rv a0 ra s.rl.length c0 s.rn rc)) (lts rfl) ?_
    rintro _ L3 ⟨rfl, hL3⟩
    refine ⟨.lands hL3 (.w rfl (.h (Has.ces (cs := m.cells) fun j v h => by rcases j with _ | _ | _ | _ | j <;> simp [MsgD.cells, EnvD.cells, QcD.cells, BlkD.cells] at h ⊢ <;> exact h) (.h (Has.ce rfl) (.nil)))), ?_⟩
    refine SQ.lands hL3 ?_
    refine SQ_call rfl Tryz.call177 (.cons rfl (.cons rfl (.cons rfl (.nil)))) (CallsK.at3 (wn_PoolAdd K.k ⟨putC g.N (envC m.env), g.S, g.V⟩ K.po (min (max K.c.po 0) 1000) s K.rv.L m.env heo (by show (putC g.N (envC m.env)).length ≤ _; omega) (by omega) q3 (fun x hx => u64B_ok (q4 x hx)) (u64B_ok q5))) (lts rfl) ?_
    rintro _ L4 ⟨⟨cc, rfl⟩, hL4⟩
    refine ⟨.lands hL4 (.h (Has.ce rfl) (.w rfl (.w rfl (.nil)))), ?_⟩
    refine SQ.lands hL4 ?_
    refine Ws ?_
    refine SN_stop0 rfl ?_
    exact ⟨od, A, Arc.le.rfl, ho, (close_rev K.rv ⟨s.rl, s.rn, s.led⟩ (rs := rs) hle hrs).trans ((close_hd K ⟨s.laid, od⟩).trans ((close_nod K (({ s with pool := if checkC s (okEC (okLC (putC g.N (envC m.env)) m.env) g.S m.env) m.env = 0 then s.pool ++ [m.env] else s.pool } : NS), od)).trans .fin))⟩
  · have hno : ((dnumC (putC g.N (envC m.env)) (envC m.env) : Nat) : Int) ∈ s.ks := by simpa using hc16
    rw [if_pos hno] at h
    cases h
    refine Ws ?_
    refine SN_stop0 rfl ?_
    exact ⟨od, A, Arc.le.rfl, ho, ((close_hd K ⟨(s).laid, od⟩).trans ((close_nod K (s, od)).trans .fin))⟩

theorem node_takeShare {W : World} {F : List HProp} [Abs F] (K : NK) (hK : K.Ok) (s : NS) (od : List MsgD) (A : Arc) (g : GS) (ho : Out A od s.out) (m : MsgD) (g' : GS) (s' : NS) (h : openP K.c K.me 20 g s = some (g', s')) :
    CallsK W Tryz.prog 161 #[.pointer (some ⟨K.p, 0, none⟩), m.val] (At nodI K (s, od) :: At wnI K.k g :: At arcI () A :: F) (fun _ L => ∃ od' A', A.le A' ∧ Out A' od' (s').out ∧ Lands L (At nodI K (s', od') :: At wnI K.k g' :: At arcI () A' :: F)) := by
  refine CallsK_enter (n := 6) Tryz.func161 rfl rfl rfl ?_
  iterate 2 refine Ws ?_
  refine Wb fun b3 => ?_
  iterate 4 refine Ws ?_
  refine We (CallsK.at3 (node_open K hK s od A g ho 20 g' s' h)) ?_
  rintro _ L1 ⟨od1, A1, g1, ho1, hL1⟩
  refine SR.lands hL1 ?_
  refine Ws ?_
  refine SN_stop0 rfl ?_
  exact ⟨od1, A1, g1, ho1, .fin⟩

theorem node_takeCert {W : World} {F : List HProp} [Abs F] (K : NK) (hK : K.Ok) (s : NS) (od : List MsgD) (A : Arc) (g : GS) (ho : Out A od s.out) (m : MsgD) (hn : m.num = 0) (hq : RArc A m.qc.by_) (hI : I64 m.qc.view ∧ I64 m.qc.block) (g' : GS) (s' : NS) (h : okP K.c K.me g s m.qc.p = some (g', s')) :
    CallsK W Tryz.prog 158 #[.pointer (some ⟨K.p, 0, none⟩), m.val] (At nodI K (s, od) :: At wnI K.k g :: At arcI () A :: F) (fun _ L => ∃ od' A', A.le A' ∧ Out A' od' (s').out ∧ Lands L (At nodI K (s', od') :: At wnI K.k g' :: At arcI () A' :: F)) := by
  refine CallsK_enter (n := 28) Tryz.func158 rfl rfl rfl ?_
  iterate 2 refine Ws ?_
  refine Wb fun b3 => ?_
  iterate 6 refine Ws ?_
  refine SR_rd (RD_load (v := .int .i64 m.num) Tryz.isAgg3 rfl) (Has.ce rfl) rfl ?_
  iterate 4 refine Ws ?_
  refine SC_cond_true rfl (by rw [hn]; rfl) ?_
  iterate 3 refine Ws ?_
  refine SR_rd (RD_loadA (vs := m.qc.cells) Tryz.isAgg39 Tryz.sizeOf39 rfl rfl) (Has.ces (cs := m.cells) fun j v h => by rcases j with _ | _ | _ | j <;> simp [MsgD.cells, EnvD.cells, QcD.cells, BlkD.cells] at h ⊢ <;> exact h) rfl ?_
  refine We (CallsK.at3 (node_ok K hK s od A g ho m.qc hq hI g' s' h)) ?_
  rintro _ L1 ⟨od1, A1, g1, ho1, hL1⟩
  refine SR.lands hL1 ?_
  iterate 2 refine Ws ?_
  refine SN_stop0 rfl ?_
  exact ⟨od1, A1, g1, ho1, .fin⟩

theorem tal_Vote {W : World} {F : List HProp} [Abs F] (k : WK) (z : WS) (p : Nat) (s : TaS) (hw : s.w = k.p) (x v b : Int) (hx : 0 ≤ x ∧ x < s.c.n) (hv : 1 ≤ v) (hm : voteB v b ∈ z.l) (hs : x ∈ signers z.S (dnum z.l (voteB v b) : Nat)) (hI : ∀ y ∈ (addX (s.at v b) x), I64 y) (hl : (addX (s.at v b) x).length ≤ 12) (hz : z.l.length ≤ 1000000000) :
    CallsK W Tryz.prog 181 #[.pointer (some ⟨p, 0, none⟩), .int .i64 x, .int .i64 v, .int .i64 b] (At talI p s :: At worldI k z :: F) (fun u L => ∃ q : QcD, u = .tuple #[q.val, .bool (decide (¬ (((addX (s.at v b) x).length : Nat) : Int) < IntKind.i64.wrap (s.c.n - s.c.f)))] ∧ (¬ (((addX (s.at v b) x).length : Nat) : Int) < IntKind.i64.wrap (s.c.n - s.c.f) → q.view = v ∧ q.block = b ∧ q.by_.l = sortI (addX (s.at v b) x)) ∧ q.by_.l.length = q.by_.n ∧ Lands L (rowP 3 1 q.by_.a q.by_.n q.by_.c (q.by_.l.map intV) :: At talI p (s.put x v b) :: At worldI k z :: F)) := by
  cases hn : mget s.m (v, b) with
  | none => exact tal_Vote_new k z p s hw x v b hx hv hm hs hI hl hz hn
  | some ks => exact tal_Vote_old k z p s hw x v b hx hv hm hs hI hl hz ks hn
theorem wn_Tal {W : World} {F : List HProp} [Abs F] (K : NK) (hK : K.Ok) (s : NS) (g : GS) (x v b : Int) (q1 : g.ok = true) (hx : 0 ≤ x ∧ x < K.c.n) (hv : 1 ≤ v) (hm : memC g.N (voteC v b) = true) (hs : x ∈ sgC g.N g.S (voteC v b)) (hI : rowG (addX ((mget s.m (v, b)).getD []) x) = true) (hl : (addX ((mget s.m (v, b)).getD []) x).length ≤ 12) :
    CallsK W Tryz.prog 181 #[.pointer (some ⟨K.ta, 0, none⟩), .int .i64 x, .int .i64 v, .int .i64 b] (At talI K.ta ⟨K.k.p, K.c, s.m⟩ :: At wnI K.k g :: F) (fun u L => ∃ q : QcD, u = .tuple #[q.val, .bool (decide (¬ (((addX ((mget s.m (v, b)).getD []) x).length : Nat) : Int) < K.c.n - K.c.f))] ∧ (¬ (((addX ((mget s.m (v, b)).getD []) x).length : Nat) : Int) < K.c.n - K.c.f → q.view = v ∧ q.block = b ∧ q.by_.l = sortS (addX ((mget s.m (v, b)).getD []) x)) ∧ q.by_.l.length = q.by_.n ∧ Lands L (rowP 3 1 q.by_.a q.by_.n q.by_.c (q.by_.l.map intV) :: At talI K.ta ⟨K.k.p, K.c, mset s.m (v, b) (addX ((mget s.m (v, b)).getD []) x)⟩ :: At wnI K.k g :: F)) := by
  refine CallsK.opn (open_wn (k := K.k) (g := g)) fun ⟨l, vv⟩ ⟨f1, f2, f3, f4⟩ => ?_
  dsimp only at f1 f2 f3 f4
  have hN := (GS.ok_1 q1).1
  have hw : IntKind.i64.wrap (K.c.n - K.c.f) = K.c.n - K.c.f := by have := hK.n; have := hK.f; rw [IntKind.wrap_i64]; omega
  have hm2 : voteB v b ∈ l := by rw [← f1, ← vote_enc, mem_enc] at hm; exact of_decide_eq_true hm
  have hs2 : x ∈ signers g.S (dnum l (voteB v b) : Nat) := by rw [← f1, ← vote_enc, sg_enc] at hs; exact hs
  have hz : l.length ≤ 1000000000 := by have := wn_len f1 hN; omega
  refine CallsK.imp (CallsK.at2 (tal_Vote K.k ⟨l, g.S⟩ K.ta ⟨K.k.p, K.c, s.m⟩ rfl x v b hx hv hm2 hs2 (rowG_ok hI).1 hl hz)) fun u L ⟨q, hu, h1, h2, hL⟩ => ?_
  have hu2 : u = .tuple #[q.val, .bool (decide (¬ (((addX ((mget s.m (v, b)).getD []) x).length : Nat) : Int) < IntKind.i64.wrap (K.c.n - K.c.f)))] := hu
  have h3 : ¬ (((addX ((mget s.m (v, b)).getD []) x).length : Nat) : Int) < IntKind.i64.wrap (K.c.n - K.c.f) → q.view = v ∧ q.block = b ∧ q.by_.l = sortI (addX ((mget s.m (v, b)).getD []) x) := h1
  rw [hw] at hu2 h3
  rw [← sortS_eq] at h3
  have hL2 : Lands L (rowP 3 1 q.by_.a q.by_.n q.by_.c (q.by_.l.map intV) :: At talI K.ta ⟨K.k.p, K.c, mset s.m (v, b) (addX ((mget s.m (v, b)).getD []) x)⟩ :: At worldI K.k ⟨l, g.S⟩ :: At vltI K.k.v vv :: F) := hL
  refine ⟨q, hu2, h3, h2, hL2.trans ?_⟩
  exact (close_wn K.k g (l := l) (v := vv) f1 f2 f3 f4).trans .fin

theorem node_takeVote {W : World} {F : List HProp} [Abs F] (K : NK) (hK : K.Ok) (s : NS) (od : List MsgD) (A : Arc) (g : GS) (ho : Out A od s.out) (m : MsgD) (hm : I64 m.view ∧ I64 m.num) (g' : GS) (s' : NS) (h : voteP K.c K.me g s m.from_ m.view m.num = some (g', s')) :
    CallsK W Tryz.prog 156 #[.pointer (some ⟨K.p, 0, none⟩), m.val] (At nodI K (s, od) :: At wnI K.k g :: At arcI () A :: F) (fun _ L => ∃ od' A', A.le A' ∧ Out A' od' (s').out ∧ Lands L (At nodI K (s', od') :: At wnI K.k g' :: At arcI () A' :: F)) := by
  refine CallsK_enter (n := 24) Tryz.func156 rfl rfl rfl ?_
  unfold voteP at h
  obtain ⟨hc, h⟩ := chk_some h
  simp only [Bool.and_eq_true, decide_eq_true_eq] at hc
  obtain ⟨q1, q2, q3, q4, q5, q6, q7⟩ := hc
  iterate 2 refine Ws ?_
  refine Wb fun b3 => ?_
  iterate 3 refine Ws ?_
  refine SC.opn (open_nod (K := K) (y := (s, od))) fun _ _ => ?_
  dsimp only
  refine SC.opn (open_hd (K := K)) fun ⟨br, a, c⟩ _ => ?_
  dsimp only
  refine SC_drawn (.cons 0 true (.cons 1 true (.cons 2 true (.cons 3 true (.cons 4 true (.cons 5 true (.cons 6 true (.cons 7 true (.cons 8 true (.cons 9 true (.alts [10, 14] (fun i => bif Nat.beq i 10 then (.cons 11 true (.cons 12 true (.cons 13 true (.cons 14 false (.goto [true, true, true, true, true, true, true, true, true, true, true, true, true, true, true, false, false] 2))))) else (.cons 10 false (.cons 11 true (.cons 12 true (.cons 13 true (.goto [true, true, true, true, true, true, true, true, true, true, true, true, true, true, true, false, false] 2))))))))))))))))) (by kernel_rfl) (by kernel_rfl) ?_
  iterate 5 refine Wq ?_
  refine SQ_rd rfl (RD_load (v := .int .i64 m.from_) Tryz.isAgg3 rfl) (Has.ce rfl) rfl ?_
  refine Wq ?_
  refine SQ_rd rfl (RD_load (v := .int .i64 m.view) Tryz.isAgg3 rfl) (Has.ce rfl) rfl ?_
  refine Wq ?_
  refine SQ_rd rfl (RD_load (v := .int .i64 m.num) Tryz.isAgg3 rfl) (Has.ce rfl) rfl ?_
  refine SQ.le (l := [(0, _), (10, _), (12, _), (14, _), (16, _)]) ?_ (.cons rfl (.cons rfl (.cons rfl (.cons rfl (.cons rfl (.nil))))))
  refine SQ_join (X := {x : QcD × Nat // (¬ (((addX ((mget s.m (m.view, m.num)).getD []) m.from_).length : Nat) : Int) < K.c.n - K.c.f → x.1.view = m.view ∧ x.1.block = m.num ∧ x.1.by_.l = sortS (addX ((mget s.m (m.view, m.num)).getD []) m.from_)) ∧ x.1.by_.l.length = x.1.by_.n}) (.cons 15 false (.cons 16 true (.nil))) [true, true, true, true, true, true, true, true, true, true, true, true, true, true, true, false, false] 2 (by kernel_rfl) (fun x => [(4, .pointer (some ⟨x.1.2, 0, none⟩)), (18, x.1.1.val), (19, .bool (decide (¬ (((addX ((mget s.m (m.view, m.num)).getD []) m.from_).length : Nat) : Int) < K.c.n - K.c.f)))]) (fun x => pt x.1.2 (.cells [.int .i64 0, .int .i64 0, .slice none 0 0].toArray 39) :: rowP 3 1 x.1.1.by_.a x.1.1.by_.n x.1.1.by_.c (x.1.1.by_.l.map intV) :: pt K.p (.cells ([.pointer (some ⟨K.k.p, 0, none⟩), .int .i64 K.c.f, .int .i64 K.c.n, .int .i64 K.c.cl, .int .i64 K.c.ba, .int .i64 K.c.mo, .int .i64 K.c.bt, .int .i64 K.c.po, .int .i64 K.c.wi, .int .i64 K.me, .pointer (some ⟨K.t, 0, none⟩), .pointer (some ⟨K.sf, 0, none⟩), .pointer (some ⟨K.lp, 0, none⟩), .pointer (some ⟨K.ta, 0, none⟩), .pointer (some ⟨K.pc, 0, none⟩), .pointer (some ⟨K.po, 0, none⟩), .pointer (some ⟨K.rv.r, 0, none⟩), .int .i64 s.laid, .pointer (none), .pointer (none), .pointer (br), .slice a od.length c]).toArray 91) :: rowP 46 19 a od.length c (od.flatMap MsgD.cells) :: At treeI K.t ⟨K.k.p, s.root, s.T⟩ :: At sfI K.sf ⟨K.t, s.hv, s.hb, s.hby, s.lock, s.last⟩ :: At logI K.lp ⟨K.k.p, K.t, s.tip, s.lg, s.ks⟩ :: At talI K.ta ⟨K.k.p, K.c, mset s.m (m.view, m.num) (addX ((mget s.m (m.view, m.num)).getD []) m.from_)⟩ :: At paceI K.pc s.ps :: At poolI K.po ⟨K.k.p, min (max K.c.po 0) 1000, s.pool⟩ :: At revI K.rv ⟨s.rl, s.rn, s.led⟩ :: At wnI K.k g :: At arcI () A :: pt b3 (.cells m.cells.toArray 46) :: F) (fun x => rowP 3 1 x.1.1.by_.a x.1.1.by_.n x.1.1.by_.c (x.1.1.by_.l.map intV) :: pt K.p (.cells ([.pointer (some ⟨K.k.p, 0, none⟩), .int .i64 K.c.f, .int .i64 K.c.n, .int .i64 K.c.cl, .int .i64 K.c.ba, .int .i64 K.c.mo, .int .i64 K.c.bt, .int .i64 K.c.po, .int .i64 K.c.wi, .int .i64 K.me, .pointer (some ⟨K.t, 0, none⟩), .pointer (some ⟨K.sf, 0, none⟩), .pointer (some ⟨K.lp, 0, none⟩), .pointer (some ⟨K.ta, 0, none⟩), .pointer (some ⟨K.pc, 0, none⟩), .pointer (some ⟨K.po, 0, none⟩), .pointer (some ⟨K.rv.r, 0, none⟩), .int .i64 s.laid, .pointer (none), .pointer (none), .pointer (br), .slice a od.length c]).toArray 91) :: rowP 46 19 a od.length c (od.flatMap MsgD.cells) :: At treeI K.t ⟨K.k.p, s.root, s.T⟩ :: At sfI K.sf ⟨K.t, s.hv, s.hb, s.hby, s.lock, s.last⟩ :: At logI K.lp ⟨K.k.p, K.t, s.tip, s.lg, s.ks⟩ :: At talI K.ta ⟨K.k.p, K.c, mset s.m (m.view, m.num) (addX ((mget s.m (m.view, m.num)).getD []) m.from_)⟩ :: At paceI K.pc s.ps :: At poolI K.po ⟨K.k.p, min (max K.c.po 0) 1000, s.pool⟩ :: At revI K.rv ⟨s.rl, s.rn, s.led⟩ :: At wnI K.k g :: At arcI () A :: pt b3 (.cells m.cells.toArray 46) :: F) (fun ⟨⟨y, z⟩, hy1, hy2⟩ T1 hT1 => ?_) (fun K1 => ?_)
  · refine SQ.le (l := [(4, _), (18, _), (19, _), (0, _), (10, _), (12, _), (14, _), (16, _)]) ?_ (.cons rfl (.cons rfl (.cons rfl (.cons rfl (.cons rfl (.cons rfl (.cons rfl (.cons rfl (.nil)))))))))
    dsimp only at hy1 hy2 ⊢
    refine SQ_ox0 rfl (OX_stA (vs := y.cells) Tryz.sizeOf39 rfl rfl rfl rfl) ?_
    rintro _ _ rfl
    refine ⟨Keeps.lands .fin (Keeps.all hT1), ?_⟩
    refine Wq ?_
    iterate 7 refine Ws ?_
    refine SC_cond rfl (fun hc20 => ?_) (fun hc20 => ?_)
    · have hn : ¬ (((addX ((mget s.m (m.view, m.num)).getD []) m.from_).length : Nat) : Int) < K.c.n - K.c.f := of_decide_eq_true hc20
      obtain ⟨e1, e2, e3⟩ := hy1 hn
      rw [if_neg hn] at h
      have hqp : y.p = ⟨m.view, m.num, sortS (addX ((mget s.m (m.view, m.num)).getD []) m.from_)⟩ := by unfold QcD.p; rw [e1, e2, e3]
      rw [← hqp] at h
      have hql : y.by_.l.length ≤ 200 := by rw [e3, sortS_eq, (sortI_p _).length_eq]; omega
      have hqI : ∀ z ∈ y.by_.l, I64 z := fun z hz => by rw [e3, sortS_eq] at hz; exact (rowG_ok q6).1 z ((sortI_p _).mem_iff.1 hz)
      refine SC.lands (arc_push (a := y.by_.a) (cs := y.by_.l.map intV)) ?_
      iterate 2 refine Ws ?_
      refine SR_rd (RD_loadA (vs := y.cells) Tryz.isAgg39 Tryz.sizeOf39 rfl rfl) Has.wh rfl ?_
      refine We (CallsK.lands ((close_hd K ⟨s.laid, od⟩).trans (close_nod K (({ s with m := mset s.m (m.view, m.num) (addX ((mget s.m (m.view, m.num)).getD []) m.from_) } : NS), od))) (CallsK.at3 (node_seen K hK ({ s with m := mset s.m (m.view, m.num) (addX ((mget s.m (m.view, m.num)).getD []) m.from_) } : NS) od (A.add y.by_.a (y.by_.l.map intV)) g (ho.le Arc.le_add) y ⟨HasRow.ofAdd, hy2, hqI, by omega⟩ (by rw [e1, e2]; exact hm) g' s' h))) ?_
      rintro _ L2 ⟨od1, A1, g1, ho1, hL2⟩
      refine SR.lands hL2 ?_
      refine Ws ?_
      refine SN_stop0 rfl ?_
      exact ⟨od1, A1, Arc.le_add.trans g1, ho1, .fin⟩
    · have hn : (((addX ((mget s.m (m.view, m.num)).getD []) m.from_).length : Nat) : Int) < K.c.n - K.c.f := by have := of_decide_eq_false hc20; omega
      rw [if_pos hn] at h
      cases h
      refine Ws ?_
      refine SN_stop0 rfl ?_
      exact ⟨od, A, Arc.le.rfl, ho, ((close_hd K ⟨(({ s with m := mset s.m (m.view, m.num) (addX ((mget s.m (m.view, m.num)).getD []) m.from_) } : NS)).laid, od⟩).trans ((close_nod K (({ s with m := mset s.m (m.view, m.num) (addX ((mget s.m (m.view, m.num)).getD []) m.from_) } : NS), od)).trans .fin))⟩
  · refine SQ_two ?_ ?_
    · refine SA_call rfl .free Tryz.call181 (.cons rfl (.cons rfl (.cons rfl (.cons rfl (.nil))))) (CallsK.at2 (wn_Tal K hK s g m.from_ m.view m.num q1 q2 q3 q4 q5 q6 q7)) (lts rfl) ?_
      rintro _ L1 ⟨q, rfl, hq1, hq2, hL1⟩
      refine ⟨.lands hL1 (.w rfl (.w rfl (.w rfl (.w rfl (.nil))))), ?_⟩
      refine SQ.lands hL1 ?_
      iterate 3 refine Wq ?_
      refine SQ_ox rfl (OX_alloc Tryz.zeroValue39 rfl) rfl ?_
      rintro _ _ ⟨b4, rfl, rfl⟩
      refine ⟨.h (Has.ce rfl) (.h (Has.ce rfl) (.h (Has.ce rfl) (.h (Has.ce rfl) (.nil)))), ?_⟩
      exact K1 (⟨(q, b4), hq1, hq2⟩) _ _ _ (.cons rfl (.cons rfl (.cons rfl (.cons rfl (.cons rfl (.cons rfl (.cons rfl (.cons rfl (.nil))))))))) (.fin) (.cons (Has.ce rfl) (.cons (Has.ce rfl) (.cons (Has.ce rfl) (.cons (Has.ce rfl) (.nil)))))
    · refine SA_ox rfl .free (OX_alloc Tryz.zeroValue39 rfl) rfl ?_
      rintro _ _ ⟨b4, rfl, rfl⟩
      refine ⟨.h (Has.ce rfl) (.h (Has.ce rfl) (.h (Has.ce rfl) (.h (Has.ce rfl) (.nil)))), ?_⟩
      refine SQ_call rfl Tryz.call181 (.cons rfl (.cons rfl (.cons rfl (.cons rfl (.nil))))) (CallsK.at2 (wn_Tal K hK s g m.from_ m.view m.num q1 q2 q3 q4 q5 q6 q7)) (lts rfl) ?_
      rintro _ L1 ⟨q, rfl, hq1, hq2, hL1⟩
      refine ⟨.lands hL1 (.w rfl (.w rfl (.w rfl (.w rfl (.nil))))), ?_⟩
      refine SQ.lands hL1 ?_
      iterate 3 refine Wq ?_
      exact K1 (⟨(q, b4), hq1, hq2⟩) _ _ _ (.cons rfl (.cons rfl (.cons rfl (.cons rfl (.cons rfl (.cons rfl (.cons rfl (.cons rfl (.nil))))))))) (.fin) (.cons (Has.ce rfl) (.cons (Has.ce rfl) (.cons (Has.ce rfl) (.cons (Has.ce rfl) (.nil)))))

end Go.Proofs.YtdhpjdhloaoepaaGreat

/- A replica takes a block. -/
namespace Go.Proofs.YtdhpjdhloaoepaaGreat
open Go Go.Proofs
attribute [local irreducible] SC SN SR SQ SA SO
set_option maxRecDepth 100000
theorem addC_ts (s : TS) (N : List Nat) (b : Blk) : (s.addC N b).2.1 = ⟨s.w, s.root, (s.addC N b).2.1.T⟩ := by
  unfold TS.addC
  split
  · rfl
  · split
    · rfl
    · split <;> rfl
theorem vote_w (t w : Nat) (a b : Int) (c : List Int) (d e root : Int) (T : List (Int × Blk)) (k : Int) : (⟨t, a, b, c, d, e⟩ : SfS).vote ⟨w, root, T⟩ k = (((⟨0, a, b, c, d, e⟩ : SfS).vote ⟨0, root, T⟩ k).1, ⟨t, ((⟨0, a, b, c, d, e⟩ : SfS).vote ⟨0, root, T⟩ k).2.hv, ((⟨0, a, b, c, d, e⟩ : SfS).vote ⟨0, root, T⟩ k).2.hb, ((⟨0, a, b, c, d, e⟩ : SfS).vote ⟨0, root, T⟩ k).2.hby, ((⟨0, a, b, c, d, e⟩ : SfS).vote ⟨0, root, T⟩ k).2.lock, ((⟨0, a, b, c, d, e⟩ : SfS).vote ⟨0, root, T⟩ k).2.last⟩) := by
  unfold SfS.vote
  dsimp only
  rw [TS.way_w w 0 root T d k]
  cases mget T k with
  | none => rfl
  | some x =>
    dsimp only
    split
    · rfl
    · split <;> rfl

theorem node_takeBlock {W : World} {F : List HProp} [Abs F] (K : NK) (hK : K.Ok) (s : NS) (od : List MsgD) (A : Arc) (g : GS) (ho : Out A od s.out) (m : MsgD) (b : BlkD) (hbl : m.bl.l = [b]) (hbn : m.bl.n = 1) (hmr : HasRow [At arcI () A] m.bl.a (m.bl.l.flatMap BlkD.cells)) (hB : BArc A b) (g' : GS) (s' : NS) (h : blockP K.c K.me g s b.pure = some (g', s')) :
    CallsK W Tryz.prog 155 #[.pointer (some ⟨K.p, 0, none⟩), m.val] (At nodI K (s, od) :: At wnI K.k g :: At arcI () A :: F) (fun _ L => ∃ od' A', A.le A' ∧ Out A' od' (s').out ∧ Lands L (At nodI K (s', od') :: At wnI K.k g' :: At arcI () A' :: F)) := by
  refine CallsK_enter (n := 95) Tryz.func155 rfl rfl rfl ?_
  haveI : ArcRow A m.bl.a _ := ⟨hmr⟩
  haveI : ArcRow A b.by_.a _ := ⟨(hB).r1.row⟩
  haveI : ArcRow A b.envs.a _ := ⟨(hB).r2⟩
  have hkn := hK.n
  unfold blockP at h
  obtain ⟨hc, h⟩ := chk_some h
  simp only [Bool.and_eq_true] at hc
  obtain ⟨q1, q2⟩ := hc
  obtain ⟨⟨g1, s1⟩, hs, h⟩ := obind_some h
  dsimp only at h
  obtain ⟨hc, h⟩ := chk_some h
  simp only [Bool.and_eq_true] at hc
  obtain ⟨q3, q4⟩ := hc
  have hN := (GS.ok_1 q1).1
  have hN1 := (GS.ok_1 q3).1
  have hts := addC_ts s1.ts g1.N b.pure
  generalize hAD : s1.ts.addC g1.N b.pure = AD at h hts
  obtain ⟨⟨d, e⟩, t, N⟩ := AD
  dsimp only at h hts
  obtain ⟨hc, h⟩ := chk_some h
  have he : e = 0 ∨ e = 10 := of_decide_eq_true hc
  clear hc
  iterate 2 refine Ws ?_
  refine Wb fun b3 => ?_
  iterate 5 refine Ws ?_
  refine SR_rd (RD_load (v := .slice m.bl.a m.bl.n m.bl.c) Tryz.isAgg44 rfl) (Has.ce rfl) rfl ?_
  refine SR_rd (RD_ixO (cs := m.bl.l.flatMap BlkD.cells) Tryz.runUnderlying44 Tryz.sizeOf146 rfl rfl (by rw [bl_len, hbl, hbn]; rfl) (by omega) (by omega)) Has.ro rfl ?_
  refine SR_rd (RD_loadAO (vs := b.cells) (cs := m.bl.l.flatMap BlkD.cells) Tryz.isAgg146 Tryz.sizeOf146 rfl rfl (by decide) (fun o v h => by have ho : o < 6 := (List.getElem?_eq_some_iff.1 h).1; rw [show (0 : Int).toNat * (5 + 1) + o = 0 * 6 + o by rfl, bl_get (by rw [hbl]; rfl) o ho]; exact h)) Has.ro rfl ?_
  refine Wa fun b4 => ?_
  refine SR_ox0 (OX_stA (vs := b.cells) Tryz.sizeOf146 rfl rfl rfl rfl) ?_
  rintro _ _ rfl
  iterate 4 refine Ws ?_
  refine SC.opn (open_nod (K := K) (y := (s, od))) fun _ _ => ?_
  dsimp only
  refine SC.opn (open_hd (K := K)) fun ⟨br, a, c⟩ _ => ?_
  dsimp only
  refine Wd [.r 0, .r 1, .r 2, .r 3, .r 4, .r 5, .r 6, .r 7, .r 8, .e 9, .r 10] ?_
  iterate 7 refine Wq ?_
  refine SQ_rd rfl (RD_loadA (vs := K.c.cells) Tryz.isAgg23 Tryz.sizeOf23 rfl rfl) (Has.ces (cs := [.pointer (some ⟨K.k.p, 0, none⟩), .int .i64 K.c.f, .int .i64 K.c.n, .int .i64 K.c.cl, .int .i64 K.c.ba, .int .i64 K.c.mo, .int .i64 K.c.bt, .int .i64 K.c.po, .int .i64 K.c.wi, .int .i64 K.me, .pointer (some ⟨K.t, 0, none⟩), .pointer (some ⟨K.sf, 0, none⟩), .pointer (some ⟨K.lp, 0, none⟩), .pointer (some ⟨K.ta, 0, none⟩), .pointer (some ⟨K.pc, 0, none⟩), .pointer (some ⟨K.po, 0, none⟩), .pointer (some ⟨K.rv.r, 0, none⟩), .int .i64 s.laid, .pointer (none), .pointer (none), .pointer (br), .slice a od.length c]) fun j v h => by rcases j with _ | _ | _ | _ | _ | _ | _ | _ | j <;> simp [CfgD.cells] at h ⊢ <;> exact h) rfl ?_
  refine SQ_rd rfl (RD_loadA (vs := b.cells) Tryz.isAgg146 Tryz.sizeOf146 rfl rfl) Has.wh rfl ?_
  refine SQ_call rfl Tryz.call178 (.cons rfl (.cons rfl (.cons rfl (.nil)))) (CallsK.at (wn_BlokOk K.k g K.c (by omega) b rfl rfl hB.fit (by omega))) (lts rfl) ?_
  rintro _ L1 ⟨rfl, hL1⟩
  refine ⟨.lands hL1 (.w rfl (.w rfl (.w rfl (.nil)))), ?_⟩
  refine SQ.lands hL1 ?_
  refine Wq ?_
  iterate 2 refine Ws ?_
  refine SC_cond_false rfl (by rw [q2]; rfl) ?_
  iterate 6 refine Ws ?_
  refine SR_rd (RD_loadA (vs := (⟨b.jv, b.jb, b.by_⟩ : QcD).cells) Tryz.isAgg39 Tryz.sizeOf39 rfl rfl) (Has.ces (cs := b.cells) fun j v h => by rcases j with _ | _ | _ | j <;> simp [MsgD.cells, EnvD.cells, QcD.cells, BlkD.cells] at h ⊢ <;> exact h) rfl ?_
  refine We (CallsK.lands ((close_hd K ⟨s.laid, od⟩).trans (close_nod K (s, od))) (CallsK.at3 (node_seen K hK s od A ⟨(b.pure.okC K.c g.N g.S).2, g.S, g.V⟩ ho (⟨b.jv, b.jb, b.by_⟩ : QcD) hB.r1 ⟨hB.i3, hB.i4⟩ g1 s1 hs))) ?_
  rintro _ L2 ⟨od1, A1, gA1, ho1, hL2⟩
  refine SR.lands hL2 ?_
  iterate 4 refine Ws ?_
  haveI : ArcRow A1 b.by_.a _ := ⟨(hB.le gA1).r1.row⟩
  haveI : ArcRow A1 b.envs.a _ := ⟨(hB.le gA1).r2⟩
  refine SC.opn (open_nod (K := K) (y := (s1, od1))) fun _ _ => ?_
  dsimp only
  refine SC.opn (open_hd (K := K)) fun ⟨br, a, c⟩ _ => ?_
  dsimp only
  refine Wd [.r 0, .r 1, .r 2, .r 3, .r 4, .r 5, .r 6, .e 7, .r 8] ?_
  iterate 6 refine Wq ?_
  refine SQ_rd rfl (RD_load (v := .int .i64 b.jb) Tryz.isAgg3 rfl) (Has.ce rfl) rfl ?_
  refine SQ_call rfl Tryz.call111 (.cons rfl (.cons rfl (.nil))) (CallsK.at (tree_Has K.t ⟨K.k.p, s1.root, s1.T⟩ b.jb)) (lts rfl) ?_
  rintro _ L3 ⟨rfl, hL3⟩
  refine ⟨.lands hL3 (.w rfl (.w rfl (.nil))), ?_⟩
  refine SQ.lands hL3 ?_
  refine Wq ?_
  iterate 2 refine Ws ?_
  refine SC_cond_false rfl (by dsimp only; rw [show mget s1.T b.jb = mget s1.T b.pure.jb from rfl, q4]; rfl) ?_
  iterate 3 refine Ws ?_
  refine Wd [.r 0, .r 1, .r 2, .r 3, .r 4, .e 5, .r 6, .r 7, .r 8, .r 9, .r 10] ?_
  iterate 4 refine Wq ?_
  refine SQ_rd rfl (RD_loadA (vs := b.cells) Tryz.isAgg146 Tryz.sizeOf146 rfl rfl) Has.wh rfl ?_
  refine SQ_call rfl Tryz.call179 (.cons rfl (.cons rfl (.nil))) (CallsK.at2 (wn_Add K.k g1 K.t K.k.p s1.root s1.T rfl b rfl rfl hB.fit (by omega))) (lts rfl) ?_
  rintro _ L4 ⟨rfl, hL4⟩
  refine ⟨.lands hL4 (.w rfl (.w rfl (.nil))), ?_⟩
  rw [show (⟨0, s1.root, s1.T⟩ : TS).addC g1.N b.pure = ((d, e), t, N) from hAD] at hL4 ⊢
  dsimp only at hL4 ⊢
  refine SQ.lands hL4 ?_
  iterate 5 refine Wq ?_
  iterate 8 refine Ws ?_
  refine SR_guard rfl rfl (fun hg8_2 => ?_) (fun hg8_2 => ?_)
  · refine SR_yes rfl rfl (hg8_2) ?_
    refine Ws ?_
    refine SR_yes rfl rfl (hg8_2) ?_
    refine Ws ?_
    refine SR_pu (RD_pick_t rfl (hg8_2) rfl) rfl ?_
    iterate 2 refine Ws ?_
    refine SC_cond_false rfl (by have h1 : ¬ e = 0 := (by simpa using hg8_2); have h2 : e = 10 := he.resolve_left h1; simp [h2]) ?_
    iterate 3 refine Ws ?_
    refine Wd [.r 0, .r 1, .r 2, .e 3, .r 4, .r 5, .r 6, .r 7, .r 8, .r 9, .r 10, .e 11, .r 12] ?_
    refine Wq ?_
    refine SQ_rd rfl (RD_load (v := .int .i64 b.view) Tryz.isAgg3 rfl) (Has.ce rfl) rfl ?_
    refine Wq ?_
    refine SQ_call rfl Tryz.call77 (.cons rfl (.nil)) (CallsK.atPtA (pt_View K ⟨(s1).laid, od1⟩ br a c (s1).ps)) (lts rfl) ?_
    rintro _ L6 ⟨rfl, hL6⟩
    refine ⟨.lands hL6 (.h (Has.ce rfl) (.nil)), ?_⟩
    refine SQ.lands hL6 ?_
    iterate 2 refine Wq ?_
    refine SQ_guard (i := 6) rfl rfl rfl (fun hg9_5 => ?_) (fun hg9_5 => ?_)
    · have hne : b.pure.view = s1.ps.view := of_decide_eq_true hg9_5
      rw [if_pos hne] at h
      obtain ⟨hc, h⟩ := chk_some h
      simp only [Bool.and_eq_true, decide_eq_true_eq] at hc
      obtain ⟨r1, r2, r3, r4, r5, r6⟩ := hc
      obtain ⟨b1, hb1⟩ := Option.isSome_iff_exists.1 r3
      obtain ⟨lk, hlk⟩ := Option.isSome_iff_exists.1 r2
      have hb1v := (okT_ok K.k.p r1).2 d b1 hb1
      have hvv : ((⟨K.t, s1.hv, s1.hb, s1.hby, s1.lock, s1.last⟩ : SfS).vote ⟨K.k.p, s1.root, t.T⟩ d).1 = (s1.sf.vote t d).1 := by rw [vote_w, show t = ⟨0, s1.root, t.T⟩ from hts]
      refine SQ_pyes rfl rfl rfl (hg9_5) (RD_move rfl) rfl ?_
      first
        | refine SQ_pyes rfl rfl rfl (hg9_5) (RD_nilCheck rfl) rfl ?_
        | refine SQ_pyes rfl rfl rfl (hg9_5) (RD_nilCheckF rfl) rfl ?_
      first
        | refine SQ_pyes rfl rfl rfl (hg9_5) (RD_fieldAddr 11 Tryz.runUnderlying91 rfl rfl Tryz.sizeOf82 rfl) rfl ?_
        | refine SQ_yes rfl rfl rfl (hg9_5) (RD_fieldAddrO 11 Tryz.runUnderlying91 rfl rfl Tryz.sizeOf82 rfl (by simp <;> omega)) Has.ro rfl ?_
      refine SQ_yes rfl rfl rfl (hg9_5) (RD_load Tryz.isAgg82 rfl) (Has.ce rfl) rfl ?_
      refine SQ_pyes rfl rfl rfl (hg9_5) (RD_move rfl) rfl ?_
      refine SQ_one (SA_call rfl (.mk rfl rfl (hg9_5)) Tryz.call180 (.cons rfl (.cons rfl (.nil))) (CallsK.at2 (sf_Vote K.sf ⟨K.t, s1.hv, s1.hb, s1.hby, s1.lock, s1.last⟩ ⟨K.k.p, s1.root, t.T⟩ (okT_ok K.k.p r1).1 ⟨lk, hlk⟩ d b1 hb1 (by omega))) (lts rfl) ?_)
      rintro _ L5 ⟨rfl, hL5⟩
      refine ⟨.lands hL5 (.w rfl (.h (Has.ce rfl) (.nil))), ?_⟩
      rw [vote_w K.t K.k.p, show (⟨0, s1.root, t.T⟩ : TS) = t from hts.symm] at hL5
      dsimp only at hL5
      refine SQ.lands hL5 ?_
      refine SQ_pu rfl (RD_pick_t rfl (hg9_5) rfl) rfl ?_
      iterate 2 refine Ws ?_
      refine SC_cond rfl (fun hc70 => ?_) (fun hc70 => ?_)
      · rw [hvv] at hc70
        have hvt : (s1.sf.vote t d).1 = true := hc70
        rw [show (s1.sf.vote t d) = (true, (s1.sf.vote t d).2) from Prod.ext hvt rfl] at h
        dsimp only at h
        cases h
        refine Ws ?_
        refine Wd [.r 0, .r 1, .r 2, .r 3, .r 5, .r 6, .r 7, .r 8, .r 9, .r 10, .r 11, .r 12, .r 13, .r 14, .r 15, .e 4, .e 16, .e 17] ?_
        iterate 13 refine Wq ?_
        refine SQ_rd rfl (RD_load (v := .int .i64 b.view) Tryz.isAgg3 rfl) (Has.ce rfl) rfl ?_
        refine Wq ?_
        refine SQ_call rfl Tryz.call122 (.cons rfl (.nil)) (CallsK.at (wn_Signs K.k ⟨N, g1.S, g1.V⟩)) (lts rfl) ?_
        rintro _ L7 ⟨rfl, hL7⟩
        refine ⟨.lands hL7 (.h (Has.ce rfl) (.h (Has.ce rfl) (.h (Has.ce rfl) (.w rfl (.nil))))), ?_⟩
        refine SQ.lands hL7 ?_
        refine SQ_call rfl Tryz.call129 (.cons rfl (.cons rfl (.cons rfl (.nil)))) (CallsK.at (wn_Vote K.k ⟨N, g1.S, g1.V⟩ b.pure.view d (by show N.length ≤ _; omega))) (lts rfl) ?_
        rintro _ L8 ⟨rfl, hL8⟩
        refine ⟨.lands hL8 (.w rfl (.w rfl (.h (Has.ce rfl) (.h (Has.ce rfl) (.nil))))), ?_⟩
        refine SQ.lands hL8 ?_
        refine SQ_call rfl Tryz.call123 (.cons rfl (.cons rfl (.cons rfl (.nil)))) (CallsK.at (wn_Sign K.k _ _ _)) (lts rfl) ?_
        rintro _ L9 ⟨rfl, hL9⟩
        refine ⟨.lands hL9 (.h (Has.ce rfl) (.h (Has.ce rfl) (.w rfl (.h (Has.ce rfl) (.nil))))), ?_⟩
        refine SQ.lands hL9 ?_
        iterate 5 refine Ws ?_
        refine SR_rd (RD_load (v := .int .i64 b.view) Tryz.isAgg3 rfl) (Has.ce rfl) rfl ?_
        refine Ws ?_
        refine SR_pu (RD_build (.cons rfl (.cons rfl (.cons rfl (.nil)))) built46_0_3_4) rfl ?_
        refine We (CallsK.lands (close_hd K ⟨s1.laid, od1⟩) (CallsK.at2 (hd_all K ⟨s1.laid, od1⟩ A1 (mVote 0 0 b.view d) (.vote 0 0 b.pure.view d) (MIs.vote hB.i1 (i64B_ok r5)) hK.me K.c.n.toNat (by omega) (by omega) (by show od1.length ≤ _; rw [ho1.len]; omega)))) ?_
        rintro _ L10 ⟨D, A2, rfl, g2, hD, hL10⟩
        refine SR.lands hL10 ?_
        refine Ws ?_
        refine SN_stop0 rfl ?_
        exact ⟨od1 ++ D, A2, gA1.trans g2, (ho1.le g2).app hD, (close_nod K (allP K.c K.me (({ s1 with T := t.T } : NS).sfTo (s1.sf.vote t d).2) (.vote 0 0 b.pure.view d), od1 ++ D)).trans .fin⟩
      · rw [hvv] at hc70
        have hvt : (s1.sf.vote t d).1 = false := hc70
        rw [show (s1.sf.vote t d) = (false, (s1.sf.vote t d).2) from Prod.ext hvt rfl] at h
        dsimp only at h
        cases h
        refine Ws ?_
        refine SN_stop0 rfl ?_
        exact ⟨od1, A1, gA1, ho1, ((close_hd K ⟨((({ s1 with T := t.T } : NS).sfTo (s1.sf.vote t d).2)).laid, od1⟩).trans ((close_nod K ((({ s1 with T := t.T } : NS).sfTo (s1.sf.vote t d).2), od1)).trans .fin))⟩
    · refine SQ_no rfl rfl rfl (hg9_5) (lts rfl) ?_
      refine SQ_no rfl rfl rfl (hg9_5) (lts rfl) ?_
      refine SQ_no rfl rfl rfl (hg9_5) (lts rfl) ?_
      refine SQ_no rfl rfl rfl (hg9_5) (lts rfl) ?_
      refine SQ_no rfl rfl rfl (hg9_5) (lts rfl) ?_
      refine SQ_no1 rfl rfl rfl (hg9_5) (lts rfl) ?_
      refine SQ_pu rfl (RD_pick_f rfl (hg9_5) rfl) rfl ?_
      iterate 2 refine Ws ?_
      have hne : ¬ b.pure.view = s1.ps.view := by have := of_decide_eq_false hg9_5; exact this
      rw [if_neg hne] at h
      cases h
      refine SC_cond_false rfl (rfl) ?_
      refine Ws ?_
      refine SN_stop0 rfl ?_
      exact ⟨od1, A1, gA1, ho1, ((close_hd K ⟨(({ s1 with T := t.T } : NS)).laid, od1⟩).trans ((close_nod K (({ s1 with T := t.T } : NS), od1)).trans .fin))⟩
  · refine SR_no rfl rfl (hg8_2) (lts rfl) ?_
    refine SR_no rfl rfl (hg8_2) (lts rfl) ?_
    refine SR_pu (RD_pick_f rfl (hg8_2) rfl) rfl ?_
    iterate 2 refine Ws ?_
    refine SC_cond_false rfl (rfl) ?_
    iterate 3 refine Ws ?_
    refine Wd [.r 0, .r 1, .r 2, .e 3, .r 4, .r 5, .r 6, .r 7, .r 8, .r 9, .r 10, .e 11, .r 12] ?_
    refine Wq ?_
    refine SQ_rd rfl (RD_load (v := .int .i64 b.view) Tryz.isAgg3 rfl) (Has.ce rfl) rfl ?_
    refine Wq ?_
    refine SQ_call rfl Tryz.call77 (.cons rfl (.nil)) (CallsK.atPtA (pt_View K ⟨(s1).laid, od1⟩ br a c (s1).ps)) (lts rfl) ?_
    rintro _ L6 ⟨rfl, hL6⟩
    refine ⟨.lands hL6 (.h (Has.ce rfl) (.nil)), ?_⟩
    refine SQ.lands hL6 ?_
    iterate 2 refine Wq ?_
    refine SQ_guard (i := 6) rfl rfl rfl (fun hg9_5 => ?_) (fun hg9_5 => ?_)
    · have hne : b.pure.view = s1.ps.view := of_decide_eq_true hg9_5
      rw [if_pos hne] at h
      obtain ⟨hc, h⟩ := chk_some h
      simp only [Bool.and_eq_true, decide_eq_true_eq] at hc
      obtain ⟨r1, r2, r3, r4, r5, r6⟩ := hc
      obtain ⟨b1, hb1⟩ := Option.isSome_iff_exists.1 r3
      obtain ⟨lk, hlk⟩ := Option.isSome_iff_exists.1 r2
      have hb1v := (okT_ok K.k.p r1).2 d b1 hb1
      have hvv : ((⟨K.t, s1.hv, s1.hb, s1.hby, s1.lock, s1.last⟩ : SfS).vote ⟨K.k.p, s1.root, t.T⟩ d).1 = (s1.sf.vote t d).1 := by rw [vote_w, show t = ⟨0, s1.root, t.T⟩ from hts]
      refine SQ_pyes rfl rfl rfl (hg9_5) (RD_move rfl) rfl ?_
      first
        | refine SQ_pyes rfl rfl rfl (hg9_5) (RD_nilCheck rfl) rfl ?_
        | refine SQ_pyes rfl rfl rfl (hg9_5) (RD_nilCheckF rfl) rfl ?_
      first
        | refine SQ_pyes rfl rfl rfl (hg9_5) (RD_fieldAddr 11 Tryz.runUnderlying91 rfl rfl Tryz.sizeOf82 rfl) rfl ?_
        | refine SQ_yes rfl rfl rfl (hg9_5) (RD_fieldAddrO 11 Tryz.runUnderlying91 rfl rfl Tryz.sizeOf82 rfl (by simp <;> omega)) Has.ro rfl ?_
      refine SQ_yes rfl rfl rfl (hg9_5) (RD_load Tryz.isAgg82 rfl) (Has.ce rfl) rfl ?_
      refine SQ_pyes rfl rfl rfl (hg9_5) (RD_move rfl) rfl ?_
      refine SQ_one (SA_call rfl (.mk rfl rfl (hg9_5)) Tryz.call180 (.cons rfl (.cons rfl (.nil))) (CallsK.at2 (sf_Vote K.sf ⟨K.t, s1.hv, s1.hb, s1.hby, s1.lock, s1.last⟩ ⟨K.k.p, s1.root, t.T⟩ (okT_ok K.k.p r1).1 ⟨lk, hlk⟩ d b1 hb1 (by omega))) (lts rfl) ?_)
      rintro _ L5 ⟨rfl, hL5⟩
      refine ⟨.lands hL5 (.w rfl (.h (Has.ce rfl) (.nil))), ?_⟩
      rw [vote_w K.t K.k.p, show (⟨0, s1.root, t.T⟩ : TS) = t from hts.symm] at hL5
      dsimp only at hL5
      refine SQ.lands hL5 ?_
      refine SQ_pu rfl (RD_pick_t rfl (hg9_5) rfl) rfl ?_
      iterate 2 refine Ws ?_
      refine SC_cond rfl (fun hc70 => ?_) (fun hc70 => ?_)
      · rw [hvv] at hc70
        have hvt : (s1.sf.vote t d).1 = true := hc70
        rw [show (s1.sf.vote t d) = (true, (s1.sf.vote t d).2) from Prod.ext hvt rfl] at h
        dsimp only at h
        cases h
        refine Ws ?_
        refine Wd [.r 0, .r 1, .r 2, .r 3, .r 5, .r 6, .r 7, .r 8, .r 9, .r 10, .r 11, .r 12, .r 13, .r 14, .r 15, .e 4, .e 16, .e 17] ?_
        iterate 13 refine Wq ?_
        refine SQ_rd rfl (RD_load (v := .int .i64 b.view) Tryz.isAgg3 rfl) (Has.ce rfl) rfl ?_
        refine Wq ?_
        refine SQ_call rfl Tryz.call122 (.cons rfl (.nil)) (CallsK.at (wn_Signs K.k ⟨N, g1.S, g1.V⟩)) (lts rfl) ?_
        rintro _ L7 ⟨rfl, hL7⟩
        refine ⟨.lands hL7 (.h (Has.ce rfl) (.h (Has.ce rfl) (.h (Has.ce rfl) (.w rfl (.nil))))), ?_⟩
        refine SQ.lands hL7 ?_
        refine SQ_call rfl Tryz.call129 (.cons rfl (.cons rfl (.cons rfl (.nil)))) (CallsK.at (wn_Vote K.k ⟨N, g1.S, g1.V⟩ b.pure.view d (by show N.length ≤ _; omega))) (lts rfl) ?_
        rintro _ L8 ⟨rfl, hL8⟩
        refine ⟨.lands hL8 (.w rfl (.w rfl (.h (Has.ce rfl) (.h (Has.ce rfl) (.nil))))), ?_⟩
        refine SQ.lands hL8 ?_
        refine SQ_call rfl Tryz.call123 (.cons rfl (.cons rfl (.cons rfl (.nil)))) (CallsK.at (wn_Sign K.k _ _ _)) (lts rfl) ?_
        rintro _ L9 ⟨rfl, hL9⟩
        refine ⟨.lands hL9 (.h (Has.ce rfl) (.h (Has.ce rfl) (.w rfl (.h (Has.ce rfl) (.nil))))), ?_⟩
        refine SQ.lands hL9 ?_
        iterate 5 refine Ws ?_
        refine SR_rd (RD_load (v := .int .i64 b.view) Tryz.isAgg3 rfl) (Has.ce rfl) rfl ?_
        refine Ws ?_
        refine SR_pu (RD_build (.cons rfl (.cons rfl (.cons rfl (.nil)))) built46_0_3_4) rfl ?_
        refine We (CallsK.lands (close_hd K ⟨s1.laid, od1⟩) (CallsK.at2 (hd_all K ⟨s1.laid, od1⟩ A1 (mVote 0 0 b.view d) (.vote 0 0 b.pure.view d) (MIs.vote hB.i1 (i64B_ok r5)) hK.me K.c.n.toNat (by omega) (by omega) (by show od1.length ≤ _; rw [ho1.len]; omega)))) ?_
        rintro _ L10 ⟨D, A2, rfl, g2, hD, hL10⟩
        refine SR.lands hL10 ?_
        refine Ws ?_
        refine SN_stop0 rfl ?_
        exact ⟨od1 ++ D, A2, gA1.trans g2, (ho1.le g2).app hD, (close_nod K (allP K.c K.me (({ s1 with T := t.T } : NS).sfTo (s1.sf.vote t d).2) (.vote 0 0 b.pure.view d), od1 ++ D)).trans .fin⟩
      · rw [hvv] at hc70
        have hvt : (s1.sf.vote t d).1 = false := hc70
        rw [show (s1.sf.vote t d) = (false, (s1.sf.vote t d).2) from Prod.ext hvt rfl] at h
        dsimp only at h
        cases h
        refine Ws ?_
        refine SN_stop0 rfl ?_
        exact ⟨od1, A1, gA1, ho1, ((close_hd K ⟨((({ s1 with T := t.T } : NS).sfTo (s1.sf.vote t d).2)).laid, od1⟩).trans ((close_nod K ((({ s1 with T := t.T } : NS).sfTo (s1.sf.vote t d).2), od1)).trans .fin))⟩
    · refine SQ_no rfl rfl rfl (hg9_5) (lts rfl) ?_
      refine SQ_no rfl rfl rfl (hg9_5) (lts rfl) ?_
      refine SQ_no rfl rfl rfl (hg9_5) (lts rfl) ?_
      refine SQ_no rfl rfl rfl (hg9_5) (lts rfl) ?_
      refine SQ_no rfl rfl rfl (hg9_5) (lts rfl) ?_
      refine SQ_no1 rfl rfl rfl (hg9_5) (lts rfl) ?_
      refine SQ_pu rfl (RD_pick_f rfl (hg9_5) rfl) rfl ?_
      iterate 2 refine Ws ?_
      have hne : ¬ b.pure.view = s1.ps.view := by have := of_decide_eq_false hg9_5; exact this
      rw [if_neg hne] at h
      cases h
      refine SC_cond_false rfl (rfl) ?_
      refine Ws ?_
      refine SN_stop0 rfl ?_
      exact ⟨od1, A1, gA1, ho1, ((close_hd K ⟨(({ s1 with T := t.T } : NS)).laid, od1⟩).trans ((close_nod K (({ s1 with T := t.T } : NS), od1)).trans .fin))⟩

end Go.Proofs.YtdhpjdhloaoepaaGreat

/- A replica is told blocks, and is asked for them. -/
namespace Go.Proofs.YtdhpjdhloaoepaaGreat
open Go Go.Proofs
attribute [local irreducible] SC SN SR SQ SA SO
set_option maxRecDepth 100000
theorem Out.one {A : Arc} {m : MsgD} {x : PM} (h : MIs A m x) : Out A [m] [x] := ⟨h, trivial⟩
theorem drop_of {X : Type} {l : List X} {i : Nat} {x : X} (h : l[i]? = some x) : l.drop i = x :: l.drop (i + 1) := by
  obtain ⟨hi, rfl⟩ := List.getElem?_eq_some_iff.1 h
  exact List.drop_eq_getElem_cons hi

theorem node_takeTell {W : World} {F : List HProp} [Abs F] (K : NK) (hK : K.Ok) (s : NS) (od : List MsgD) (A : Arc) (g : GS) (ho : Out A od s.out) (m : MsgD) (hM : MArc A m) (g' : GS) (s' : NS) (h : tellP K.c K.me (m.bl.l.map BlkD.pure) g s = some (g', s')) :
    CallsK W Tryz.prog 160 #[.pointer (some ⟨K.p, 0, none⟩), m.val] (At nodI K (s, od) :: At wnI K.k g :: At arcI () A :: F) (fun _ L => ∃ od' A', A.le A' ∧ Out A' od' (s').out ∧ Lands L (At nodI K (s', od') :: At wnI K.k g' :: At arcI () A' :: F)) := by
  refine CallsK_enter (n := 34) Tryz.func160 rfl rfl rfl ?_
  have hkn := hK.n
  have hms := hM.s
  have hmn := hM.n
  iterate 2 refine Ws ?_
  refine Wb fun b3 => ?_
  iterate 5 refine Ws ?_
  refine SR_rd (RD_load (v := .slice m.bl.a m.bl.n m.bl.c) Tryz.isAgg44 rfl) (Has.ce rfl) rfl ?_
  iterate 5 refine Ws ?_
  refine SC_ind (X := Nat × GS × NS × List MsgD × Arc) (fun x => x.1 ≤ m.bl.n ∧ tellP K.c K.me ((m.bl.l.map BlkD.pure).drop x.1) x.2.1 x.2.2.1 = some (g', s') ∧ A.le x.2.2.2.2 ∧ Out x.2.2.2.2 x.2.2.2.1 x.2.2.1.out) (fun x => m.bl.n - x.1) (fun x => [(0, .pointer (some ⟨K.p, 0, none⟩)), (7, .slice m.bl.a m.bl.n m.bl.c), (8, .int .i64 (m.bl.n : Nat)), (9, .int .i64 (x.1 : Nat))]) (fun x => At nodI K (x.2.2.1, x.2.2.2.1) :: At wnI K.k x.2.1 :: At arcI () x.2.2.2.2 :: F) ((0, g, s, od, A)) (⟨Nat.zero_le _, h, Arc.le.rfl, ho⟩) (.cons rfl (.cons rfl (.cons rfl (.cons rfl (.nil))))) (.fin) ?_
  intro ⟨i, g, s, od, A2⟩ hi ih
  clear ho h
  obtain ⟨hi1, h, hi3, ho⟩ := hi
  dsimp only at hi1 h hi3 ho ih ⊢
  iterate 6 refine Ws ?_
  refine SC_cond rfl (fun hc10 => ?_) (fun hc10 => ?_)
  · have hin : i < m.bl.n := by have := of_decide_eq_true hc10; omega
    obtain ⟨b, hb⟩ : ∃ b, m.bl.l[i]? = some b := ⟨_, List.getElem?_eq_getElem (by rw [hM.n]; exact hin)⟩
    have hM2 := hM.le hi3
    have hB : BArc A2 b := hM2.bs b (List.mem_of_getElem? hb)
    rw [drop_of (x := b.pure) (by rw [List.getElem?_map, hb]; rfl)] at h
    unfold tellP at h
    obtain ⟨hc, h⟩ := chk_some h
    simp only [Bool.and_eq_true] at hc
    obtain ⟨q1, q2⟩ := hc
    obtain ⟨⟨g1, s1⟩, hs, h⟩ := obind_some h
    dsimp only at h
    obtain ⟨q3, h⟩ := chk_some h
    have hN := (GS.ok_1 q1).1
    have hN1 := (GS.ok_1 q3).1
    haveI : ArcRow A2 m.bl.a _ := ⟨hM2.b⟩
    haveI : ArcRow A2 b.by_.a _ := ⟨(hB).r1.row⟩
    haveI : ArcRow A2 b.envs.a _ := ⟨(hB).r2⟩
    iterate 6 refine Ws ?_
    refine SR_rd (RD_ixO (cs := m.bl.l.flatMap BlkD.cells) Tryz.runUnderlying44 Tryz.sizeOf146 rfl rfl (by rw [bl_len, hM.n]) (by omega) (by omega)) Has.ro rfl ?_
    refine SR_rd (RD_loadAO (vs := b.cells) (cs := m.bl.l.flatMap BlkD.cells) Tryz.isAgg146 Tryz.sizeOf146 rfl rfl (by decide) (fun o v h => by have ho : o < 6 := (List.getElem?_eq_some_iff.1 h).1; rw [show ((i : Nat) : Int).toNat * (5 + 1) + o = i * 6 + o by omega, bl_get hb o ho]; exact h)) Has.ro rfl ?_
    refine Wa fun b5 => ?_
    refine SR_ox0 (OX_stA (vs := b.cells) Tryz.sizeOf146 rfl rfl rfl rfl) ?_
    rintro _ _ rfl
    iterate 3 refine Ws ?_
    refine SC.opn (open_nod (K := K) (y := (s, od))) fun _ _ => ?_
    dsimp only
    refine SC.opn (open_hd (K := K)) fun ⟨br, a, c⟩ _ => ?_
    dsimp only
    refine Wd [.r 0, .r 1, .r 2, .r 3, .r 4, .r 5, .r 6, .r 7, .r 8, .e 9] ?_
    iterate 7 refine Wq ?_
    refine SQ_rd rfl (RD_loadA (vs := K.c.cells) Tryz.isAgg23 Tryz.sizeOf23 rfl rfl) (Has.ces (cs := [.pointer (some ⟨K.k.p, 0, none⟩), .int .i64 K.c.f, .int .i64 K.c.n, .int .i64 K.c.cl, .int .i64 K.c.ba, .int .i64 K.c.mo, .int .i64 K.c.bt, .int .i64 K.c.po, .int .i64 K.c.wi, .int .i64 K.me, .pointer (some ⟨K.t, 0, none⟩), .pointer (some ⟨K.sf, 0, none⟩), .pointer (some ⟨K.lp, 0, none⟩), .pointer (some ⟨K.ta, 0, none⟩), .pointer (some ⟨K.pc, 0, none⟩), .pointer (some ⟨K.po, 0, none⟩), .pointer (some ⟨K.rv.r, 0, none⟩), .int .i64 s.laid, .pointer (none), .pointer (none), .pointer (br), .slice a od.length c]) fun j v h => by rcases j with _ | _ | _ | _ | _ | _ | _ | _ | j <;> simp [CfgD.cells] at h ⊢ <;> exact h) rfl ?_
    refine SQ_rd rfl (RD_loadA (vs := b.cells) Tryz.isAgg146 Tryz.sizeOf146 rfl rfl) Has.wh rfl ?_
    refine SQ_call rfl Tryz.call178 (.cons rfl (.cons rfl (.cons rfl (.nil)))) (CallsK.at (wn_BlokOk K.k g K.c (by omega) b rfl rfl hB.fit (by omega))) (lts rfl) ?_
    rintro _ L1 ⟨rfl, hL1⟩
    refine ⟨.lands hL1 (.w rfl (.w rfl (.w rfl (.nil)))), ?_⟩
    refine SQ.lands hL1 ?_
    iterate 2 refine Ws ?_
    refine SC_cond_true rfl (q2) ?_
    iterate 4 refine Ws ?_
    refine SR_rd (RD_loadA (vs := (⟨b.jv, b.jb, b.by_⟩ : QcD).cells) Tryz.isAgg39 Tryz.sizeOf39 rfl rfl) (Has.ces (cs := b.cells) fun j v h => by rcases j with _ | _ | _ | j <;> simp [MsgD.cells, EnvD.cells, QcD.cells, BlkD.cells] at h ⊢ <;> exact h) rfl ?_
    refine We (CallsK.lands ((close_hd K ⟨s.laid, od⟩).trans (close_nod K (s, od))) (CallsK.at3 (node_seen K hK s od A2 ⟨(b.pure.okC K.c g.N g.S).2, g.S, g.V⟩ ho (⟨b.jv, b.jb, b.by_⟩ : QcD) hB.r1 ⟨hB.i3, hB.i4⟩ g1 s1 hs))) ?_
    rintro _ L2 ⟨od1, A1, gA1, ho1, hL2⟩
    refine SR.lands hL2 ?_
    iterate 2 refine Ws ?_
    haveI : ArcRow A1 b.by_.a _ := ⟨(hB.le gA1).r1.row⟩
    haveI : ArcRow A1 b.envs.a _ := ⟨(hB.le gA1).r2⟩
    refine SC.opn (open_nod (K := K) (y := (s1, od1))) fun _ _ => ?_
    dsimp only
    refine SC.opn (open_hd (K := K)) fun ⟨br, a, c⟩ _ => ?_
    dsimp only
    refine Wd [.r 0, .r 1, .r 2, .r 3, .r 4, .e 5] ?_
    iterate 4 refine Wq ?_
    refine SQ_rd rfl (RD_loadA (vs := b.cells) Tryz.isAgg146 Tryz.sizeOf146 rfl rfl) Has.wh rfl ?_
    refine SQ_call rfl Tryz.call179 (.cons rfl (.cons rfl (.nil))) (CallsK.at2 (wn_Add K.k g1 K.t K.k.p s1.root s1.T rfl b rfl rfl hB.fit (by omega))) (lts rfl) ?_
    rintro _ L4 ⟨rfl, hL4⟩
    refine ⟨.lands hL4 (.w rfl (.w rfl (.nil))), ?_⟩
    refine SQ.lands hL4 ?_
    iterate 7 refine Ws ?_
    refine SC_again (ih ((i + 1, ⟨(s1.ts.addC g1.N b.pure).2.2, g1.S, g1.V⟩, ({ s1 with T := (s1.ts.addC g1.N b.pure).2.1.T } : NS), od1, A1)) (⟨by dsimp only; omega, h, hi3.trans gA1, ho1⟩) (by dsimp only; omega)) ((close_hd K ⟨s1.laid, od1⟩).trans ((close_nod K (({ s1 with T := (s1.ts.addC g1.N b.pure).2.1.T } : NS), od1)).trans .fin)) (.cons rfl (.cons rfl (.cons rfl (.cons' rfl (ie (by dsimp only; omega)) (.nil)))))
  · have hin : i = m.bl.n := by have := of_decide_eq_false hc10; omega
    rw [List.drop_of_length_le (by rw [List.length_map, hM.n]; omega)] at h
    cases h
    refine Ws ?_
    refine SN_stop0 rfl ?_
    exact ⟨od, A2, hi3, ho, .fin⟩

theorem node_takeAsk {W : World} {F : List HProp} [Abs F] (K : NK) (hK : K.Ok) (s : NS) (od : List MsgD) (A : Arc) (g : GS) (ho : Out A od s.out) (m : MsgD) (hq : RArc A m.qc.by_) (hI : I64 m.qc.view ∧ I64 m.qc.block) (g' : GS) (s' : NS) (h : askP K.c K.me g s m.from_ m.view m.qc.p = some (g', s')) :
    CallsK W Tryz.prog 159 #[.pointer (some ⟨K.p, 0, none⟩), m.val] (At nodI K (s, od) :: At wnI K.k g :: At arcI () A :: F) (fun _ L => ∃ od' A', A.le A' ∧ Out A' od' (s').out ∧ Lands L (At nodI K (s', od') :: At wnI K.k g' :: At arcI () A' :: F)) := by
  refine CallsK_enter (n := 89) Tryz.func159 rfl rfl rfl ?_
  have hkn := hK.n
  unfold askP at h
  obtain ⟨⟨g1, s1⟩, hs, h⟩ := obind_some h
  dsimp only at h
  obtain ⟨hc, h⟩ := chk_some h
  simp only [Bool.and_eq_true, decide_eq_true_eq] at hc
  obtain ⟨r1, r2, r3, r4, r5, r7⟩ := hc
  obtain ⟨w, hw, h⟩ := obind_some h
  obtain ⟨hc, h⟩ := chk_some h
  simp only [Bool.and_eq_true, decide_eq_true_eq, List.all_eq_true] at hc
  obtain ⟨r6, r8⟩ := hc
  unfold pqG at r4
  simp only [Bool.and_eq_true] at r4
  have hbyG : rowG s1.hby = true := r4.2.2
  have hbyl := (rowG_ok hbyG).2
  have hhI : I64 s1.hv ∧ I64 s1.hb := ⟨i64B_ok r4.1, i64B_ok r4.2.1⟩
  have hfI : I64 m.from_ := ⟨by omega, by omega⟩
  obtain ⟨o1, o2⟩ := okT_ok K.k.p r3
  obtain ⟨hbk, hhb⟩ := Option.isSome_iff_exists.1 r5
  obtain ⟨rbk, hrb⟩ := Option.isSome_iff_exists.1 r7
  have hbv := o2 _ _ hhb
  have hwy : (⟨K.k.p, s1.root, s1.T⟩ : TS).way s1.root s1.hb = some w := by rw [TS.way_w K.k.p 0]; exact hw
  iterate 2 refine Ws ?_
  refine Wb fun b3 => ?_
  iterate 6 refine Ws ?_
  refine SR_rd (RD_loadA (vs := m.qc.cells) Tryz.isAgg39 Tryz.sizeOf39 rfl rfl) (Has.ces (cs := m.cells) fun j v h => by rcases j with _ | _ | _ | j <;> simp [MsgD.cells, EnvD.cells, QcD.cells, BlkD.cells] at h ⊢ <;> exact h) rfl ?_
  refine We (CallsK.at3 (node_ok K hK s od A g ho m.qc hq hI g1 s1 hs)) ?_
  rintro _ L1 ⟨od1, A1, gA1, ho1, hL1⟩
  refine SR.lands hL1 ?_
  iterate 4 refine Ws ?_
  refine SC.opn (open_nod (K := K) (y := (s1, od1))) fun _ _ => ?_
  dsimp only
  refine SC.opn (open_hd (K := K)) fun ⟨br, a, c⟩ _ => ?_
  dsimp only
  refine Wd [.r 0, .r 1, .r 2, .r 3, .r 4, .r 5, .e 6, .r 7] ?_
  iterate 3 refine Wq ?_
  refine SQ_rd rfl (RD_loadA (vs := K.c.cells) Tryz.isAgg23 Tryz.sizeOf23 rfl rfl) (Has.ces (cs := [.pointer (some ⟨K.k.p, 0, none⟩), .int .i64 K.c.f, .int .i64 K.c.n, .int .i64 K.c.cl, .int .i64 K.c.ba, .int .i64 K.c.mo, .int .i64 K.c.bt, .int .i64 K.c.po, .int .i64 K.c.wi, .int .i64 K.me, .pointer (some ⟨K.t, 0, none⟩), .pointer (some ⟨K.sf, 0, none⟩), .pointer (some ⟨K.lp, 0, none⟩), .pointer (some ⟨K.ta, 0, none⟩), .pointer (some ⟨K.pc, 0, none⟩), .pointer (some ⟨K.po, 0, none⟩), .pointer (some ⟨K.rv.r, 0, none⟩), .int .i64 s1.laid, .pointer (none), .pointer (none), .pointer (br), .slice a od1.length c]) fun j v h => by rcases j with _ | _ | _ | _ | _ | _ | _ | _ | j <;> simp [CfgD.cells] at h ⊢ <;> exact h) rfl ?_
  refine Wq ?_
  refine SQ_rd rfl (RD_load (v := .int .i64 m.from_) Tryz.isAgg3 rfl) (Has.ce rfl) rfl ?_
  refine SQ_call rfl Tryz.call50 (.cons rfl (.cons rfl (.nil))) (cert_Replica K.c m.from_) (lts rfl) ?_
  rintro _ L2 ⟨rfl, hL2⟩
  refine ⟨.lands hL2 (.w rfl (.w rfl (.nil))), ?_⟩
  refine SQ.lands hL2 ?_
  refine Wq ?_
  iterate 2 refine Ws ?_
  refine SC_cond_false rfl (by rw [decide_eq_true r2]; rfl) ?_
  iterate 8 refine Ws ?_
  refine We (CallsK.at (sf_High K.sf ⟨K.t, s1.hv, s1.hb, s1.hby, s1.lock, s1.last⟩ (by show s1.hby.length ≤ _; omega))) ?_
  rintro _ L3 ⟨qa, qc, rfl, hL3⟩
  refine SR.lands hL3 ?_
  refine SR.lands (arc_push (a := qa) (cs := s1.hby.map intV)) ?_
  refine Wa fun b4 => ?_
  refine SR_ox0 (OX_stA (vs := (⟨s1.hv, s1.hb, ⟨qa, s1.hby.length, qc, s1.hby⟩⟩ : QcD).cells) Tryz.sizeOf39 rfl rfl rfl rfl) ?_
  rintro _ _ rfl
  iterate 3 refine Ws ?_
  refine Wd [.r 0, .r 1, .r 2, .r 3, .r 4, .r 5, .r 6, .r 7, .r 9, .r 10, .e 8, .e 11, .r 12, .r 13, .r 14, .r 15, .r 16] ?_
  iterate 9 refine Wq ?_
  refine SQ_rd rfl (RD_load (v := .int .i64 s1.hb) Tryz.isAgg3 rfl) (Has.ce rfl) rfl ?_
  refine SQ_call rfl Tryz.call82 (.cons rfl (.nil)) (CallsK.at (tree_Root K.t ⟨K.k.p, s1.root, s1.T⟩)) (lts rfl) ?_
  rintro _ L4 ⟨rfl, hL4⟩
  refine ⟨.lands hL4 (.h (Has.ce rfl) (.w rfl (.h (Has.ce rfl) (.nil)))), ?_⟩
  refine SQ.lands hL4 ?_
  refine SQ_call rfl Tryz.call186 (.cons rfl (.cons rfl (.cons rfl (.nil)))) (CallsK.at (tree_Path_yes K.t ⟨K.k.p, s1.root, s1.T⟩ o1 s1.root s1.hb ⟨rbk, hrb⟩ ⟨hbk, hhb⟩ (by show (viewOf (mget s1.T s1.hb)).toNat ≤ _; rw [hhb]; show hbk.view.toNat ≤ _; omega))) (lts rfl) ?_
  rintro _ L5 ⟨wa, wc, rfl, hL5⟩
  refine ⟨.lands hL5 (.w rfl (.h (Has.ce rfl) (.w rfl (.nil)))), ?_⟩
  rw [hwy] at hL5 ⊢
  simp only [Option.getD_some, Option.isSome_some] at hL5 ⊢
  refine SQ.lands hL5 ?_
  iterate 5 refine Wq ?_
  iterate 16 refine Ws ?_
  refine SC_ind (X := Nat × Option Addr × Nat × List BlkD × Arc) (fun x => x.1 ≤ w.length ∧ x.2.2.2.1.map BlkD.pure = (((w.take x.1).map (fun d => (mget s1.T d).getD zBlk)).filter (fun b : Blk => decide (m.view < b.view))) ∧ x.2.2.2.1.length ≤ x.1 ∧ (A1.add qa (s1.hby.map intV)).le x.2.2.2.2 ∧ (∀ b ∈ x.2.2.2.1, BArc x.2.2.2.2 b)) (fun x => w.length - x.1) (fun x => [(0, .pointer (some ⟨K.p, 0, none⟩)), (3, .pointer (some ⟨b3, 0, none⟩)), (4, .pointer (some ⟨b4, 0, none⟩)), (7, .slice x.2.1 x.2.2.2.1.length x.2.2.1), (44, .slice wa w.length wc), (45, .int .i64 (w.length : Nat)), (46, .int .i64 (x.1 : Nat))]) (fun x => rowP 146 6 x.2.1 x.2.2.2.1.length x.2.2.1 (x.2.2.2.1.flatMap BlkD.cells) :: pt K.p (.cells ([.pointer (some ⟨K.k.p, 0, none⟩), .int .i64 K.c.f, .int .i64 K.c.n, .int .i64 K.c.cl, .int .i64 K.c.ba, .int .i64 K.c.mo, .int .i64 K.c.bt, .int .i64 K.c.po, .int .i64 K.c.wi, .int .i64 K.me, .pointer (some ⟨K.t, 0, none⟩), .pointer (some ⟨K.sf, 0, none⟩), .pointer (some ⟨K.lp, 0, none⟩), .pointer (some ⟨K.ta, 0, none⟩), .pointer (some ⟨K.pc, 0, none⟩), .pointer (some ⟨K.po, 0, none⟩), .pointer (some ⟨K.rv.r, 0, none⟩), .int .i64 s1.laid, .pointer (none), .pointer (none), .pointer (br), .slice a od1.length c]).toArray 91) :: rowP 46 19 a od1.length c (od1.flatMap MsgD.cells) :: At treeI K.t ⟨K.k.p, s1.root, s1.T⟩ :: At sfI K.sf ⟨K.t, s1.hv, s1.hb, s1.hby, s1.lock, s1.last⟩ :: At logI K.lp ⟨K.k.p, K.t, s1.tip, s1.lg, s1.ks⟩ :: At talI K.ta ⟨K.k.p, K.c, s1.m⟩ :: At paceI K.pc s1.ps :: At poolI K.po ⟨K.k.p, min (max K.c.po 0) 1000, s1.pool⟩ :: At revI K.rv ⟨s1.rl, s1.rn, s1.led⟩ :: At wnI K.k g1 :: At arcI () x.2.2.2.2 :: rowP 3 1 wa w.length wc (w.map intV) :: pt b3 (.cells m.cells.toArray 46) :: pt b4 (.cells (⟨s1.hv, s1.hb, ⟨qa, s1.hby.length, qc, s1.hby⟩⟩ : QcD).cells.toArray 39) :: F) ((0, none, 0, [], (A1.add qa (s1.hby.map intV)))) (⟨Nat.zero_le _, rfl, Nat.le_refl _, Arc.le.rfl, fun b hb => (nomatch hb)⟩) (.cons rfl (.cons rfl (.cons rfl (.cons rfl (.cons rfl (.cons rfl (.cons rfl (.nil)))))))) (by simp only [List.flatMap_nil]; exact (row_new 146 6 none).trans .fin) ?_
  intro ⟨i, oa, oc, D, A3⟩ hi ih
  obtain ⟨hi1, hi2, hi3, hi4, hi5⟩ := hi
  dsimp only at hi1 hi2 hi3 hi4 hi5 ih ⊢
  iterate 6 refine Ws ?_
  refine SC_cond rfl (fun hc47 => ?_) (fun hc47 => ?_)
  · have hin : i < w.length := by have := of_decide_eq_true hc47; omega
    obtain ⟨d, hd⟩ : ∃ d, w[i]? = some d := ⟨_, List.getElem?_eq_getElem hin⟩
    have hsn : (((w.take (i + 1)).map (fun d => (mget s1.T d).getD zBlk)).filter (fun b : Blk => decide (m.view < b.view))) = (((w.take i).map (fun d => (mget s1.T d).getD zBlk)).filter (fun b : Blk => decide (m.view < b.view))) ++ [(fun d => (mget s1.T d).getD zBlk) d].filter (fun b : Blk => decide (m.view < b.view)) := by rw [List.take_add_one, hd, List.map_append, List.filter_append]; rfl
    iterate 6 refine Ws ?_
    refine SR_rd (RD_ixO (cs := w.map intV) Tryz.runUnderlying37 Tryz.sizeOf3 rfl rfl (by simp) (by omega) (by omega)) Has.ro rfl ?_
    refine SR_rd (RD_loadO (v := .int .i64 d) (cs := w.map intV) Tryz.isAgg3 rfl (by simp [hd, intV])) Has.ro rfl ?_
    iterate 10 refine Ws ?_
    refine We (CallsK.at (tree_Block K.t ⟨K.k.p, s1.root, s1.T⟩ d)) ?_
    rintro _ L8 ⟨b', rfl, hbp, hbf, hL8⟩
    have hbp : b'.pure = (mget s1.T d).getD zBlk := hbp
    refine SR.lands hL8 ?_
    refine SR.lands (arc_push (a := b'.by_.a) (cs := b'.by_.l.map intV)) ?_
    refine SR.lands (arc_push (a := b'.envs.a) (cs := b'.envs.l.flatMap EnvD.cells)) ?_
    iterate 3 refine Ws ?_
    refine Wa fun b10 => ?_
    refine SR_ox0 (OX_stA (vs := b'.cells) Tryz.sizeOf146 rfl rfl rfl rfl) ?_
    rintro _ _ rfl
    iterate 6 refine Ws ?_
    refine SR_rd (RD_load (v := .int .i64 b'.view) Tryz.isAgg3 rfl) (Has.ce rfl) rfl ?_
    refine Ws ?_
    refine SR_rd (RD_load (v := .int .i64 m.view) Tryz.isAgg3 rfl) (Has.ce rfl) rfl ?_
    iterate 2 refine Ws ?_
    refine SR_guard rfl rfl (fun hg10_5 => ?_) (fun hg10_5 => ?_)
    · refine SR_yes rfl rfl (hg10_5) ?_
      refine Ws ?_
      refine SR_yes rfl rfl (hg10_5) ?_
      refine Ws ?_
      refine SR_yes rfl rfl (hg10_5) ?_
      refine Ws ?_
      refine SR_pu (RD_pick_t rfl (hg10_5) rfl) rfl ?_
      iterate 2 refine Ws ?_
      have hyes : m.view < b'.view := by have := of_decide_eq_true hg10_5; omega
      have hsn2 : [(fun d => (mget s1.T d).getD zBlk) d].filter (fun b : Blk => decide (m.view < b.view)) = [b'.pure] := by show List.filter (fun b : Blk => decide (m.view < b.view)) [(mget s1.T d).getD zBlk] = [b'.pure]; rw [← hbp]; exact List.filter_cons_of_pos (decide_eq_true hyes)
      have hbl : (fun d => (mget s1.T d).getD zBlk) d ∈ ((w.map (fun d => (mget s1.T d).getD zBlk)).filter (fun b : Blk => decide (m.view < b.view))) := List.mem_filter.2 ⟨List.mem_map_of_mem (List.mem_of_getElem? hd), show decide (m.view < ((mget s1.T d).getD zBlk).view) = true by rw [← hbp]; exact decide_eq_true hyes⟩
      have hfi : b'.pure.Fits := by rw [hbp]; exact blkG_ok (r6 _ hbl)
      refine SC_cond_true rfl (by simp; omega) ?_
      iterate 2 refine Ws ?_
      refine SR_rd (RD_loadA (vs := b'.cells) Tryz.isAgg146 Tryz.sizeOf146 rfl rfl) Has.wh rfl ?_
      refine SR_ox (OX_lit Tryz.underlying44 Tryz.type146 rfl rfl rfl rfl (.cons rfl (.nil)) (.cons rfl rfl (.nil))) rfl ?_
      rintro _ _ ⟨b71, rfl, rfl⟩
      refine SR_ox (OX_app 6 Tryz.underlying44 Tryz.underlying44 Tryz.type146 rfl rfl rfl rfl rfl (by first | rfl | simp; done | (simp; omega)) 80 rfl (by omega) (by omega)) rfl ?_
      rintro _ _ ⟨a72, c72, rfl, rfl⟩
      iterate 8 refine Ws ?_

      refine SC_again (ih ((i + 1, a72, c72, D ++ [b'], ((A3.add b'.by_.a (b'.by_.l.map intV)).add b'.envs.a (b'.envs.l.flatMap EnvD.cells)))) (⟨by dsimp only; omega, by dsimp only; rw [hsn, hsn2, List.map_append, hi2]; rfl, by dsimp only; rw [List.length_append]; show D.length + 1 ≤ _; omega, hi4.trans (Arc.le_add.trans Arc.le_add), fun x hx => by
        rcases List.mem_append.1 hx with h9 | h9
        · exact (hi5 x h9).le (Arc.le_add.trans Arc.le_add)
        · simp at h9; subst h9; exact BArc.of hbf hfi (HasRow.arcLe Arc.le_add HasRow.ofAdd) HasRow.ofAdd⟩) (by dsimp only; omega)) (by dsimp only; rw [show (D ++ [b']).length = D.length + 1 by simp, show (D ++ [b']).flatMap BlkD.cells = D.flatMap BlkD.cells ++ (b'.cells ++ []) by simp]; exact .fin) (.cons rfl (.cons rfl (.cons rfl (.cons' rfl (by dsimp only; rw [show (D ++ [b']).length = D.length + 1 by simp]) (.cons rfl (.cons rfl (.cons' rfl (ie (by dsimp only; omega)) (.nil))))))))
    · refine SR_no rfl rfl (hg10_5) (lts rfl) ?_
      refine SR_no rfl rfl (hg10_5) (lts rfl) ?_
      refine SR_no rfl rfl (hg10_5) (lts rfl) ?_
      refine SR_pu (RD_pick_f rfl (hg10_5) rfl) rfl ?_
      iterate 2 refine Ws ?_
      have hno : ¬ m.view < b'.view := by have := of_decide_eq_false hg10_5; omega
      have hsn2 : [(fun d => (mget s1.T d).getD zBlk) d].filter (fun b : Blk => decide (m.view < b.view)) = [] := by show List.filter (fun b : Blk => decide (m.view < b.view)) [(mget s1.T d).getD zBlk] = []; rw [← hbp]; exact List.filter_cons_of_neg (fun h9 => hno (of_decide_eq_true h9))
      refine SC_cond_false rfl (rfl) ?_
      iterate 7 refine Ws ?_
      refine SC_again (ih ((i + 1, oa, oc, D, ((A3.add b'.by_.a (b'.by_.l.map intV)).add b'.envs.a (b'.envs.l.flatMap EnvD.cells)))) (⟨by dsimp only; omega, by dsimp only; rw [hsn, hsn2, List.append_nil, hi2], by dsimp only; omega, hi4.trans (Arc.le_add.trans Arc.le_add), fun x hx => (hi5 x hx).le (Arc.le_add.trans Arc.le_add)⟩) (by dsimp only; omega)) (by dsimp only; exact .fin) (.cons rfl (.cons rfl (.cons rfl (.cons rfl (.cons rfl (.cons rfl (.cons' rfl (ie (by dsimp only; omega)) (.nil))))))))
  · have hin : i = w.length := by have := of_decide_eq_false hc47; omega
    subst hin
    rw [List.take_length] at hi2
    iterate 10 refine Ws ?_
    refine SC_cond rfl (fun hc76 => ?_) (fun hc76 => ?_)
    · have hne : ¬ ((w.map (fun d => (mget s1.T d).getD zBlk)).filter (fun b : Blk => decide (m.view < b.view))).length = 0 := by have h9 := of_decide_eq_true hc76; rw [← hi2, List.length_map]; omega
      rw [if_neg hne] at h
      refine SC.lands (arc_push (a := oa) (cs := D.flatMap BlkD.cells)) ?_
      have hMT : MIs (A3.add oa (D.flatMap BlkD.cells)) (mTell 0 0 ⟨oa, D.length, oc, D⟩) (.tell 0 0 ((w.map (fun d => (mget s1.T d).getD zBlk)).filter (fun b : Blk => decide (m.view < b.view)))) := MIs.tell HasRow.ofAdd (fun x hx => (hi5 x hx).le Arc.le_add) rfl (by show D.length ≤ 20; omega) hi2
      iterate 3 refine Ws ?_
      refine SR_rd (RD_load (v := .int .i64 m.from_) Tryz.isAgg3 rfl) (Has.ce rfl) rfl ?_
      refine Ws ?_
      refine SR_pu (RD_build (.cons rfl (.cons rfl (.nil))) built46_0_8) rfl ?_
      refine We (CallsK.lands (close_hd K ⟨s1.laid, od1⟩) (CallsK.at2 (hd_send K ⟨s1.laid, od1⟩ (A3.add oa (D.flatMap BlkD.cells)) _ _ m.from_ hMT hK.me hfI (by show od1.length ≤ _; rw [ho1.len]; omega)))) ?_
      rintro _ L6 ⟨m6, A6, rfl, g6, hM6, hL6⟩
      refine SR.lands hL6 ?_
      iterate 5 refine Ws ?_
      refine SR_rd (RD_load (v := .int .i64 m.from_) Tryz.isAgg3 rfl) (Has.ce rfl) rfl ?_
      refine SR_rd (RD_loadA (vs := (⟨s1.hv, s1.hb, ⟨qa, s1.hby.length, qc, s1.hby⟩⟩ : QcD).cells) Tryz.isAgg39 Tryz.sizeOf39 rfl rfl) Has.wh rfl ?_
      refine SR_pu (RD_build (.cons rfl (.cons rfl (.nil))) built46_0_5) rfl ?_
      refine We (CallsK.at2 (hd_send K ⟨s1.laid, od1 ++ [m6]⟩ A6 (mCert 0 0 (⟨s1.hv, s1.hb, ⟨qa, s1.hby.length, qc, s1.hby⟩⟩ : QcD)) (.cert 0 0 s1.hi) m.from_ (MIs.cert (RArc.of hbyG (HasRow.arcLe (hi4.trans (Arc.le_add.trans g6)) HasRow.ofAdd)) hhI) hK.me hfI (by show (od1 ++ [m6]).length ≤ _; rw [List.length_append, ho1.len]; show _ + 1 ≤ _; omega))) ?_
      rintro _ L7 ⟨m7, A7, rfl, g7, hM7, hL7⟩
      refine SR.lands hL7 ?_
      refine Ws ?_
      refine SN_stop0 rfl ?_
      cases h
      exact ⟨od1 ++ [m6] ++ [m7], A7, gA1.trans (Arc.le_add.trans (hi4.trans (Arc.le_add.trans (g6.trans g7)))), (((ho1.le (Arc.le_add.trans (hi4.trans (Arc.le_add.trans g6)))).app (Out.one hM6)).le g7).app (Out.one hM7), (close_nod K ((sndP K.me (sndP K.me s1 m.from_ (.tell 0 0 ((w.map (fun d => (mget s1.T d).getD zBlk)).filter (fun b : Blk => decide (m.view < b.view))))) m.from_ (.cert 0 0 s1.hi)), od1 ++ [m6] ++ [m7])).trans .fin⟩
    · have hne : ((w.map (fun d => (mget s1.T d).getD zBlk)).filter (fun b : Blk => decide (m.view < b.view))).length = 0 := by have h9 := of_decide_eq_false hc76; rw [← hi2, List.length_map]; omega
      rw [if_pos hne] at h
      iterate 5 refine Ws ?_
      refine SR_rd (RD_load (v := .int .i64 m.from_) Tryz.isAgg3 rfl) (Has.ce rfl) rfl ?_
      refine SR_rd (RD_loadA (vs := (⟨s1.hv, s1.hb, ⟨qa, s1.hby.length, qc, s1.hby⟩⟩ : QcD).cells) Tryz.isAgg39 Tryz.sizeOf39 rfl rfl) Has.wh rfl ?_
      refine SR_pu (RD_build (.cons rfl (.cons rfl (.nil))) built46_0_5) rfl ?_
      refine We (CallsK.lands (close_hd K ⟨s1.laid, od1⟩) (CallsK.at2 (hd_send K ⟨s1.laid, od1⟩ A3 (mCert 0 0 (⟨s1.hv, s1.hb, ⟨qa, s1.hby.length, qc, s1.hby⟩⟩ : QcD)) (.cert 0 0 s1.hi) m.from_ (MIs.cert (RArc.of hbyG (HasRow.arcLe hi4 HasRow.ofAdd)) hhI) hK.me hfI (by show od1.length ≤ _; rw [ho1.len]; omega)))) ?_
      rintro _ L7 ⟨m7, A7, rfl, g7, hM7, hL7⟩
      refine SR.lands hL7 ?_
      refine Ws ?_
      refine SN_stop0 rfl ?_
      cases h
      exact ⟨od1 ++ [m7], A7, gA1.trans (Arc.le_add.trans (hi4.trans g7)), (ho1.le (Arc.le_add.trans (hi4.trans g7))).app (Out.one hM7), (close_nod K ((sndP K.me s1 m.from_ (.cert 0 0 s1.hi)), od1 ++ [m7])).trans .fin⟩

end Go.Proofs.YtdhpjdhloaoepaaGreat

/- Bound methods: made, and called by their contracts. -/
namespace Go.Proofs.YtdhpjdhloaoepaaGreat
open Go Go.Proofs
section
variable {W : World} {P : Program} {n : Nat} {k : Kont} {l : Env} {L L' : List HProp} {ops : Array Oper} {os : List Oper} {ty : TypeId} {pos : String} {after : Array Edge} {i : Nat} {r : Ord} {Ts : Facts}
theorem RD_makeBound {f : FuncId} {cs : Array Operand} {vs : List Value} (hc : EvA l cs.toList vs) : RD P l (.makeFunc (.func f) cs #[]) ty RU (.func (.func f) vs.toArray #[]) := fun ρ hρ w _ _ _ _ _ => by
  have hm : cs.map ρ = vs.toArray := by
    apply Array.ext'
    rw [Array.toList_map]
    have : ∀ {xs : List Operand} {us : List Value}, EvA l xs us → xs.map ρ = us := by
      intro xs us h
      induction h with
      | nil => rfl
      | cons hx _ ih => simp [hρ _ _ hx, ih]
    exact this hc
  have hmf : ∀ (fn : Fn) (first cap : Array Value) (w : World), (Instr.makeFunc fn first cap).run P w = .ok (.func fn first cap) w := fun _ _ _ _ => rfl
  simp [execOp, hm, hmf]
theorem run_callb {dst : Option Tmp} {x : Operand} {f : FuncId} {cs vs : List Value} {xs : Array Operand} {ats : Array TypeId} {g : Option (Nat × Bool)} {a : Act} (ha : Agree n l a)
    (hx : ev l x = some (.func (.func f) cs.toArray #[])) (hcall : ∀ args w, (callFunc f args).run P w = .ok (.enter f args) w) (hargs : EvA l xs.toList vs) (w : World) :
    (execOp a.eval ⟨dst, .call ⟨.value x, xs, ats⟩, ty, pos, after, g⟩).run P w = .ok (.enter f (cs ++ vs).toArray) w := by
  have hm : xs.map a.eval = vs.toArray := Array.ext' (by rw [Array.toList_map]; exact hargs.eval ha)
  simp only [execOp, resolve, hm]
  rw [ha.eval hx]
  simp [Deferred.ofValue, invoke, hcall]
theorem SA_callb {dst : Option Tmp} {g : Option (Nat × Bool)} {x : Operand} {f : FuncId} {cs vs : List Value} {xs : Array Operand} {ats : Array TypeId} {K : Value → List HProp → Prop}
    (hi : ops[i]? = some ⟨dst, .call ⟨.value x, xs, ats⟩, ty, pos, after, g⟩) (hg : Met ops l g)
    (hx : ev l x = some (.func (.func f) cs.toArray #[])) (hcall : ∀ args w, (callFunc f args).run P w = .ok (.enter f args) w) (hargs : EvA l xs.toList vs)
    (hc : CallsK W P f (cs ++ vs).toArray L K) (hd : ∀ d, dst = some d → d < n) (h : ∀ v L', K v L' → Keeps W ops i L' Ts ∧ SQ W P n ops r Ts k (putE dst v l) L') : SA W P n ops i r Ts k l L :=
  fun listed fuel hs hck a w ha hw => by
    have hr := run_callb (dst := dst) (ats := ats) (ty := ty) (pos := pos) (after := after) (g := g) ha hx hcall hargs w
    unfold wpOp
    rw [hi]
    simp only [hg.wanted ha, if_true]
    refine .inl ?_
    unfold Oper.wp
    rw [hr]
    refine (hc w hw).mono fun e w' ⟨v, L', he, hk, hs'⟩ => ?_
    subst he
    obtain ⟨h1, h2⟩ := h v L' hk
    exact ⟨h1.holds hs', h2 hs _ _ hck _ w' (ha.put hd) hs'⟩
theorem SQ_callb {dst : Option Tmp} {x : Operand} {f : FuncId} {cs vs : List Value} {xs : Array Operand} {ats : Array TypeId} {K : Value → List HProp → Prop}
    (hi : ops[i]? = some ⟨dst, .call ⟨.value x, xs, ats⟩, ty, pos, after, none⟩)
    (hx : ev l x = some (.func (.func f) cs.toArray #[])) (hcall : ∀ args w, (callFunc f args).run P w = .ok (.enter f args) w) (hargs : EvA l xs.toList vs)
    (hc : CallsK W P f (cs ++ vs).toArray L K) (hd : ∀ d, dst = some d → d < n) (h : ∀ v L', K v L' → Keeps W ops i L' Ts ∧ SQ W P n ops r Ts k (putE dst v l) L') : SQ W P n ops (.cons i false r) Ts k l L :=
  SQ_one (SA_callb hi .free hx hcall hargs hc hd h)
end
end Go.Proofs.YtdhpjdhloaoepaaGreat

/- A replica, as others see it. -/
namespace Go.Proofs.YtdhpjdhloaoepaaGreat
open Go Go.Proofs
attribute [local irreducible] SC SN SR SQ SA SO
set_option maxRecDepth 100000
def handF : PM → Nat
  | .env _ _ _ => 154
  | .blk _ _ _ => 155
  | .vote _ _ _ _ => 156
  | .cert _ _ _ => 158
  | .ask _ _ _ _ => 159
  | .tell _ _ _ => 160
  | .share _ _ _ => 161
theorem handF_call (x : PM) : ∀ args w, (callFunc (handF x) args).run Tryz.prog w = .ok (.enter (handF x) args) w := by
  cases x
  · exact Tryz.call154
  · exact Tryz.call155
  · exact Tryz.call156
  · exact Tryz.call158
  · exact Tryz.call159
  · exact Tryz.call160
  · exact Tryz.call161

theorem way_1 {W : World} {F : List HProp} [Abs F] (p : Nat) :
    CallsK W Tryz.prog 117 #[.pointer (some ⟨p, 0, none⟩), .int .i64 1] (F) (fun u L => u = .func (.func 154) #[.pointer (some ⟨p, 0, none⟩)] #[] ∧ Lands L F) := by
  refine CallsK_enter (n := 36) Tryz.func117 rfl rfl rfl ?_
  iterate 18 refine Ws ?_
  refine SC_cond_true rfl (rfl) ?_
  iterate 3 refine Ws ?_
  refine SR_pu (RD_makeBound (.cons rfl .nil)) rfl ?_
  iterate 3 refine Ws ?_
  refine SC_ret1 rfl rfl ?_
  exact ⟨rfl, .fin⟩

theorem way_2 {W : World} {F : List HProp} [Abs F] (p : Nat) :
    CallsK W Tryz.prog 117 #[.pointer (some ⟨p, 0, none⟩), .int .i64 2] (F) (fun u L => u = .func (.func 155) #[.pointer (some ⟨p, 0, none⟩)] #[] ∧ Lands L F) := by
  refine CallsK_enter (n := 36) Tryz.func117 rfl rfl rfl ?_
  iterate 18 refine Ws ?_
  refine SC_cond_false rfl (rfl) ?_
  iterate 6 refine Ws ?_
  refine SC_cond_true rfl (rfl) ?_
  iterate 3 refine Ws ?_
  refine SR_pu (RD_makeBound (.cons rfl .nil)) rfl ?_
  iterate 3 refine Ws ?_
  refine SC_ret1 rfl rfl ?_
  exact ⟨rfl, .fin⟩

theorem way_3 {W : World} {F : List HProp} [Abs F] (p : Nat) :
    CallsK W Tryz.prog 117 #[.pointer (some ⟨p, 0, none⟩), .int .i64 3] (F) (fun u L => u = .func (.func 156) #[.pointer (some ⟨p, 0, none⟩)] #[] ∧ Lands L F) := by
  refine CallsK_enter (n := 36) Tryz.func117 rfl rfl rfl ?_
  iterate 18 refine Ws ?_
  refine SC_cond_false rfl (rfl) ?_
  iterate 6 refine Ws ?_
  refine SC_cond_false rfl (rfl) ?_
  iterate 6 refine Ws ?_
  refine SC_cond_true rfl (rfl) ?_
  iterate 3 refine Ws ?_
  refine SR_pu (RD_makeBound (.cons rfl .nil)) rfl ?_
  iterate 3 refine Ws ?_
  refine SC_ret1 rfl rfl ?_
  exact ⟨rfl, .fin⟩

theorem way_5 {W : World} {F : List HProp} [Abs F] (p : Nat) :
    CallsK W Tryz.prog 117 #[.pointer (some ⟨p, 0, none⟩), .int .i64 5] (F) (fun u L => u = .func (.func 158) #[.pointer (some ⟨p, 0, none⟩)] #[] ∧ Lands L F) := by
  refine CallsK_enter (n := 36) Tryz.func117 rfl rfl rfl ?_
  iterate 18 refine Ws ?_
  refine SC_cond_false rfl (rfl) ?_
  iterate 6 refine Ws ?_
  refine SC_cond_false rfl (rfl) ?_
  iterate 6 refine Ws ?_
  refine SC_cond_false rfl (rfl) ?_
  iterate 6 refine Ws ?_
  refine SC_cond_false rfl (rfl) ?_
  iterate 6 refine Ws ?_
  refine SC_cond_true rfl (rfl) ?_
  iterate 3 refine Ws ?_
  refine SR_pu (RD_makeBound (.cons rfl .nil)) rfl ?_
  iterate 3 refine Ws ?_
  refine SC_ret1 rfl rfl ?_
  exact ⟨rfl, .fin⟩

theorem way_6 {W : World} {F : List HProp} [Abs F] (p : Nat) :
    CallsK W Tryz.prog 117 #[.pointer (some ⟨p, 0, none⟩), .int .i64 6] (F) (fun u L => u = .func (.func 159) #[.pointer (some ⟨p, 0, none⟩)] #[] ∧ Lands L F) := by
  refine CallsK_enter (n := 36) Tryz.func117 rfl rfl rfl ?_
  iterate 18 refine Ws ?_
  refine SC_cond_false rfl (rfl) ?_
  iterate 6 refine Ws ?_
  refine SC_cond_false rfl (rfl) ?_
  iterate 6 refine Ws ?_
  refine SC_cond_false rfl (rfl) ?_
  iterate 6 refine Ws ?_
  refine SC_cond_false rfl (rfl) ?_
  iterate 6 refine Ws ?_
  refine SC_cond_false rfl (rfl) ?_
  iterate 6 refine Ws ?_
  refine SC_cond_true rfl (rfl) ?_
  iterate 3 refine Ws ?_
  refine SR_pu (RD_makeBound (.cons rfl .nil)) rfl ?_
  iterate 3 refine Ws ?_
  refine SC_ret1 rfl rfl ?_
  exact ⟨rfl, .fin⟩

theorem way_7 {W : World} {F : List HProp} [Abs F] (p : Nat) :
    CallsK W Tryz.prog 117 #[.pointer (some ⟨p, 0, none⟩), .int .i64 7] (F) (fun u L => u = .func (.func 160) #[.pointer (some ⟨p, 0, none⟩)] #[] ∧ Lands L F) := by
  refine CallsK_enter (n := 36) Tryz.func117 rfl rfl rfl ?_
  iterate 18 refine Ws ?_
  refine SC_cond_false rfl (rfl) ?_
  iterate 6 refine Ws ?_
  refine SC_cond_false rfl (rfl) ?_
  iterate 6 refine Ws ?_
  refine SC_cond_false rfl (rfl) ?_
  iterate 6 refine Ws ?_
  refine SC_cond_false rfl (rfl) ?_
  iterate 6 refine Ws ?_
  refine SC_cond_false rfl (rfl) ?_
  iterate 6 refine Ws ?_
  refine SC_cond_false rfl (rfl) ?_
  iterate 6 refine Ws ?_
  refine SC_cond_true rfl (rfl) ?_
  iterate 3 refine Ws ?_
  refine SR_pu (RD_makeBound (.cons rfl .nil)) rfl ?_
  iterate 3 refine Ws ?_
  refine SC_ret1 rfl rfl ?_
  exact ⟨rfl, .fin⟩

theorem way_8 {W : World} {F : List HProp} [Abs F] (p : Nat) :
    CallsK W Tryz.prog 117 #[.pointer (some ⟨p, 0, none⟩), .int .i64 8] (F) (fun u L => u = .func (.func 161) #[.pointer (some ⟨p, 0, none⟩)] #[] ∧ Lands L F) := by
  refine CallsK_enter (n := 36) Tryz.func117 rfl rfl rfl ?_
  iterate 18 refine Ws ?_
  refine SC_cond_false rfl (rfl) ?_
  iterate 6 refine Ws ?_
  refine SC_cond_false rfl (rfl) ?_
  iterate 6 refine Ws ?_
  refine SC_cond_false rfl (rfl) ?_
  iterate 6 refine Ws ?_
  refine SC_cond_false rfl (rfl) ?_
  iterate 6 refine Ws ?_
  refine SC_cond_false rfl (rfl) ?_
  iterate 6 refine Ws ?_
  refine SC_cond_false rfl (rfl) ?_
  iterate 6 refine Ws ?_
  refine SC_cond_false rfl (rfl) ?_
  iterate 6 refine Ws ?_
  refine SR_pu (RD_makeBound (.cons rfl .nil)) rfl ?_
  iterate 3 refine Ws ?_
  refine SC_ret1 rfl rfl ?_
  exact ⟨rfl, .fin⟩

theorem node_way {W : World} {F : List HProp} [Abs F] (p : Nat) {m : MsgD} {x : PM} (h : PIs m x) : CallsK W Tryz.prog 117 #[.pointer (some ⟨p, 0, none⟩), .int .i64 m.kind] F (fun u L => u = .func (.func (handF x)) #[.pointer (some ⟨p, 0, none⟩)] #[] ∧ Lands L F) := by
  cases h with
  | env f t e => exact way_1 p
  | blk f t b x h hx => exact way_2 p
  | vote f t v d => exact way_3 p
  | cert f t q => exact way_5 p
  | ask f t v q => exact way_6 p
  | tell f t b l h hl => exact way_7 p
  | share f t c => exact way_8 p
theorem node_takeK {W : World} {F : List HProp} [Abs F] (K : NK) (hK : K.Ok) (s : NS) (od : List MsgD) (A : Arc) (g : GS) (ho : Out A od s.out) (m : MsgD) (x : PM) (hM : MIs A m x) (g' : GS) (s' : NS) (h : takeK K.c K.me g s x = some (g', s')) :
    CallsK W Tryz.prog (handF x) #[.pointer (some ⟨K.p, 0, none⟩), m.val] (At nodI K (s, od) :: At wnI K.k g :: At arcI () A :: F) (fun _ L => ∃ od' A', A.le A' ∧ Out A' od' (s').out ∧ Lands L (At nodI K (s', od') :: At wnI K.k g' :: At arcI () A' :: F)) := by
  obtain ⟨hp, hA⟩ := hM
  have hhd := hA.head
  cases hp with
  | env f t e => exact node_takeEnv K hK s od A g ho (mEnv f t e) hA.e g' s' h
  | blk f t b x hn hx =>
    obtain ⟨b0, hb0, hbx⟩ : ∃ b0, b.l = [b0] ∧ b0.pure = x := by
      cases hl : b.l with
      | nil => rw [hl] at hx; simp at hx
      | cons y r =>
        rw [hl] at hx
        simp at hx
        obtain ⟨h1, h2⟩ := hx
        subst h2
        exact ⟨y, rfl, h1⟩
    subst hbx
    exact node_takeBlock K hK s od A g ho (mBlk f t b) b0 hb0 hn hA.b (hA.bs b0 (by show b0 ∈ b.l; rw [hb0]; exact List.mem_singleton_self _)) g' s' h
  | vote f t v d => exact node_takeVote K hK s od A g ho (mVote f t v d) ⟨hhd _ (by simp), hhd _ (by simp)⟩ g' s' h
  | cert f t q => exact node_takeCert K hK s od A g ho (mCert f t q) rfl hA.q hA.q1 g' s' h
  | ask f t v q => exact node_takeAsk K hK s od A g ho (mAsk f t v q) hA.q hA.q1 g' s' h
  | tell f t b l hn hl => subst hl; exact node_takeTell K hK s od A g ho (mTell f t b) hA g' s' h
  | share f t c => exact node_takeShare K hK s od A g ho (mShare f t c) g' s' h

theorem node_again {W : World} {F : List HProp} [Abs F] (K : NK) (s : HS) :
    CallsK W Tryz.prog 118 #[.pointer (some ⟨K.p, 0, none⟩)] (At hdI K s :: F) (fun u L => u = .bool false ∧ Lands L (At hdI K s :: F)) := by
  refine CallsK_enter (n := 72) Tryz.func118 rfl rfl rfl ?_
  iterate 12 refine Ws ?_
  refine SC.opn (open_hd (K := K)) fun ⟨br, a, c⟩ _ => ?_
  dsimp only
  refine Wd [.r 0, .r 1, .r 2, .r 3, .r 4, .r 5, .r 6, .r 7, .r 8, .r 9, .r 10, .r 11, .r 12, .r 13, .r 14, .r 15, .r 16, .r 17, .e 18, .r 19] ?_
  iterate 6 refine Wq ?_
  refine SQ_no rfl rfl rfl (rfl) (lts rfl) ?_
  refine SQ_no rfl rfl rfl (rfl) (lts rfl) ?_
  refine SQ_no rfl rfl rfl (rfl) (lts rfl) ?_
  refine SQ_no rfl rfl rfl (rfl) (lts rfl) ?_
  refine SQ_no rfl rfl rfl (rfl) (lts rfl) ?_
  refine SQ_no rfl rfl rfl (rfl) (lts rfl) ?_
  refine SQ_no rfl rfl rfl (rfl) (lts rfl) ?_
  refine SQ_no rfl rfl rfl (rfl) (lts rfl) ?_
  refine SQ_no rfl rfl rfl (rfl) (lts rfl) ?_
  refine SQ_no rfl rfl rfl (rfl) (lts rfl) ?_
  refine SQ_no rfl rfl rfl (rfl) (lts rfl) ?_
  refine SQ_no rfl rfl rfl (rfl) (lts rfl) ?_
  refine SQ_no1 rfl rfl rfl (rfl) (lts rfl) ?_
  refine SQ_pu rfl (RD_pick_f rfl (rfl) rfl) rfl ?_
  iterate 2 refine Ws ?_
  refine SC_cond_false rfl (rfl) ?_
  iterate 4 refine Ws ?_
  refine Wd [.r 0, .r 1, .r 2, .r 3, .r 4, .r 5, .r 6, .r 7, .r 8, .r 9, .r 10, .r 11, .r 12, .r 13, .r 14, .r 15, .r 16, .e 17, .r 18] ?_
  iterate 6 refine Wq ?_
  refine SQ_no rfl rfl rfl (rfl) (lts rfl) ?_
  refine SQ_no rfl rfl rfl (rfl) (lts rfl) ?_
  refine SQ_no rfl rfl rfl (rfl) (lts rfl) ?_
  refine SQ_no rfl rfl rfl (rfl) (lts rfl) ?_
  refine SQ_no rfl rfl rfl (rfl) (lts rfl) ?_
  refine SQ_no rfl rfl rfl (rfl) (lts rfl) ?_
  refine SQ_no rfl rfl rfl (rfl) (lts rfl) ?_
  refine SQ_no rfl rfl rfl (rfl) (lts rfl) ?_
  refine SQ_no rfl rfl rfl (rfl) (lts rfl) ?_
  refine SQ_no rfl rfl rfl (rfl) (lts rfl) ?_
  refine SQ_no rfl rfl rfl (rfl) (lts rfl) ?_
  refine SQ_no1 rfl rfl rfl (rfl) (lts rfl) ?_
  refine SQ_pu rfl (RD_pick_f rfl (rfl) rfl) rfl ?_
  iterate 2 refine Ws ?_
  refine SC_cond_false rfl (rfl) ?_
  iterate 8 refine Ws ?_
  refine SC_ret1 rfl rfl ?_
  exact ⟨rfl, (close_hd K s).trans .fin⟩

theorem node_againN {W : World} {F : List HProp} [Abs F] (K : NK) (s : NS) (od : List MsgD) : CallsK W Tryz.prog 118 #[.pointer (some ⟨K.p, 0, none⟩)] (At nodI K (s, od) :: F) (fun u L => u = .bool false ∧ Lands L (At nodI K (s, od) :: F)) :=
  CallsK.opn (open_nod (K := K) (y := (s, od))) fun _ _ => (CallsK.at (node_again K ⟨s.laid, od⟩)).post ((close_nod K (s, od)).trans .fin)

theorem node_Begin {W : World} {F : List HProp} [Abs F] (K : NK) (hK : K.Ok) (s : NS) (od : List MsgD) (A : Arc) (g : GS) (ho : Out A od s.out) (g' : GS) (s' : NS) (h : layP K.c K.me g s = some (g', s')) :
    CallsK W Tryz.prog 31 #[.pointer (some ⟨K.p, 0, none⟩)] (At nodI K (s, od) :: At wnI K.k g :: At arcI () A :: F) (fun u L => ∃ a c od' A', u = .slice a od'.length c ∧ A.le A' ∧ Out A' od' s'.out ∧ Lands L (rowP 46 19 a od'.length c (od'.flatMap MsgD.cells) :: At nodI K (({ s' with out := [] } : NS), []) :: At wnI K.k g' :: At arcI () A' :: F)) := by
  refine CallsK_enter (n := 7) Tryz.func31 rfl rfl rfl ?_
  iterate 8 refine Ws ?_
  refine We (CallsK.at3 (node_lay K hK s od A g ho g' s' h)) ?_
  rintro _ L1 ⟨od1, A1, g1, ho1, hL1⟩
  refine SR.lands hL1 ?_
  iterate 3 refine Ws ?_
  refine SC.opn (open_nod (K := K) (y := (s', od1))) fun _ _ => ?_
  dsimp only
  iterate 2 refine Ws ?_
  refine We (CallsK.at (hd_sent K ⟨s'.laid, od1⟩)) ?_
  rintro _ L2 ⟨sa, sc, rfl, hL2⟩
  refine SR.lands hL2 ?_
  iterate 3 refine Ws ?_
  refine SC_ret1 rfl rfl ?_
  exact ⟨sa, sc, od1, A1, rfl, g1, ho1, (close_nod K (({ s' with out := [] } : NS), [])).trans .fin⟩

theorem node_Take {W : World} {F : List HProp} [Abs F] (K : NK) (hK : K.Ok) (s : NS) (od : List MsgD) (A : Arc) (g : GS) (ho : Out A od s.out) (m : MsgD) (x : PM) (hM : MIs A m x) (hto : x.to = K.me) (g' : GS) (s' : NS) (h : takeP K.c K.me g s x = some (g', s')) :
    CallsK W Tryz.prog 90 #[.pointer (some ⟨K.p, 0, none⟩), m.val] (At nodI K (s, od) :: At wnI K.k g :: At arcI () A :: F) (fun u L => ∃ a c od' A', u = .slice a od'.length c ∧ A.le A' ∧ Out A' od' s'.out ∧ Lands L (rowP 46 19 a od'.length c (od'.flatMap MsgD.cells) :: At nodI K (({ s' with out := [] } : NS), []) :: At wnI K.k g' :: At arcI () A' :: F)) := by
  refine CallsK_enter (n := 36) Tryz.func90 rfl rfl rfl ?_
  unfold takeP at h
  obtain ⟨⟨g1, s1⟩, hs, h⟩ := obind_some h
  dsimp only at h
  have hmt : m.to_ = K.me := hM.1.to.trans hto
  haveI : MsgIn [At arcI () A] m := hM.2
  iterate 2 refine Ws ?_
  refine Wb fun b3 => ?_
  iterate 6 refine Ws ?_
  refine SR_rd (RD_loadA (vs := m.cells) Tryz.isAgg46 Tryz.sizeOf46 rfl rfl) Has.wh rfl ?_
  refine We (mess_CodeP m (hM := hM.2.in) hM.1.plain) ?_
  rintro _ L1 ⟨ma, mc, rfl, hmb, hL1⟩
  refine SR.lands hL1 ?_
  iterate 8 refine Ws ?_
  refine SC.opn (open_nod (K := K) (y := (s, od))) fun _ _ => ?_
  dsimp only
  refine SC.opn (open_hd (K := K)) fun ⟨br, a, c⟩ _ => ?_
  dsimp only
  refine Wd [.r 0, .r 1, .r 2, .r 3, .r 4, .r 5, .r 6, .r 7, .r 8, .r 9, .r 10] ?_
  iterate 3 refine Wq ?_
  first
    | refine SQ_pyes rfl rfl rfl (rfl) (RD_fieldAddr 2 Tryz.runUnderlying46 rfl rfl Tryz.sizeOf3 rfl) rfl ?_
    | refine SQ_yes rfl rfl rfl (rfl) (RD_fieldAddrO 2 Tryz.runUnderlying46 rfl rfl Tryz.sizeOf3 rfl (by simp <;> omega)) Has.ro rfl ?_
  refine SQ_yes rfl rfl rfl (rfl) (RD_load (v := .int .i64 m.to_) Tryz.isAgg3 rfl) (Has.ce rfl) rfl ?_
  refine SQ_pyes rfl rfl rfl (rfl) (RD_move rfl) rfl ?_
  first
    | refine SQ_pyes rfl rfl rfl (rfl) (RD_nilCheck rfl) rfl ?_
    | refine SQ_pyes rfl rfl rfl (rfl) (RD_nilCheckF rfl) rfl ?_
  first
    | refine SQ_pyes rfl rfl rfl (rfl) (RD_fieldAddr 9 Tryz.runUnderlying91 rfl rfl Tryz.sizeOf3 rfl) rfl ?_
    | refine SQ_yes rfl rfl rfl (rfl) (RD_fieldAddrO 9 Tryz.runUnderlying91 rfl rfl Tryz.sizeOf3 rfl (by simp <;> omega)) Has.ro rfl ?_
  refine SQ_yes rfl rfl rfl (rfl) (RD_load Tryz.isAgg3 rfl) (Has.ce rfl) rfl ?_
  refine SQ_pyes rfl rfl rfl (rfl) (RD_neq rfl rfl) rfl ?_
  refine SQ_pu rfl (RD_pick_f rfl (rfl) rfl) rfl ?_
  iterate 2 refine Ws ?_
  refine SC_cond_false rfl (by rw [hmt]; simp) ?_
  iterate 3 refine Ws ?_
  refine Wd [.r 0, .r 1, .r 2, .r 4, .e 3, .e 5, .e 6] ?_
  iterate 2 refine Wq ?_
  refine SQ_rd rfl (RD_load (v := .int .i64 m.kind) Tryz.isAgg3 rfl) (Has.ce rfl) rfl ?_
  refine SQ_rd rfl (RD_loadA (vs := m.cells) Tryz.isAgg46 Tryz.sizeOf46 rfl rfl) Has.wh rfl ?_
  refine SQ_call rfl Tryz.call117 (.cons rfl (.cons rfl (.nil))) (node_way K.p hM.1) (lts rfl) ?_
  rintro _ L2 ⟨rfl, hL2⟩
  refine ⟨.lands hL2 (.h Has.wh (.w rfl (.nil))), ?_⟩
  refine SQ.lands hL2 ?_
  refine SQ_call rfl Tryz.call84 (.cons rfl (.nil)) (CallsK.at (mess_Still m x A hM)) (lts rfl) ?_
  rintro _ L3 ⟨m', A2, rfl, g2, hM2, hL3⟩
  refine ⟨.lands hL3 (.w rfl (.h (Has.ce rfl) (.nil))), ?_⟩
  refine SQ.lands hL3 ?_
  refine SQ_callb rfl rfl (handF_call x) (.cons rfl (.nil)) (CallsK.lands ((close_hd K ⟨s.laid, od⟩).trans (close_nod K (s, od))) (CallsK.at3 (node_takeK K hK s od A2 g (ho.le g2) m' x hM2 g1 s1 hs))) (lts rfl) ?_
  rintro _ L4 ⟨od1, A1, gA1, ho1, hL4⟩
  refine ⟨.lands hL4 (.h Has.wh (.h (Has.ce rfl) (.nil))), ?_⟩
  refine SQ.lands hL4 ?_
  iterate 4 refine Ws ?_
  refine SC_loop ?_
  iterate 4 refine Ws ?_
  refine Wc (CallsK.at (node_againN K s1 od1)) ?_
  iterate 2 refine Ws ?_
  refine SC_cond_false rfl (rfl) ?_
  iterate 5 refine Ws ?_
  refine We (CallsK.at3 (node_lay K hK s1 od1 A1 g1 ho1 g' s' h)) ?_
  rintro _ L6 ⟨od3, A3, g3, ho3, hL6⟩
  refine SR.lands hL6 ?_
  iterate 3 refine Ws ?_
  refine SC.opn (open_nod (K := K) (y := (s', od3))) fun _ _ => ?_
  dsimp only
  iterate 2 refine Ws ?_
  refine We (CallsK.at (hd_sent K ⟨s'.laid, od3⟩)) ?_
  rintro _ L7 ⟨sa, sc, rfl, hL7⟩
  refine SR.lands hL7 ?_
  iterate 3 refine Ws ?_
  refine SC_ret1 rfl rfl ?_
  exact ⟨sa, sc, od3, A3, rfl, g2.trans (gA1.trans g3), ho3, (close_nod K (({ s' with out := [] } : NS), [])).trans .fin⟩

theorem node_Tick {W : World} {F : List HProp} [Abs F] (K : NK) (hK : K.Ok) (s : NS) (od : List MsgD) (A : Arc) (g : GS) (ho : Out A od s.out) (g' : GS) (s' : NS) (h : tickP K.c K.me g s = some (g', s')) :
    CallsK W Tryz.prog 92 #[.pointer (some ⟨K.p, 0, none⟩)] (At nodI K (s, od) :: At wnI K.k g :: At arcI () A :: F) (fun u L => ∃ a c od' A', u = .slice a od'.length c ∧ A.le A' ∧ Out A' od' s'.out ∧ Lands L (rowP 46 19 a od'.length c (od'.flatMap MsgD.cells) :: At nodI K (({ s' with out := [] } : NS), []) :: At wnI K.k g' :: At arcI () A' :: F)) := by
  refine CallsK_enter (n := 90) Tryz.func92 rfl rfl rfl ?_
  unfold tickP at h
  obtain ⟨⟨g1, s1⟩, hs, h⟩ := obind_some h
  dsimp only at h
  obtain ⟨hc, h⟩ := chk_some h
  simp only [Bool.and_eq_true, decide_eq_true_eq, Bool.not_eq_true'] at hc
  obtain ⟨q1, q2, q3, q4, q5, q6⟩ := hc
  unfold pqG at q3
  simp only [Bool.and_eq_true] at q3
  have hbyG : rowG s1.hby = true := q3.2.2
  have hbyl := (rowG_ok hbyG).2
  have hhI : I64 s1.hv ∧ I64 s1.hb := ⟨i64B_ok q3.1, i64B_ok q3.2.1⟩
  iterate 8 refine Ws ?_
  refine We (CallsK.at3 (node_open K hK s od A g ho 20 g1 s1 hs)) ?_
  rintro _ L1 ⟨od1, A1, gA1, ho1, hL1⟩
  refine SR.lands hL1 ?_
  iterate 3 refine Ws ?_
  refine SC.opn (open_nod (K := K) (y := (s1, od1))) fun _ _ => ?_
  dsimp only
  refine SC.opn (open_hd (K := K)) fun ⟨br, a, c⟩ _ => ?_
  dsimp only
  iterate 5 refine Ws ?_
  refine Wc (CallsK.at (pace_Tick K.pc s1.ps q1 q2)) ?_
  iterate 13 refine Ws ?_
  refine SC_cond_false rfl (q6) ?_
  iterate 8 refine Ws ?_
  refine SC_cond rfl (fun hc68 => ?_) (fun hc68 => ?_)
  · rw [if_pos hc68] at h
    iterate 6 refine Ws ?_
    refine We (CallsK.at (sf_High K.sf ⟨K.t, s1.hv, s1.hb, s1.hby, s1.lock, s1.last⟩ (by show s1.hby.length ≤ _; omega))) ?_
    rintro _ L3 ⟨qa, qc, rfl, hL3⟩
    refine SR.lands hL3 ?_
    refine SR.lands (arc_push (a := qa) (cs := s1.hby.map intV)) ?_
    refine Wa fun b6 => ?_
    refine SR_ox0 (OX_stA (vs := (⟨s1.hv, s1.hb, ⟨qa, s1.hby.length, qc, s1.hby⟩⟩ : QcD).cells) Tryz.sizeOf39 rfl rfl rfl rfl) ?_
    rintro _ _ rfl
    iterate 12 refine Ws ?_
    refine SC_cond_false rfl (rfl) ?_
    iterate 4 refine Ws ?_
    refine SR_rd (RD_loadA (vs := (⟨s1.hv, s1.hb, ⟨qa, s1.hby.length, qc, s1.hby⟩⟩ : QcD).cells) Tryz.isAgg39 Tryz.sizeOf39 rfl rfl) Has.wh rfl ?_
    refine We (CallsK.lands ((close_hd K ⟨s1.laid, od1⟩).trans (close_nod K (({ s1 with ps := s1.ps.tick.2 } : NS), od1))) (CallsK.at3 (node_ask K hK ({ s1 with ps := s1.ps.tick.2 } : NS) od1 (A1.add qa (s1.hby.map intV)) g1 (ho1.le Arc.le_add) (⟨s1.hv, s1.hb, ⟨qa, s1.hby.length, qc, s1.hby⟩⟩ : QcD) (RArc.of hbyG HasRow.ofAdd) hhI q5 q4))) ?_
    rintro _ L4 ⟨od3, A3, g3, ho3, hL4⟩
    refine SR.lands hL4 ?_
    iterate 3 refine Ws ?_
    refine SC.opn (open_nod (K := K) (y := ((allP K.c K.me ({ s1 with ps := s1.ps.tick.2 } : NS) (.ask 0 0 (viewOf (mget s1.T s1.tip)) s1.hi)), od3))) fun _ _ => ?_
    dsimp only
    iterate 2 refine Ws ?_
    refine We (CallsK.at (hd_sent K ⟨s1.laid, od3⟩)) ?_
    rintro _ L7 ⟨sa, sc, rfl, hL7⟩
    refine SR.lands hL7 ?_
    iterate 3 refine Ws ?_
    refine SC_ret1 rfl rfl ?_
    rw [← (Prod.mk.inj (Option.some.inj h)).1, ← (Prod.mk.inj (Option.some.inj h)).2]
    exact ⟨sa, sc, od3, A3, rfl, gA1.trans (Arc.le_add.trans g3), ho3, (close_nod K (({ (allP K.c K.me ({ s1 with ps := s1.ps.tick.2 } : NS) (.ask 0 0 (viewOf (mget s1.T s1.tip)) s1.hi)) with out := [] } : NS), [])).trans .fin⟩
  · rw [if_neg (by rw [hc68]; exact Bool.false_ne_true)] at h
    rw [← (Prod.mk.inj (Option.some.inj h)).1, ← (Prod.mk.inj (Option.some.inj h)).2]
    refine SC.lands (close_hd K ⟨s1.laid, od1⟩) ?_
    iterate 5 refine Ws ?_
    refine We (CallsK.at (hd_sent K ⟨s1.laid, od1⟩)) ?_
    rintro _ L7 ⟨sa, sc, rfl, hL7⟩
    refine SR.lands hL7 ?_
    iterate 3 refine Ws ?_
    refine SC_ret1 rfl rfl ?_
    exact ⟨sa, sc, od1, A1, rfl, gA1, ho1, (close_nod K (({ ({ s1 with ps := s1.ps.tick.2 } : NS) with out := [] } : NS), [])).trans .fin⟩

end Go.Proofs.YtdhpjdhloaoepaaGreat

/- A replica is made; what it tells. -/
namespace Go.Proofs.YtdhpjdhloaoepaaGreat
open Go Go.Proofs
attribute [local irreducible] SC SN SR SQ SA SO
set_option maxRecDepth 100000
theorem wn_TreeNew {W : World} {F : List HProp} [Abs F] (k : WK) (g : GS) (hN : g.N.length ≤ 100000) :
    CallsK W Tryz.prog 52 #[.pointer (some ⟨k.p, 0, none⟩)] (At wnI k g :: F) (fun u L => ∃ p, u = .pointer (some ⟨p, 0, none⟩) ∧ Lands L (At treeI p ⟨k.p, (dnumC (putC g.N rootC) rootC : Nat), [((dnumC (putC g.N rootC) rootC : Nat), zBlk)]⟩ :: At wnI k ⟨putC g.N rootC, g.S, g.V⟩ :: F)) := by
  refine CallsK.opn (open_wn (k := k) (g := g)) fun ⟨l, v⟩ ⟨f1, f2, f3, f4⟩ => ?_
  dsimp only at f1 f2 f3 f4
  have e1 : encL (dput l rootB) = putC g.N rootC := by rw [put_enc, root_enc, f1]
  have e2 : dnum (dput l rootB) rootB = dnumC (putC g.N rootC) rootC := by rw [← e1, ← root_enc, dnum_enc]
  exact CallsK.imp (CallsK.at (tree_New k ⟨l, g.S⟩ (by have := wn_len f1 hN; show l.length ≤ _; omega) _ _ rfl e2)) fun u L ⟨p, hu, hL⟩ => ⟨p, hu, hL.trans ((close_wn k ⟨putC g.N rootC, g.S, g.V⟩ e1 f2 f3 f4).trans .fin)⟩
@[reducible] def ns0 (c : CfgD) (d : Int) : NS := ⟨d, [(d, zBlk)], 0, d, [], d, 0, d, [], [], [], PS.new c.ba c.mo, [], [], 0, ledg0 c.cl.toNat, 0, []⟩
structure CfgD.Fit (c : CfgD) : Prop where
  ba : 1 ≤ c.ba ∧ c.ba ≤ 1000
  mo : c.ba ≤ c.mo ∧ c.mo ≤ 1000
  cl : 0 ≤ c.cl ∧ c.cl ≤ 1000
theorem rev_NewI {W : World} {F : List HProp} [Abs F] (w : Nat) (n : Int) (hn : 0 ≤ n ∧ n ≤ 1000) : CallsK W Tryz.prog 58 #[.pointer (some ⟨w, 0, none⟩), .int .i64 n] (F) (fun u L => ∃ k : RK, u = .pointer (some ⟨k.r, 0, none⟩) ∧ k.w = w ∧ Lands L (At revI k ⟨[], 0, ledg0 n.toNat⟩ :: F)) := by
  have h := rev_New (W := W) (F := F) w n.toNat (by omega)
  rw [show ((n.toNat : Nat) : Int) = n by omega] at h
  exact h

theorem node_New {W : World} {F : List HProp} [Abs F] (k : WK) (g : GS) (c : CfgD) (me : Int) (hN : g.N.length ≤ 100000) (hc : c.Fit) :
    CallsK W Tryz.prog 29 #[.pointer (some ⟨k.p, 0, none⟩), c.val, .int .i64 me] (At wnI k g :: F) (fun u L => ∃ K : NK, u = .pointer (some ⟨K.p, 0, none⟩) ∧ K.k = k ∧ K.c = c ∧ K.me = me ∧ K.rv.w = k.p ∧ Lands L (At nodI K (ns0 c ((dnumC (putC g.N rootC) rootC : Nat) : Int), []) :: At wnI k ⟨putC g.N rootC, g.S, g.V⟩ :: F)) := by
  refine CallsK_enter (n := 34) Tryz.func29 rfl rfl rfl ?_
  iterate 2 refine Ws ?_
  refine Wb fun b4 => ?_
  iterate 6 refine Ws ?_
  refine We (CallsK.at (wn_TreeNew k g hN)) ?_
  rintro _ L1 ⟨pt_, rfl, hL1⟩
  refine SR.lands hL1 ?_
  iterate 4 refine Ws ?_
  refine Wd [.r 0, .r 1, .r 2, .r 3, .r 4, .r 6, .r 7, .r 9, .r 10, .r 12, .r 14, .r 15, .r 16, .r 18, .r 19, .r 20, .e 5, .e 8, .e 11, .e 13, .e 17, .e 21, .r 22, .e 23, .r 24] ?_
  refine Wq ?_
  refine SQ_rd rfl (RD_loadA (vs := c.cells) Tryz.isAgg23 Tryz.sizeOf23 rfl rfl) Has.wh rfl ?_
  iterate 6 refine Wq ?_
  refine SQ_rd rfl (RD_loadA (vs := c.cells) Tryz.isAgg23 Tryz.sizeOf23 rfl rfl) Has.wh rfl ?_
  refine SQ_rd rfl (RD_loadA (vs := c.cells) Tryz.isAgg23 Tryz.sizeOf23 rfl rfl) Has.wh rfl ?_
  iterate 2 refine Wq ?_
  refine SQ_rd rfl (RD_load (v := .int .i64 c.po) Tryz.isAgg3 rfl) (Has.ce rfl) rfl ?_
  iterate 2 refine Wq ?_
  refine SQ_rd rfl (RD_load (v := .int .i64 c.cl) Tryz.isAgg3 rfl) (Has.ce rfl) rfl ?_
  refine SQ_call rfl Tryz.call53 (.cons rfl (.nil)) (CallsK.at (sf_New pt_ ⟨k.p, ((dnumC (putC g.N rootC) rootC : Nat) : Int), [(((dnumC (putC g.N rootC) rootC : Nat) : Int), zBlk)]⟩)) (lts rfl) ?_
  rintro _ L2 ⟨psf, rfl, hL2⟩
  refine ⟨.lands hL2 (.h (Has.ce rfl) (.h (Has.ce rfl) (.h Has.wh (.h Has.wh (.h Has.wh (.nil)))))), ?_⟩
  refine SQ.lands hL2 ?_
  refine SQ_call rfl Tryz.call54 (.cons rfl (.cons rfl (.nil))) (CallsK.at (clog_New k.p pt_ ⟨k.p, ((dnumC (putC g.N rootC) rootC : Nat) : Int), [(((dnumC (putC g.N rootC) rootC : Nat) : Int), zBlk)]⟩)) (lts rfl) ?_
  rintro _ L3 ⟨plp, rfl, hL3⟩
  refine ⟨.lands hL3 (.h (Has.ce rfl) (.h (Has.ce rfl) (.h Has.wh (.h Has.wh (.h Has.wh (.nil)))))), ?_⟩
  refine SQ.lands hL3 ?_
  refine SQ_call rfl Tryz.call55 (.cons rfl (.cons rfl (.nil))) (tal_New k.p c) (lts rfl) ?_
  rintro _ L4 ⟨pta, rfl, hL4⟩
  refine ⟨.lands hL4 (.h (Has.ce rfl) (.h (Has.ce rfl) (.h Has.wh (.w rfl (.h Has.wh (.nil)))))), ?_⟩
  refine SQ.lands hL4 ?_
  refine SQ_call rfl Tryz.call56 (.cons rfl (.nil)) (pace_New c hc.ba hc.mo) (lts rfl) ?_
  rintro _ L5 ⟨ppc, rfl, hL5⟩
  refine ⟨.lands hL5 (.h (Has.ce rfl) (.h (Has.ce rfl) (.w rfl (.h Has.wh (.h Has.wh (.nil)))))), ?_⟩
  refine SQ.lands hL5 ?_
  refine SQ_call rfl Tryz.call57 (.cons rfl (.cons rfl (.nil))) (pool_New k.p c.po) (lts rfl) ?_
  rintro _ L6 ⟨ppo, rfl, hL6⟩
  refine ⟨.lands hL6 (.h (Has.ce rfl) (.w rfl (.h Has.wh (.h Has.wh (.h Has.wh (.nil)))))), ?_⟩
  refine SQ.lands hL6 ?_
  refine SQ_call rfl Tryz.call58 (.cons rfl (.cons rfl (.nil))) (rev_NewI k.p c.cl hc.cl) (lts rfl) ?_
  rintro _ L7 ⟨rv, rfl, hrw, hL7⟩
  refine ⟨.lands hL7 (.w rfl (.h (Has.ce rfl) (.h Has.wh (.h Has.wh (.h Has.wh (.nil)))))), ?_⟩
  refine SQ.lands hL7 ?_
  refine SQ_pu rfl (RD_build (.cons rfl (.cons rfl (.cons rfl (.cons rfl (.cons rfl (.cons rfl (.cons rfl (.cons rfl (.cons rfl (.cons rfl (.nil))))))))))) built91_0_1_2_3_4_5_6_7_8_9) rfl ?_
  refine SQ_ox rfl (OX_box rfl rfl) rfl ?_
  rintro _ _ ⟨b33, rfl, rfl⟩
  refine ⟨.h (Has.ce rfl) (.h (Has.ce rfl) (.h Has.wh (.h Has.wh (.h Has.wh (.nil))))), ?_⟩
  refine Wq ?_
  iterate 2 refine Ws ?_
  refine SC_ret1 rfl rfl ?_
  refine ⟨(⟨b33, k, pt_, psf, plp, pta, ppc, ppo, rv, c, me⟩ : NK), rfl, rfl, rfl, rfl, hrw, ?_⟩
  refine (row_new 46 19 none).trans ?_
  exact (close_hd (⟨b33, k, pt_, psf, plp, pta, ppc, ppo, rv, c, me⟩ : NK) ⟨0, []⟩ (br := none) (a := none) (c := 0)).trans ((close_nod (⟨b33, k, pt_, psf, plp, pta, ppc, ppo, rv, c, me⟩ : NK) (ns0 c ((dnumC (putC g.N rootC) rootC : Nat) : Int), [])).trans .fin)

theorem hd_Reveal {W : World} {F : List HProp} [Abs F] (K : NK) (s : HS) :
    CallsK W Tryz.prog 14 #[.pointer (some ⟨K.p, 0, none⟩)] (At hdI K s :: F) (fun u L => u = .pointer (some ⟨K.rv.r, 0, none⟩) ∧ Lands L (At hdI K s :: F)) := by
  refine CallsK_enter (n := 7) Tryz.func14 rfl rfl rfl ?_
  iterate 6 refine Ws ?_
  refine SC.opn (open_hd (K := K)) fun ⟨br, a, c⟩ _ => ?_
  dsimp only
  iterate 8 refine Ws ?_
  refine SC_ret1 rfl rfl ?_
  exact ⟨rfl, (close_hd K s).trans .fin⟩

theorem node_Log {W : World} {F : List HProp} [Abs F] (K : NK) (s : NS) (od : List MsgD) (hb : s.lg.length ≤ 1000) :
    CallsK W Tryz.prog 15 #[.pointer (some ⟨K.p, 0, none⟩)] (At nodI K (s, od) :: F) (fun u L => ∃ a c, u = .slice a s.lg.length c ∧ Lands L (rowP 43 4 a s.lg.length c (s.lg.flatMap EnvD.cells) :: At nodI K (s, od) :: F)) := by
  refine CallsK_enter (n := 8) Tryz.func15 rfl rfl rfl ?_
  iterate 6 refine Ws ?_
  refine SC.opn (open_nod (K := K) (y := (s, od))) fun _ _ => ?_
  dsimp only
  refine SC.opn (open_hd (K := K)) fun ⟨br, a, c⟩ _ => ?_
  dsimp only
  iterate 5 refine Ws ?_
  refine We (CallsK.at (clog_Envs K.lp ⟨K.k.p, K.t, s.tip, s.lg, s.ks⟩ (by show s.lg.length ≤ _; omega))) ?_
  rintro _ L1 ⟨ea, ec, rfl, hL1⟩
  refine SR.lands hL1 ?_
  iterate 3 refine Ws ?_
  refine SC_ret1 rfl rfl ?_
  exact ⟨ea, ec, rfl, ((close_hd K ⟨(s).laid, od⟩).trans ((close_nod K (s, od)).trans .fin))⟩

theorem node_Reveal {W : World} {F : List HProp} [Abs F] (K : NK) (s : NS) (od : List MsgD) : CallsK W Tryz.prog 14 #[.pointer (some ⟨K.p, 0, none⟩)] (At nodI K (s, od) :: F) (fun u L => u = .pointer (some ⟨K.rv.r, 0, none⟩) ∧ Lands L (At nodI K (s, od) :: F)) :=
  CallsK.opn (open_nod (K := K) (y := (s, od))) fun _ _ => (CallsK.at (hd_Reveal K ⟨s.laid, od⟩)).post ((close_nod K (s, od)).trans .fin)
theorem node_Cursor {W : World} {F : List HProp} [Abs F] (K : NK) (s : NS) (od : List MsgD) : CallsK W Tryz.prog 18 #[.pointer (some ⟨K.rv.r, 0, none⟩)] (At nodI K (s, od) :: F) (fun u L => u = .int .i64 (s.rn : Nat) ∧ Lands L (At nodI K (s, od) :: F)) :=
  CallsK.opn (open_nod (K := K) (y := (s, od))) fun _ _ => (CallsK.at (rev_Cursor K.rv ⟨s.rl, s.rn, s.led⟩)).post ((close_nod K (s, od)).trans .fin)
theorem node_Ledger {W : World} {F : List HProp} [Abs F] (K : NK) (s : NS) (od : List MsgD) : CallsK W Tryz.prog 32 #[.pointer (some ⟨K.rv.r, 0, none⟩)] (At nodI K (s, od) :: F) (fun u L => u = .pointer (some ⟨K.rv.L.g, 0, none⟩) ∧ Lands L (At nodI K (s, od) :: F)) :=
  CallsK.opn (open_nod (K := K) (y := (s, od))) fun _ _ => (CallsK.at (rev_Ledger K.rv ⟨s.rl, s.rn, s.led⟩)).post ((close_nod K (s, od)).trans .fin)
theorem node_Free {W : World} {F : List HProp} [Abs F] (K : NK) (s : NS) (od : List MsgD) (x y : Int) : CallsK W Tryz.prog 33 #[.pointer (some ⟨K.rv.L.g, 0, none⟩), .int .i64 x, .int .i64 y] (At nodI K (s, od) :: F) (fun u L => u = .int .u64 (acFree s.led.acs x y) ∧ Lands L (At nodI K (s, od) :: F)) :=
  CallsK.opn (open_nod (K := K) (y := (s, od))) fun _ _ => CallsK.opn (open_rev (k := K.rv) (s := ⟨s.rl, s.rn, s.led⟩)) fun ⟨a0, c0, ra, rc, rs⟩ ⟨hle, hrs⟩ => (CallsK.at (ldg_Free K.rv.L s.led x y)).post ((close_rev K.rv ⟨s.rl, s.rn, s.led⟩ (rs := rs) hle hrs).trans ((close_nod K (s, od)).trans .fin))

end Go.Proofs.YtdhpjdhloaoepaaGreat

/- A cluster: plain. -/
namespace Go.Proofs.YtdhpjdhloaoepaaGreat
open Go Go.Proofs
attribute [local irreducible] SC SN SR SQ SA SO
set_option maxRecDepth 100000
structure CS where
  g : GS
  ns : List NS
  net : List PM
  sb : Nat
def CS.ok (x : CS) : Bool := x.g.ok && (decide (x.net.length ≤ 10000) && decide (x.sb ≤ 900000))
theorem CS.ok_1 {x : CS} (h : x.ok = true) : x.g.ok = true ∧ x.net.length ≤ 10000 ∧ x.sb ≤ 900000 := by unfold CS.ok at h; simpa using h
/-- What a replica did: its state, what it sends. -/
@[reducible] def CS.done (x : CS) (i : Nat) (g : GS) (s : NS) (net : List PM) : CS := ⟨g, x.ns.set i { s with out := [] }, net ++ s.out, x.sb + s.out.length⟩
/-- What enough shared is seen. -/
@[reducible] def CS.seen (x : CS) : CS := ⟨x.g, x.ns, x.net, x.sb + x.g.V.length⟩
def CS.deliver (c : CfgD) (x : CS) : Option CS := match x.net with
  | [] => none
  | m :: r => match x.ns[m.to.toNat]? with
    | none => none
    | some s => chk (x.ok && decide (0 ≤ m.to)) (obind (takeP c m.to x.g s m) fun (g, s') => chk (g.ok && decide (s'.out.length ≤ 10000)) (some (x.done m.to.toNat g s' r)))
def CS.tick (c : CfgD) (x : CS) (i : Nat) : Option CS := match x.ns[i]? with
  | none => none
  | some s => chk x.ok (obind (tickP c (i : Int) x.g s) fun (g, s') => chk (g.ok && decide (s'.out.length ≤ 10000)) (some (x.done i g s' x.net)))
@[reducible] def CS.env (x : CS) (cl nc fe : Int) : EnvD := ⟨cl, nc, fe, ((x.g.V.length + 1 : Nat) : Int)⟩
def CS.submit (c : CfgD) (x : CS) (cl nc fe : Int) : Option CS :=
  chk (x.ok && (decide (0 ≤ cl ∧ cl < c.cl) && (decide (c.cl ≤ 1000) && (u64B nc && u64B fe))))
  (some ⟨⟨putC x.g.N (envC (x.env cl nc fe)), addTo x.g.S (1000 + cl) (dnumC (putC x.g.N (envC (x.env cl nc fe))) (envC (x.env cl nc fe)) : Nat), x.g.V ++ [(cl, [])]⟩, x.ns, x.net ++ (List.range c.n.toNat).map fun (i : Nat) => .env (-1) (i : Int) (x.env cl nc fe), x.sb + c.n.toNat⟩)
def CS.delivers (c : CfgD) : Nat → CS → Option CS
  | 0, x => some x
  | n + 1, x => obind (x.deliver c) fun y => chk y.ok (CS.delivers c n y.seen)
def CS.ticks (c : CfgD) : Nat → Nat → CS → Option CS
  | 0, _, x => some x
  | n + 1, i, x => obind (x.tick c i) fun y => chk y.ok (CS.ticks c n (i + 1) y.seen)
def CS.round (c : CfgD) (x : CS) : Option CS := chk x.ok (obind (CS.delivers c x.net.length x) fun y => CS.ticks c y.ns.length 0 y)
def CS.news (c : CfgD) : Nat → CS
  | 0 => ⟨⟨[], [], []⟩, [], [], 0⟩
  | n + 1 => ⟨⟨putC (CS.news c n).g.N rootC, [], []⟩, (CS.news c n).ns ++ [ns0 c ((dnumC (putC (CS.news c n).g.N rootC) rootC : Nat) : Int)], [], 0⟩
def CS.begins (c : CfgD) : Nat → Nat → CS → Option CS
  | 0, _, x => some x
  | n + 1, i, x => match x.ns[i]? with
    | none => none
    | some s => chk x.ok (obind (layP c (i : Int) x.g s) fun (g, s') => chk (g.ok && decide (s'.out.length ≤ 10000)) (CS.begins c n (i + 1) (x.done i g s' x.net)))
def CS.new (c : CfgD) : Option CS := CS.begins c c.n.toNat 0 (CS.news c c.n.toNat)
def CS.submits (c : CfgD) : Nat → Nat → CS → Option CS
  | 0, _, x => some x
  | n + 1, i, x => obind (x.submit c ((i % 3 : Nat) : Int) ((i / 3 : Nat) : Int) 1) fun y => chk y.ok (CS.submits c n (i + 1) y.seen)
def CS.rounds (c : CfgD) : Nat → CS → Option CS
  | 0, x => some x
  | n + 1, x => obind (x.round c) fun y => CS.rounds c n y
/-- None has shared what is not fixed. -/
def CS.held (n : Nat) (x : CS) : Bool := (List.range 4).all fun k => match x.ns[k]? with
  | none => false
  | some s => decide (s.lg.length ≤ 1000) && (List.range n).all fun q => !(x.g.shared (k : Int) (((q + 1 : Nat) : Int))) || s.lg.any fun e => decide (e.cipher = ((q + 1 : Nat) : Int))
def CS.roundsH (c : CfgD) (n : Nat) : Nat → CS → Option CS
  | 0, x => some x
  | r + 1, x => obind (x.round c) fun y => chk (y.g.ok && y.held n) (CS.roundsH c n r y)
def winC (w : Nat) : CfgD := ⟨1, 4, 3, 10, 20, 8, 16, w⟩
def winR (w n : Nat) : Option CS := obind (CS.new (winC w)) fun x => chk x.ok (obind (CS.submits (winC w) n 0 x) fun y => CS.roundsH (winC w) n 30 y)
def winB (w n : Nat) : Bool := match winR w n with
  | none => false
  | some x => decide (x.ns.length = 4) && x.ns.all fun s => decide (s.rn = n)
def wakC : CfgD := ⟨1, 4, 3, 10, 20, 2, 6, 3⟩
def wakR : Option CS := obind (CS.new wakC) fun x => chk x.ok (obind (x.submit wakC 1 0 5) fun y => chk y.ok (CS.rounds wakC 16 y.seen))
def wakB : Bool := match wakR with
  | none => false
  | some x => decide (x.ns.length = 4) && x.ns.all fun s => decide (s.rn = 1) && decide (acFree s.led.acs 1 1 = 995)
end Go.Proofs.YtdhpjdhloaoepaaGreat

/- Bytes copied into a new row. -/
namespace Go.Proofs.YtdhpjdhloaoepaaGreat
open Go Go.Proofs
theorem OX_copyPt {W : World} {P : Program} {l : Env} {R : List HProp} {ty : TypeId} {x y : Operand} {t t2 E b n c m c2 : Nat} {a2 : Option Addr} {cs ds : List Value} {i : TypeInfo}
    (ht : P.underlying t = some (.slice E)) (hi : P.info? E = some i) (hsz : i.size = 1) (hx : ev l x = some (.slice (some ⟨b, 0, none⟩) n c)) (hy : ev l y = some (.slice a2 m c2)) (hds : ds.length = m) (hmn : m ≤ n) (hcs : n ≤ cs.length) (hone : ∀ v ∈ ds, v.oneCell' = true)
    (hR : Has W (pt b (.cells cs.toArray E) :: R) (rowR a2 ds)) :
    OX W P l (pt b (.cells cs.toArray E) :: R) (.call ⟨.builtin .copy, #[x, y], #[t, t2]⟩) ty (fun u L' => u = .int .i64 (m : Nat) ∧ L' = pt b (.cells (setL cs 0 ds).toArray E) :: R) := fun ρ hρ w hw _ _ _ _ => by
  have hdsr : ∀ w, Sat W (pt b (.cells cs.toArray E) :: R) w → (Builtin.firstCells 1 m (.slice a2 m c2)).run P w = .ok ds.toArray w := fun w hw => run_firstCells (by omega) (hR w hw)
  have hu : ∀ w, (underlying t).run P w = .ok (.slice E) w := fun w => run_underlying ht w
  have hs : ∀ w, (sizeOf E).run P w = .ok 1 w := fun w => by simp [sizeOf, typeInfo, hi, hsz]
  have run : ∀ (v : Value) (w' : World), (Builtin.copy_ #[t, t2] ty #[.slice (some ⟨b, 0, none⟩) n c, .slice a2 m c2]).run P w = .ok v w' →
      ∀ d p af g, (execOp ρ ⟨d, .call ⟨.builtin .copy, #[x, y], #[t, t2]⟩, ty, p, af, g⟩).run P w = .ok (.value v) w' := fun v w' h d p af g => by
    simp [execOp, resolve, hρ x _ hx, hρ y _ hy, invoke, builtin, h]
  obtain ⟨w1, hr1, hS⟩ := run_storeCells (P := P) (off := 0) ds 0 cs w hw (.inl rfl) hone (by omega)
  refine ⟨_, w1, .int .i64 (m : Nat), _, run _ w1 ?_ _ _ _ _, .inl rfl, ⟨rfl, rfl⟩, hS⟩
  have h0 := hdsr w hw
  have hmin : Nat.min m n = m := Nat.min_eq_left hmn
  simp [Builtin.copy_, hu, hs, Builtin.lenOf, hmin, h0, hr1, goInt]
end Go.Proofs.YtdhpjdhloaoepaaGreat
