/- Part 11 of the proof: lemmas that the walk of TopWindow needs. -/
import Derived.Test.YtdhpjdhloaoepaaGreatPw10
set_option linter.unusedSimpArgs false
set_option linter.unusedVariables false
/- Messages as replicas make them. -/
namespace Go.Proofs.YtdhpjdhloaoepaaGreat
open Go Go.Proofs
attribute [local irreducible] SC SN SR SQ SA SO
set_option maxRecDepth 100000
def mEnv (f t : Int) (e : EnvD) : MsgD := ⟨1, f, t, 0, 0, zQ, zT, e, zB⟩
def mBlk (f t : Int) (b : BRow) : MsgD := ⟨2, f, t, 0, 0, zQ, zT, zE, b⟩
def mVote (f t v d : Int) : MsgD := ⟨3, f, t, v, d, zQ, zT, zE, zB⟩
def mCert (f t : Int) (q : QcD) : MsgD := ⟨5, f, t, 0, 0, q, zT, zE, zB⟩
def mAsk (f t v : Int) (q : QcD) : MsgD := ⟨6, f, t, v, 0, q, zT, zE, zB⟩
def mTell (f t : Int) (b : BRow) : MsgD := ⟨7, f, t, 0, 0, zQ, zT, zE, b⟩
def mShare (f t c : Int) : MsgD := ⟨8, f, t, 0, c, zQ, zT, zE, zB⟩

theorem own_1 {W : World} {F : List HProp} [Abs F] (m : MsgD) (hk : m.kind = 1) :
    CallsK W Tryz.prog 108 #[m.val] (F) (fun v L => v = .tuple #[.agg ([.int .i64 (m.kind), .int .i64 (m.from_), .int .i64 (m.to_), .int .i64 (0), .int .i64 (0), .int .i64 0, .int .i64 0, .slice none 0 0, .int .i64 0, .slice none 0 0, .slice none 0 0, .int .i64 0, .int .i64 0, .slice none 0 0, .int .i64 m.env.client, .int .u64 m.env.nonce, .int .u64 m.env.fee, .int .i64 m.env.cipher, .slice none 0 0]).toArray, .bool true] ∧ Lands L F) := by
  refine CallsK_enter (n := 86) Tryz.func108 rfl rfl rfl ?_
  iterate 2 refine Ws ?_
  refine Wb fun b1 => ?_
  refine Wa fun b2 => ?_
  iterate 11 refine Ws ?_
  refine SR_pu (RD_build (.cons rfl (.cons rfl (.cons rfl (.nil)))) built46_0_1_2) rfl ?_
  refine Wa fun b4 => ?_
  refine SR_ox0 (OX_stA (vs := [.int .i64 (m.kind), .int .i64 (m.from_), .int .i64 (m.to_), .int .i64 (0), .int .i64 (0), .int .i64 0, .int .i64 0, .slice none 0 0, .int .i64 0, .slice none 0 0, .slice none 0 0, .int .i64 0, .int .i64 0, .slice none 0 0, .int .i64 0, .int .u64 0, .int .u64 0, .int .i64 0, .slice none 0 0]) Tryz.sizeOf46 rfl rfl rfl rfl) ?_
  rintro _ _ rfl
  iterate 16 refine Ws ?_
  refine SC_cond_true rfl (by rw [hk]; rfl) ?_
  iterate 2 refine Ws ?_
  refine SR_rd (RD_loadA (vs := m.env.cells) Tryz.isAgg43 Tryz.sizeOf43 rfl rfl) (Has.ces (cs := m.cells) fun j v h => by rcases j with _ | _ | _ | _ | j <;> simp [MsgD.cells, EnvD.cells, QcD.cells] at h ⊢ <;> exact h) rfl ?_
  refine Ws ?_
  refine SR_ox0 (OX_stAo (vs := m.env.cells) (cs := [.int .i64 (m.kind), .int .i64 (m.from_), .int .i64 (m.to_), .int .i64 (0), .int .i64 (0), .int .i64 0, .int .i64 0, .slice none 0 0, .int .i64 0, .slice none 0 0, .slice none 0 0, .int .i64 0, .int .i64 0, .slice none 0 0, .int .i64 0, .int .u64 0, .int .u64 0, .int .i64 0, .slice none 0 0]) (cs' := [.int .i64 (m.kind), .int .i64 (m.from_), .int .i64 (m.to_), .int .i64 (0), .int .i64 (0), .int .i64 0, .int .i64 0, .slice none 0 0, .int .i64 0, .slice none 0 0, .slice none 0 0, .int .i64 0, .int .i64 0, .slice none 0 0, .int .i64 m.env.client, .int .u64 m.env.nonce, .int .u64 m.env.fee, .int .i64 m.env.cipher, .slice none 0 0]) Tryz.sizeOf43 rfl rfl rfl (by simp) rfl) ?_
  rintro _ _ rfl
  iterate 5 refine Ws ?_
  refine SR_rd (RD_loadA (vs := [.int .i64 (m.kind), .int .i64 (m.from_), .int .i64 (m.to_), .int .i64 (0), .int .i64 (0), .int .i64 0, .int .i64 0, .slice none 0 0, .int .i64 0, .slice none 0 0, .slice none 0 0, .int .i64 0, .int .i64 0, .slice none 0 0, .int .i64 m.env.client, .int .u64 m.env.nonce, .int .u64 m.env.fee, .int .i64 m.env.cipher, .slice none 0 0]) Tryz.isAgg46 Tryz.sizeOf46 rfl rfl) Has.wh rfl ?_
  refine SR_ox0 (OX_stA (vs := [.int .i64 (m.kind), .int .i64 (m.from_), .int .i64 (m.to_), .int .i64 (0), .int .i64 (0), .int .i64 0, .int .i64 0, .slice none 0 0, .int .i64 0, .slice none 0 0, .slice none 0 0, .int .i64 0, .int .i64 0, .slice none 0 0, .int .i64 m.env.client, .int .u64 m.env.nonce, .int .u64 m.env.fee, .int .i64 m.env.cipher, .slice none 0 0]) Tryz.sizeOf46 rfl rfl rfl rfl) ?_
  rintro _ _ rfl
  iterate 3 refine Ws ?_
  refine SC_retCT rfl Tryz.isAgg46 Tryz.sizeOf46 rfl rfl rfl Has.wh ?_
  exact ⟨rfl, .fin⟩

theorem own_2 {W : World} {F : List HProp} [Abs F] (m : MsgD) (hk : m.kind = 2) (hb : m.bl.n = 1) :
    CallsK W Tryz.prog 108 #[m.val] (F) (fun v L => v = .tuple #[.agg ([.int .i64 (m.kind), .int .i64 (m.from_), .int .i64 (m.to_), .int .i64 (0), .int .i64 (0), .int .i64 0, .int .i64 0, .slice none 0 0, .int .i64 0, .slice none 0 0, .slice none 0 0, .int .i64 0, .int .i64 0, .slice none 0 0, .int .i64 0, .int .u64 0, .int .u64 0, .int .i64 0, .slice m.bl.a m.bl.n m.bl.c]).toArray, .bool true] ∧ Lands L F) := by
  refine CallsK_enter (n := 86) Tryz.func108 rfl rfl rfl ?_
  iterate 2 refine Ws ?_
  refine Wb fun b1 => ?_
  refine Wa fun b2 => ?_
  iterate 11 refine Ws ?_
  refine SR_pu (RD_build (.cons rfl (.cons rfl (.cons rfl (.nil)))) built46_0_1_2) rfl ?_
  refine Wa fun b4 => ?_
  refine SR_ox0 (OX_stA (vs := [.int .i64 (m.kind), .int .i64 (m.from_), .int .i64 (m.to_), .int .i64 (0), .int .i64 (0), .int .i64 0, .int .i64 0, .slice none 0 0, .int .i64 0, .slice none 0 0, .slice none 0 0, .int .i64 0, .int .i64 0, .slice none 0 0, .int .i64 0, .int .u64 0, .int .u64 0, .int .i64 0, .slice none 0 0]) Tryz.sizeOf46 rfl rfl rfl rfl) ?_
  rintro _ _ rfl
  iterate 16 refine Ws ?_
  refine SC_cond_false rfl (by rw [hk]; rfl) ?_
  iterate 6 refine Ws ?_
  refine SC_cond_true rfl (by rw [hk]; rfl) ?_
  iterate 9 refine Ws ?_
  refine Wd [.r 0, .r 1, .r 2, .r 3, .r 4, .e 5, .r 6] ?_
  refine SQ_rd rfl (RD_loadA (vs := [.int .i64 (m.kind), .int .i64 (m.from_), .int .i64 (m.to_), .int .i64 (0), .int .i64 (0), .int .i64 0, .int .i64 0, .slice none 0 0, .int .i64 0, .slice none 0 0, .slice none 0 0, .int .i64 0, .int .i64 0, .slice none 0 0, .int .i64 0, .int .u64 0, .int .u64 0, .int .i64 0, .slice m.bl.a m.bl.n m.bl.c]) Tryz.isAgg46 Tryz.sizeOf46 rfl rfl) Has.wh rfl ?_
  iterate 4 refine Wq ?_
  refine SQ_ox0 rfl (OX_stA (vs := [.int .i64 (m.kind), .int .i64 (m.from_), .int .i64 (m.to_), .int .i64 (0), .int .i64 (0), .int .i64 0, .int .i64 0, .slice none 0 0, .int .i64 0, .slice none 0 0, .slice none 0 0, .int .i64 0, .int .i64 0, .slice none 0 0, .int .i64 0, .int .u64 0, .int .u64 0, .int .i64 0, .slice m.bl.a m.bl.n m.bl.c]) Tryz.sizeOf46 rfl rfl rfl rfl) ?_
  rintro _ _ rfl
  refine ⟨.h (Has.ce rfl) (.w rfl (.nil)), ?_⟩
  refine Wq ?_
  iterate 2 refine Ws ?_
  refine SC_retCT rfl Tryz.isAgg46 Tryz.sizeOf46 rfl rfl rfl Has.wh ?_
  exact ⟨by rw [hb]; rfl, .fin⟩

theorem own_3 {W : World} {F : List HProp} [Abs F] (m : MsgD) (hk : m.kind = 3) :
    CallsK W Tryz.prog 108 #[m.val] (F) (fun v L => v = .tuple #[.agg ([.int .i64 (m.kind), .int .i64 (m.from_), .int .i64 (m.to_), .int .i64 (m.view), .int .i64 (m.num), .int .i64 0, .int .i64 0, .slice none 0 0, .int .i64 0, .slice none 0 0, .slice none 0 0, .int .i64 0, .int .i64 0, .slice none 0 0, .int .i64 0, .int .u64 0, .int .u64 0, .int .i64 0, .slice none 0 0]).toArray, .bool true] ∧ Lands L F) := by
  refine CallsK_enter (n := 86) Tryz.func108 rfl rfl rfl ?_
  iterate 2 refine Ws ?_
  refine Wb fun b1 => ?_
  refine Wa fun b2 => ?_
  iterate 11 refine Ws ?_
  refine SR_pu (RD_build (.cons rfl (.cons rfl (.cons rfl (.nil)))) built46_0_1_2) rfl ?_
  refine Wa fun b4 => ?_
  refine SR_ox0 (OX_stA (vs := [.int .i64 (m.kind), .int .i64 (m.from_), .int .i64 (m.to_), .int .i64 (0), .int .i64 (0), .int .i64 0, .int .i64 0, .slice none 0 0, .int .i64 0, .slice none 0 0, .slice none 0 0, .int .i64 0, .int .i64 0, .slice none 0 0, .int .i64 0, .int .u64 0, .int .u64 0, .int .i64 0, .slice none 0 0]) Tryz.sizeOf46 rfl rfl rfl rfl) ?_
  rintro _ _ rfl
  iterate 16 refine Ws ?_
  refine SC_cond_false rfl (by rw [hk]; rfl) ?_
  iterate 6 refine Ws ?_
  refine SC_cond_false rfl (by rw [hk]; rfl) ?_
  iterate 6 refine Ws ?_
  refine SC_cond_true rfl (by rw [hk]; rfl) ?_
  refine Wd [.r 0, .r 1, .r 2, .r 3, .r 4, .e 5, .r 6, .e 7] ?_
  iterate 5 refine Wq ?_
  refine SQ_ox0 rfl (OX_st Tryz.sizeOf3 rfl rfl) ?_
  rintro _ _ rfl
  refine ⟨.h (Has.ce rfl) (.w rfl (.nil)), ?_⟩
  refine Wq ?_
  refine SQ_ox0 rfl (OX_st Tryz.sizeOf3 rfl rfl) ?_
  rintro _ _ rfl
  refine ⟨.w rfl (.w rfl (.nil)), ?_⟩
  iterate 5 refine Ws ?_
  refine SR_rd (RD_loadA (vs := [.int .i64 (m.kind), .int .i64 (m.from_), .int .i64 (m.to_), .int .i64 (m.view), .int .i64 (m.num), .int .i64 0, .int .i64 0, .slice none 0 0, .int .i64 0, .slice none 0 0, .slice none 0 0, .int .i64 0, .int .i64 0, .slice none 0 0, .int .i64 0, .int .u64 0, .int .u64 0, .int .i64 0, .slice none 0 0]) Tryz.isAgg46 Tryz.sizeOf46 rfl rfl) Has.wh rfl ?_
  refine SR_ox0 (OX_stA (vs := [.int .i64 (m.kind), .int .i64 (m.from_), .int .i64 (m.to_), .int .i64 (m.view), .int .i64 (m.num), .int .i64 0, .int .i64 0, .slice none 0 0, .int .i64 0, .slice none 0 0, .slice none 0 0, .int .i64 0, .int .i64 0, .slice none 0 0, .int .i64 0, .int .u64 0, .int .u64 0, .int .i64 0, .slice none 0 0]) Tryz.sizeOf46 rfl rfl rfl rfl) ?_
  rintro _ _ rfl
  iterate 3 refine Ws ?_
  refine SC_retCT rfl Tryz.isAgg46 Tryz.sizeOf46 rfl rfl rfl Has.wh ?_
  exact ⟨rfl, .fin⟩

theorem own_5 {W : World} {F : List HProp} [Abs F] (m : MsgD) (hk : m.kind = 5) (hn : m.num = 0) :
    CallsK W Tryz.prog 108 #[m.val] (F) (fun v L => v = .tuple #[.agg ([.int .i64 (m.kind), .int .i64 (m.from_), .int .i64 (m.to_), .int .i64 (0), .int .i64 (0), .int .i64 m.qc.view, .int .i64 m.qc.block, .slice m.qc.by_.a m.qc.by_.n m.qc.by_.c, .int .i64 0, .slice none 0 0, .slice none 0 0, .int .i64 0, .int .i64 0, .slice none 0 0, .int .i64 0, .int .u64 0, .int .u64 0, .int .i64 0, .slice none 0 0]).toArray, .bool true] ∧ Lands L F) := by
  refine CallsK_enter (n := 86) Tryz.func108 rfl rfl rfl ?_
  iterate 2 refine Ws ?_
  refine Wb fun b1 => ?_
  refine Wa fun b2 => ?_
  iterate 11 refine Ws ?_
  refine SR_pu (RD_build (.cons rfl (.cons rfl (.cons rfl (.nil)))) built46_0_1_2) rfl ?_
  refine Wa fun b4 => ?_
  refine SR_ox0 (OX_stA (vs := [.int .i64 (m.kind), .int .i64 (m.from_), .int .i64 (m.to_), .int .i64 (0), .int .i64 (0), .int .i64 0, .int .i64 0, .slice none 0 0, .int .i64 0, .slice none 0 0, .slice none 0 0, .int .i64 0, .int .i64 0, .slice none 0 0, .int .i64 0, .int .u64 0, .int .u64 0, .int .i64 0, .slice none 0 0]) Tryz.sizeOf46 rfl rfl rfl rfl) ?_
  rintro _ _ rfl
  iterate 16 refine Ws ?_
  refine SC_cond_false rfl (by rw [hk]; rfl) ?_
  iterate 6 refine Ws ?_
  refine SC_cond_false rfl (by rw [hk]; rfl) ?_
  iterate 6 refine Ws ?_
  refine SC_cond_false rfl (by rw [hk]; rfl) ?_
  iterate 7 refine Ws ?_
  refine SC_cond_false rfl (by rw [hk]; rfl) ?_
  iterate 5 refine Ws ?_
  refine SC_cond_false rfl (by rw [hk]; rfl) ?_
  iterate 6 refine Ws ?_
  refine SC_cond_true rfl (by rw [hk]; rfl) ?_
  iterate 6 refine Ws ?_
  rw [hn]
  iterate 10 refine Ws ?_
  refine SC_cond_false rfl (by rw [hn]; rfl) ?_
  iterate 2 refine Ws ?_
  refine SR_rd (RD_loadA (vs := m.qc.cells) Tryz.isAgg39 Tryz.sizeOf39 rfl rfl) (Has.ces (cs := m.cells) fun j v h => by rcases j with _ | _ | _ | j <;> simp [MsgD.cells, EnvD.cells, QcD.cells] at h ⊢ <;> exact h) rfl ?_
  refine Ws ?_
  refine SR_ox0 (OX_stAo (vs := m.qc.cells) (cs := [.int .i64 (m.kind), .int .i64 (m.from_), .int .i64 (m.to_), .int .i64 (0), .int .i64 (0), .int .i64 0, .int .i64 0, .slice none 0 0, .int .i64 0, .slice none 0 0, .slice none 0 0, .int .i64 0, .int .i64 0, .slice none 0 0, .int .i64 0, .int .u64 0, .int .u64 0, .int .i64 0, .slice none 0 0]) (cs' := [.int .i64 (m.kind), .int .i64 (m.from_), .int .i64 (m.to_), .int .i64 (0), .int .i64 (0), .int .i64 m.qc.view, .int .i64 m.qc.block, .slice m.qc.by_.a m.qc.by_.n m.qc.by_.c, .int .i64 0, .slice none 0 0, .slice none 0 0, .int .i64 0, .int .i64 0, .slice none 0 0, .int .i64 0, .int .u64 0, .int .u64 0, .int .i64 0, .slice none 0 0]) Tryz.sizeOf39 rfl rfl rfl (by simp) rfl) ?_
  rintro _ _ rfl
  iterate 3 refine Ws ?_
  refine Wd [.r 0, .r 1, .r 2, .r 3, .r 4, .r 5, .r 6, .r 7, .r 8, .e 9, .r 10] ?_
  refine SQ_rd rfl (RD_loadA (vs := [.int .i64 (m.kind), .int .i64 (m.from_), .int .i64 (m.to_), .int .i64 (0), .int .i64 (0), .int .i64 m.qc.view, .int .i64 m.qc.block, .slice m.qc.by_.a m.qc.by_.n m.qc.by_.c, .int .i64 0, .slice none 0 0, .slice none 0 0, .int .i64 0, .int .i64 0, .slice none 0 0, .int .i64 0, .int .u64 0, .int .u64 0, .int .i64 0, .slice none 0 0]) Tryz.isAgg46 Tryz.sizeOf46 rfl rfl) Has.wh rfl ?_
  iterate 4 refine Wq ?_
  refine SQ_no rfl rfl rfl (by rw [hn]; rfl) (lts rfl) ?_
  refine SQ_no rfl rfl rfl (by rw [hn]; rfl) (lts rfl) ?_
  refine SQ_no rfl rfl rfl (by rw [hn]; rfl) (lts rfl) ?_
  refine SQ_pu rfl (RD_pick_t rfl (by rw [hn]; rfl) rfl) rfl ?_
  refine SQ_ox0 rfl (OX_stA (vs := [.int .i64 (m.kind), .int .i64 (m.from_), .int .i64 (m.to_), .int .i64 (0), .int .i64 (0), .int .i64 m.qc.view, .int .i64 m.qc.block, .slice m.qc.by_.a m.qc.by_.n m.qc.by_.c, .int .i64 0, .slice none 0 0, .slice none 0 0, .int .i64 0, .int .i64 0, .slice none 0 0, .int .i64 0, .int .u64 0, .int .u64 0, .int .i64 0, .slice none 0 0]) Tryz.sizeOf46 rfl rfl rfl rfl) ?_
  rintro _ _ rfl
  refine ⟨.h (Has.ce rfl) (.w rfl (.nil)), ?_⟩
  refine Wq ?_
  iterate 2 refine Ws ?_
  refine SC_retCT rfl Tryz.isAgg46 Tryz.sizeOf46 rfl rfl rfl Has.wh ?_
  exact ⟨by rfl, .fin⟩

theorem own_6 {W : World} {F : List HProp} [Abs F] (m : MsgD) (hk : m.kind = 6) :
    CallsK W Tryz.prog 108 #[m.val] (F) (fun v L => v = .tuple #[.agg ([.int .i64 (m.kind), .int .i64 (m.from_), .int .i64 (m.to_), .int .i64 (m.view), .int .i64 (0), .int .i64 m.qc.view, .int .i64 m.qc.block, .slice m.qc.by_.a m.qc.by_.n m.qc.by_.c, .int .i64 0, .slice none 0 0, .slice none 0 0, .int .i64 0, .int .i64 0, .slice none 0 0, .int .i64 0, .int .u64 0, .int .u64 0, .int .i64 0, .slice none 0 0]).toArray, .bool true] ∧ Lands L F) := by
  refine CallsK_enter (n := 86) Tryz.func108 rfl rfl rfl ?_
  iterate 2 refine Ws ?_
  refine Wb fun b1 => ?_
  refine Wa fun b2 => ?_
  iterate 11 refine Ws ?_
  refine SR_pu (RD_build (.cons rfl (.cons rfl (.cons rfl (.nil)))) built46_0_1_2) rfl ?_
  refine Wa fun b4 => ?_
  refine SR_ox0 (OX_stA (vs := [.int .i64 (m.kind), .int .i64 (m.from_), .int .i64 (m.to_), .int .i64 (0), .int .i64 (0), .int .i64 0, .int .i64 0, .slice none 0 0, .int .i64 0, .slice none 0 0, .slice none 0 0, .int .i64 0, .int .i64 0, .slice none 0 0, .int .i64 0, .int .u64 0, .int .u64 0, .int .i64 0, .slice none 0 0]) Tryz.sizeOf46 rfl rfl rfl rfl) ?_
  rintro _ _ rfl
  iterate 16 refine Ws ?_
  refine SC_cond_false rfl (by rw [hk]; rfl) ?_
  iterate 6 refine Ws ?_
  refine SC_cond_false rfl (by rw [hk]; rfl) ?_
  iterate 6 refine Ws ?_
  refine SC_cond_false rfl (by rw [hk]; rfl) ?_
  iterate 7 refine Ws ?_
  refine SC_cond_false rfl (by rw [hk]; rfl) ?_
  iterate 5 refine Ws ?_
  refine SC_cond_true rfl (by rw [hk]; rfl) ?_
  refine Wd [.r 0, .r 1, .r 2, .r 3, .r 4, .e 5, .r 6, .e 7] ?_
  iterate 3 refine Wq ?_
  refine SQ_rd rfl (RD_loadA (vs := m.qc.cells) Tryz.isAgg39 Tryz.sizeOf39 rfl rfl) (Has.ces (cs := m.cells) fun j v h => by rcases j with _ | _ | _ | j <;> simp [MsgD.cells, EnvD.cells, QcD.cells] at h ⊢ <;> exact h) rfl ?_
  refine Wq ?_
  refine SQ_ox0 rfl (OX_st Tryz.sizeOf3 rfl rfl) ?_
  rintro _ _ rfl
  refine ⟨.h (Has.ces (cs := m.cells) fun j v h => by rcases j with _ | _ | _ | j <;> simp [MsgD.cells, EnvD.cells, QcD.cells] at h ⊢ <;> exact h) (.w rfl (.nil)), ?_⟩
  refine Wq ?_
  refine SQ_ox0 rfl (OX_stAo (vs := m.qc.cells) (cs := [.int .i64 (m.kind), .int .i64 (m.from_), .int .i64 (m.to_), .int .i64 (m.view), .int .i64 (0), .int .i64 0, .int .i64 0, .slice none 0 0, .int .i64 0, .slice none 0 0, .slice none 0 0, .int .i64 0, .int .i64 0, .slice none 0 0, .int .i64 0, .int .u64 0, .int .u64 0, .int .i64 0, .slice none 0 0]) (cs' := [.int .i64 (m.kind), .int .i64 (m.from_), .int .i64 (m.to_), .int .i64 (m.view), .int .i64 (0), .int .i64 m.qc.view, .int .i64 m.qc.block, .slice m.qc.by_.a m.qc.by_.n m.qc.by_.c, .int .i64 0, .slice none 0 0, .slice none 0 0, .int .i64 0, .int .i64 0, .slice none 0 0, .int .i64 0, .int .u64 0, .int .u64 0, .int .i64 0, .slice none 0 0]) Tryz.sizeOf39 rfl rfl rfl (by simp) rfl) ?_
  rintro _ _ rfl
  refine ⟨.w rfl (.w rfl (.nil)), ?_⟩
  iterate 5 refine Ws ?_
  refine SR_rd (RD_loadA (vs := [.int .i64 (m.kind), .int .i64 (m.from_), .int .i64 (m.to_), .int .i64 (m.view), .int .i64 (0), .int .i64 m.qc.view, .int .i64 m.qc.block, .slice m.qc.by_.a m.qc.by_.n m.qc.by_.c, .int .i64 0, .slice none 0 0, .slice none 0 0, .int .i64 0, .int .i64 0, .slice none 0 0, .int .i64 0, .int .u64 0, .int .u64 0, .int .i64 0, .slice none 0 0]) Tryz.isAgg46 Tryz.sizeOf46 rfl rfl) Has.wh rfl ?_
  refine SR_ox0 (OX_stA (vs := [.int .i64 (m.kind), .int .i64 (m.from_), .int .i64 (m.to_), .int .i64 (m.view), .int .i64 (0), .int .i64 m.qc.view, .int .i64 m.qc.block, .slice m.qc.by_.a m.qc.by_.n m.qc.by_.c, .int .i64 0, .slice none 0 0, .slice none 0 0, .int .i64 0, .int .i64 0, .slice none 0 0, .int .i64 0, .int .u64 0, .int .u64 0, .int .i64 0, .slice none 0 0]) Tryz.sizeOf46 rfl rfl rfl rfl) ?_
  rintro _ _ rfl
  iterate 3 refine Ws ?_
  refine SC_retCT rfl Tryz.isAgg46 Tryz.sizeOf46 rfl rfl rfl Has.wh ?_
  exact ⟨rfl, .fin⟩

theorem own_7 {W : World} {F : List HProp} [Abs F] (m : MsgD) (hk : m.kind = 7) (hb : m.bl.n ≤ 1000) :
    CallsK W Tryz.prog 108 #[m.val] (F) (fun v L => v = .tuple #[.agg ([.int .i64 (m.kind), .int .i64 (m.from_), .int .i64 (m.to_), .int .i64 (0), .int .i64 (0), .int .i64 0, .int .i64 0, .slice none 0 0, .int .i64 0, .slice none 0 0, .slice none 0 0, .int .i64 0, .int .i64 0, .slice none 0 0, .int .i64 0, .int .u64 0, .int .u64 0, .int .i64 0, .slice m.bl.a m.bl.n m.bl.c]).toArray, .bool true] ∧ Lands L F) := by
  refine CallsK_enter (n := 86) Tryz.func108 rfl rfl rfl ?_
  iterate 2 refine Ws ?_
  refine Wb fun b1 => ?_
  refine Wa fun b2 => ?_
  iterate 11 refine Ws ?_
  refine SR_pu (RD_build (.cons rfl (.cons rfl (.cons rfl (.nil)))) built46_0_1_2) rfl ?_
  refine Wa fun b4 => ?_
  refine SR_ox0 (OX_stA (vs := [.int .i64 (m.kind), .int .i64 (m.from_), .int .i64 (m.to_), .int .i64 (0), .int .i64 (0), .int .i64 0, .int .i64 0, .slice none 0 0, .int .i64 0, .slice none 0 0, .slice none 0 0, .int .i64 0, .int .i64 0, .slice none 0 0, .int .i64 0, .int .u64 0, .int .u64 0, .int .i64 0, .slice none 0 0]) Tryz.sizeOf46 rfl rfl rfl rfl) ?_
  rintro _ _ rfl
  iterate 16 refine Ws ?_
  refine SC_cond_false rfl (by rw [hk]; rfl) ?_
  iterate 6 refine Ws ?_
  refine SC_cond_false rfl (by rw [hk]; rfl) ?_
  iterate 6 refine Ws ?_
  refine SC_cond_false rfl (by rw [hk]; rfl) ?_
  iterate 7 refine Ws ?_
  refine SC_cond_false rfl (by rw [hk]; rfl) ?_
  iterate 5 refine Ws ?_
  refine SC_cond_false rfl (by rw [hk]; rfl) ?_
  iterate 6 refine Ws ?_
  refine SC_cond_false rfl (by rw [hk]; rfl) ?_
  iterate 6 refine Ws ?_
  refine SC_cond_true rfl (by rw [hk]; rfl) ?_
  iterate 9 refine Ws ?_
  refine Wd [.r 0, .r 1, .r 2, .r 3, .r 4, .e 5, .r 6] ?_
  refine SQ_rd rfl (RD_loadA (vs := [.int .i64 (m.kind), .int .i64 (m.from_), .int .i64 (m.to_), .int .i64 (0), .int .i64 (0), .int .i64 0, .int .i64 0, .slice none 0 0, .int .i64 0, .slice none 0 0, .slice none 0 0, .int .i64 0, .int .i64 0, .slice none 0 0, .int .i64 0, .int .u64 0, .int .u64 0, .int .i64 0, .slice m.bl.a m.bl.n m.bl.c]) Tryz.isAgg46 Tryz.sizeOf46 rfl rfl) Has.wh rfl ?_
  iterate 4 refine Wq ?_
  refine SQ_ox0 rfl (OX_stA (vs := [.int .i64 (m.kind), .int .i64 (m.from_), .int .i64 (m.to_), .int .i64 (0), .int .i64 (0), .int .i64 0, .int .i64 0, .slice none 0 0, .int .i64 0, .slice none 0 0, .slice none 0 0, .int .i64 0, .int .i64 0, .slice none 0 0, .int .i64 0, .int .u64 0, .int .u64 0, .int .i64 0, .slice m.bl.a m.bl.n m.bl.c]) Tryz.sizeOf46 rfl rfl rfl rfl) ?_
  rintro _ _ rfl
  refine ⟨.h (Has.ce rfl) (.w rfl (.nil)), ?_⟩
  refine Wq ?_
  iterate 2 refine Ws ?_
  refine SC_retCT rfl Tryz.isAgg46 Tryz.sizeOf46 rfl rfl rfl Has.wh ?_
  exact ⟨by rw [decide_eq_true (show ((m.bl.n : Nat) : Int) ≤ 1000 by omega)], .fin⟩

theorem own_8 {W : World} {F : List HProp} [Abs F] (m : MsgD) (hk : m.kind = 8) :
    CallsK W Tryz.prog 108 #[m.val] (F) (fun v L => v = .tuple #[.agg ([.int .i64 (m.kind), .int .i64 (m.from_), .int .i64 (m.to_), .int .i64 (0), .int .i64 (m.num), .int .i64 0, .int .i64 0, .slice none 0 0, .int .i64 0, .slice none 0 0, .slice none 0 0, .int .i64 0, .int .i64 0, .slice none 0 0, .int .i64 0, .int .u64 0, .int .u64 0, .int .i64 0, .slice none 0 0]).toArray, .bool true] ∧ Lands L F) := by
  refine CallsK_enter (n := 86) Tryz.func108 rfl rfl rfl ?_
  iterate 2 refine Ws ?_
  refine Wb fun b1 => ?_
  refine Wa fun b2 => ?_
  iterate 11 refine Ws ?_
  refine SR_pu (RD_build (.cons rfl (.cons rfl (.cons rfl (.nil)))) built46_0_1_2) rfl ?_
  refine Wa fun b4 => ?_
  refine SR_ox0 (OX_stA (vs := [.int .i64 (m.kind), .int .i64 (m.from_), .int .i64 (m.to_), .int .i64 (0), .int .i64 (0), .int .i64 0, .int .i64 0, .slice none 0 0, .int .i64 0, .slice none 0 0, .slice none 0 0, .int .i64 0, .int .i64 0, .slice none 0 0, .int .i64 0, .int .u64 0, .int .u64 0, .int .i64 0, .slice none 0 0]) Tryz.sizeOf46 rfl rfl rfl rfl) ?_
  rintro _ _ rfl
  iterate 16 refine Ws ?_
  refine SC_cond_false rfl (by rw [hk]; rfl) ?_
  iterate 6 refine Ws ?_
  refine SC_cond_false rfl (by rw [hk]; rfl) ?_
  iterate 6 refine Ws ?_
  refine SC_cond_false rfl (by rw [hk]; rfl) ?_
  iterate 7 refine Ws ?_
  refine SC_cond_false rfl (by rw [hk]; rfl) ?_
  iterate 5 refine Ws ?_
  refine SC_cond_false rfl (by rw [hk]; rfl) ?_
  iterate 6 refine Ws ?_
  refine SC_cond_false rfl (by rw [hk]; rfl) ?_
  iterate 6 refine Ws ?_
  refine SC_cond_false rfl (by rw [hk]; rfl) ?_
  iterate 6 refine Ws ?_
  refine SC_cond_true rfl (by rw [hk]; rfl) ?_
  iterate 10 refine Ws ?_
  refine SR_rd (RD_loadA (vs := [.int .i64 (m.kind), .int .i64 (m.from_), .int .i64 (m.to_), .int .i64 (0), .int .i64 (m.num), .int .i64 0, .int .i64 0, .slice none 0 0, .int .i64 0, .slice none 0 0, .slice none 0 0, .int .i64 0, .int .i64 0, .slice none 0 0, .int .i64 0, .int .u64 0, .int .u64 0, .int .i64 0, .slice none 0 0]) Tryz.isAgg46 Tryz.sizeOf46 rfl rfl) Has.wh rfl ?_
  refine SR_ox0 (OX_stA (vs := [.int .i64 (m.kind), .int .i64 (m.from_), .int .i64 (m.to_), .int .i64 (0), .int .i64 (m.num), .int .i64 0, .int .i64 0, .slice none 0 0, .int .i64 0, .slice none 0 0, .slice none 0 0, .int .i64 0, .int .i64 0, .slice none 0 0, .int .i64 0, .int .u64 0, .int .u64 0, .int .i64 0, .slice none 0 0]) Tryz.sizeOf46 rfl rfl rfl rfl) ?_
  rintro _ _ rfl
  iterate 3 refine Ws ?_
  refine SC_retCT rfl Tryz.isAgg46 Tryz.sizeOf46 rfl rfl rfl Has.wh ?_
  exact ⟨rfl, .fin⟩

/-- A message that says what its kind says, and no more. -/
inductive Plain : MsgD → Prop
  | env (f t : Int) (e : EnvD) : Plain (mEnv f t e)
  | blk (f t : Int) (b : BRow) (h : b.n = 1) : Plain (mBlk f t b)
  | vote (f t v d : Int) : Plain (mVote f t v d)
  | cert (f t : Int) (q : QcD) : Plain (mCert f t q)
  | ask (f t v : Int) (q : QcD) : Plain (mAsk f t v q)
  | tell (f t : Int) (b : BRow) (h : b.n ≤ 1000) : Plain (mTell f t b)
  | share (f t c : Int) : Plain (mShare f t c)
theorem mess_ownP {W : World} {F : List HProp} [Abs F] {m : MsgD} (h : Plain m) : CallsK W Tryz.prog 108 #[m.val] F (fun v L => v = .tuple #[m.val, .bool true] ∧ Lands L F) := by
  cases h with
  | env f t e => exact own_1 (mEnv f t e) rfl
  | blk f t b h => exact own_2 (mBlk f t b) rfl h
  | vote f t v d => exact own_3 (mVote f t v d) rfl
  | cert f t q => exact own_5 (mCert f t q) rfl rfl
  | ask f t v q => exact own_6 (mAsk f t v q) rfl
  | tell f t b h => exact own_7 (mTell f t b) rfl h
  | share f t c => exact own_8 (mShare f t c) rfl

theorem mess_CodeP {W : World} {F : List HProp} [Abs F] (m : MsgD) [hM : MsgIn F m] (hp : Plain m) :
    CallsK W Tryz.prog 85 #[m.val] (F) (fun v L => (∃ a c, v = .tuple #[.slice a m.p.bytes.length c, .bool true] ∧ m.p.bytes.length ≤ 1000000 ∧ Lands L (rowP 5 1 a m.p.bytes.length c (m.p.bytes.map byteV) :: F))) := by
  refine CallsK_enter (n := 21) Tryz.func85 rfl rfl rfl ?_
  iterate 2 refine Ws ?_
  refine Wb fun b1 => ?_
  iterate 6 refine Ws ?_
  refine SR_rd (RD_loadA (vs := m.cells) Tryz.isAgg46 Tryz.sizeOf46 rfl rfl) Has.wh rfl ?_
  refine Wc (mess_ownP hp) ?_
  refine Ws ?_
  refine SR_pu (RD_extract (v := m.val) rfl rfl) rfl ?_
  refine SR_pu (RD_extract (v := .bool true) rfl rfl) rfl ?_
  refine Wa fun b4 => ?_
  refine SR_ox0 (OX_stA (vs := m.cells) Tryz.sizeOf46 rfl rfl rfl rfl) ?_
  rintro _ _ rfl
  iterate 9 refine Ws ?_
  refine SR_yes rfl rfl (rfl) ?_
  refine SR_rd (RD_loadA (vs := m.cells) Tryz.isAgg46 Tryz.sizeOf46 rfl rfl) Has.wh rfl ?_
  refine SR_yes rfl rfl (rfl) ?_
  refine SR_rd (RD_loadA (vs := m.cells) Tryz.isAgg46 Tryz.sizeOf46 rfl rfl) Has.wh rfl ?_
  refine SR_yes rfl rfl (rfl) ?_
  refine Wc (mess_Same m m) ?_
  refine SR_yes rfl rfl (rfl) ?_
  refine Ws ?_
  refine SR_pu (RD_pick_f rfl (rfl) rfl) rfl ?_
  iterate 2 refine Ws ?_
  refine SC_cond_false rfl (by rw [decide_eq_true rfl]; rfl) ?_
  iterate 4 refine Ws ?_
  refine SR_rd (RD_loadA (vs := m.cells) Tryz.isAgg46 Tryz.sizeOf46 rfl rfl) Has.wh rfl ?_
  refine We (mess_all m) ?_
  rintro _ L3 ⟨a3, c3, rfl, hl3, hL3⟩
  refine SR.lands hL3 ?_
  iterate 4 refine Ws ?_
  refine SC_ret2 rfl rfl rfl ?_
  exact ⟨a3, c3, rfl, hl3, .fin⟩

end Go.Proofs.YtdhpjdhloaoepaaGreat

/- The archive: rows that are read for ever. -/
namespace Go.Proofs.YtdhpjdhloaoepaaGreat
open Go Go.Proofs
attribute [local irreducible] SC SN SR SQ SA SO
set_option maxRecDepth 100000
structure Arc where
  X : Hp → Prop
  up : Up X
def arcI (_ : Unit) (A : Arc) : HProp := A.X
/-- One archive holds all that another holds. -/
def Arc.le (A B : Arc) : Prop := ∀ h, B.X h → A.X h
theorem Arc.le.rfl {A : Arc} : A.le A := fun _ h => h
theorem Arc.le.trans {A B C : Arc} (h : A.le B) (g : B.le C) : A.le C := fun x hx => h x (g x hx)
def Arc.add (A : Arc) (a : Option Addr) (cs : List Value) : Arc := ⟨fun h => A.X h ∧ rowR a cs h, fun h k s ⟨x, y⟩ => ⟨A.up h k s x, rowR.up h k s y⟩⟩
def Arc.none : Arc := ⟨fun _ => True, fun _ _ _ _ => trivial⟩
theorem Arc.le_add {A : Arc} {a : Option Addr} {cs : List Value} : A.le (A.add a cs) := fun _ h => h.1
theorem arc_new {L : List HProp} : Lands L (At arcI () Arc.none :: L) := fun m H => ⟨fun _ => .none, m, fun _ => .inl rfl, by funext b; simp [join], trivial, H⟩
/-- A row laid into the archive. -/
theorem arc_push {A : Arc} {L R1 R : List HProp} {E z n c : Nat} {a : Option Addr} {cs : List Value} [t : TakeRow L a E z n c cs R1] [u : TakeAt R1 arcI () A R] : Lands L (At arcI () (A.add a cs) :: R) := fun m H => by
  obtain ⟨h1, h2, d, e, hr, H2⟩ := Den_perm t.perm m H
  obtain ⟨k1, k2, d2, e2, ha, H3⟩ := Den_perm u.perm h2 H2
  subst e; subst e2
  rw [disj_join] at d
  have s1 : Sub h1 (join h1 k1) := fun b o x => by simp [join, x]
  have s2 : Sub k1 (join h1 k1) := fun b o x => by
    rcases d.1 b with y | y
    · simp [join, y, x]
    · rw [x] at y; cases y
  exact ⟨join h1 k1, k2, disj_comm (disj_join.2 ⟨disj_comm d.2, disj_comm d2⟩), (join_assoc h1 k1 k2).symm, ⟨A.up _ _ s2 ha, rowR.up _ _ s1 (rowP_reads hr)⟩, H3⟩
theorem HasRow.ofArc {A : Arc} {a : Option Addr} {cs : List Value} {L : List HProp} (h : ∀ q, A.X q → rowR a cs q) : HasRow (At arcI () A :: L) a cs := ⟨.head rowR.up h⟩
theorem HasRow.ofAdd {A : Arc} {a : Option Addr} {cs : List Value} {L : List HProp} : HasRow (At arcI () (A.add a cs) :: L) a cs := .ofArc fun _ h => h.2
theorem HasRow.arcLe {A B : Arc} {a : Option Addr} {cs : List Value} {L : List HProp} (g : A.le B) (h : HasRow (At arcI () A :: L) a cs) : HasRow (At arcI () B :: L) a cs := ⟨h.r.1, fun q ⟨h1, h2, d, e, hx, r⟩ => h.r.2 q ⟨h1, h2, d, e, g _ hx, r⟩⟩
theorem RIn.map {F G : List HProp} {r : Row} (g : ∀ a cs, HasRow F a cs → HasRow G a cs) (h : RIn F r) : RIn G r := ⟨g _ _ h.row, h.n, h.i, h.s⟩
theorem BIn.map {F G : List HProp} {r : BlkD} (g : ∀ a cs, HasRow F a cs → HasRow G a cs) (h : BIn F r) : BIn G r := ⟨h.r1.map g, g _ _ h.r2, h.n2, h.i1, h.i2, h.i3, h.i4, h.e, h.s⟩
theorem MsgIn.map {F G : List HProp} {m : MsgD} (g : ∀ a cs, HasRow F a cs → HasRow G a cs) (h : MsgIn F m) : MsgIn G m := ⟨h.q.map g, h.t.map g, h.h.map g, h.k.map g, g _ _ h.b, h.n, h.s, fun b hb => (h.bs b hb).map g, h.head, h.q1, h.t1, h.k1, h.e⟩
/-- What lies in the archive alone. -/
abbrev RArc (A : Arc) (r : Row) : Prop := RIn [At arcI () A] r
abbrev BArc (A : Arc) (b : BlkD) : Prop := BIn [At arcI () A] b
abbrev MArc (A : Arc) (m : MsgD) : Prop := MsgIn [At arcI () A] m
theorem HasRow.more {A : Arc} {L R : List HProp} {a : Option Addr} {cs : List Value} [t : TakeAt L arcI () A R] (h : HasRow [At arcI () A] a cs) : HasRow L a cs := ⟨h.r.1, fun q H => by
  obtain ⟨h1, h2, d, e, hx, r⟩ := Den_perm t.perm q H
  refine h.r.1 h1 q (fun b o x => by rw [e]; simp [join, x]) (h.r.2 h1 ⟨h1, fun _ => none, fun _ => .inr rfl, by funext b; simp [join], hx, fun _ => rfl⟩)⟩
class ArcRow (A : Arc) (a : Option Addr) (cs : outParam (List Value)) : Prop where
  h : HasRow [At arcI () A] a cs
instance (priority := 3000) ArcRow.row {A : Arc} {L : List HProp} {a : Option Addr} {cs : List Value} [r : ArcRow A a cs] : HasRow (At arcI () A :: L) a cs := r.h.more
theorem RArc.le {A B : Arc} {r : Row} (g : A.le B) (h : RArc A r) : RArc B r := h.map fun _ _ => HasRow.arcLe g
theorem BArc.le {A B : Arc} {r : BlkD} (g : A.le B) (h : BArc A r) : BArc B r := h.map fun _ _ => HasRow.arcLe g
theorem MArc.le {A B : Arc} {r : MsgD} (g : A.le B) (h : MArc A r) : MArc B r := MsgIn.map (fun _ _ => HasRow.arcLe g) h
theorem RArc.in {A : Arc} {L R : List HProp} {r : Row} [t : TakeAt L arcI () A R] (h : RArc A r) : RIn L r := h.map fun _ _ => HasRow.more
theorem BArc.in {A : Arc} {L R : List HProp} {r : BlkD} [t : TakeAt L arcI () A R] (h : BArc A r) : BIn L r := h.map fun _ _ => HasRow.more
theorem MArc.in {A : Arc} {L R : List HProp} {r : MsgD} [t : TakeAt L arcI () A R] (h : MArc A r) : MsgIn L r := MsgIn.map (fun _ _ => HasRow.more) h
theorem BIn.fit {F : List HProp} {b : BlkD} (h : BIn F b) : b.Fit := ⟨h.r1.n, h.n2, by have := h.r1.s; omega, by have := h.s; omega, fun e he => (h.e e he).2.2⟩
theorem bl_len (l : List BlkD) : (l.flatMap BlkD.cells).length = l.length * 6 := by
  induction l with
  | nil => rfl
  | cons x l ih => rw [List.flatMap_cons, List.length_append, ih, List.length_cons, show x.cells.length = 6 from rfl]; omega
theorem bl_get {l : List BlkD} {i : Nat} {e : BlkD} (h : l[i]? = some e) (o : Nat) (ho : o < 6) : (l.flatMap BlkD.cells)[i * 6 + o]? = e.cells[o]? := by
  induction l generalizing i with
  | nil => simp at h
  | cons x l ih =>
    cases i with
    | zero => simp at h; subst h; rw [List.flatMap_cons, Nat.zero_mul, Nat.zero_add, List.getElem?_append_left (by show o < 6; exact ho)]
    | succ i =>
      rw [List.flatMap_cons, List.getElem?_append_right (by show 6 ≤ _; omega), show x.cells.length = 6 from rfl, show (i + 1) * 6 + o - 6 = i * 6 + o by omega]
      exact ih (by simpa using h)

end Go.Proofs.YtdhpjdhloaoepaaGreat

/- Messages kept still. -/
namespace Go.Proofs.YtdhpjdhloaoepaaGreat
open Go Go.Proofs
attribute [local irreducible] SC SN SR SQ SA SO
set_option maxRecDepth 100000

theorem clone_nil {W : World} {F : List HProp} [Abs F] :
    CallsK W Tryz.prog 100 #[.slice none 0 0] (F) (fun u L => u = .slice none 0 0 ∧ Lands L F) := by
  refine CallsK_enter (n := 8) Tryz.func100 rfl rfl rfl ?_
  iterate 9 refine Ws ?_
  refine SR_pu (RD_eqlSl Tryz.underlying37 rfl rfl) rfl ?_
  iterate 2 refine Ws ?_
  refine SC_cond_true rfl (rfl) ?_
  iterate 5 refine Ws ?_
  refine SC_ret1 rfl rfl ?_
  exact ⟨rfl, .fin⟩

theorem still_Q {W : World} {F : List HProp} [Abs F] (m : MsgD) (hr : RIn F m.qc.by_) (ht : m.tc = zT) (hb : m.bl = zB) :
    CallsK W Tryz.prog 84 #[m.val] (F) (fun u L => ∃ qa qc, u = MsgD.val ⟨m.kind, m.from_, m.to_, m.view, m.num, ⟨m.qc.view, m.qc.block, ⟨qa, m.qc.by_.n, qc, m.qc.by_.l⟩⟩, zT, m.env, zB⟩ ∧ Lands L (rowP 3 1 qa m.qc.by_.n qc (m.qc.by_.l.map intV) :: F)) := by
  refine CallsK_enter (n := 48) Tryz.func84 rfl rfl rfl ?_
  haveI := hr.row
  have hqn := hr.n
  have hqs := hr.s
  have hval : m.val = .agg ([.int .i64 m.kind, .int .i64 m.from_, .int .i64 m.to_, .int .i64 m.view, .int .i64 m.num, .int .i64 m.qc.view, .int .i64 m.qc.block, .slice m.qc.by_.a m.qc.by_.n m.qc.by_.c, .int .i64 0, .slice none 0 0, .slice none 0 0, .int .i64 0, .int .i64 0, .slice none 0 0, .int .i64 m.env.client, .int .u64 m.env.nonce, .int .u64 m.env.fee, .int .i64 m.env.cipher, .slice none 0 0]).toArray := by unfold MsgD.val MsgD.cells; rw [ht, hb]; rfl
  rw [hval]
  iterate 2 refine Ws ?_
  refine Wb fun b1 => ?_
  refine Wa fun b2 => ?_
  iterate 7 refine Ws ?_
  refine We (clone_ints (m.qc.by_.l.map intV) m.qc.by_.a m.qc.by_.n m.qc.by_.c (by simp [hqn]) (by omega)) ?_
  rintro _ L1 ⟨qa, qc, rfl, hL1⟩
  refine SR.lands hL1 ?_
  iterate 6 refine Ws ?_
  refine Wd [.r 0, .r 1, .r 2, .r 4, .r 5, .r 6, .r 8, .r 9, .r 10, .r 11, .e 3, .r 13, .r 14, .e 7, .e 12, .e 15, .r 16, .r 17, .e 18, .r 19, .r 20, .r 21, .e 22] ?_
  iterate 10 refine Wq ?_
  refine SQ_call rfl Tryz.call100 (.cons rfl (.nil)) (clone_nil) (lts rfl) ?_
  rintro _ L2 ⟨rfl, hL2⟩
  refine ⟨.lands hL2 (.h (Has.ce rfl) (.h (Has.ce rfl) (.w rfl (.nil)))), ?_⟩
  refine SQ.lands hL2 ?_
  iterate 2 refine Wq ?_
  refine SQ_call rfl Tryz.call100 (.cons rfl (.nil)) (clone_nil) (lts rfl) ?_
  rintro _ L3 ⟨rfl, hL3⟩
  refine ⟨.lands hL3 (.h (Has.ce rfl) (.w rfl (.h (Has.ce rfl) (.nil)))), ?_⟩
  refine SQ.lands hL3 ?_
  refine SQ_call rfl Tryz.call100 (.cons rfl (.nil)) (clone_nil) (lts rfl) ?_
  rintro _ L4 ⟨rfl, hL4⟩
  refine ⟨.lands hL4 (.w rfl (.h (Has.ce rfl) (.h (Has.ce rfl) (.nil)))), ?_⟩
  refine SQ.lands hL4 ?_
  refine SQ_ox0 rfl (OX_st Tryz.sizeOf37 rfl rfl) ?_
  rintro _ _ rfl
  refine ⟨.w rfl (.w rfl (.w rfl (.nil))), ?_⟩
  iterate 2 refine Wq ?_
  refine SQ_ox0 rfl (OX_st Tryz.sizeOf37 rfl rfl) ?_
  rintro _ _ rfl
  refine ⟨.w rfl (.w rfl (.w rfl (.nil))), ?_⟩
  iterate 3 refine Wq ?_
  refine SQ_ox0 rfl (OX_st Tryz.sizeOf37 rfl rfl) ?_
  rintro _ _ rfl
  refine ⟨.w rfl (.w rfl (.w rfl (.nil))), ?_⟩
  iterate 17 refine Ws ?_
  refine SC_loop ?_
  iterate 6 refine Ws ?_
  refine SC_cond_false rfl (rfl) ?_
  iterate 11 refine Ws ?_
  refine SR_rd (RD_loadA (vs := [.int .i64 m.kind, .int .i64 m.from_, .int .i64 m.to_, .int .i64 m.view, .int .i64 m.num, .int .i64 m.qc.view, .int .i64 m.qc.block, .slice qa m.qc.by_.n qc, .int .i64 0, .slice none 0 0, .slice none 0 0, .int .i64 0, .int .i64 0, .slice none 0 0, .int .i64 m.env.client, .int .u64 m.env.nonce, .int .u64 m.env.fee, .int .i64 m.env.cipher, .slice none 0 0]) Tryz.isAgg46 Tryz.sizeOf46 rfl rfl) Has.wh rfl ?_
  refine SR_ox0 (OX_stA (vs := [.int .i64 m.kind, .int .i64 m.from_, .int .i64 m.to_, .int .i64 m.view, .int .i64 m.num, .int .i64 m.qc.view, .int .i64 m.qc.block, .slice qa m.qc.by_.n qc, .int .i64 0, .slice none 0 0, .slice none 0 0, .int .i64 0, .int .i64 0, .slice none 0 0, .int .i64 m.env.client, .int .u64 m.env.nonce, .int .u64 m.env.fee, .int .i64 m.env.cipher, .slice none 0 0]) Tryz.sizeOf46 rfl rfl rfl rfl) ?_
  rintro _ _ rfl
  iterate 2 refine Ws ?_
  refine SC_retC rfl Tryz.isAgg46 Tryz.sizeOf46 rfl rfl Has.wh ?_
  exact ⟨qa, qc, rfl, .fin⟩

theorem MsgIn.arcLe {A B : Arc} {L : List HProp} {m : MsgD} (g : A.le B) (h : MsgIn (At arcI () A :: L) m) : MsgIn (At arcI () B :: L) m := MsgIn.map (fun _ _ => HasRow.arcLe g) h
theorem BIn.keep {F : List HProp} {b b' : BlkD} (h : BIn F b) (hp : b'.pure = b.pure) (hf : b'.Fit) {G : List HProp} (h1 : HasRow G b'.by_.a (b'.by_.l.map intV)) (h2 : HasRow G b'.envs.a (b'.envs.l.flatMap EnvD.cells)) : BIn G b' := by
  have e1 : b'.view = b.view := congrArg Blk.view hp
  have e2 : b'.author = b.author := congrArg Blk.author hp
  have e3 : b'.jv = b.jv := congrArg Blk.jv hp
  have e4 : b'.jb = b.jb := congrArg Blk.jb hp
  have e5 : b'.by_.l = b.by_.l := congrArg Blk.by_ hp
  have e6 : b'.envs.l = b.envs.l := congrArg Blk.envs hp
  exact ⟨⟨h1, hf.1, by rw [e5]; exact h.r1.i, by rw [← hf.1, e5, h.r1.n]; exact h.r1.s⟩, h2, hf.2.1, by rw [e1]; exact h.i1, by rw [e2]; exact h.i2, by rw [e3]; exact h.i3, by rw [e4]; exact h.i4, by rw [e6]; exact h.e, by rw [← hf.2.1, e6, h.n2]; exact h.s⟩

theorem still_B {W : World} {F : List HProp} [Abs F] (m : MsgD) (A : Arc) (hM : MArc A m) (hq : m.qc = zQ) (ht : m.tc = zT) :
    CallsK W Tryz.prog 84 #[m.val] (At arcI () A :: F) (fun u L => ∃ bl A', u = MsgD.val ⟨m.kind, m.from_, m.to_, m.view, m.num, zQ, zT, m.env, bl⟩ ∧ bl.l.map BlkD.pure = m.bl.l.map BlkD.pure ∧ bl.n = m.bl.n ∧ (m.bl.n = 0 → bl = zB) ∧ A.le A' ∧ HasRow [At arcI () A'] bl.a (bl.l.flatMap BlkD.cells) ∧ (∀ b ∈ bl.l, BArc A' b) ∧ bl.l.length = bl.n ∧ Lands L (At arcI () A' :: F)) := by
  refine CallsK_enter (n := 48) Tryz.func84 rfl rfl rfl ?_
  have hms := hM.s
  have hval : m.val = .agg ([.int .i64 m.kind, .int .i64 m.from_, .int .i64 m.to_, .int .i64 m.view, .int .i64 m.num, .int .i64 0, .int .i64 0, .slice none 0 0, .int .i64 0, .slice none 0 0, .slice none 0 0, .int .i64 0, .int .i64 0, .slice none 0 0, .int .i64 m.env.client, .int .u64 m.env.nonce, .int .u64 m.env.fee, .int .i64 m.env.cipher, .slice m.bl.a m.bl.n m.bl.c]).toArray := by unfold MsgD.val MsgD.cells; rw [hq, ht]; rfl
  rw [hval]
  iterate 2 refine Ws ?_
  refine Wb fun b1 => ?_
  refine Wa fun b2 => ?_
  iterate 7 refine Ws ?_
  refine Wc (clone_nil) ?_
  iterate 6 refine Ws ?_
  refine Wd [.r 0, .r 1, .r 2, .r 4, .r 5, .r 6, .r 8, .r 9, .r 10, .r 11, .e 3, .r 13, .r 14, .e 7, .e 12, .e 15, .r 16, .r 17, .e 18, .r 19, .r 20, .r 21, .e 22] ?_
  iterate 10 refine Wq ?_
  refine SQ_call rfl Tryz.call100 (.cons rfl (.nil)) (clone_nil) (lts rfl) ?_
  rintro _ L2 ⟨rfl, hL2⟩
  refine ⟨.lands hL2 (.h (Has.ce rfl) (.h (Has.ce rfl) (.w rfl (.nil)))), ?_⟩
  refine SQ.lands hL2 ?_
  iterate 2 refine Wq ?_
  refine SQ_call rfl Tryz.call100 (.cons rfl (.nil)) (clone_nil) (lts rfl) ?_
  rintro _ L3 ⟨rfl, hL3⟩
  refine ⟨.lands hL3 (.h (Has.ce rfl) (.w rfl (.h (Has.ce rfl) (.nil)))), ?_⟩
  refine SQ.lands hL3 ?_
  refine SQ_call rfl Tryz.call100 (.cons rfl (.nil)) (clone_nil) (lts rfl) ?_
  rintro _ L4 ⟨rfl, hL4⟩
  refine ⟨.lands hL4 (.w rfl (.h (Has.ce rfl) (.h (Has.ce rfl) (.nil)))), ?_⟩
  refine SQ.lands hL4 ?_
  refine SQ_ox0 rfl (OX_st Tryz.sizeOf37 rfl rfl) ?_
  rintro _ _ rfl
  refine ⟨.w rfl (.w rfl (.w rfl (.nil))), ?_⟩
  iterate 2 refine Wq ?_
  refine SQ_ox0 rfl (OX_st Tryz.sizeOf37 rfl rfl) ?_
  rintro _ _ rfl
  refine ⟨.w rfl (.w rfl (.w rfl (.nil))), ?_⟩
  iterate 3 refine Wq ?_
  refine SQ_ox0 rfl (OX_st Tryz.sizeOf37 rfl rfl) ?_
  rintro _ _ rfl
  refine ⟨.w rfl (.w rfl (.w rfl (.nil))), ?_⟩
  iterate 17 refine Ws ?_
  refine SC_ind (X := Nat × Option Addr × Nat × List BlkD × Arc) (fun x => (x.1 ≤ m.bl.n ∧ x.2.2.2.1.length = x.1 ∧ x.2.2.2.1.map BlkD.pure = (m.bl.l.take x.1).map BlkD.pure ∧ A.le x.2.2.2.2 ∧ (∀ b ∈ x.2.2.2.1, BArc x.2.2.2.2 b) ∧ (x.1 = 0 → x.2.1 = none ∧ x.2.2.1 = 0))) (fun x => m.bl.n - x.1) (fun x => [(1, .pointer (some ⟨b1, 0, none⟩)), (2, .pointer (some ⟨b2, 0, none⟩)), (3, .slice x.2.1 x.1 x.2.2.1), (33, .slice m.bl.a m.bl.n m.bl.c), (34, .int .i64 (m.bl.n : Nat)), (35, .int .i64 (x.1 : Nat))]) (fun x => rowP 146 6 x.2.1 x.1 x.2.2.1 (x.2.2.2.1.flatMap BlkD.cells) :: At arcI () x.2.2.2.2 :: pt b1 (.cells ([.int .i64 m.kind, .int .i64 m.from_, .int .i64 m.to_, .int .i64 m.view, .int .i64 m.num, .int .i64 0, .int .i64 0, .slice none 0 0, .int .i64 0, .slice none 0 0, .slice none 0 0, .int .i64 0, .int .i64 0, .slice none 0 0, .int .i64 m.env.client, .int .u64 m.env.nonce, .int .u64 m.env.fee, .int .i64 m.env.cipher, .slice m.bl.a m.bl.n m.bl.c]).toArray 46) :: pt b2 (.cells ([.int .i64 0, .int .i64 0, .int .i64 0, .int .i64 0, .int .i64 0, .int .i64 0, .int .i64 0, .slice none 0 0, .int .i64 0, .slice none 0 0, .slice none 0 0, .int .i64 0, .int .i64 0, .slice none 0 0, .int .i64 0, .int .u64 0, .int .u64 0, .int .i64 0, .slice none 0 0]).toArray 46) :: F) ((0, none, 0, [], A)) (⟨Nat.zero_le _, rfl, rfl, Arc.le.rfl, fun b hb => (nomatch hb), fun _ => ⟨rfl, rfl⟩⟩) (.cons rfl (.cons rfl (.cons rfl (.cons rfl (.cons rfl (.cons rfl (.nil))))))) (by simp only [List.flatMap_nil]; exact (row_new 146 6 none).trans .fin) ?_
  intro ⟨i, oa, oc, D, A2⟩ hi ih
  obtain ⟨hi1, hi2, hi3, hi4, hi5, hi6⟩ := hi
  dsimp only at hi1 hi2 hi3 hi4 hi5 hi6 ih ⊢
  iterate 6 refine Ws ?_
  refine SC_cond rfl (fun hc36 => ?_) (fun hc36 => ?_)
  · have hin : i < m.bl.n := by have := of_decide_eq_true hc36; omega
    obtain ⟨b, hb⟩ : ∃ b, m.bl.l[i]? = some b := ⟨_, List.getElem?_eq_getElem (by rw [hM.n]; exact hin)⟩
    have hM2 : MArc A2 m := hM.le hi4
    have hbi : BArc A2 b := hM2.bs b (List.mem_of_getElem? hb)
    haveI : ArcRow A2 m.bl.a _ := ⟨hM2.b⟩
    haveI : ArcRow A2 b.by_.a _ := ⟨hbi.r1.row⟩
    haveI : ArcRow A2 b.envs.a _ := ⟨hbi.r2⟩
    iterate 6 refine Ws ?_
    refine SR_rd (RD_ixO (cs := m.bl.l.flatMap BlkD.cells) Tryz.runUnderlying44 Tryz.sizeOf146 rfl rfl (by rw [bl_len, hM.n]) (by omega) (by omega)) Has.ro rfl ?_
    refine SR_rd (RD_loadAO (vs := b.cells) (cs := m.bl.l.flatMap BlkD.cells) Tryz.isAgg146 Tryz.sizeOf146 rfl rfl (by decide) (fun o v h => by have ho : o < 6 := (List.getElem?_eq_some_iff.1 h).1; rw [show ((i : Nat) : Int).toNat * (5 + 1) + o = i * 6 + o by omega, bl_get hb o ho]; exact h)) Has.ro rfl ?_
    refine Wa fun b5 => ?_
    refine SR_ox0 (OX_stA (vs := b.cells) Tryz.sizeOf146 rfl rfl rfl rfl) ?_
    rintro _ _ rfl
    iterate 4 refine Ws ?_
    refine SR_rd (RD_loadA (vs := b.cells) Tryz.isAgg146 Tryz.sizeOf146 rfl rfl) Has.wh rfl ?_
    refine We (blok_Still b rfl rfl hbi.fit) ?_
    rintro _ L5 ⟨b', rfl, hbp, hbf, hL5⟩
    refine SR.lands hL5 ?_
    refine SR.lands (arc_push (a := b'.by_.a) (cs := b'.by_.l.map intV)) ?_
    refine SR.lands (arc_push (a := b'.envs.a) (cs := b'.envs.l.flatMap EnvD.cells)) ?_
    refine SR_ox (OX_lit Tryz.underlying44 Tryz.type146 rfl rfl rfl rfl (.cons rfl (.nil)) (.cons rfl rfl (.nil))) rfl ?_
    rintro _ _ ⟨b42, rfl, rfl⟩
    refine SR_ox (OX_app 6 Tryz.underlying44 Tryz.underlying44 Tryz.type146 rfl rfl rfl rfl rfl (by first | rfl | simp; done | (simp; omega)) 80 rfl (by omega) (by omega)) rfl ?_
    rintro _ _ ⟨a43, c43, rfl, rfl⟩
    iterate 8 refine Ws ?_
    refine SC_again (ih ((i + 1, a43, c43, D ++ [b'], ((A2.add b'.by_.a (b'.by_.l.map intV)).add b'.envs.a (b'.envs.l.flatMap EnvD.cells)))) (⟨by dsimp only; omega, by dsimp only; rw [List.length_append, hi2]; rfl, by dsimp only; rw [List.map_append, hi3, List.take_add_one, hb, List.map_append]; simp [hbp], hi4.trans (Arc.le_add.trans Arc.le_add), fun x hx => by
      rcases List.mem_append.1 hx with h | h
      · exact (hi5 x h).le (Arc.le_add.trans Arc.le_add)
      · simp at h; subst h; exact hbi.keep hbp hbf (HasRow.arcLe Arc.le_add HasRow.ofAdd) HasRow.ofAdd, fun h => by omega⟩) (by dsimp only; omega)) (by dsimp only; rw [List.flatMap_append, show [b'].flatMap BlkD.cells = b'.cells ++ [] from rfl]; exact .fin) (.cons rfl (.cons rfl (.cons rfl (.cons rfl (.cons rfl (.cons' rfl (ie (by dsimp only; omega)) (.nil)))))))
  · have hin : i = m.bl.n := by have := of_decide_eq_false hc36; omega
    subst hin
    rw [List.take_of_length_le (by rw [hM.n]; exact Nat.le_refl _)] at hi3
    iterate 11 refine Ws ?_
    refine SR_rd (RD_loadA (vs := [.int .i64 m.kind, .int .i64 m.from_, .int .i64 m.to_, .int .i64 m.view, .int .i64 m.num, .int .i64 0, .int .i64 0, .slice none 0 0, .int .i64 0, .slice none 0 0, .slice none 0 0, .int .i64 0, .int .i64 0, .slice none 0 0, .int .i64 m.env.client, .int .u64 m.env.nonce, .int .u64 m.env.fee, .int .i64 m.env.cipher, .slice oa m.bl.n oc]) Tryz.isAgg46 Tryz.sizeOf46 rfl rfl) Has.wh rfl ?_
    refine SR_ox0 (OX_stA (vs := [.int .i64 m.kind, .int .i64 m.from_, .int .i64 m.to_, .int .i64 m.view, .int .i64 m.num, .int .i64 0, .int .i64 0, .slice none 0 0, .int .i64 0, .slice none 0 0, .slice none 0 0, .int .i64 0, .int .i64 0, .slice none 0 0, .int .i64 m.env.client, .int .u64 m.env.nonce, .int .u64 m.env.fee, .int .i64 m.env.cipher, .slice oa m.bl.n oc]) Tryz.sizeOf46 rfl rfl rfl rfl) ?_
    rintro _ _ rfl
    iterate 2 refine Ws ?_
    refine SC_retC rfl Tryz.isAgg46 Tryz.sizeOf46 rfl rfl Has.wh ?_
    refine ⟨⟨oa, m.bl.n, oc, D⟩, A2.add oa (D.flatMap BlkD.cells), rfl, hi3, rfl, fun h0 => ?_, hi4.trans Arc.le_add, HasRow.ofAdd, fun b hb => (hi5 b hb).le Arc.le_add, hi2, (arc_push (a := oa) (cs := D.flatMap BlkD.cells)).trans .fin⟩
    have hD : D = [] := List.eq_nil_of_length_eq_zero (by omega)
    obtain ⟨g1, g2⟩ := hi6 h0
    subst hD; subst g1; subst g2
    rw [h0]
    rfl

end Go.Proofs.YtdhpjdhloaoepaaGreat

/- What is on its way: a message kept still, a net. -/
namespace Go.Proofs.YtdhpjdhloaoepaaGreat
open Go Go.Proofs
attribute [local irreducible] SC SN SR SQ SA SO
set_option maxRecDepth 100000
inductive PM
  | env (f t : Int) (e : EnvD)
  | blk (f t : Int) (b : Blk)
  | vote (f t v d : Int)
  | cert (f t : Int) (q : PQ)
  | ask (f t v : Int) (q : PQ)
  | tell (f t : Int) (l : List Blk)
  | share (f t c : Int)
def PM.to : PM → Int
  | .env _ t _ => t
  | .blk _ t _ => t
  | .vote _ t _ _ => t
  | .cert _ t _ => t
  | .ask _ t _ _ => t
  | .tell _ t _ => t
  | .share _ t _ => t
/-- A message of one to another. -/
def PM.ft (f t : Int) : PM → PM
  | .env _ _ e => .env f t e
  | .blk _ _ b => .blk f t b
  | .vote _ _ v d => .vote f t v d
  | .cert _ _ q => .cert f t q
  | .ask _ _ v q => .ask f t v q
  | .tell _ _ l => .tell f t l
  | .share _ _ c => .share f t c
/-- What a message tells. -/
inductive PIs : MsgD → PM → Prop
  | env (f t : Int) (e : EnvD) : PIs (mEnv f t e) (.env f t e)
  | blk (f t : Int) (b : BRow) (x : Blk) (h : b.n = 1) (hx : b.l.map BlkD.pure = [x]) : PIs (mBlk f t b) (.blk f t x)
  | vote (f t v d : Int) : PIs (mVote f t v d) (.vote f t v d)
  | cert (f t : Int) (q : QcD) : PIs (mCert f t q) (.cert f t q.p)
  | ask (f t v : Int) (q : QcD) : PIs (mAsk f t v q) (.ask f t v q.p)
  | tell (f t : Int) (b : BRow) (l : List Blk) (h : b.n ≤ 1000) (hl : b.l.map BlkD.pure = l) : PIs (mTell f t b) (.tell f t l)
  | share (f t c : Int) : PIs (mShare f t c) (.share f t c)
theorem PIs.plain {m : MsgD} {x : PM} (h : PIs m x) : Plain m := by
  cases h with
  | env f t e => exact .env f t e
  | blk f t b x h hx => exact .blk f t b h
  | vote f t v d => exact .vote f t v d
  | cert f t q => exact .cert f t q
  | ask f t v q => exact .ask f t v q
  | tell f t b l h hl => exact .tell f t b h
  | share f t c => exact .share f t c
theorem PIs.to {m : MsgD} {x : PM} (h : PIs m x) : m.to_ = x.to := by cases h <;> rfl
/-- A message, with what the archive holds of it. -/
def MIs (A : Arc) (m : MsgD) (x : PM) : Prop := PIs m x ∧ MArc A m
theorem MIs.le {A B : Arc} {m : MsgD} {x : PM} (g : A.le B) (h : MIs A m x) : MIs B m x := ⟨h.1, h.2.le g⟩
/-- Messages, one by one. -/
def Out (A : Arc) : List MsgD → List PM → Prop
  | [], [] => True
  | m :: l, x :: r => MIs A m x ∧ Out A l r
  | _, _ => False
theorem Out.le {A B : Arc} (g : A.le B) : ∀ {l : List MsgD} {r : List PM}, Out A l r → Out B l r
  | [], [], _ => trivial
  | _ :: _, _ :: _, h => ⟨h.1.le g, Out.le g h.2⟩
theorem Out.app {A : Arc} : ∀ {l l2 : List MsgD} {r r2 : List PM}, Out A l r → Out A l2 r2 → Out A (l ++ l2) (r ++ r2)
  | [], _, [], _, _, h => h
  | _ :: _, _, _ :: _, _, h, k => ⟨h.1, Out.app h.2 k⟩
theorem Out.len {A : Arc} : ∀ {l : List MsgD} {r : List PM}, Out A l r → l.length = r.length
  | [], [], _ => rfl
  | _ :: _, _ :: _, h => by rw [List.length_cons, List.length_cons, Out.len h.2]
theorem Out.at {A : Arc} {l : List MsgD} {r : List PM} {i : Nat} {m : MsgD} (h : Out A l r) (e : l[i]? = some m) : ∃ x, r[i]? = some x ∧ MIs A m x := by
  induction l generalizing r i with
  | nil => rw [List.getElem?_nil] at e; cases e
  | cons y l ih =>
    cases r with
    | nil => exact h.elim
    | cons x r =>
      cases i with
      | zero => rw [List.getElem?_cons_zero] at e; cases e; exact ⟨x, rfl, h.1⟩
      | succ i => rw [List.getElem?_cons_succ] at e ⊢; exact ih h.2 e
theorem Out.take {A : Arc} : ∀ {l : List MsgD} {r : List PM} (i : Nat), Out A l r → Out A (l.take i) (r.take i)
  | [], [], i, _ => by simp [Out]
  | _ :: _, _ :: _, 0, _ => trivial
  | _ :: _, _ :: _, i + 1, h => ⟨h.1, Out.take i h.2⟩
theorem MArc.bl {A A' : Arc} {m : MsgD} (hM : MArc A m) (g : A.le A') {bl : BRow} (hn : bl.n = m.bl.n) (hl : bl.l.length = bl.n) (hr : HasRow [At arcI () A'] bl.a (bl.l.flatMap BlkD.cells)) (hb : ∀ b ∈ bl.l, BArc A' b) : MArc A' ⟨m.kind, m.from_, m.to_, m.view, m.num, m.qc, m.tc, m.env, bl⟩ :=
  have h := hM.le g
  ⟨h.q, h.t, h.h, h.k, hr, hl, by show bl.n ≤ 20; rw [hn]; exact h.s, hb, h.head, h.q1, h.t1, h.k1, h.e⟩
theorem MArc.qc {A A' : Arc} {m : MsgD} (hM : MArc A m) (g : A.le A') {qa : Option Addr} {qc : Nat} (hr : HasRow [At arcI () A'] qa (m.qc.by_.l.map intV)) : MArc A' ⟨m.kind, m.from_, m.to_, m.view, m.num, ⟨m.qc.view, m.qc.block, ⟨qa, m.qc.by_.n, qc, m.qc.by_.l⟩⟩, m.tc, m.env, m.bl⟩ :=
  have h := hM.le g
  ⟨⟨hr, h.q.n, h.q.i, h.q.s⟩, h.t, h.h, h.k, h.b, h.n, h.s, h.bs, h.head, h.q1, h.t1, h.k1, h.e⟩
theorem still_zB {W : World} {F : List HProp} [Abs F] (m : MsgD) (A : Arc) (hM : MArc A m) (hq : m.qc = zQ) (ht : m.tc = zT) (hb : m.bl = zB) {x : PM} (hp : PIs m x) :
    CallsK W Tryz.prog 84 #[m.val] (At arcI () A :: F) (fun u L => ∃ m' A', u = m'.val ∧ A.le A' ∧ MIs A' m' x ∧ Lands L (At arcI () A' :: F)) :=
  CallsK.imp (still_B m A hM hq ht) fun u L ⟨bl, A', hu, h1, h2, h3, h4, h5, h6, h7, hL⟩ => by
    have hz : bl = zB := h3 (by rw [hb]; rfl)
    subst hz
    have e : (⟨m.kind, m.from_, m.to_, m.view, m.num, zQ, zT, m.env, zB⟩ : MsgD) = m := by cases m; simp_all
    rw [e] at hu
    exact ⟨m, A', hu, h4, ⟨hp, hM.le h4⟩, hL⟩
theorem still_bl {W : World} {F : List HProp} [Abs F] (m : MsgD) (A : Arc) (hM : MArc A m) (hq : m.qc = zQ) (ht : m.tc = zT) {x : PM} (hp : ∀ bl : BRow, bl.n = m.bl.n → bl.l.map BlkD.pure = m.bl.l.map BlkD.pure → PIs ⟨m.kind, m.from_, m.to_, m.view, m.num, zQ, zT, m.env, bl⟩ x) :
    CallsK W Tryz.prog 84 #[m.val] (At arcI () A :: F) (fun u L => ∃ m' A', u = m'.val ∧ A.le A' ∧ MIs A' m' x ∧ Lands L (At arcI () A' :: F)) :=
  CallsK.imp (still_B m A hM hq ht) fun u L ⟨bl, A', hu, h1, h2, h3, h4, h5, h6, h7, hL⟩ => by
    have hm := hM.bl h4 h2 h7 h5 h6
    rw [hq, ht] at hm
    exact ⟨_, A', hu, h4, ⟨hp bl h2 h1, hm⟩, hL⟩
theorem still_qc {W : World} {F : List HProp} [Abs F] (m : MsgD) (A : Arc) (hM : MArc A m) (ht : m.tc = zT) (hb : m.bl = zB) {x : PM} (hp : ∀ q : QcD, q.p = m.qc.p → PIs ⟨m.kind, m.from_, m.to_, m.view, m.num, q, zT, m.env, zB⟩ x) :
    CallsK W Tryz.prog 84 #[m.val] (At arcI () A :: F) (fun u L => ∃ m' A', u = m'.val ∧ A.le A' ∧ MIs A' m' x ∧ Lands L (At arcI () A' :: F)) :=
  CallsK.imp (still_Q (F := At arcI () A :: F) m (RArc.in hM.q) ht hb) fun u L ⟨qa, qc, hu, hL⟩ => by
    have hm := hM.qc (A' := A.add qa (m.qc.by_.l.map intV)) (qa := qa) (qc := qc) Arc.le_add HasRow.ofAdd
    rw [ht, hb] at hm
    refine ⟨_, A.add qa (m.qc.by_.l.map intV), hu, Arc.le_add, ⟨hp _ rfl, hm⟩, ?_⟩
    refine hL.trans ?_
    exact (arc_push (a := qa) (cs := m.qc.by_.l.map intV)).trans .fin
/-- A message is kept still. -/
theorem mess_Still {W : World} {F : List HProp} [Abs F] (m : MsgD) (x : PM) (A : Arc) (h : MIs A m x) :
    CallsK W Tryz.prog 84 #[m.val] (At arcI () A :: F) (fun u L => ∃ m' A', u = m'.val ∧ A.le A' ∧ MIs A' m' x ∧ Lands L (At arcI () A' :: F)) := by
  obtain ⟨hp, hM⟩ := h
  cases hp with
  | env f t e => exact still_zB _ A hM rfl rfl rfl (.env f t e)
  | blk f t b x h hx => exact still_bl _ A hM rfl rfl fun bl hn he => .blk f t bl x (hn.trans h) (he.trans hx)
  | vote f t v d => exact still_zB _ A hM rfl rfl rfl (.vote f t v d)
  | cert f t q => exact still_qc _ A hM rfl rfl fun q' e => by have h := PIs.cert f t q'; rw [e] at h; exact h
  | ask f t v q => exact still_qc _ A hM rfl rfl fun q' e => by have h := PIs.ask f t v q'; rw [e] at h; exact h
  | tell f t b l h hl => exact still_bl _ A hM rfl rfl fun bl hn he => .tell f t bl l (by rw [hn]; exact h) (he.trans hl)
  | share f t c => exact still_zB _ A hM rfl rfl rfl (.share f t c)

def netI (p : Nat) (l : List MsgD) : HProp := fun h => ∃ (a : Option Addr) (c : Nat), Den [pt p (.cells [.slice a l.length c].toArray 118), rowP 46 19 a l.length c (l.flatMap MsgD.cells)] h
theorem open_net {p : Nat} {l : List MsgD} : Opens netI p l (fun x : (Option Addr) × (Nat) => True) (fun x R => (pt p (.cells [.slice x.1 l.length x.2].toArray 118)) :: (rowP 46 19 x.1 l.length x.2 (l.flatMap MsgD.cells)) :: R) := by
  rintro R m_ ⟨m1, m2, d, e, ⟨a, c, h_⟩, r⟩
  exact ⟨(a, c), trivial, Den_app d e h_ r⟩
theorem close_net {L R R1_ : List HProp} (p : Nat) (l : List MsgD) {a : Option Addr} {c : Nat} {y1_ : Nat} {y2_ : Nat} {y3_ : List Value} [t0_ : TakePt L p (.cells [.slice a y1_ c].toArray 118) R1_] [t1_ : TakeRow R1_ a 46 19 y2_ c y3_ R]  (e0_ : l.length = y1_ := by rfl) (e1_ : l.length = y2_ := by rfl) (e2_ : l.flatMap MsgD.cells = y3_ := by rfl) : Lands L (At netI p l :: R) := fun q_ H_ => by
  subst e0_; subst e1_; subst e2_;
  obtain ⟨a0_, b0_, d0_, i0_, p0_, r0_⟩ := Den_perm t0_.perm q_ H_
  obtain ⟨a1_, b1_, d1_, i1_, p1_, r1_⟩ := Den_perm t1_.perm b0_ r0_
  have H2_ : Den ([pt p (.cells [.slice a l.length c].toArray 118), rowP 46 19 a l.length c (l.flatMap MsgD.cells)] ++ R) q_ := ⟨a0_, b0_, d0_, i0_, p0_, ⟨a1_, b1_, d1_, i1_, p1_, r1_⟩⟩
  exact Lands.wrap (A := At netI p l) (fun z_ hz_ => ⟨a, c, hz_⟩) q_ H2_
theorem net_New {W : World} {F : List HProp} [Abs F] :
    CallsK W Tryz.prog 26 #[] (F) (fun u L => ∃ p, u = .pointer (some ⟨p, 0, none⟩) ∧ Lands L (At netI p [] :: F)) := by
  refine CallsK_enter (n := 3) Tryz.func26 rfl rfl rfl ?_
  iterate 7 refine Ws ?_
  refine SR_pu (RD_build (.nil) built118) rfl ?_
  refine Wb fun b2 => ?_
  iterate 3 refine Ws ?_
  refine SC_ret1 rfl rfl ?_
  exact ⟨b2, rfl, (row_new 46 19 none).trans ((close_net b2 []).trans .fin)⟩

theorem net_Len {W : World} {F : List HProp} [Abs F] (p : Nat) (l : List MsgD) :
    CallsK W Tryz.prog 36 #[.pointer (some ⟨p, 0, none⟩)] (At netI p l :: F) (fun u L => u = .int .i64 (l.length : Nat) ∧ Lands L (At netI p l :: F)) := by
  refine CallsK_enter (n := 8) Tryz.func36 rfl rfl rfl ?_
  iterate 6 refine Ws ?_
  refine SC.opn (open_net (p := p)) fun ⟨a, c⟩ _ => ?_
  dsimp only
  iterate 9 refine Ws ?_
  refine SC_ret1 rfl rfl ?_
  exact ⟨rfl, (close_net p l).trans .fin⟩

end Go.Proofs.YtdhpjdhloaoepaaGreat

/- A net: what is sent, and taken. -/
namespace Go.Proofs.YtdhpjdhloaoepaaGreat
open Go Go.Proofs
attribute [local irreducible] SC SN SR SQ SA SO
set_option maxRecDepth 100000
theorem ms_len (l : List MsgD) : (l.flatMap MsgD.cells).length = l.length * 19 := by
  induction l with
  | nil => rfl
  | cons x l ih => rw [List.flatMap_cons, List.length_append, ih, List.length_cons, show x.cells.length = 19 from rfl]; omega
theorem ms_get {l : List MsgD} {i : Nat} {e : MsgD} (h : l[i]? = some e) (o : Nat) (ho : o < 19) : (l.flatMap MsgD.cells)[i * 19 + o]? = e.cells[o]? := by
  induction l generalizing i with
  | nil => simp at h
  | cons x l ih =>
    cases i with
    | zero => simp at h; subst h; rw [List.flatMap_cons, Nat.zero_mul, Nat.zero_add, List.getElem?_append_left (by show o < 19; exact ho)]
    | succ i =>
      rw [List.flatMap_cons, List.getElem?_append_right (by show 19 ≤ _; omega), show x.cells.length = 19 from rfl, show (i + 1) * 19 + o - 19 = i * 19 + o by omega]
      exact ih (by simpa using h)
theorem ms_Delete' {W : World} {F : List HProp} [Abs F] (l : List MsgD) (a : Option Addr) (n c i : Nat) {cs : List Value} (hcs : cs = l.flatMap MsgD.cells) (hn : l.length = n) (hb : n ≤ 1000000000) (hi : i < n) (v w : Int) (hv : v = (i : Nat)) (hw : w = (i : Nat) + 1) :
    CallsK W Tryz.prog 116 #[.slice a n c, .int .i64 v, .int .i64 w] (rowP 46 19 a n c cs :: F) (fun u L => u = .slice a (n - 1) c ∧ Lands L (rowP 46 19 a (n - 1) c ((l.eraseIdx i).flatMap MsgD.cells) :: F)) := by
  subst hv; subst hw
  exact ms_Delete l a n c i hcs hn hb hi

theorem net_Send {W : World} {F : List HProp} [Abs F] (p : Nat) (l : List MsgD) (A : Arc) (sa : Option Addr) (n sc : Nat) (od : List MsgD) (xs : List PM) {cs : List Value} [HasRow F sa cs] (hcs : cs = od.flatMap MsgD.cells) (hn : od.length = n) (hb : n ≤ 100000) (ho : Out A od xs) (hl : l.length ≤ 1000000) :
    CallsK W Tryz.prog 59 #[.pointer (some ⟨p, 0, none⟩), .slice sa n sc] (At netI p l :: At arcI () A :: F) (fun u L => ∃ l2 A', A.le A' ∧ Out A' l2 xs ∧ Lands L (At netI p (l ++ l2) :: At arcI () A' :: F)) := by
  refine CallsK_enter (n := 24) Tryz.func59 rfl rfl rfl ?_
  subst hcs
  refine Ws ?_
  refine SC.opn (open_net (p := p)) fun ⟨a, c⟩ _ => ?_
  dsimp only
  iterate 7 refine Ws ?_
  refine SC_ind (X := Nat × Option Addr × Nat × List MsgD × Arc) (fun x => (x.1 ≤ n ∧ x.2.2.2.1.length = x.1 ∧ A.le x.2.2.2.2 ∧ Out x.2.2.2.2 x.2.2.2.1 (xs.take x.1))) (fun x => n - x.1) (fun x => [(0, .pointer (some ⟨p, 0, none⟩)), (6, .slice sa n sc), (7, .int .i64 (n : Nat)), (8, .int .i64 (x.1 : Nat))]) (fun x => pt p (.cells [.slice x.2.1 ((l ++ x.2.2.2.1).length) x.2.2.1].toArray 118) :: rowP 46 19 x.2.1 (l ++ x.2.2.2.1).length x.2.2.1 ((l ++ x.2.2.2.1).flatMap MsgD.cells) :: At arcI () x.2.2.2.2 :: F) ((0, a, c, [], A)) (⟨Nat.zero_le _, rfl, Arc.le.rfl, by rw [List.take_zero]; trivial⟩) (.cons rfl (.cons rfl (.cons rfl (.cons rfl (.nil))))) (by rw [List.append_nil]; exact .fin) ?_
  intro ⟨i, a2, c2, D, A2⟩ hi ih
  obtain ⟨hi1, hi2, hi3, hi4⟩ := hi
  dsimp only at hi1 hi2 hi3 hi4 ih ⊢
  iterate 6 refine Ws ?_
  refine SC_cond rfl (fun hc9 => ?_) (fun hc9 => ?_)
  · have hin : i < n := by have := of_decide_eq_true hc9; omega
    obtain ⟨m, hm⟩ : ∃ m, od[i]? = some m := ⟨_, List.getElem?_eq_getElem (by omega)⟩
    obtain ⟨y, hy, hmy⟩ := ho.at hm
    have hmy2 := hmy.le hi3
    have hll : (l ++ D).length = l.length + D.length := List.length_append
    iterate 6 refine Ws ?_
    refine SR_rd (RD_ixO (cs := od.flatMap MsgD.cells) Tryz.runUnderlying76 Tryz.sizeOf46 rfl rfl (by rw [ms_len, hn]) (by omega) (by omega)) Has.ro rfl ?_
    refine SR_rd (RD_loadAO (vs := m.cells) (cs := od.flatMap MsgD.cells) Tryz.isAgg46 Tryz.sizeOf46 rfl rfl (by decide) (fun o v h => by have ho : o < 19 := (List.getElem?_eq_some_iff.1 h).1; rw [show ((i : Nat) : Int).toNat * (18 + 1) + o = i * 19 + o by omega, ms_get hm o ho]; exact h)) Has.ro rfl ?_
    refine Wa fun b5 => ?_
    refine SR_ox0 (OX_stA (vs := m.cells) Tryz.sizeOf46 rfl rfl rfl rfl) ?_
    rintro _ _ rfl
    iterate 2 refine Ws ?_
    refine Wd [.r 0, .r 1, .r 2, .r 3, .r 4, .r 5, .e 6, .e 7, .e 8, .r 9, .r 10, .e 11] ?_
    iterate 5 refine Wq ?_
    refine SQ_rd rfl (RD_loadA (vs := m.cells) Tryz.isAgg46 Tryz.sizeOf46 rfl rfl) Has.wh rfl ?_
    refine SQ_call rfl Tryz.call84 (.cons rfl (.nil)) (CallsK.at (mess_Still m y A2 hmy2)) (lts rfl) ?_
    rintro _ L1 ⟨m', A3, rfl, g3, hm3, hL1⟩
    refine ⟨.lands hL1 (.w rfl (.h (Has.ce rfl) (.nil))), ?_⟩
    refine SQ.lands hL1 ?_
    refine SQ_ox rfl (OX_lit Tryz.underlying76 Tryz.type46 rfl rfl rfl rfl (.cons rfl (.nil)) (.cons rfl rfl (.nil))) rfl ?_
    rintro _ _ ⟨b19, rfl, rfl⟩
    refine ⟨.h Has.wh (.h (Has.ce rfl) (.nil)), ?_⟩
    refine SQ_ox rfl (OX_app 19 Tryz.underlying76 Tryz.underlying76 Tryz.type46 rfl rfl rfl rfl rfl (by first | rfl | simp; done | (simp; omega)) 232 rfl (by omega) (by omega)) rfl ?_
    rintro _ _ ⟨a20, c20, rfl, rfl⟩
    refine ⟨.h Has.wh (.w rfl (.nil)), ?_⟩
    iterate 2 refine Wq ?_
    refine SQ_ox0 rfl (OX_st Tryz.sizeOf76 rfl rfl) ?_
    rintro _ _ rfl
    refine ⟨.w rfl (.w rfl (.nil)), ?_⟩
    iterate 7 refine Ws ?_
    refine SC_again (ih ((i + 1, a20, c20, D ++ [m'], A3)) (⟨by dsimp only; omega, by dsimp only; rw [List.length_append, hi2]; rfl, hi3.trans g3, by dsimp only; rw [List.take_add_one, hy]; exact (hi4.le g3).app ⟨hm3, trivial⟩⟩) (by dsimp only; omega)) (by dsimp only; rw [show (l ++ (D ++ [m'])).length = (l ++ D).length + 1 by simp; omega, show (l ++ (D ++ [m'])).flatMap MsgD.cells = (l ++ D).flatMap MsgD.cells ++ (m'.cells ++ []) by simp]; exact .fin) (.cons rfl (.cons rfl (.cons rfl (.cons' rfl (ie (by dsimp only; omega)) (.nil)))))
  · have hin : i = n := by have := of_decide_eq_false hc9; omega
    subst hin
    rw [List.take_of_length_le (by rw [← ho.len]; omega)] at hi4
    refine Ws ?_
    refine SN_stop0 rfl ?_
    exact ⟨D, A2, hi3, hi4, (close_net p (l ++ D)).trans .fin⟩

theorem net_At0 {W : World} {F : List HProp} [Abs F] (p : Nat) (m : MsgD) (l : List MsgD) (A : Arc) (x : PM) (hM : MIs A m x) (hb : l.length ≤ 100000) :
    CallsK W Tryz.prog 91 #[.pointer (some ⟨p, 0, none⟩), .int .i64 0] (At netI p (m :: l) :: At arcI () A :: F) (fun u L => ∃ m' A', u = .tuple #[m'.val, .bool true] ∧ A.le A' ∧ MIs A' m' x ∧ Lands L (At netI p (m :: l) :: At arcI () A' :: F)) := by
  refine CallsK_enter (n := 26) Tryz.func91 rfl rfl rfl ?_
  iterate 2 refine Ws ?_
  refine Wa fun b4 => ?_
  iterate 5 refine Ws ?_
  refine SC.opn (open_net (p := p)) fun ⟨a, c⟩ _ => ?_
  dsimp only
  iterate 4 refine Ws ?_
  refine SR_yes rfl rfl (rfl) ?_
  refine Ws ?_
  refine SR_yes rfl rfl (rfl) ?_
  refine Ws ?_
  refine SR_yes rfl rfl (rfl) ?_
  refine Ws ?_
  refine SR_yes rfl rfl (rfl) ?_
  refine Ws ?_
  refine SR_yes rfl rfl (rfl) ?_
  refine Ws ?_
  refine SR_yes rfl rfl (rfl) ?_
  refine Ws ?_
  refine SR_yes rfl rfl (rfl) ?_
  refine Ws ?_
  refine SR_pu (RD_pick_f rfl (rfl) rfl) rfl ?_
  iterate 2 refine Ws ?_
  refine SC_cond_false rfl (by simp) ?_
  iterate 9 refine Ws ?_
  refine SR_rd (RD_ixO (cs := (m :: l).flatMap MsgD.cells) Tryz.runUnderlying76 Tryz.sizeOf46 rfl rfl (ms_len _) (by omega) (by simp)) Has.ro rfl ?_
  refine SR_rd (RD_loadAO (vs := m.cells) (cs := (m :: l).flatMap MsgD.cells) Tryz.isAgg46 Tryz.sizeOf46 rfl rfl (by decide) (fun o v h => by have ho : o < 19 := (List.getElem?_eq_some_iff.1 h).1; rw [show (0 : Int).toNat * (18 + 1) + o = 0 * 19 + o by rfl, ms_get (l := m :: l) rfl o ho]; exact h)) Has.ro rfl ?_
  refine We (CallsK.at (mess_Still m x A hM)) ?_
  rintro _ L1 ⟨m', A3, rfl, g3, hm3, hL1⟩
  refine SR.lands hL1 ?_
  refine SR_ox0 (OX_stA (vs := m'.cells) Tryz.sizeOf46 rfl rfl rfl rfl) ?_
  rintro _ _ rfl
  iterate 3 refine Ws ?_
  refine SC_retCT rfl Tryz.isAgg46 Tryz.sizeOf46 rfl rfl rfl Has.wh ?_
  exact ⟨m', A3, rfl, g3, hm3, (close_net p (m :: l)).trans .fin⟩

theorem net_Take0 {W : World} {F : List HProp} [Abs F] (p : Nat) (m : MsgD) (l : List MsgD) (A : Arc) (x : PM) (hM : MIs A m x) (hb : l.length ≤ 100000) :
    CallsK W Tryz.prog 89 #[.pointer (some ⟨p, 0, none⟩), .int .i64 0] (At netI p (m :: l) :: At arcI () A :: F) (fun u L => ∃ m' A', u = .tuple #[m'.val, .bool true] ∧ A.le A' ∧ MIs A' m' x ∧ Lands L (At netI p l :: At arcI () A' :: F)) := by
  refine CallsK_enter (n := 28) Tryz.func89 rfl rfl rfl ?_
  iterate 2 refine Ws ?_
  refine Wa fun b4 => ?_
  iterate 7 refine Ws ?_
  refine We (CallsK.at2 (net_At0 p m l A x hM hb)) ?_
  rintro _ L1 ⟨m', A3, rfl, g3, hm3, hL1⟩
  refine SR.lands hL1 ?_
  iterate 3 refine Ws ?_
  refine Wa fun b6 => ?_
  refine SR_ox0 (OX_stA (vs := m'.cells) Tryz.sizeOf46 rfl rfl rfl rfl) ?_
  rintro _ _ rfl
  iterate 9 refine Ws ?_
  refine SC_cond_true rfl (rfl) ?_
  refine SC.opn (open_net (p := p)) fun ⟨a, c⟩ _ => ?_
  dsimp only
  iterate 9 refine Ws ?_
  refine Wc (CallsK.atRow (ms_Delete' (m :: l) a (m :: l).length c 0 rfl rfl (by rw [List.length_cons]; omega) (by simp) _ _ rfl rfl)) ?_
  iterate 7 refine Ws ?_
  refine SR_rd (RD_loadA (vs := m'.cells) Tryz.isAgg46 Tryz.sizeOf46 rfl rfl) Has.wh rfl ?_
  refine Ws ?_
  refine SR_ox0 (OX_stA (vs := m'.cells) Tryz.sizeOf46 rfl rfl rfl rfl) ?_
  rintro _ _ rfl
  iterate 3 refine Ws ?_
  refine SC_retCT rfl Tryz.isAgg46 Tryz.sizeOf46 rfl rfl rfl Has.wh ?_
  exact ⟨m', A3, rfl, g3, hm3, (close_net p l (e0_ := by simp) (e1_ := by simp)).trans .fin⟩

end Go.Proofs.YtdhpjdhloaoepaaGreat

/- A view and its clock. -/
namespace Go.Proofs.YtdhpjdhloaoepaaGreat
open Go Go.Proofs
set_option maxRecDepth 100000
structure PS where
  base : Int
  most : Int
  view : Int
  long : Int
  clock : Int
  ticks : Int
@[reducible] def PS.cells (s : PS) : List Value := [.int .i64 s.base, .int .i64 s.most, .int .i64 s.view, .int .i64 s.long, .int .i64 s.clock, .int .i64 s.ticks]
def paceI (p : Nat) (s : PS) : HProp := pt p (.cells s.cells.toArray 172)
instance {p : Nat} {s : PS} {R : List HProp} : TakePt (At paceI p s :: R) p (.cells s.cells.toArray 172) R := ⟨.refl _⟩
instance {p : Nat} {s : PS} {L R : List HProp} {cs : List Value} [t : TakePt L p (.cells cs.toArray 172) R] [e : CEq cs s.cells] : TakeA L (At paceI p s) R := ⟨t.A e⟩
attribute [local irreducible] SC SN SR SQ SA SO
def PS.enter (s : PS) (v : Int) (slow : Bool) : Bool × PS := if v ≤ s.view then (false, s) else (true, ⟨s.base, s.most, v, if slow then (if s.most < IntKind.i64.wrap (2 * s.long) then s.most else IntKind.i64.wrap (2 * s.long)) else s.base, 0, s.ticks⟩)
theorem pace_Enter {W : World} {F : List HProp} [Abs F] (p : Nat) (s : PS) (v : Int) (slow : Bool) :
    CallsK W Tryz.prog 223 #[.pointer (some ⟨p, 0, none⟩), .int .i64 v, .bool slow] (At paceI p s :: F) (fun u L => u = .bool (s.enter v slow).1 ∧ Lands L (At paceI p (s.enter v slow).2 :: F)) := by
  refine CallsK_enter (n := 41) Tryz.func223 rfl rfl rfl (Wg ?_)
  refine SC_cond rfl (fun h => Wg ?_) (fun h => Wg ?_)
  · refine SC_ret1 rfl rfl ?_
    simp only [PS.enter, if_pos (of_decide_eq_true h)]
    exact ⟨rfl, .fin⟩
  · have h1 : ∀ X Y : Bool × PS, (if v ≤ s.view then X else Y) = Y := fun X Y => if_neg (of_decide_eq_false h)
    refine SC_cond rfl (fun h2 => ?_) (fun h2 => ?_)
    · refine Wd [.r 0, .r 1, .r 2, .r 3, .r 4, .r 5, .r 6, .r 7, .r 8, .r 9, .r 10, .r 11, .r 12, .e 13] (Wh ?_)
      refine see rfl (Q_mul rfl rfl rfl ?_)
      refine Wh ?_
      refine Wqs ?_
      refine Wg ?_
      refine SC_ret1 rfl rfl ?_
      simp only [PS.enter, h1, h2, if_true]
      exact ⟨rfl, .fin⟩
    · refine Wg ?_
      refine SC_ret1 rfl rfl ?_
      simp only [PS.enter, h1, h2, Bool.false_eq_true, if_false]
      exact ⟨rfl, .fin⟩
def PS.tick (s : PS) : (Bool × Bool) × PS :=
  let c := IntKind.i64.wrap (s.clock + 1); let t := (s.ticks + 1) % s.base; let o := decide (c = s.long)
  ((o, decide (t = 0)), ⟨s.base, s.most, s.view, s.long, if o then 0 else c, t⟩)
theorem pace_Tick {W : World} {F : List HProp} [Abs F] (p : Nat) (s : PS) (h0 : 0 < s.base ∧ s.base ≤ 1000) (h1 : 0 ≤ s.ticks ∧ s.ticks < s.base) :
    CallsK W Tryz.prog 120 #[.pointer (some ⟨p, 0, none⟩)] (At paceI p s :: F) (fun u L => u = .tuple #[.bool s.tick.1.1, .bool s.tick.1.2] ∧ Lands L (At paceI p s.tick.2 :: F)) := by
  refine CallsK_enter (n := 43) Tryz.func120 rfl rfl rfl (Wg ?_)
  refine R_add rfl rfl rfl (Wg ?_)
  refine Wd [.r 0, .r 1, .r 2, .r 3, .r 4, .r 5, .r 6, .r 7, .r 8, .r 9, .r 10, .r 11, .r 12, .e 13] (Wh ?_)
  refine Wq ?_
  refine Wh ?_
  refine Wq ?_
  refine Wh ?_
  refine Wqs ?_
  refine Wg ?_
  refine Wd [.r 0, .r 1, .r 2, .r 3, .r 4, .r 5, .r 6, .r 7, .r 8, .r 9] (Wh ?_)
  refine Wg ?_
  refine SC_cond rfl (fun h => Wg ?_) (fun h => Wg ?_)
  · refine Wd [.r 0, .r 1, .r 2, .r 3, .r 4, .r 5, .r 6, .r 7] (Wh ?_)
    refine Wg ?_
    refine SC_ret2 rfl rfl rfl ?_
    simp only [PS.tick, h, if_true]
    exact ⟨rfl, .fin⟩
  · refine Wd [.r 0, .r 1, .r 2, .r 3, .r 4, .r 5, .r 6, .r 7] (Wh ?_)
    refine Wg ?_
    refine SC_ret2 rfl rfl rfl ?_
    simp only [PS.tick, h, Bool.false_eq_true, if_false]
    exact ⟨rfl, .fin⟩
theorem pace_View {W : World} {F : List HProp} [Abs F] (p : Nat) (s : PS) :
    CallsK W Tryz.prog 101 #[.pointer (some ⟨p, 0, none⟩)] (At paceI p s :: F) (fun u L => u = .int .i64 s.view ∧ Lands L (At paceI p s :: F)) := by
  refine CallsK_enter (n := 7) Tryz.func101 rfl rfl rfl (Wg ?_)
  exact SC_ret1 rfl rfl ⟨rfl, .fin⟩
end Go.Proofs.YtdhpjdhloaoepaaGreat

/- What is fixed: what the document fixes; envelopes with those of more. -/
namespace Go.Proofs.YtdhpjdhloaoepaaGreat
open Go Go.Proofs
attribute [local irreducible] SC SN SR SQ SA SO
set_option maxRecDepth 100000
theorem CallsK.at3 {κ σ κ' σ' κ'' σ'' : Type} {W : World} {P : Program} {f : FuncId} {args : Array Value} {L R1 R2 R : List HProp} {KK : Value → List HProp → Prop} {I : κ → σ → HProp} {key : κ} {s : σ} {J : κ' → σ' → HProp} {key' : κ'} {s' : σ'} {M : κ'' → σ'' → HProp} {key'' : κ''} {s'' : σ''} [t : TakeAt L I key s R1] [u : TakeAt R1 J key' s' R2] [v : TakeAt R2 M key'' s'' R] (g : CallsK W P f args (At I key s :: At J key' s' :: At M key'' s'' :: R) KK) : CallsK W P f args L KK :=
  g.pre fun m H => Den_tail (fun m2 h2 => Den_tail (fun m3 h3 => Den_perm v.perm m3 h3) (Den_perm u.perm m2 h2)) (Den_perm t.perm m H)
theorem clog_Commit_yes' {W : World} {F : List HProp} [Abs F] (p t : Nat) (s : LS) (ht : s.t = t) (st : TS) (k : WK) (z : WS) (hw : s.w = k.p) (hst : st.Ok) (d : Int) (hd : ∃ b, mget st.T d = some b) (hp : ∃ b, mget st.T s.tip = some b) (hvd : (viewOf (mget st.T d)).toNat ≤ 1000) (hvp : (viewOf (mget st.T s.tip)).toNat ≤ 1000) (hA : ∀ x b, mget st.T x = some b → ∀ e ∈ b.envs, envB e ∈ z.l) (hl : s.l.length ≤ 1000000) (hz : z.l.length ≤ 900000000) (r : Bool) (s' : LS) (hr : s.commit z.l st d = (r, s')) :
    CallsK W Tryz.prog 220 #[.pointer (some ⟨p, 0, none⟩), .int .i64 d] (At logI p s :: At treeI t st :: At worldI k z :: F) (fun v L => v = .bool r ∧ Lands L (At logI p s' :: At treeI t st :: At worldI k z :: F)) := by
  subst ht
  have h := clog_Commit_yes (W := W) (F := F) p s st k z hw hst d hd hp hvd hvp hA hl hz
  rw [hr] at h; exact h
def wX : EnvD := ⟨0, 0, 1, 1⟩
def wY : EnvD := ⟨1, 0, 1, 2⟩
def wl3 : List (List UInt8) := [rootB, envB wX, envB wY]
def wA : Blk := ⟨1, 0, 0, 1, [], [wX]⟩
def wB : Blk := ⟨2, 0, 1, 4, [], [wX, wY]⟩
def wC : Blk := ⟨3, 0, 1, 4, [], []⟩
def wl4 : List (List UInt8) := blkL wl3 wA
def wl5 : List (List UInt8) := blkL wl4 wB
def wl6 : List (List UInt8) := blkL wl5 wC
def vS3 (w : Nat) : TS := ⟨w, 1, [(1, zBlk), (4, wA), (5, wB), (6, wC)]⟩
theorem wnum : dnum wl6 (envB wX) = 2 ∧ dnum wl6 (envB wY) = 3 ∧ dput wl6 (envB wY) = wl6 ∧ dput wl3 rootB = wl3 ∧ dnum wl3 rootB = 1 ∧ dput wl6 rootB = wl6 ∧ dnum wl6 rootB = 1 ∧ envB wX ∈ wl6 ∧ envB wY ∈ wl6 := by decide +kernel
def wg0 (w t : Nat) : LS := ⟨w, t, 1, [], []⟩
def wg1 (w t : Nat) : LS := ⟨w, t, 5, [wX, wY], [2, 3]⟩
theorem wW1 (w : Nat) : (vS3 w).way 5 1 = none ∧ (vS3 w).way 1 5 = some [4, 5] ∧ (vS3 w).way 4 5 = some [5] ∧ (vS3 w).way 6 5 = none ∧ (vS3 w).way 5 6 = none := by simp [TS.way, wayF, vS3, mget, viewOf, wA, wB, wC]
theorem wc1 (w t u : Nat) : (wg0 w t).commit wl6 (vS3 u) 5 = (true, wg1 w t) := by
  obtain ⟨h1, h2, h3, h4, h5⟩ := wW1 u
  obtain ⟨n1, n2, _⟩ := wnum
  unfold LS.commit
  rw [show (wg0 w t).tip = 1 from rfl, h1, h2]
  simp [LS.goB, LS.step, LS.takeB, LS.take1, vS3, mget, wA, wB, n1, n2, wg0, wg1]
theorem wc2 (w t u : Nat) : (wg1 w t).commit wl6 (vS3 u) 4 = (true, wg1 w t) := by
  obtain ⟨h1, h2, h3, h4, h5⟩ := wW1 u
  unfold LS.commit
  rw [show (wg1 w t).tip = 5 from rfl, h3]; rfl
end Go.Proofs.YtdhpjdhloaoepaaGreat

/- What is laid ahead; a new clock. -/
namespace Go.Proofs.YtdhpjdhloaoepaaGreat
open Go Go.Proofs
attribute [local irreducible] SC SN SR SQ SA SO
set_option maxRecDepth 100000
def PS.new (ba mo : Int) : PS := ⟨ba, mo, 1, ba, 0, 0⟩

theorem pace_New {W : World} {F : List HProp} [Abs F] (c : CfgD) (h1 : 1 ≤ c.ba ∧ c.ba ≤ 1000) (h2 : c.ba ≤ c.mo ∧ c.mo ≤ 1000) :
    CallsK W Tryz.prog 56 #[c.val] (F) (fun u L => ∃ p, u = .pointer (some ⟨p, 0, none⟩) ∧ Lands L (At paceI p (PS.new c.ba c.mo) :: F)) := by
  refine CallsK_enter (n := 17) Tryz.func56 rfl rfl rfl ?_
  have e1 : (if (1000 : Int) < (if (1 : Int) > c.ba then 1 else c.ba) then 1000 else if (1 : Int) > c.ba then 1 else c.ba) = c.ba := by (repeat split) <;> omega
  have e2 : (if (1000 : Int) < (if c.ba > c.mo then c.ba else c.mo) then 1000 else if c.ba > c.mo then c.ba else c.mo) = c.mo := by (repeat split) <;> omega
  iterate 2 refine Ws ?_
  refine Wb fun b1 => ?_
  iterate 13 refine Ws ?_
  rw [e1]
  iterate 8 refine Ws ?_
  refine SR_pu (RD_build (.cons rfl (.cons rfl (.cons rfl (.cons rfl (.nil))))) built172_0_1_2_3) rfl ?_
  refine Wb fun b16 => ?_
  iterate 3 refine Ws ?_
  refine SC_ret1 rfl rfl ?_
  rw [e2]
  refine ⟨_, rfl, ?_⟩
  show Lands _ (At paceI _ ⟨c.ba, c.mo, 1, c.ba, 0, 0⟩ :: F)
  exact .fin

/-- What stands ahead of the tip and is not fixed. -/
def skipE (st : TS) (tip : Int) : Nat → Int → Option (List EnvD)
  | 0, _ => none
  | n + 1, h => if (mget st.T h).isSome = true ∧ h ≠ tip ∧ h ≠ st.root then (skipE st tip n (parOf st h)).map (((mget st.T h).getD zBlk).envs ++ ·) else some []
def numsL (l : List (List UInt8)) (E : List EnvD) : List Int := E.map fun e => (dnum l (envB e) : Int)

theorem prop_Skip {W : World} {F : List HProp} [Abs F] (k : WK) (z : WS) (t : Nat) (st : TS) (lp : Nat) (ls : LS) (h : Int) (m : Nat) (E : List EnvD) (hE : skipE st ls.tip m h = some E) (hb : E.length ≤ 12) (hok : ∀ e ∈ E, e.Ok) (hm : ∀ e ∈ E, envB e ∈ z.l) (ha : apartI (sortI (numsL z.l E))) (hz : z.l.length ≤ 1000000000) :
    CallsK W Tryz.prog 113 #[.pointer (some ⟨k.p, 0, none⟩), .pointer (some ⟨t, 0, none⟩), .pointer (some ⟨lp, 0, none⟩), .int .i64 h] (At worldI k z :: At treeI t st :: At logI lp ls :: F) (fun u L => ∃ a c, u = .slice a E.length c ∧ Lands L (rowP 3 1 a E.length c ((sortI (numsL z.l E)).map intV) :: At worldI k z :: At treeI t st :: At logI lp ls :: F)) := by
  refine CallsK_enter (n := 56) Tryz.func113 rfl rfl rfl ?_
  iterate 12 refine Ws ?_
  refine SC_ind (X := Nat × List EnvD × Int × Option Addr × Nat) (fun x => ∃ r, skipE st ls.tip x.1 x.2.2.1 = some r ∧ x.2.1 ++ r = E) (fun x => x.1) (fun x => [(0, .pointer (some ⟨k.p, 0, none⟩)), (1, .pointer (some ⟨t, 0, none⟩)), (2, .pointer (some ⟨lp, 0, none⟩)), (3, .int .i64 x.2.2.1), (9, .slice x.2.2.2.1 x.2.1.length x.2.2.2.2)]) (fun x => rowP 3 1 x.2.2.2.1 x.2.1.length x.2.2.2.2 ((numsL z.l x.2.1).map intV) :: At worldI k z :: At treeI t st :: At logI lp ls :: F) ((m, [], h, none, 0)) (⟨_, hE, rfl⟩) (.cons rfl (.cons rfl (.cons rfl (.cons rfl (.cons rfl (.nil)))))) (by simp only [numsL, List.map_nil, List.length_nil]; exact (row_new 3 1 none).trans .fin) ?_
  intro ⟨m, D, h, oa, oc⟩ hi ih0
  obtain ⟨r, hr1, hr2⟩ := hi
  dsimp only at hr1 hr2 ih0 ⊢
  iterate 5 refine Ws ?_
  refine Wc (CallsK.at (tree_Has t st h)) ?_
  refine Ws ?_
  refine SR_guard rfl rfl (fun hg2_3 => ?_) (fun hg2_3 => ?_)
  · refine SR_yes rfl rfl (hg2_3) ?_
    refine Ws ?_
    refine SR_yes rfl rfl (hg2_3) ?_
    refine Ws ?_
    refine SR_yes rfl rfl (hg2_3) ?_
    refine Wc (CallsK.at (clog_Tip lp ls)) ?_
    refine SR_yes rfl rfl (hg2_3) ?_
    refine Ws ?_
    refine SR_pu (RD_pick_t rfl (hg2_3) rfl) rfl ?_
    refine Ws ?_
    refine SR_guard rfl rfl (fun hg2_9 => ?_) (fun hg2_9 => ?_)
    · refine SR_yes rfl rfl (hg2_9) ?_
      refine Ws ?_
      refine SR_yes rfl rfl (hg2_9) ?_
      refine Ws ?_
      refine SR_yes rfl rfl (hg2_9) ?_
      refine Wc (CallsK.at (tree_Root t st)) ?_
      refine SR_yes rfl rfl (hg2_9) ?_
      refine Ws ?_
      refine SR_pu (RD_pick_t rfl (hg2_9) rfl) rfl ?_
      iterate 2 refine Ws ?_
      refine SC_cond rfl (fun hc28 => ?_) (fun hc28 => ?_)
      · have hyes : (mget st.T h).isSome = true ∧ h ≠ ls.tip ∧ h ≠ st.root := ⟨hg2_3, by simpa using hg2_9, by simpa using hc28⟩
        obtain ⟨m, rfl⟩ : ∃ m2, m = m2 + 1 := by cases m with | zero => cases hr1 | succ m => exact ⟨m, rfl⟩
        unfold skipE at hr1
        rw [if_pos hyes] at hr1
        obtain ⟨r2, hq, rfl⟩ : ∃ r2, skipE st ls.tip m (parOf st h) = some r2 ∧ ((mget st.T h).getD zBlk).envs ++ r2 = r := by
          cases hq : skipE st ls.tip m (parOf st h) with
          | none => rw [hq] at hr1; cases hr1
          | some r2 => rw [hq] at hr1; exact ⟨r2, rfl, by simpa using hr1⟩
        have hlen : D.length + ((mget st.T h).getD zBlk).envs.length ≤ 12 := by rw [← hr2] at hb; simp only [List.length_append] at hb; omega
        iterate 7 refine Ws ?_
        refine We (CallsK.at (tree_Block t st h)) ?_
        rintro _ L4 ⟨b', rfl, hp', hf', hL4⟩
        have hbe : b'.envs.l = ((mget st.T h).getD zBlk).envs := congrArg Blk.envs hp'
        have hbn : b'.envs.l.length = b'.envs.n := hf'.2.1
        have hnb : b'.envs.n ≤ 10000 := hf'.2.2.2.1
        refine SR.lands hL4 ?_
        iterate 3 refine Ws ?_
        refine Wa fun b10 => ?_
        refine SR_ox0 (OX_stA (vs := b'.cells) Tryz.sizeOf146 rfl rfl rfl rfl) ?_
        rintro _ _ rfl
        iterate 13 refine Ws ?_
        refine SC_ind (X := Nat × Option Addr × Nat) (fun x => x.1 ≤ b'.envs.n) (fun x => b'.envs.n - x.1) (fun x => [(0, .pointer (some ⟨k.p, 0, none⟩)), (1, .pointer (some ⟨t, 0, none⟩)), (2, .pointer (some ⟨lp, 0, none⟩)), (3, .int .i64 h), (9, .slice x.2.1 (D ++ b'.envs.l.take x.1).length x.2.2), (36, .slice b'.envs.a b'.envs.n b'.envs.c), (37, .int .i64 (b'.envs.n : Nat)), (38, .int .i64 (x.1 : Nat))]) (fun x => rowP 3 1 x.2.1 (D ++ b'.envs.l.take x.1).length x.2.2 ((numsL z.l (D ++ b'.envs.l.take x.1)).map intV) :: rowP 43 4 b'.envs.a b'.envs.n b'.envs.c (b'.envs.l.flatMap EnvD.cells) :: At worldI k z :: At treeI t st :: At logI lp ls :: F) ((0, oa, oc)) (Nat.zero_le _) (.cons rfl (.cons rfl (.cons rfl (.cons rfl (.cons' rfl (by dsimp only; simp) (.cons rfl (.cons rfl (.cons rfl (.nil))))))))) (by dsimp only; rw [List.take_zero, List.append_nil]; exact .fin) ?_
        intro ⟨i, ia, ic⟩ hi ih1
        dsimp only at hi ih1 ⊢
        iterate 6 refine Ws ?_
        refine SC_cond rfl (fun hc39 => ?_) (fun hc39 => ?_)
        · have hin : i < b'.envs.n := by have := of_decide_eq_true hc39; omega
          obtain ⟨e, he⟩ : ∃ e, b'.envs.l[i]? = some e := ⟨_, List.getElem?_eq_getElem (by omega)⟩
          have hme : e ∈ E := by rw [← hr2, ← hbe]; simp [List.mem_of_getElem? he]
          have htk : b'.envs.l.take (i + 1) = b'.envs.l.take i ++ [e] := by rw [List.take_add_one, he]; rfl
          have hll : (D ++ b'.envs.l.take i).length ≤ 12 := by rw [List.length_append, List.length_take]; rw [← hbe] at hlen; omega
          iterate 6 refine Ws ?_
          refine SR_rd (RD_ixO (cs := (b'.envs.l.flatMap EnvD.cells)) Tryz.runUnderlying53 Tryz.sizeOf43 rfl rfl (by rw [env_len, hbn]) (by omega) (by omega)) Has.ro rfl ?_
          refine SR_rd (RD_loadAO (vs := e.cells) (cs := (b'.envs.l.flatMap EnvD.cells)) Tryz.isAgg43 Tryz.sizeOf43 rfl rfl (by decide) (fun o v h => by have ho : o < 4 := (List.getElem?_eq_some_iff.1 h).1; rw [show ((i : Nat) : Int).toNat * (3 + 1) + o = i * 4 + o by omega, env_get he o ho]; exact h)) Has.ro rfl ?_
          refine Wa fun b13 => ?_
          refine SR_ox0 (OX_stA (vs := e.cells) Tryz.sizeOf43 rfl rfl rfl rfl) ?_
          rintro _ _ rfl
          iterate 5 refine Ws ?_
          refine SR_rd (RD_loadA (vs := e.cells) Tryz.isAgg43 Tryz.sizeOf43 rfl rfl) Has.wh rfl ?_
          refine Wc (CallsK.at (w_EnvDigest k z e (hok e hme) hz z.l _ (dput_idem (hm e hme)) rfl)) ?_
          refine SR_ox (OX_lit1 Tryz.underlying37 Tryz.type3 rfl rfl rfl rfl (.cons rfl (.nil)) (.cons rfl (.nil))) rfl ?_
          rintro _ _ ⟨b46, rfl, rfl⟩
          refine SR_ox (OX_app 1 Tryz.underlying37 Tryz.underlying37 Tryz.type3 rfl rfl rfl rfl rfl (by first | rfl | simp; done | (simp; omega)) 8 rfl (by omega) (by omega)) rfl ?_
          rintro _ _ ⟨a47, c47, rfl, rfl⟩
          iterate 8 refine Ws ?_
          refine SC_again (ih1 ((i + 1, a47, c47)) (by dsimp only; omega) (by dsimp only; omega)) (by dsimp only; rw [htk, ← List.append_assoc, List.length_append (bs := [e])]; unfold numsL; rw [List.map_append (l₂ := [e])]; simp only [List.map_append, List.map_cons, List.map_nil, intV, List.length_cons, List.length_nil, List.append_assoc]; exact .fin) (.cons rfl (.cons rfl (.cons rfl (.cons rfl (.cons' rfl (by dsimp only; rw [htk, ← List.append_assoc, List.length_append (bs := [e])]; rfl) (.cons rfl (.cons rfl (.cons' rfl (ie (by dsimp only; omega)) (.nil)))))))))
        · have hin : i = b'.envs.n := by have := of_decide_eq_false hc39; omega
          have hall : b'.envs.l.take i = ((mget st.T h).getD zBlk).envs := by rw [← hbe, List.take_of_length_le (by omega)]
          rw [hall]
          iterate 5 refine Ws ?_
          refine Wc (CallsK.at (tree_Parent t st h)) ?_
          rw [show (mget st.T h).elim 0 Blk.jb = parOf st h from rfl]
          iterate 3 refine Ws ?_
          refine SC_again (ih0 ((m, D ++ ((mget st.T h).getD zBlk).envs, parOf st h, ia, ic)) (⟨r2, hq, by dsimp only; rw [← hr2, List.append_assoc]⟩) (by dsimp only; omega)) (.fin) (.cons rfl (.cons rfl (.cons rfl (.cons rfl (.cons rfl (.nil))))))
      · have hno : ¬ ((mget st.T h).isSome = true ∧ h ≠ ls.tip ∧ h ≠ st.root) := fun hh => absurd hh.2.2 (by simpa using hc28)
        have hrn : r = [] := by
          cases m with
          | zero => cases hr1
          | succ m => unfold skipE at hr1; rw [if_neg hno] at hr1; cases hr1; rfl
        subst hrn
        rw [List.append_nil] at hr2
        subst hr2
        iterate 5 refine Ws ?_
        refine We (CallsK.rat (go_Sort (numsL z.l D) oa D.length oc (by simp [numsL]) (by omega))) ?_
        rintro _ L7 hL7
        refine SR.lands hL7 ?_
        iterate 5 refine Ws ?_
        refine Wc (CallsK.rat (go_Compact (sortI (numsL z.l D)) oa D.length oc (by rw [show (sortI (numsL z.l D)).length = _ from (List.mergeSort_perm _ _).length_eq]; simp [numsL]) (by omega) ha)) ?_
        iterate 3 refine Ws ?_
        refine SC_ret1 rfl rfl ?_
        exact ⟨_, _, rfl, .fin⟩
    · refine SR_no rfl rfl (hg2_9) (lts rfl) ?_
      refine SR_no rfl rfl (hg2_9) (lts rfl) ?_
      refine SR_no rfl rfl (hg2_9) (lts rfl) ?_
      refine SR_no rfl rfl (hg2_9) (lts rfl) ?_
      refine SR_pu (RD_pick_f rfl (hg2_9) rfl) rfl ?_
      iterate 2 refine Ws ?_
      have hno : ¬ ((mget st.T h).isSome = true ∧ h ≠ ls.tip ∧ h ≠ st.root) := fun hh => absurd hh.2.1 (by simpa using hg2_9)
      have hrn : r = [] := by
        cases m with
        | zero => cases hr1
        | succ m => unfold skipE at hr1; rw [if_neg hno] at hr1; cases hr1; rfl
      subst hrn
      rw [List.append_nil] at hr2
      subst hr2
      refine SC_cond_false rfl (rfl) ?_
      iterate 5 refine Ws ?_
      refine We (CallsK.rat (go_Sort (numsL z.l D) oa D.length oc (by simp [numsL]) (by omega))) ?_
      rintro _ L7 hL7
      refine SR.lands hL7 ?_
      iterate 5 refine Ws ?_
      refine Wc (CallsK.rat (go_Compact (sortI (numsL z.l D)) oa D.length oc (by rw [show (sortI (numsL z.l D)).length = _ from (List.mergeSort_perm _ _).length_eq]; simp [numsL]) (by omega) ha)) ?_
      iterate 3 refine Ws ?_
      refine SC_ret1 rfl rfl ?_
      exact ⟨_, _, rfl, .fin⟩
  · refine SR_no rfl rfl (hg2_3) (lts rfl) ?_
    refine SR_no rfl rfl (hg2_3) (lts rfl) ?_
    refine SR_no rfl rfl (hg2_3) (lts rfl) ?_
    refine SR_no rfl rfl (hg2_3) (lts rfl) ?_
    refine SR_pu (RD_pick_f rfl (hg2_3) rfl) rfl ?_
    refine Ws ?_
    refine SR_no rfl rfl (rfl) (lts rfl) ?_
    refine SR_no rfl rfl (rfl) (lts rfl) ?_
    refine SR_no rfl rfl (rfl) (lts rfl) ?_
    refine SR_no rfl rfl (rfl) (lts rfl) ?_
    refine SR_pu (RD_pick_f rfl (rfl) rfl) rfl ?_
    iterate 2 refine Ws ?_
    have hno : ¬ ((mget st.T h).isSome = true ∧ h ≠ ls.tip ∧ h ≠ st.root) := fun hh => by rw [hh.1] at hg2_3; cases hg2_3
    have hrn : r = [] := by
      cases m with
      | zero => cases hr1
      | succ m => unfold skipE at hr1; rw [if_neg hno] at hr1; cases hr1; rfl
    subst hrn
    rw [List.append_nil] at hr2
    subst hr2
    refine SC_cond_false rfl (rfl) ?_
    iterate 5 refine Ws ?_
    refine We (CallsK.rat (go_Sort (numsL z.l D) oa D.length oc (by simp [numsL]) (by omega))) ?_
    rintro _ L7 hL7
    refine SR.lands hL7 ?_
    iterate 5 refine Ws ?_
    refine Wc (CallsK.rat (go_Compact (sortI (numsL z.l D)) oa D.length oc (by rw [show (sortI (numsL z.l D)).length = _ from (List.mergeSort_perm _ _).length_eq]; simp [numsL]) (by omega) ha)) ?_
    iterate 3 refine Ws ?_
    refine SC_ret1 rfl rfl ?_
    exact ⟨_, _, rfl, .fin⟩

theorem batchL_mem : ∀ {n : Nat} {l r : List EnvD}, batchL n l = some r → ∀ e ∈ r, e ∈ l
  | 0, l, r, h, e, he => by simp [batchL] at h; subst h; cases he
  | n + 1, l, r, h, e, he => by
    unfold batchL at h
    split at h
    · cases h; cases he
    · split at h
      · cases h
      · split at h
        · cases h
        · rename_i x hx
          cases hb : batchL n (l.eraseIdx (firstI l).toNat) with
          | none => rw [hb] at h; cases h
          | some q =>
            rw [hb] at h; cases h
            rcases List.mem_cons.1 he with rfl | he
            · exact List.mem_of_getElem? hx
            · exact List.mem_of_mem_eraseIdx (batchL_mem hb e he)

theorem prop_Make {W : World} {F : List HProp} [Abs F] (k : WK) (z : WS) (c : CfgD) (me v : Int) (q : QcD) {cs : List Value} [HasRow F q.by_.a cs] (hcs : cs = q.by_.l.map intV) (hqn : q.by_.l.length = q.by_.n) (hqb : q.by_.n ≤ 10000) (t : Nat) (st : TS) (lp : Nat) (ls : LS) (p : Nat) (s : PoS) (hw : s.w = k.p) (hld : c.lead v = me) (hpar : (mget st.T q.block).isSome = true) (hqv : q.view < v) (m : Nat) (E : List EnvD) (hE : skipE st ls.tip m q.block = some E) (hb : E.length ≤ 12) (hok : ∀ e ∈ E, e.Ok) (hm : ∀ e ∈ E, envB e ∈ z.l) (ha : apartI (sortI (numsL z.l E))) (hz : z.l.length ≤ 800000000) (hpo : ∀ e ∈ s.l, e.Ok) (hpm : ∀ e ∈ s.l, envB e ∈ z.l) (hs : s.l.length ≤ 1000000) (bt : Nat) (hbt : c.bt = (bt : Nat)) (hbb : bt ≤ 100) (r : List EnvD) (hr : batchL bt (s.l.filter fun e => !skipP z.l (sortI (numsL z.l E)) e) = some r) :
    CallsK W Tryz.prog 86 #[.pointer (some ⟨k.p, 0, none⟩), c.val, .int .i64 me, .int .i64 v, q.val, .pointer (some ⟨t, 0, none⟩), .pointer (some ⟨lp, 0, none⟩), .pointer (some ⟨p, 0, none⟩)] (At worldI k z :: At treeI t st :: At logI lp ls :: At poolI p s :: F) (fun u L => ∃ b' : BlkD, u = .tuple #[b'.val, .bool true] ∧ b'.pure = (⟨v, me, q.view, q.block, q.by_.l, r⟩ : Blk) ∧ b'.Fit ∧ Lands L (rowP 3 1 b'.by_.a b'.by_.n b'.by_.c (b'.by_.l.map intV) :: rowP 43 4 b'.envs.a b'.envs.n b'.envs.c (b'.envs.l.flatMap EnvD.cells) :: At worldI k ⟨(⟨v, me, q.view, q.block, q.by_.l, r⟩ : Blk).leadL z.l, addTo z.S me ((⟨v, me, q.view, q.block, q.by_.l, r⟩ : Blk).leadD z.l : Nat)⟩ :: At treeI t st :: At logI lp ls :: At poolI p s :: F)) := by
  refine CallsK_enter (n := 57) Tryz.func86 rfl rfl rfl ?_
  subst hcs
  iterate 2 refine Ws ?_
  refine Wb fun b9 => ?_
  refine Wb fun b12 => ?_
  refine Wa fun b16 => ?_
  iterate 9 refine Ws ?_
  refine Wc (blok_Lead c v) ?_
  iterate 2 refine Ws ?_
  refine SR_yes rfl rfl (by simp [hld]) ?_
  refine Ws ?_
  refine SR_yes rfl rfl (by simp [hld]) ?_
  refine Ws ?_
  refine SR_yes rfl rfl (by simp [hld]) ?_
  refine Ws ?_
  refine SR_yes rfl rfl (by simp [hld]) ?_
  refine Wc (CallsK.at (tree_Has t st q.block)) ?_
  refine SR_yes rfl rfl (by simp [hld]) ?_
  refine Ws ?_
  refine SR_pu (RD_pick_f rfl (by simp [hld]) rfl) rfl ?_
  refine Ws ?_
  refine SR_yes rfl rfl (by rw [hpar]; rfl) ?_
  refine Ws ?_
  refine SR_yes rfl rfl (by rw [hpar]; rfl) ?_
  refine Ws ?_
  refine SR_yes rfl rfl (by rw [hpar]; rfl) ?_
  refine Ws ?_
  refine SR_yes rfl rfl (by rw [hpar]; rfl) ?_
  refine Ws ?_
  refine SR_pu (RD_pick_f rfl (by rw [hpar]; rfl) rfl) rfl ?_
  iterate 2 refine Ws ?_
  refine SC_cond_false rfl (decide_eq_false (by omega)) ?_
  iterate 3 refine Ws ?_
  have hro : ∀ e ∈ r, e.Ok := fun e h => hpo e (List.mem_filter.1 (batchL_mem hr e h)).1
  refine SC_drawn (.cons 0 true (.cons 1 true (.cons 2 true (.cons 3 true (.cons 4 true (.cons 5 true (.cons 6 true (.cons 7 true (.cons 8 true (.cons 9 true (.cons 10 true (.alts [11, 15] (fun i => bif Nat.beq i 11 then (.alts [12, 15] (fun i => bif Nat.beq i 12 then (.cons 13 true (.alts [14, 15] (fun i => bif Nat.beq i 14 then (.cons 15 false (.goto [true, true, true, true, true, true, true, true, true, true, true, true, true, true, true, true, false] 1)) else (.cons 14 false (.goto [true, true, true, true, true, true, true, true, true, true, true, true, true, true, true, true, false] 1))))) else (.cons 12 false (.cons 13 true (.cons 14 false (.goto [true, true, true, true, true, true, true, true, true, true, true, true, true, true, true, true, false] 1)))))) else (.cons 11 false (.cons 12 false (.cons 13 true (.cons 14 false (.goto [true, true, true, true, true, true, true, true, true, true, true, true, true, true, true, true, false] 1)))))))))))))))))) (by kernel_rfl) (by kernel_rfl) ?_
  iterate 2 refine Wq ?_
  refine SQ_rd rfl (RD_loadA (vs := q.cells) Tryz.isAgg39 Tryz.sizeOf39 rfl rfl) Has.wh rfl ?_
  iterate 2 refine Wq ?_
  refine SQ_rd rfl (RD_load (v := .int .i64 (bt : Nat)) Tryz.isAgg3 rfl) (Has.ce (by rw [← hbt]; rfl)) rfl ?_
  iterate 5 refine Wq ?_
  refine SQ.le (l := [(0, _), (16, _), (38, _), (39, _), (40, _), (41, _), (43, _), (44, _), (45, _), (46, _), (48, _)]) ?_ (.cons rfl (.cons rfl (.cons rfl (.cons rfl (.cons rfl (.cons rfl (.cons rfl (.cons rfl (.cons rfl (.cons rfl (.cons rfl (.nil))))))))))))
  refine SQ_join (X := {x : BlkD × Nat // x.1.pure = (⟨v, me, q.view, q.block, q.by_.l, r⟩ : Blk) ∧ x.1.Fit}) (.cons 16 false (.nil)) [true, true, true, true, true, true, true, true, true, true, true, true, true, true, true, true, false] 1 (by kernel_rfl) (fun x => [(18, .pointer (some ⟨x.1.2, 0, none⟩)), (52, x.1.1.val)]) (fun x => pt x.1.2 (.cells [.int .i64 0, .int .i64 0, .int .i64 0, .int .i64 0, .slice none 0 0, .slice none 0 0].toArray 146) :: pt b16 (.cells [.int .i64 0, .int .i64 0, .int .i64 0, .int .i64 0, .slice none 0 0, .slice none 0 0].toArray 146) :: pt b9 (.cells c.cells.toArray 23) :: pt b12 (.cells q.cells.toArray 39) :: rowP 3 1 x.1.1.by_.a x.1.1.by_.n x.1.1.by_.c (x.1.1.by_.l.map intV) :: rowP 43 4 x.1.1.envs.a x.1.1.envs.n x.1.1.envs.c (x.1.1.envs.l.flatMap EnvD.cells) :: At worldI k z :: At treeI t st :: At logI lp ls :: At poolI p s :: F) (fun x => pt b16 (.cells [.int .i64 0, .int .i64 0, .int .i64 0, .int .i64 0, .slice none 0 0, .slice none 0 0].toArray 146) :: pt b9 (.cells c.cells.toArray 23) :: pt b12 (.cells q.cells.toArray 39) :: rowP 3 1 x.1.1.by_.a x.1.1.by_.n x.1.1.by_.c (x.1.1.by_.l.map intV) :: rowP 43 4 x.1.1.envs.a x.1.1.envs.n x.1.1.envs.c (x.1.1.envs.l.flatMap EnvD.cells) :: At worldI k z :: At treeI t st :: At logI lp ls :: At poolI p s :: F) (fun ⟨⟨b', y⟩, hbp, hbf⟩ T3 hT3 => ?_) (fun K3 => ?_)
  · refine SQ.le (l := [(18, _), (52, _), (0, _), (16, _), (38, _), (39, _), (40, _), (41, _), (43, _), (44, _), (45, _), (46, _), (48, _)]) ?_ (.cons rfl (.cons rfl (.cons rfl (.cons rfl (.cons rfl (.cons rfl (.cons rfl (.cons rfl (.cons rfl (.cons rfl (.cons rfl (.cons rfl (.cons rfl (.nil))))))))))))))
    dsimp only at hbp hbf hT3 ⊢
    refine SQ_ox0 rfl (OX_stA (vs := b'.cells) Tryz.sizeOf146 rfl rfl rfl rfl) ?_
    rintro _ _ rfl
    refine ⟨Keeps.lands .fin (Keeps.all hT3), ?_⟩
    iterate 5 refine Ws ?_
    refine SR_rd (RD_loadA (vs := b'.cells) Tryz.isAgg146 Tryz.sizeOf146 rfl rfl) Has.wh rfl ?_
    refine We (CallsK.at (blok_Sign k z b' rfl rfl hbf hz)) ?_
    rintro _ L6 ⟨rfl, hL6⟩
    rw [hbp, show b'.author = me from congrArg Blk.author hbp] at hL6
    refine SR.lands hL6 ?_
    iterate 4 refine Ws ?_
    refine SR_rd (RD_loadA (vs := b'.cells) Tryz.isAgg146 Tryz.sizeOf146 rfl rfl) Has.wh rfl ?_
    refine SR_ox0 (OX_stA (vs := b'.cells) Tryz.sizeOf146 rfl rfl rfl rfl) ?_
    rintro _ _ rfl
    iterate 3 refine Ws ?_
    refine SC_retCT rfl Tryz.isAgg146 Tryz.sizeOf146 rfl rfl rfl Has.wh ?_
    exact ⟨b', rfl, hbp, hbf, .fin⟩
  · refine SQ_two ?_ ?_
    · refine SA_call rfl .free Tryz.call113 (.cons rfl (.cons rfl (.cons rfl (.cons rfl (.nil))))) (CallsK.at3 (prop_Skip k z t st lp ls q.block m E hE hb hok hm ha (by omega))) (lts rfl) ?_
      rintro _ L3 ⟨ka, kc, rfl, hL3⟩
      refine ⟨.lands hL3 (.w rfl (.h (Has.ce (by rw [← hbt]; rfl)) (.h Has.wh (.nil)))), ?_⟩
      refine SQ.lands hL3 ?_
      refine SQ_two ?_ ?_
      · refine SA_call rfl .free Tryz.call112 (.cons rfl (.cons rfl (.cons rfl (.nil)))) (CallsK.at2 (pool_Batch k z p s hw (sortI (numsL z.l E)) ka E.length kc rfl (by rw [show (sortI (numsL z.l E)).length = _ from (List.mergeSort_perm _ _).length_eq]; simp [numsL]) (by omega) (by omega) hpo hpm hs bt r hr)) (lts rfl) ?_
        rintro _ L4 ⟨ra, rc, rfl, hL4⟩
        refine ⟨.lands hL4 (.h (Has.ce rfl) (.w rfl (.h Has.wh (.nil)))), ?_⟩
        refine SQ.lands hL4 ?_
        refine SQ_pu rfl (RD_build (.cons rfl (.cons rfl (.cons rfl (.cons rfl (.nil))))) built146_0_1_2_3) rfl ?_
        refine SQ_two ?_ ?_
        · refine SA_call rfl .free Tryz.call107 (.cons rfl (.nil)) (blok_Still (⟨v, me, q.view, q.block, q.by_, ⟨ra, r.length, rc, r⟩⟩ : BlkD) rfl rfl ⟨hqn, rfl, hqb, by have := (batchL_len hr).1; dsimp only; omega, hro⟩) (lts rfl) ?_
          rintro _ L5 ⟨b', rfl, hbp, hbf, hL5⟩
          refine ⟨.lands hL5 (.h (Has.ce rfl) (.h (Has.ce (by rw [← hbt]; rfl)) (.h Has.wh (.nil)))), ?_⟩
          refine SQ.lands hL5 ?_
          refine SQ_ox rfl (OX_alloc Tryz.zeroValue146 rfl) rfl ?_
          rintro _ _ ⟨b18, rfl, rfl⟩
          refine ⟨.h (Has.ce rfl) (.h (Has.ce (by rw [← hbt]; rfl)) (.h Has.wh (.nil))), ?_⟩
          exact K3 (⟨(b', b18), hbp, hbf⟩) _ _ _ (.cons rfl (.cons rfl (.cons rfl (.cons rfl (.cons rfl (.cons rfl (.cons rfl (.cons rfl (.cons rfl (.cons rfl (.cons rfl (.cons rfl (.cons rfl (.nil)))))))))))))) (.fin) (.cons (Has.ce rfl) (.cons (Has.ce (by rw [← hbt]; rfl)) (.cons Has.wh (.nil))))
        · refine SA_ox rfl .free (OX_alloc Tryz.zeroValue146 rfl) rfl ?_
          rintro _ _ ⟨b18, rfl, rfl⟩
          refine ⟨.h (Has.ce rfl) (.h (Has.ce (by rw [← hbt]; rfl)) (.h Has.wh (.nil))), ?_⟩
          refine SQ_call rfl Tryz.call107 (.cons rfl (.nil)) (blok_Still (⟨v, me, q.view, q.block, q.by_, ⟨ra, r.length, rc, r⟩⟩ : BlkD) rfl rfl ⟨hqn, rfl, hqb, by have := (batchL_len hr).1; dsimp only; omega, hro⟩) (lts rfl) ?_
          rintro _ L5 ⟨b', rfl, hbp, hbf, hL5⟩
          refine ⟨.lands hL5 (.h (Has.ce rfl) (.h (Has.ce (by rw [← hbt]; rfl)) (.h Has.wh (.nil)))), ?_⟩
          refine SQ.lands hL5 ?_
          exact K3 (⟨(b', b18), hbp, hbf⟩) _ _ _ (.cons rfl (.cons rfl (.cons rfl (.cons rfl (.cons rfl (.cons rfl (.cons rfl (.cons rfl (.cons rfl (.cons rfl (.cons rfl (.cons rfl (.cons rfl (.nil)))))))))))))) (.fin) (.cons (Has.ce rfl) (.cons (Has.ce (by rw [← hbt]; rfl)) (.cons Has.wh (.nil))))
      · refine SA_ox rfl .free (OX_alloc Tryz.zeroValue146 rfl) rfl ?_
        rintro _ _ ⟨b18, rfl, rfl⟩
        refine ⟨.h (Has.ce rfl) (.h (Has.ce (by rw [← hbt]; rfl)) (.h Has.wh (.nil))), ?_⟩
        refine SQ_call rfl Tryz.call112 (.cons rfl (.cons rfl (.cons rfl (.nil)))) (CallsK.at2 (pool_Batch k z p s hw (sortI (numsL z.l E)) ka E.length kc rfl (by rw [show (sortI (numsL z.l E)).length = _ from (List.mergeSort_perm _ _).length_eq]; simp [numsL]) (by omega) (by omega) hpo hpm hs bt r hr)) (lts rfl) ?_
        rintro _ L4 ⟨ra, rc, rfl, hL4⟩
        refine ⟨.lands hL4 (.h (Has.ce rfl) (.w rfl (.h Has.wh (.nil)))), ?_⟩
        refine SQ.lands hL4 ?_
        refine SQ_pu rfl (RD_build (.cons rfl (.cons rfl (.cons rfl (.cons rfl (.nil))))) built146_0_1_2_3) rfl ?_
        refine SQ_call rfl Tryz.call107 (.cons rfl (.nil)) (blok_Still (⟨v, me, q.view, q.block, q.by_, ⟨ra, r.length, rc, r⟩⟩ : BlkD) rfl rfl ⟨hqn, rfl, hqb, by have := (batchL_len hr).1; dsimp only; omega, hro⟩) (lts rfl) ?_
        rintro _ L5 ⟨b', rfl, hbp, hbf, hL5⟩
        refine ⟨.lands hL5 (.h (Has.ce rfl) (.h (Has.ce (by rw [← hbt]; rfl)) (.h Has.wh (.nil)))), ?_⟩
        refine SQ.lands hL5 ?_
        exact K3 (⟨(b', b18), hbp, hbf⟩) _ _ _ (.cons rfl (.cons rfl (.cons rfl (.cons rfl (.cons rfl (.cons rfl (.cons rfl (.cons rfl (.cons rfl (.cons rfl (.cons rfl (.cons rfl (.cons rfl (.nil)))))))))))))) (.fin) (.cons (Has.ce rfl) (.cons (Has.ce (by rw [← hbt]; rfl)) (.cons Has.wh (.nil))))
    · refine SA_ox rfl .free (OX_alloc Tryz.zeroValue146 rfl) rfl ?_
      rintro _ _ ⟨b18, rfl, rfl⟩
      refine ⟨.h (Has.ce rfl) (.h (Has.ce (by rw [← hbt]; rfl)) (.h Has.wh (.nil))), ?_⟩
      refine SQ_call rfl Tryz.call113 (.cons rfl (.cons rfl (.cons rfl (.cons rfl (.nil))))) (CallsK.at3 (prop_Skip k z t st lp ls q.block m E hE hb hok hm ha (by omega))) (lts rfl) ?_
      rintro _ L3 ⟨ka, kc, rfl, hL3⟩
      refine ⟨.lands hL3 (.w rfl (.h (Has.ce (by rw [← hbt]; rfl)) (.h Has.wh (.nil)))), ?_⟩
      refine SQ.lands hL3 ?_
      refine SQ_call rfl Tryz.call112 (.cons rfl (.cons rfl (.cons rfl (.nil)))) (CallsK.at2 (pool_Batch k z p s hw (sortI (numsL z.l E)) ka E.length kc rfl (by rw [show (sortI (numsL z.l E)).length = _ from (List.mergeSort_perm _ _).length_eq]; simp [numsL]) (by omega) (by omega) hpo hpm hs bt r hr)) (lts rfl) ?_
      rintro _ L4 ⟨ra, rc, rfl, hL4⟩
      refine ⟨.lands hL4 (.h (Has.ce rfl) (.w rfl (.h Has.wh (.nil)))), ?_⟩
      refine SQ.lands hL4 ?_
      refine SQ_pu rfl (RD_build (.cons rfl (.cons rfl (.cons rfl (.cons rfl (.nil))))) built146_0_1_2_3) rfl ?_
      refine SQ_call rfl Tryz.call107 (.cons rfl (.nil)) (blok_Still (⟨v, me, q.view, q.block, q.by_, ⟨ra, r.length, rc, r⟩⟩ : BlkD) rfl rfl ⟨hqn, rfl, hqb, by have := (batchL_len hr).1; dsimp only; omega, hro⟩) (lts rfl) ?_
      rintro _ L5 ⟨b', rfl, hbp, hbf, hL5⟩
      refine ⟨.lands hL5 (.h (Has.ce rfl) (.h (Has.ce (by rw [← hbt]; rfl)) (.h Has.wh (.nil)))), ?_⟩
      refine SQ.lands hL5 ?_
      exact K3 (⟨(b', b18), hbp, hbf⟩) _ _ _ (.cons rfl (.cons rfl (.cons rfl (.cons rfl (.cons rfl (.cons rfl (.cons rfl (.cons rfl (.cons rfl (.cons rfl (.cons rfl (.cons rfl (.cons rfl (.nil)))))))))))))) (.fin) (.cons (Has.ce rfl) (.cons (Has.ce (by rw [← hbt]; rfl)) (.cons Has.wh (.nil))))

end Go.Proofs.YtdhpjdhloaoepaaGreat
