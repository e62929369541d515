/- Envelopes and blocks: their digests, copies. -/
import Derived.Test.YtmigjpmadhebfaaCe2
import Derived.Test.YtmigjpmadhebfaaSl16
namespace Go.Proofs.Ytmigjpmadhebfaa
open Go Go.Proofs
set_option maxRecDepth 100000
/-- An envelope. -/
structure EnvD where
  client : Int
  nonce : Int
  fee : Int
  cipher : Int
deriving DecidableEq
def EnvD.cells (e : EnvD) : List Value := [.int .i64 e.client, .int .u64 e.nonce, .int .u64 e.fee, .int .i64 e.cipher]
def EnvD.val (e : EnvD) : Value := .agg e.cells.toArray
instance onesEnv (e : EnvD) : Ones e.cells := by unfold EnvD.cells; infer_instance
instance onesEnvs (l : List EnvD) : Ones (l.flatMap EnvD.cells) := ⟨fun v hv => by
  obtain ⟨e, _, he⟩ := List.mem_flatMap.1 hv
  exact (onesEnv e).h v he⟩
theorem EnvD.cells_len (e : EnvD) : e.cells.length = 4 := rfl
def EnvD.Ok (e : EnvD) : Prop := (0 ≤ e.nonce ∧ e.nonce < 18446744073709551616) ∧ (0 ≤ e.fee ∧ e.fee < 18446744073709551616)
def envB (e : EnvD) : List UInt8 := tagB [101, 110, 118] [e.client, e.nonce, e.fee, e.cipher]
/-- The cells of a row of fours. -/
theorem env_get {l : List EnvD} {i : Nat} {e : EnvD} (h : l[i]? = some e) (o : Nat) (ho : o < 4) : (l.flatMap EnvD.cells)[i * 4 + o]? = e.cells[o]? := by
  induction l generalizing i with
  | nil => simp at h
  | cons x l ih =>
    cases i with
    | zero => simp at h; subst h; rw [List.flatMap_cons, Nat.zero_mul, Nat.zero_add, List.getElem?_append_left (by rw [EnvD.cells_len]; exact ho)]
    | succ i =>
      rw [List.flatMap_cons, List.getElem?_append_right (by rw [EnvD.cells_len]; omega), EnvD.cells_len, show (i + 1) * 4 + o - 4 = i * 4 + o by omega]
      exact ih (by simpa using h)
theorem env_len (l : List EnvD) : (l.flatMap EnvD.cells).length = l.length * 4 := by
  induction l with
  | nil => rfl
  | cons x l ih => rw [List.flatMap_cons, List.length_append, ih, EnvD.cells_len, List.length_cons]; omega
/-- A row of envelopes, as a slice tells it. -/
structure ERow where
  a : Option Addr
  n : Nat
  c : Nat
  l : List EnvD
def noE : ERow := ⟨none, 0, 0, []⟩
/-- A block, as it lies. -/
structure BlkD where
  view : Int
  author : Int
  jv : Int
  jb : Int
  by_ : Row
  envs : ERow
def BlkD.cells (b : BlkD) : List Value := [.int .i64 b.view, .int .i64 b.author, .int .i64 b.jv, .int .i64 b.jb, .slice b.by_.a b.by_.n b.by_.c, .slice b.envs.a b.envs.n b.envs.c]
def BlkD.val (b : BlkD) : Value := .agg b.cells.toArray
instance onesBlk (b : BlkD) : Ones b.cells := by unfold BlkD.cells; infer_instance
/-- A block, as it says. -/
structure Blk where
  view : Int
  author : Int
  jv : Int
  jb : Int
  by_ : List Int
  envs : List EnvD
deriving DecidableEq
def BlkD.pure (b : BlkD) : Blk := ⟨b.view, b.author, b.jv, b.jb, b.by_.l, b.envs.l⟩
def digsL (l : List (List UInt8)) (es : List EnvD) : List (List UInt8) := es.foldl (fun l e => dput l (envB e)) l
theorem digsL_ext : ∀ (es : List EnvD) (l : List (List UInt8)), Ext l (digsL l es)
  | [], l => Ext.same
  | e :: es, l => (Ext.put l (envB e)).trans (digsL_ext es _)
theorem digsL_len : ∀ (es : List EnvD) (l : List (List UInt8)), (digsL l es).length ≤ l.length + es.length
  | [], l => by simp [digsL]
  | e :: es, l => by
    have := digsL_len es (dput l (envB e))
    have h2 := dput_len l (envB e)
    show (digsL (dput l (envB e)) es).length ≤ _
    rw [List.length_cons]; omega
theorem digsL_snoc (l : List (List UInt8)) (es : List EnvD) (e : EnvD) : digsL l (es ++ [e]) = dput (digsL l es) (envB e) := by simp [digsL]
theorem digsL_mem {e : EnvD} : ∀ {es : List EnvD} {l : List (List UInt8)}, e ∈ es → envB e ∈ digsL l es
  | x :: es, l, h => by
    rcases List.mem_cons.1 h with rfl | h
    · exact (digsL_ext es _).mem (dput_mem _ _)
    · exact digsL_mem (es := es) (l := dput l (envB x)) h
/-- The numbers of envelopes. -/
def numsE (l : List (List UInt8)) (es : List EnvD) : List Int := es.map fun e => ((dnum l (envB e) : Nat) : Int)
theorem numsE_ext {l l' : List (List UInt8)} (h : Ext l l') {es : List EnvD} (hm : ∀ e ∈ es, envB e ∈ l) : numsE l' es = numsE l es := by
  unfold numsE
  exact List.map_congr_left fun e he => by rw [h.num (hm e he)]
def blkN (l : List (List UInt8)) (b : Blk) : List Int := [b.view, b.author, b.jv, b.jb, ((b.by_.length : Nat) : Int)] ++ b.by_ ++ [((b.envs.length : Nat) : Int)] ++ numsE l b.envs
/-- A block's bytes. -/
def blkB (l : List (List UInt8)) (b : Blk) : List UInt8 := tagB [98, 108, 111, 99, 107] (blkN l b)
def blkL (l : List (List UInt8)) (b : Blk) : List (List UInt8) := dput (digsL l b.envs) (blkB (digsL l b.envs) b)
def blkD (l : List (List UInt8)) (b : Blk) : Nat := dnum (blkL l b) (blkB (digsL l b.envs) b)
theorem blkL_ext (l : List (List UInt8)) (b : Blk) : Ext l (blkL l b) := (digsL_ext _ _).trans (Ext.put _ _)
theorem blkL_len (l : List (List UInt8)) (b : Blk) : (blkL l b).length ≤ l.length + b.envs.length + 1 := by
  have := dput_len (digsL l b.envs) (blkB (digsL l b.envs) b)
  have := digsL_len b.envs l
  unfold blkL; omega

theorem clone_ints {W : World} {F : List HProp} [Abs F] (cs : List Value) [Ones cs] (a : Option Addr) (n c : Nat) [HasRow F a cs] (hn : cs.length = n * 1) (hb : n ≤ 1000000000000) :
    CallsK W Try.prog 64 #[.slice a n c] (F) (fun v L => ∃ a1 c1, v = .slice a1 n c1 ∧ Lands L (rowP 3 1 a1 n c1 cs :: F)) := by
  refine CallsK_enter (n := 8) Try.func64 rfl rfl rfl ?_
  refine SC_seq ?_
  refine SC_region ?_
  refine SR_pu (RD_assign rfl) rfl ?_
  refine SR_nil ?_
  refine SN.le (l := [(0, _)]) ?_ (.cons rfl (.nil))
  refine SN_seq ?_
  refine SC_seq ?_
  refine SC_seq ?_
  refine SC_region ?_
  refine SR_pu (RD_move rfl) rfl ?_
  refine SR_pu (RD_eqlSl Try.underlying24 rfl rfl) rfl ?_
  refine SR_nil ?_
  refine SN.le (l := [(0, _), (4, _)]) ?_ (.cons rfl (.cons rfl (.nil)))
  refine SN_seq ?_
  refine SC_cond rfl (fun hc4 => ?_) (fun hc4 => ?_)
  · obtain rfl : a = none := by simpa using hc4
    refine SC.row_none (cs := cs) fun hcs => ?_
    subst hcs
    obtain rfl : n = 0 := by simp at hn; omega
    refine SC_seq ?_
    refine SC_region ?_
    refine SR_pu (RD_assign rfl) rfl ?_
    refine SR_nil ?_
    refine SN.le (l := [(2, _)]) ?_ (.cons rfl (.nil))
    refine SN_seq ?_
    refine SC_ret1 rfl rfl ?_
    exact ⟨_, _, rfl, (row_new 3 1 none).trans .fin⟩
  · refine SC_skip ?_
    refine SN_seq ?_
    refine SC_seq ?_
    refine SC_region ?_
    refine SR_ox (OX_buildSlice0 Try.runUnderlying24 Try.sizeOf3) rfl ?_
    rintro _ _ ⟨b5, rfl, rfl⟩
    refine SR_pu (RD_move rfl) rfl ?_
    refine SR_ox (OX_app0 1 Try.underlying24 Try.underlying24 Try.type3 rfl rfl rfl rfl rfl (by simpa using hn) 8 rfl (by omega) (by omega)) rfl ?_
    rintro _ _ ⟨a7, c7, rfl, rfl⟩
    refine SR_pu (RD_assign rfl) rfl ?_
    refine SR_nil ?_
    refine SN.le (l := [(2, _)]) ?_ (.cons rfl (.nil))
    refine SN_seq ?_
    refine SC_ret1 rfl rfl ?_
    exact ⟨_, _, rfl, .fin⟩

theorem clone_envs {W : World} {F : List HProp} [Abs F] (cs : List Value) [Ones cs] (a : Option Addr) (n c : Nat) [HasRow F a cs] (hn : cs.length = n * 4) (hb : n ≤ 1000000000000) :
    CallsK W Try.prog 91 #[.slice a n c] (F) (fun v L => ∃ a1 c1, v = .slice a1 n c1 ∧ Lands L (rowP 51 4 a1 n c1 cs :: F)) := by
  refine CallsK_enter (n := 8) Try.func91 rfl rfl rfl ?_
  refine SC_seq ?_
  refine SC_region ?_
  refine SR_pu (RD_assign rfl) rfl ?_
  refine SR_nil ?_
  refine SN.le (l := [(0, _)]) ?_ (.cons rfl (.nil))
  refine SN_seq ?_
  refine SC_seq ?_
  refine SC_seq ?_
  refine SC_region ?_
  refine SR_pu (RD_move rfl) rfl ?_
  refine SR_pu (RD_eqlSl Try.underlying56 rfl rfl) rfl ?_
  refine SR_nil ?_
  refine SN.le (l := [(0, _), (4, _)]) ?_ (.cons rfl (.cons rfl (.nil)))
  refine SN_seq ?_
  refine SC_cond rfl (fun hc4 => ?_) (fun hc4 => ?_)
  · obtain rfl : a = none := by simpa using hc4
    refine SC.row_none (cs := cs) fun hcs => ?_
    subst hcs
    obtain rfl : n = 0 := by simp at hn; omega
    refine SC_seq ?_
    refine SC_region ?_
    refine SR_pu (RD_assign rfl) rfl ?_
    refine SR_nil ?_
    refine SN.le (l := [(2, _)]) ?_ (.cons rfl (.nil))
    refine SN_seq ?_
    refine SC_ret1 rfl rfl ?_
    exact ⟨_, _, rfl, (row_new 51 4 none).trans .fin⟩
  · refine SC_skip ?_
    refine SN_seq ?_
    refine SC_seq ?_
    refine SC_region ?_
    refine SR_ox (OX_buildSlice0 Try.runUnderlying56 Try.sizeOf51) rfl ?_
    rintro _ _ ⟨b5, rfl, rfl⟩
    refine SR_pu (RD_move rfl) rfl ?_
    refine SR_ox (OX_app0 4 Try.underlying56 Try.underlying56 Try.type51 rfl rfl rfl rfl rfl (by simpa using hn) 32 rfl (by omega) (by omega)) rfl ?_
    rintro _ _ ⟨a7, c7, rfl, rfl⟩
    refine SR_pu (RD_assign rfl) rfl ?_
    refine SR_nil ?_
    refine SN.le (l := [(2, _)]) ?_ (.cons rfl (.nil))
    refine SN_seq ?_
    refine SC_ret1 rfl rfl ?_
    exact ⟨_, _, rfl, .fin⟩

theorem w_EnvDigest {W : World} {F : List HProp} [Abs F] (k : WK) (s : WS) (e : EnvD) (he : e.Ok) (hl : s.l.length ≤ 1000000000) (l' : List (List UInt8)) (d : Nat) (h1 : dput s.l (envB e) = l') (h2 : dnum l' (envB e) = d) :
    CallsK W Try.prog 90 #[.pointer (some ⟨k.p, 0, none⟩), e.val] (At worldI k s :: F) (fun v L => v = .int .i64 d ∧ Lands L (At worldI k ⟨l', s.S⟩ :: F)) := by
  refine CallsK_enter (n := 34) Try.func90 rfl rfl rfl ?_
  refine SC_seq ?_
  refine SC_region ?_
  refine SR_ox (OX_box rfl rfl) rfl ?_
  rintro _ _ ⟨b3, rfl, rfl⟩
  refine SR_pu (RD_assign rfl) rfl ?_
  refine SR_nil ?_
  refine SN.le (l := [(0, _), (3, _)]) ?_ (.cons rfl (.cons rfl (.nil)))
  refine SN_seq ?_
  refine SC_seq ?_
  refine SC_region ?_
  refine SR_call Try.call72 (.nil) (wire_New) (lts rfl) ?_
  rintro _ L0 ⟨p, rfl, hL0⟩
  refine SR.lands hL0 ?_
  refine SR_pu (RD_assign rfl) rfl ?_
  refine SR_nil ?_
  refine SN.le (l := [(0, _), (3, _), (5, _)]) ?_ (.cons rfl (.cons rfl (.cons rfl (.nil))))
  refine SN_seq ?_
  refine SC_seq ?_
  refine SC_region ?_
  refine SR_pu (RD_move rfl) rfl ?_
  refine SR_ox (OX_lit1 Try.underlying39 Try.type5 rfl rfl rfl rfl (.cons rfl (.cons rfl (.cons rfl (.nil)))) (.cons rfl (.cons rfl (.cons rfl (.nil))))) rfl ?_
  rintro _ _ ⟨b8, rfl, rfl⟩
  refine SR_ox (OX_mark Try.underlying39 Try.underlying5 rfl) rfl ?_
  rintro _ _ ⟨fz9, rfl, rfl⟩
  refine SR_call Try.call73 (.cons rfl (.cons rfl (.nil))) (CallsK.at (wire_Text p [] [101, 110, 118] _ _ _ rfl rfl (by simp))) (lts rfl) ?_
  rintro _ L1 ⟨rfl, hL1⟩
  refine SR.lands hL1 ?_
  refine SR_nil ?_
  refine SN.le (l := [(0, _), (3, _), (5, _)]) ?_ (.cons rfl (.cons rfl (.cons rfl (.nil))))
  refine SN_seq ?_
  refine SC_seq ?_
  refine SC_region ?_
  refine SR_pu (RD_move rfl) rfl ?_
  first
    | refine SR_pu (RD_fieldAddr0 Try.runUnderlying51 rfl rfl Try.sizeOf3 rfl) rfl ?_
    | refine SR_rd (RD_fieldAddrO 0 Try.runUnderlying51 rfl rfl Try.sizeOf3 rfl (by simp <;> omega)) Has.ro rfl ?_
  refine SR_rd (RD_load Try.isAgg3 rfl) (Has.ce rfl) rfl ?_
  refine SR_call Try.call74 (.cons rfl (.cons rfl (.nil))) (CallsK.at (wire_Int p (([] ++ (bei (3 : Nat) ++ [101, 110, 118]))) e.client (by simp [bei_length]))) (lts rfl) ?_
  rintro _ L2 ⟨rfl, hL2⟩
  refine SR.lands hL2 ?_
  refine SR_nil ?_
  refine SN.le (l := [(0, _), (3, _), (5, _)]) ?_ (.cons rfl (.cons rfl (.cons rfl (.nil))))
  refine SN_seq ?_
  refine SC_seq ?_
  refine SC_region ?_
  refine SR_pu (RD_move rfl) rfl ?_
  first
    | refine SR_pu (RD_fieldAddr 1 Try.runUnderlying51 rfl rfl Try.sizeOf49 rfl) rfl ?_
    | refine SR_rd (RD_fieldAddrO 1 Try.runUnderlying51 rfl rfl Try.sizeOf49 rfl (by simp <;> omega)) Has.ro rfl ?_
  refine SR_rd (RD_load Try.isAgg49 rfl) (Has.ce rfl) rfl ?_
  refine SR_call Try.call92 (.cons rfl (.cons rfl (.nil))) (CallsK.at (wire_Num p (([] ++ (bei (3 : Nat) ++ [101, 110, 118])) ++ bei e.client) e.nonce he.1 (by simp [bei_length]))) (lts rfl) ?_
  rintro _ L3 ⟨rfl, hL3⟩
  refine SR.lands hL3 ?_
  refine SR_nil ?_
  refine SN.le (l := [(0, _), (3, _), (5, _)]) ?_ (.cons rfl (.cons rfl (.cons rfl (.nil))))
  refine SN_seq ?_
  refine SC_seq ?_
  refine SC_region ?_
  refine SR_pu (RD_move rfl) rfl ?_
  first
    | refine SR_pu (RD_fieldAddr 2 Try.runUnderlying51 rfl rfl Try.sizeOf49 rfl) rfl ?_
    | refine SR_rd (RD_fieldAddrO 2 Try.runUnderlying51 rfl rfl Try.sizeOf49 rfl (by simp <;> omega)) Has.ro rfl ?_
  refine SR_rd (RD_load Try.isAgg49 rfl) (Has.ce rfl) rfl ?_
  refine SR_call Try.call92 (.cons rfl (.cons rfl (.nil))) (CallsK.at (wire_Num p (([] ++ (bei (3 : Nat) ++ [101, 110, 118])) ++ bei e.client ++ bei e.nonce) e.fee he.2 (by simp [bei_length]))) (lts rfl) ?_
  rintro _ L4 ⟨rfl, hL4⟩
  refine SR.lands hL4 ?_
  refine SR_nil ?_
  refine SN.le (l := [(0, _), (3, _), (5, _)]) ?_ (.cons rfl (.cons rfl (.cons rfl (.nil))))
  refine SN_seq ?_
  refine SC_seq ?_
  refine SC_region ?_
  refine SR_pu (RD_move rfl) rfl ?_
  first
    | refine SR_pu (RD_fieldAddr 3 Try.runUnderlying51 rfl rfl Try.sizeOf3 rfl) rfl ?_
    | refine SR_rd (RD_fieldAddrO 3 Try.runUnderlying51 rfl rfl Try.sizeOf3 rfl (by simp <;> omega)) Has.ro rfl ?_
  refine SR_rd (RD_load Try.isAgg3 rfl) (Has.ce rfl) rfl ?_
  refine SR_call Try.call74 (.cons rfl (.cons rfl (.nil))) (CallsK.at (wire_Int p (([] ++ (bei (3 : Nat) ++ [101, 110, 118])) ++ bei e.client ++ bei e.nonce ++ bei e.fee) e.cipher (by simp [bei_length]))) (lts rfl) ?_
  rintro _ L5 ⟨rfl, hL5⟩
  refine SR.lands hL5 ?_
  refine SR_nil ?_
  refine SN.le (l := [(0, _), (5, _)]) ?_ (.cons rfl (.cons rfl (.nil)))
  refine SN_seq ?_
  refine SC_seq ?_
  have heb : ([] ++ (bei (3 : Nat) ++ [101, 110, 118])) ++ bei e.client ++ bei e.nonce ++ bei e.fee ++ bei e.cipher = envB e := by simp [envB, tagB]
  rw [heb]
  refine SC.lands (Lands.op_world (k := k) (s := s)) ?_
  refine SC_drawn (.cons 0 true (.cons 1 true (.cons 2 true (.cons 3 true (.cons 4 true (.cons 5 false (.cons 6 false (.cons 7 true (.nil))))))))) (by kernel_rfl) (by kernel_rfl) ?_
  refine SQ_pu rfl (RD_move rfl) rfl ?_
  first
    | refine SQ_pu rfl (RD_nilCheck rfl) rfl ?_
    | refine SQ_pu rfl (RD_nilCheckF rfl) rfl ?_
  first
    | refine SQ_pu rfl (RD_fieldAddr0 Try.runUnderlying82 rfl rfl Try.sizeOf36 rfl) rfl ?_
    | refine SQ_rd rfl (RD_fieldAddrO 0 Try.runUnderlying82 rfl rfl Try.sizeOf36 rfl (by simp <;> omega)) Has.ro rfl ?_
  refine SQ_rd rfl (RD_load Try.isAgg36 rfl) (Has.ce rfl) rfl ?_
  refine SQ_pu rfl (RD_move rfl) rfl ?_
  refine SQ_call rfl Try.call75 (.cons rfl (.nil)) (CallsK.at (wire_Bytes p (envB e) (by rw [envB, tagB_len]; simp))) (lts rfl) ?_
  rintro _ L6 ⟨a6, c6, rfl, hL6⟩
  refine ⟨.lands hL6 (.h (Has.ce rfl) (.nil)), ?_⟩
  refine SQ.lands hL6 ?_
  refine SQ_call rfl Try.call15 (.cons rfl (.cons rfl (.nil))) (CallsK.at (term_Digest k.t s.l _ _ _ (envB e) rfl rfl hl l' d h1 h2)) (lts rfl) ?_
  rintro _ L7 ⟨rfl, hL7⟩
  refine ⟨.lands hL7 (.w rfl (.nil)), ?_⟩
  refine SQ.lands hL7 ?_
  refine SQ_pu rfl (RD_assign rfl) rfl ?_
  refine SQ_nil ?_
  refine SN.le (l := [(4, _)]) ?_ (.cons rfl (.nil))
  refine SN_seq ?_
  refine SC_ret1 rfl rfl ?_
  exact ⟨rfl, (close_world (k := k) (l := l') (S := s.S)).trans .fin⟩

theorem blok_Digest {W : World} {F : List HProp} [Abs F] (k : WK) (s : WS) (b : BlkD) {cs ds : List Value} [HasRow F b.by_.a cs] [HasRow F b.envs.a ds] (hcs : cs = b.by_.l.map intV) (hds : ds = b.envs.l.flatMap EnvD.cells) (hn : b.by_.l.length = b.by_.n) (hm : b.envs.l.length = b.envs.n) (he : ∀ e ∈ b.envs.l, e.Ok) (hb : b.by_.n ≤ 10000) (hbm : b.envs.n ≤ 10000) (hl : s.l.length ≤ 900000000) :
    CallsK W Try.prog 62 #[.pointer (some ⟨k.p, 0, none⟩), b.val] (At worldI k s :: F) (fun v L => v = .int .i64 (blkD s.l b.pure : Nat) ∧ Lands L (At worldI k ⟨blkL s.l b.pure, s.S⟩ :: F)) := by
  refine CallsK_enter (n := 51) Try.func62 rfl rfl rfl ?_
  subst hcs
  subst hds
  refine SC_seq ?_
  refine SC_region ?_
  refine SR_ox (OX_box rfl rfl) rfl ?_
  rintro _ _ ⟨b3, rfl, rfl⟩
  refine SR_pu (RD_assign rfl) rfl ?_
  refine SR_nil ?_
  refine SN.le (l := [(0, _), (3, _)]) ?_ (.cons rfl (.cons rfl (.nil)))
  refine SN_seq ?_
  refine SC_seq ?_
  refine SC_region ?_
  first
    | refine SR_pu (RD_fieldAddr0 Try.runUnderlying58 rfl rfl Try.sizeOf3 rfl) rfl ?_
    | refine SR_rd (RD_fieldAddrO 0 Try.runUnderlying58 rfl rfl Try.sizeOf3 rfl (by simp <;> omega)) Has.ro rfl ?_
  refine SR_rd (RD_load Try.isAgg3 rfl) (Has.ce rfl) rfl ?_
  first
    | refine SR_pu (RD_fieldAddr 1 Try.runUnderlying58 rfl rfl Try.sizeOf3 rfl) rfl ?_
    | refine SR_rd (RD_fieldAddrO 1 Try.runUnderlying58 rfl rfl Try.sizeOf3 rfl (by simp <;> omega)) Has.ro rfl ?_
  refine SR_rd (RD_load Try.isAgg3 rfl) (Has.ce rfl) rfl ?_
  first
    | refine SR_pu (RD_fieldAddr 2 Try.runUnderlying58 rfl rfl Try.sizeOf26 rfl) rfl ?_
    | refine SR_rd (RD_fieldAddrO 2 Try.runUnderlying58 rfl rfl Try.sizeOf26 rfl (by simp <;> omega)) Has.ro rfl ?_
  first
    | refine SR_pu (RD_fieldAddr0 Try.runUnderlying26 rfl rfl Try.sizeOf3 rfl) rfl ?_
    | refine SR_rd (RD_fieldAddrO 0 Try.runUnderlying26 rfl rfl Try.sizeOf3 rfl (by simp <;> omega)) Has.ro rfl ?_
  refine SR_rd (RD_load Try.isAgg3 rfl) (Has.ce rfl) rfl ?_
  first
    | refine SR_pu (RD_fieldAddr 2 Try.runUnderlying58 rfl rfl Try.sizeOf26 rfl) rfl ?_
    | refine SR_rd (RD_fieldAddrO 2 Try.runUnderlying58 rfl rfl Try.sizeOf26 rfl (by simp <;> omega)) Has.ro rfl ?_
  first
    | refine SR_pu (RD_fieldAddr 1 Try.runUnderlying26 rfl rfl Try.sizeOf3 rfl) rfl ?_
    | refine SR_rd (RD_fieldAddrO 1 Try.runUnderlying26 rfl rfl Try.sizeOf3 rfl (by simp <;> omega)) Has.ro rfl ?_
  refine SR_rd (RD_load Try.isAgg3 rfl) (Has.ce rfl) rfl ?_
  first
    | refine SR_pu (RD_fieldAddr 2 Try.runUnderlying58 rfl rfl Try.sizeOf26 rfl) rfl ?_
    | refine SR_rd (RD_fieldAddrO 2 Try.runUnderlying58 rfl rfl Try.sizeOf26 rfl (by simp <;> omega)) Has.ro rfl ?_
  first
    | refine SR_pu (RD_fieldAddr 2 Try.runUnderlying26 rfl rfl Try.sizeOf24 rfl) rfl ?_
    | refine SR_rd (RD_fieldAddrO 2 Try.runUnderlying26 rfl rfl Try.sizeOf24 rfl (by simp <;> omega)) Has.ro rfl ?_
  refine SR_rd (RD_load Try.isAgg24 rfl) (Has.ce rfl) rfl ?_
  refine SR_pu (RD_len Try.runUnderlying24 rfl) rfl ?_
  refine SR_ox (OX_lit1 Try.underlying24 Try.type3 rfl rfl rfl rfl (.cons rfl (.cons rfl (.cons rfl (.cons rfl (.cons rfl (.nil)))))) (.cons rfl (.cons rfl (.cons rfl (.cons rfl (.cons rfl (.nil))))))) rfl ?_
  rintro _ _ ⟨b22, rfl, rfl⟩
  refine SR_pu (RD_assign rfl) rfl ?_
  refine SR_nil ?_
  refine SN.le (l := [(0, _), (3, _), (5, _)]) ?_ (.cons rfl (.cons rfl (.cons rfl (.nil))))
  refine SN_seq ?_
  refine SC_seq ?_
  refine SC.lands (lit_row (z := 1) 5 rfl) ?_
  refine SC_region ?_
  refine SR_pu (RD_move rfl) rfl ?_
  first
    | refine SR_pu (RD_fieldAddr 2 Try.runUnderlying58 rfl rfl Try.sizeOf26 rfl) rfl ?_
    | refine SR_rd (RD_fieldAddrO 2 Try.runUnderlying58 rfl rfl Try.sizeOf26 rfl (by simp <;> omega)) Has.ro rfl ?_
  first
    | refine SR_pu (RD_fieldAddr 2 Try.runUnderlying26 rfl rfl Try.sizeOf24 rfl) rfl ?_
    | refine SR_rd (RD_fieldAddrO 2 Try.runUnderlying26 rfl rfl Try.sizeOf24 rfl (by simp <;> omega)) Has.ro rfl ?_
  refine SR_rd (RD_load Try.isAgg24 rfl) (Has.ce rfl) rfl ?_
  refine SR_ox (OX_app 1 Try.underlying24 Try.underlying24 Try.type3 rfl rfl rfl rfl rfl (by first | rfl | simp; done | (simp; omega)) 8 rfl (by omega) (by omega)) rfl ?_
  rintro _ _ ⟨a27, c27, rfl, rfl⟩
  refine SR_pu (RD_assign rfl) rfl ?_
  refine SR_nil ?_
  refine SN.le (l := [(0, _), (3, _), (5, _)]) ?_ (.cons rfl (.cons rfl (.cons rfl (.nil))))
  refine SN_seq ?_
  refine SC_seq ?_
  refine SC_region ?_
  refine SR_pu (RD_move rfl) rfl ?_
  first
    | refine SR_pu (RD_fieldAddr 5 Try.runUnderlying58 rfl rfl Try.sizeOf56 rfl) rfl ?_
    | refine SR_rd (RD_fieldAddrO 5 Try.runUnderlying58 rfl rfl Try.sizeOf56 rfl (by simp <;> omega)) Has.ro rfl ?_
  refine SR_rd (RD_load Try.isAgg56 rfl) (Has.ce rfl) rfl ?_
  refine SR_pu (RD_len Try.runUnderlying56 rfl) rfl ?_
  refine SR_ox (OX_lit1 Try.underlying24 Try.type3 rfl rfl rfl rfl (.cons rfl (.nil)) (.cons rfl (.nil))) rfl ?_
  rintro _ _ ⟨b32, rfl, rfl⟩
  refine SR_ox (OX_app 1 Try.underlying24 Try.underlying24 Try.type3 rfl rfl rfl rfl rfl (by first | rfl | simp; done | (simp; omega)) 8 rfl (by omega) (by omega)) rfl ?_
  rintro _ _ ⟨a33, c33, rfl, rfl⟩
  refine SR_pu (RD_assign rfl) rfl ?_
  refine SR_nil ?_
  refine SN.le (l := [(0, _), (3, _), (5, _)]) ?_ (.cons rfl (.cons rfl (.cons rfl (.nil))))
  refine SN_seq ?_
  refine SC_seq ?_
  refine SC_seq ?_
  refine SC_region ?_
  first
    | refine SR_pu (RD_fieldAddr 5 Try.runUnderlying58 rfl rfl Try.sizeOf56 rfl) rfl ?_
    | refine SR_rd (RD_fieldAddrO 5 Try.runUnderlying58 rfl rfl Try.sizeOf56 rfl (by simp <;> omega)) Has.ro rfl ?_
  refine SR_rd (RD_load Try.isAgg56 rfl) (Has.ce rfl) rfl ?_
  refine SR_pu (RD_len Try.runUnderlying56 rfl) rfl ?_
  refine SR_pu (RD_move rfl) rfl ?_
  refine SR_nil ?_
  refine SN.le (l := [(0, _), (5, _), (35, _), (36, _), (37, _)]) ?_ (.cons rfl (.cons rfl (.cons rfl (.cons rfl (.cons rfl (.nil))))))
  refine SN_seq ?_
  refine SC_block ?_
  have hr0 : [Value.int .i64 b.view, .int .i64 b.author, .int .i64 b.jv, .int .i64 b.jb, .int .i64 (b.by_.n : Nat)] ++ b.by_.l.map intV ++ [Value.int .i64 (b.envs.n : Nat)] = ([b.view, b.author, b.jv, b.jb, ((b.by_.n : Nat) : Int)] ++ b.by_.l ++ [((b.envs.n : Nat) : Int)]).map intV := by simp [intV]
  rw [hr0]
  refine SC_ind (X := Nat × Option Addr × Nat) (fun x => x.1 ≤ b.envs.n) (fun x => b.envs.n - x.1) (fun x => [(0, .pointer (some ⟨k.p, 0, none⟩)), (5, .slice x.2.1 (6 + b.by_.n + x.1) x.2.2), (35, .slice b.envs.a b.envs.n b.envs.c), (36, .int .i64 (b.envs.n : Nat)), (37, .int .i64 (x.1 : Nat))]) (fun x => rowP 3 1 x.2.1 (6 + b.by_.n + x.1) x.2.2 ((([b.view, b.author, b.jv, b.jb, ((b.by_.n : Nat) : Int)] ++ b.by_.l ++ [((b.envs.n : Nat) : Int)]) ++ numsE (digsL s.l (b.envs.l.take x.1)) (b.envs.l.take x.1)).map intV) :: At worldI k ⟨digsL s.l (b.envs.l.take x.1), s.S⟩ :: F) ((0, a33, c33)) (by simp) (.cons rfl (.cons' rfl (by congr 1; omega) (.cons rfl (.cons rfl (.cons rfl (.nil)))))) (by simp only [List.take_zero, numsE, List.map_nil, List.append_nil, digsL, List.foldl_nil]; rw [show 6 + b.by_.n + 0 = 5 + b.by_.n + 1 by omega]; exact .fin) ?_
  intro ⟨i, a, c⟩ hi ih
  dsimp only at hi ih ⊢
  refine SC_seq ?_
  refine SC_region ?_
  refine SR_pu (RD_lss rfl rfl) rfl ?_
  refine SR_nil ?_
  refine SN.le (l := [(0, _), (5, _), (35, _), (36, _), (37, _), (38, _)]) ?_ (.cons rfl (.cons rfl (.cons rfl (.cons rfl (.cons rfl (.cons rfl (.nil)))))))
  refine SN_seq ?_
  refine SC_seq ?_
  refine SC_cond rfl (fun hc38 => ?_) (fun hc38 => ?_)
  · have hin : i < b.envs.n := by simp at hc38; omega
    obtain ⟨e, hx⟩ : ∃ e, b.envs.l[i]? = some e := ⟨_, List.getElem?_eq_getElem (by omega)⟩
    have htk : b.envs.l.take (i + 1) = b.envs.l.take i ++ [e] := by rw [List.take_add_one, hx]; rfl
    have hlen := digsL_len (b.envs.l.take i) s.l
    have htl : (b.envs.l.take i).length ≤ i := by simp; omega
    have hok := he e (List.mem_of_getElem? hx)
    have hsn : digsL s.l (b.envs.l.take (i + 1)) = dput (digsL s.l (b.envs.l.take i)) (envB e) := by rw [htk, digsL_snoc]
    have hnn : numsE (digsL s.l (b.envs.l.take (i + 1))) (b.envs.l.take (i + 1)) = numsE (digsL s.l (b.envs.l.take i)) (b.envs.l.take i) ++ [((dnum (dput (digsL s.l (b.envs.l.take i)) (envB e)) (envB e) : Nat) : Int)] := by
      rw [hsn, htk]
      unfold numsE
      rw [List.map_append]
      congr 1
      exact List.map_congr_left fun x hx => by rw [(Ext.put _ (envB e)).num (digsL_mem hx)]
    refine SC_skip ?_
    refine SN_seq ?_
    refine SC_seq ?_
    refine SC_block ?_
    refine SC_seq ?_
    refine SC_region ?_
    refine SR_rd (RD_ixO (cs := b.envs.l.flatMap EnvD.cells) Try.runUnderlying56 Try.sizeOf51 rfl rfl (by rw [env_len, hm]) (by omega) (by omega)) Has.ro rfl ?_
    refine SR_rd (RD_loadAO (vs := e.cells) (cs := b.envs.l.flatMap EnvD.cells) Try.isAgg51 Try.sizeOf51 rfl rfl (by decide) (fun o v h => by have ho : o < 4 := (List.getElem?_eq_some_iff.1 h).1; rw [show ((i : Nat) : Int).toNat * (3 + 1) + o = i * 4 + o by omega, env_get hx o ho]; exact h)) Has.ro rfl ?_
    refine SR_ox (OX_alloc Try.zeroValue51 rfl) rfl ?_
    rintro _ _ ⟨b7, rfl, rfl⟩
    refine SR_ox0 (OX_stA Try.sizeOf51 rfl rfl rfl rfl) ?_
    rintro _ _ rfl
    refine SR_nil ?_
    refine SN.le (l := [(0, _), (5, _), (7, _), (35, _), (36, _), (37, _)]) ?_ (.cons rfl (.cons rfl (.cons rfl (.cons rfl (.cons rfl (.cons rfl (.nil)))))))
    refine SN_seq ?_
    refine SC_region ?_
    refine SR_pu (RD_move rfl) rfl ?_
    refine SR_pu (RD_move rfl) rfl ?_
    refine SR_rd (RD_loadA Try.isAgg51 Try.sizeOf51 rfl rfl) Has.wh rfl ?_
    refine SR_call Try.call90 (.cons rfl (.cons rfl (.nil))) (CallsK.at (w_EnvDigest k ⟨digsL s.l (b.envs.l.take i), s.S⟩ e hok (by dsimp only; omega) _ _ rfl rfl)) (lts rfl) ?_
    rintro _ L1 ⟨rfl, hL1⟩
    try dsimp only at hL1
    refine SR.lands hL1 ?_
    refine SR_ox (OX_lit1 Try.underlying24 Try.type3 rfl rfl rfl rfl (.cons rfl (.nil)) (.cons rfl (.nil))) rfl ?_
    rintro _ _ ⟨b45, rfl, rfl⟩
    refine SR_ox (OX_app 1 Try.underlying24 Try.underlying24 Try.type3 rfl rfl rfl rfl rfl (by first | rfl | simp; done | (simp; omega)) 8 rfl (by omega) (by omega)) rfl ?_
    rintro _ _ ⟨a46, c46, rfl, rfl⟩
    refine SR_pu (RD_assign rfl) rfl ?_
    refine SR_nil ?_
    refine SN.le (l := [(0, _), (5, _), (35, _), (36, _), (37, _)]) ?_ (.cons rfl (.cons rfl (.cons rfl (.cons rfl (.cons rfl (.nil))))))
    refine SN_block ?_
    refine SN_seq ?_
    refine SC_region ?_
    refine SR_pu (RD_addi rfl rfl (by omega) (by omega)) rfl ?_
    refine SR_pu (RD_move rfl) rfl ?_
    refine SR_nil ?_
    refine SN.le (l := [(0, _), (5, _), (35, _), (36, _), (37, _)]) ?_ (.cons rfl (.cons rfl (.cons rfl (.cons rfl (.cons rfl (.nil))))))
    refine SC_again (ih ((i + 1, a46, c46)) (by dsimp only; omega) (by dsimp only; omega)) (by
      dsimp only
      rw [hnn, ← List.append_assoc, hsn, ← Nat.add_assoc]
      simp only [List.map_append, List.map_cons, List.map_nil, intV]
      exact .fin) (.cons rfl (.cons' rfl (by first | rfl | (congr 1; omega)) (.cons rfl (.cons rfl (.cons' rfl (ie (by dsimp only; omega)) (.nil))))))
  · have hin : i = b.envs.n := by simp at hc38; omega
    subst hin
    have htk : b.envs.l.take b.envs.n = b.envs.l := by rw [← hm, List.take_length]
    rw [htk]
    have hlen := digsL_len b.envs.l s.l
    have hbn : ([b.view, b.author, b.jv, b.jb, ((b.by_.n : Nat) : Int)] ++ b.by_.l ++ [((b.envs.n : Nat) : Int)]) ++ numsE (digsL s.l b.envs.l) b.envs.l = blkN (digsL s.l b.envs.l) b.pure := by simp [blkN, BlkD.pure, hn, hm]
    rw [hbn]
    refine SC_exit rfl ?_
    refine SN_seq ?_
    refine SC_seq ?_
    refine SC_region ?_
    refine SR_pu (RD_move rfl) rfl ?_
    refine SR_pu (RD_move rfl) rfl ?_
    refine SR_call Try.call50 (.cons rfl (.cons rfl (.cons rfl (.nil)))) (CallsK.at (w_Tagged k ⟨digsL s.l b.envs.l, s.S⟩ [98, 108, 111, 99, 107] (blkN (digsL s.l b.envs.l) b.pure) a (6 + b.by_.n + b.envs.n) c rfl (by simp [blkN, BlkD.pure, numsE, hn, hm]; omega) (by simp) (by omega) (by dsimp only; omega) _ _ rfl rfl)) (lts rfl) ?_
    rintro _ L2 ⟨rfl, hL2⟩
    try dsimp only at hL2
    refine SR.lands hL2 ?_
    refine SR_pu (RD_assign rfl) rfl ?_
    refine SR_nil ?_
    refine SN.le (l := [(4, _)]) ?_ (.cons rfl (.nil))
    refine SN_seq ?_
    refine SC_ret1 rfl rfl ?_
    refine ⟨rfl, ?_⟩
    rw [show blkL s.l b.pure = dput (digsL s.l b.envs.l) (tagB [98, 108, 111, 99, 107] (blkN (digsL s.l b.envs.l) b.pure)) from rfl]
    exact .fin

end Go.Proofs.Ytmigjpmadhebfaa
