/- Two blocks have one digest just if they are the same: the statement. -/
import Derived.Test.YtnifaajdiolbjaaBk2
import Derived.Test.YtnifaajdiolbjaaEs
import Derived.Test.YtnifaajdiolbjaaTr6
namespace Go.Proofs.Ytnifaajdiolbjaa
open Go Go.Proofs
set_option maxRecDepth 100000
/-- A block that came in. -/
structure BlkIn (F : List HProp) (b : BlkD) : Prop where
  r1 : HasRow F b.by_.a (b.by_.l.map intV)
  r2 : HasRow F b.envs.a (b.envs.l.flatMap EnvD.cells)
  n1 : b.by_.l.length = b.by_.n
  n2 : b.envs.l.length = b.envs.n
  view : I64 b.view
  author : I64 b.author
  jv : I64 b.jv
  jb : I64 b.jb
  by_ : ∀ x ∈ b.by_.l, I64 x
  envs : ∀ e ∈ b.envs.l, e.Good
theorem BlkIn.good {F : List HProp} {b : BlkD} (h : BlkIn F b) (h1 : b.by_.n ≤ 10000) (h2 : b.envs.n ≤ 10000) : b.pure.Good := ⟨h.view, h.author, h.jv, h.jb, h.by_, h.envs, by show b.by_.l.length ≤ _; rw [h.n1]; exact h1, by show b.envs.l.length ≤ _; rw [h.n2]; exact h2⟩
theorem BlkIn.ok {F : List HProp} {b : BlkD} (h : BlkIn F b) : ∀ e ∈ b.envs.l, e.Ok := fun e he => (h.envs e he).2.2
theorem BlkIn.up {F : List HProp} {A : HProp} {b : BlkD} (h : BlkIn F b) : BlkIn (A :: F) b := ⟨haveI := h.r1; inferInstance, haveI := h.r2; inferInstance, h.n1, h.n2, h.view, h.author, h.jv, h.jb, h.by_, h.envs⟩
def BlkD.few (b : BlkD) : Bool := decide (((b.by_.n : Nat) : Int) ≤ 50) && decide (((b.envs.n : Nat) : Int) ≤ 30)
theorem pure_eq {x a : BlkD} : x.pure = a.pure ↔ x.view = a.view ∧ x.author = a.author ∧ x.jv = a.jv ∧ x.jb = a.jb ∧ x.by_.l = a.by_.l ∧ x.envs.l = a.envs.l := by simp [BlkD.pure]
theorem dig_iff {l : List (List UInt8)} (hl : l.length ≤ 100000000) {x a : Blk} (hx : x.Good) (ha : a.Good) : ((blkD l x : Nat) : Int) = (blkD (blkL l x) a : Nat) ↔ x = a := by
  have e1 : Ext (digsL l x.envs) (blkL l x) := Ext.put _ _
  have e2 : Ext (digsL (blkL l x) a.envs) (blkL (blkL l x) a) := Ext.put _ _
  have e3 : Ext (blkL l x) (blkL (blkL l x) a) := blkL_ext _ _
  have b1 : blkB (blkL (blkL l x) a) x = blkB (digsL l x.envs) x := blkB_ext (e1.trans e3) fun e he => digsL_mem he
  have b2 : blkB (blkL (blkL l x) a) a = blkB (digsL (blkL l x) a.envs) a := blkB_ext e2 fun e he => digsL_mem he
  have m1 : blkB (digsL l x.envs) x ∈ blkL l x := dput_mem _ _
  have n1 : blkD l x = dnum (blkL (blkL l x) a) (blkB (blkL (blkL l x) a) x) := by rw [b1, e3.num m1]; rfl
  have n2 : blkD (blkL l x) a = dnum (blkL (blkL l x) a) (blkB (blkL (blkL l x) a) a) := by rw [b2]; rfl
  have l1 := blkL_len l x
  have l2 := blkL_len (blkL l x) a
  have hne := hx.ne
  have hna := ha.ne
  constructor
  · intro h
    have h2 : dnum (blkL (blkL l x) a) (blkB (blkL (blkL l x) a) x) = dnum (blkL (blkL l x) a) (blkB (blkL (blkL l x) a) a) := by rw [← n1, ← n2]; omega
    have h3 := dnum_inj (by rw [b1]; exact e3.mem m1) h2
    exact blkB_inj (by omega) hx ha (fun e he => e3.mem (e1.mem (digsL_mem he))) h3
  · rintro rfl
    rw [n1, n2]
theorem set_fee {l : List EnvD} {i : Nat} {e : EnvD} (h : l[i]? = some e) (v : Int) : (l.flatMap EnvD.cells).set (i * 4 + 2) (.int .u64 v) = (l.set i ⟨e.client, e.nonce, v, e.cipher⟩).flatMap EnvD.cells := by
  induction l generalizing i with
  | nil => simp at h
  | cons x l ih =>
    cases i with
    | zero => simp at h; subst h; rfl
    | succ i =>
      have := ih (i := i) (by simpa using h)
      rw [List.flatMap_cons, show (i + 1) * 4 + 2 = x.cells.length + (i * 4 + 2) by rw [EnvD.cells_len]; omega, List.set_append_right _ _ (by omega), Nat.add_sub_cancel_left, this]
      rfl
theorem bxor_u64 (a b : Int) : 0 ≤ bxor .u64 a b ∧ bxor .u64 a b < 18446744073709551616 := by
  unfold bxor
  rw [IntKind.wrap_u64]
  omega
theorem blk_get {l : List BlkD} {i : Nat} {b : BlkD} (h : l[i]? = some b) (o : Nat) (ho : o < 6) : (l.flatMap BlkD.cells)[i * 6 + o]? = b.cells[o]? := by
  induction l generalizing i with
  | nil => simp at h
  | cons x l ih =>
    cases i with
    | zero => simp at h; subst h; rw [List.flatMap_cons, Nat.zero_mul, Nat.zero_add, List.getElem?_append_left (by show o < 6; exact ho)]
    | succ i =>
      rw [List.flatMap_cons, List.getElem?_append_right (by show 6 ≤ _; omega), show x.cells.length = 6 from rfl, show (i + 1) * 6 + o - 6 = i * 6 + o by omega]
      exact ih (by simpa using h)
structure UX (F : List HProp) (a b : BlkD) (x : BlkD × List HProp) : Prop where
  abs : Abs x.2
  lands : Lands x.2 F
  c : BlkIn x.2 x.1
  a : BlkIn x.2 a
  b : BlkIn x.2 b
  m1 : x.1.by_.n ≤ 51
  m2 : x.1.envs.n ≤ 31

theorem blok_Few {W : World} {F : List HProp} [Abs F] (b : BlkD) :
    CallsK W Try.prog 15 #[b.val] (F) (fun v L => v = .bool b.few ∧ Lands L F) := by
  refine CallsK_enter (n := 14) Try.func15 rfl rfl rfl ?_
  refine SC_seq ?_
  refine SC_region ?_
  refine SR_ox (OX_box rfl rfl) rfl ?_
  rintro _ _ ⟨b1, rfl, rfl⟩
  refine SR_pu (RD_assign rfl) rfl ?_
  refine SR_nil ?_
  refine SN.le (l := [(1, _)]) ?_ (.cons rfl (.nil))
  refine SN_seq ?_
  refine SC_seq ?_
  refine SC_region ?_
  first
    | refine SR_pu (RD_fieldAddr 2 Try.runUnderlying33 rfl rfl Try.sizeOf30 rfl) rfl ?_
    | refine SR_rd (RD_fieldAddrO 2 Try.runUnderlying33 rfl rfl Try.sizeOf30 rfl (by simp <;> omega)) Has.ro rfl ?_
  first
    | refine SR_pu (RD_fieldAddr 2 Try.runUnderlying30 rfl rfl Try.sizeOf22 rfl) rfl ?_
    | refine SR_rd (RD_fieldAddrO 2 Try.runUnderlying30 rfl rfl Try.sizeOf22 rfl (by simp <;> omega)) Has.ro rfl ?_
  refine SR_rd (RD_load Try.isAgg22 rfl) (Has.ce rfl) rfl ?_
  refine SR_pu (RD_len Try.runUnderlying22 rfl) rfl ?_
  refine SR_pu (RD_leq rfl rfl) rfl ?_
  refine SR_pu (RD_move rfl) rfl ?_
  refine SR_guard rfl rfl (fun hg1_5 => ?_) (fun hg1_5 => ?_)
  · refine SR_yes rfl rfl (hg1_5) ?_
    first
      | refine SR_pu (RD_fieldAddr 5 Try.runUnderlying33 rfl rfl Try.sizeOf31 rfl) rfl ?_
      | refine SR_rd (RD_fieldAddrO 5 Try.runUnderlying33 rfl rfl Try.sizeOf31 rfl (by simp <;> omega)) Has.ro rfl ?_
    refine SR_yes rfl rfl (hg1_5) ?_
    refine SR_rd (RD_load Try.isAgg31 rfl) (Has.ce rfl) rfl ?_
    refine SR_yes rfl rfl (hg1_5) ?_
    refine SR_pu (RD_len Try.runUnderlying31 rfl) rfl ?_
    refine SR_yes rfl rfl (hg1_5) ?_
    refine SR_pu (RD_leq rfl rfl) rfl ?_
    refine SR_pu (RD_pick_t rfl (hg1_5) rfl) rfl ?_
    refine SR_pu (RD_assign rfl) rfl ?_
    refine SR_nil ?_
    refine SN.le (l := [(2, _)]) ?_ (.cons rfl (.nil))
    refine SN_seq ?_
    refine SC_ret1 rfl rfl ?_
    refine ⟨congrArg Value.bool ?_, .fin⟩
    unfold BlkD.few
    rw [show decide (((b.by_.n : Nat) : Int) ≤ 50) = true from hg1_5]
    rfl
  · refine SR_no rfl rfl (hg1_5) (lts rfl) ?_
    refine SR_no rfl rfl (hg1_5) (lts rfl) ?_
    refine SR_no rfl rfl (hg1_5) (lts rfl) ?_
    refine SR_no rfl rfl (hg1_5) (lts rfl) ?_
    refine SR_pu (RD_pick_f rfl (hg1_5) rfl) rfl ?_
    refine SR_pu (RD_assign rfl) rfl ?_
    refine SR_nil ?_
    refine SN.le (l := [(2, _)]) ?_ (.cons rfl (.nil))
    refine SN_seq ?_
    refine SC_ret1 rfl rfl ?_
    refine ⟨congrArg Value.bool ?_, .fin⟩
    unfold BlkD.few
    rw [show decide (((b.by_.n : Nat) : Int) ≤ 50) = false from hg1_5]
    rfl

theorem law_BlokUnlike {W : World} {F : List HProp} [Abs F] (a b : BlkD) (ha : BlkIn F a) (hb : BlkIn F b) (how to_ : Int) (ht : I64 to_) :
    CallsK W Try.prog 4 #[a.val, b.val, .int .i64 how, .int .i64 to_] (F) (fun v L => v = .bool true ∧ Lands L F) := by
  refine CallsK_enter (n := 162) Try.func4 rfl rfl rfl ?_
  refine SC_seq ?_
  refine SC_region ?_
  refine SR_ox (OX_box rfl rfl) rfl ?_
  rintro _ _ ⟨b4, rfl, rfl⟩
  refine SR_ox (OX_box rfl rfl) rfl ?_
  rintro _ _ ⟨b5, rfl, rfl⟩
  refine SR_pu (RD_assign rfl) rfl ?_
  refine SR_nil ?_
  refine SN.le (l := [(2, _), (3, _), (4, _), (5, _)]) ?_ (.cons rfl (.cons rfl (.cons rfl (.cons rfl (.nil)))))
  refine SN_seq ?_
  refine SC_seq ?_
  refine SC_seq ?_
  refine SC_region ?_
  refine SR_rd (RD_loadA Try.isAgg33 Try.sizeOf33 rfl rfl) Has.wh rfl ?_
  refine SR_call Try.call15 (.cons rfl (.nil)) (blok_Few a) (lts rfl) ?_
  rintro _ L1 ⟨rfl, hL1⟩
  refine SR.lands hL1 ?_
  refine SR_pu (RD_not rfl) rfl ?_
  refine SR_pu (RD_move rfl) rfl ?_
  refine SR_guard rfl rfl (fun hg1_3 => ?_) (fun hg1_3 => ?_)
  · refine SR_yes rfl rfl (hg1_3) ?_
    refine SR_rd (RD_loadA Try.isAgg33 Try.sizeOf33 rfl rfl) Has.wh rfl ?_
    refine SR_yes rfl rfl (hg1_3) ?_
    refine SR_call Try.call15 (.cons rfl (.nil)) (blok_Few b) (lts rfl) ?_
    rintro _ L2 ⟨rfl, hL2⟩
    refine SR.lands hL2 ?_
    refine SR_yes rfl rfl (hg1_3) ?_
    refine SR_pu (RD_not rfl) rfl ?_
    refine SR_pu (RD_pick_f rfl (hg1_3) rfl) rfl ?_
    refine SR_nil ?_
    refine SN.le (l := [(2, _), (3, _), (4, _), (5, _), (21, _)]) ?_ (.cons rfl (.cons rfl (.cons rfl (.cons rfl (.cons rfl (.nil))))))
    refine SN_seq ?_
    refine SC_cond rfl (fun hc21 => ?_) (fun hc21 => ?_)
    · refine SC_seq ?_
      refine SC_region ?_
      refine SR_call Try.call14 (.nil) (blok_awake) (lts rfl) ?_
      rintro _ L9 ⟨rfl, hL9⟩
      refine SR.lands hL9 ?_
      refine SR_pu (RD_assign rfl) rfl ?_
      refine SR_nil ?_
      refine SN.le (l := [(8, _)]) ?_ (.cons rfl (.nil))
      refine SN_seq ?_
      refine SC_ret1 rfl rfl ?_
      exact ⟨rfl, .fin⟩
    · have fa : (a.by_.n ≤ 50 ∧ a.envs.n ≤ 30) := by
        have h := hg1_3
        simp [BlkD.few] at h
        omega
      have fb : (b.by_.n ≤ 50 ∧ b.envs.n ≤ 30) := by
        have h := hc21
        simp [BlkD.few] at h
        omega
      haveI := ha.r1
      haveI := ha.r2
      have ha1 := ha.n1
      have ha2 := ha.n2
      refine SC_skip ?_
      refine SN_seq ?_
      refine SC_seq ?_
      refine SC_region ?_
      refine SR_call Try.call16 (.cons rfl (.nil)) (enve_New 1) (lts rfl) ?_
      rintro _ L3 ⟨k, rfl, hL3⟩
      refine SR.lands hL3 ?_
      refine SR_pu (RD_assign rfl) rfl ?_
      refine SR_nil ?_
      refine SN.le (l := [(2, _), (3, _), (4, _), (5, _), (9, _)]) ?_ (.cons rfl (.cons rfl (.cons rfl (.cons rfl (.cons rfl (.nil))))))
      refine SN_seq ?_
      refine SC_seq ?_
      refine SC_seq ?_
      refine SC_region ?_
      refine SR_pu (RD_move rfl) rfl ?_
      refine SR_pu (RD_eqlP Try.underlying35 rfl rfl) rfl ?_
      refine SR_nil ?_
      refine SN.le (l := [(2, _), (3, _), (4, _), (5, _), (9, _), (25, _)]) ?_ (.cons rfl (.cons rfl (.cons rfl (.cons rfl (.cons rfl (.cons rfl (.nil)))))))
      refine SN_seq ?_
      refine SC_cond_false rfl (rfl) ?_
      refine SC_skip ?_
      refine SN_seq ?_
      refine SC_seq ?_
      refine SC_region ?_
      refine SR_rd (RD_loadA Try.isAgg33 Try.sizeOf33 rfl rfl) Has.wh rfl ?_
      refine SR_ox (OX_alloc Try.zeroValue33 rfl) rfl ?_
      rintro _ _ ⟨b10, rfl, rfl⟩
      refine SR_ox0 (OX_stA (vs := a.cells) Try.sizeOf33 rfl rfl rfl rfl) ?_
      rintro _ _ rfl
      refine SR_nil ?_
      refine SN.le (l := [(2, _), (3, _), (4, _), (5, _), (9, _), (10, _)]) ?_ (.cons rfl (.cons rfl (.cons rfl (.cons rfl (.cons rfl (.cons rfl (.nil)))))))
      refine SN_seq ?_
      refine SC_seq ?_
      refine SC_seq ?_
      change SC _ _ _ _ _ _ (pt b10 (.cells [.int .i64 a.view, .int .i64 a.author, .int .i64 a.jv, .int .i64 a.jb, .slice a.by_.a a.by_.n a.by_.c, .slice a.envs.a a.envs.n a.envs.c].toArray 33) :: _)
      refine SC_region ?_
      refine SR_pu (RD_move rfl) rfl ?_
      refine SR_pu (RD_mask 3 rfl rfl rfl (by decide) 8 rfl) rfl ?_
      refine SR_nil ?_
      refine SN.le (l := [(2, _), (3, _), (4, _), (5, _), (9, _), (10, _), (28, _)]) ?_ (.cons rfl (.cons rfl (.cons rfl (.cons rfl (.cons rfl (.cons rfl (.cons rfl (.nil))))))))
      refine SN_seq ?_
      refine SC_join (X := {x : BlkD × List HProp // UX F a b x}) (fun x => [(4, .pointer (some ⟨b4, 0, none⟩)), (5, .pointer (some ⟨b5, 0, none⟩)), (9, .pointer (some ⟨k.p, 0, none⟩)), (10, .pointer (some ⟨b10, 0, none⟩))]) (fun x => pt b4 (.cells a.cells.toArray 33) :: pt b5 (.cells b.cells.toArray 33) :: pt b10 (.cells x.1.1.cells.toArray 33) :: At worldI k ⟨[], []⟩ :: x.1.2) (fun ⟨⟨C, G⟩, hX⟩ => ?_) (fun J0 => ?_)
      · dsimp only at hX ⊢
        haveI := hX.abs
        have hG := hX.lands
        have hm1 : C.by_.n ≤ 51 := hX.m1
        have hm2 : C.envs.n ≤ 31 := hX.m2
        haveI : HasRow G a.by_.a (a.by_.l.map intV) := hX.a.r1
        haveI : HasRow G a.envs.a (a.envs.l.flatMap EnvD.cells) := hX.a.r2
        clear ha hb
        refine SN_seq ?_
        refine SC_seq ?_
        refine SC_seq ?_
        refine SC_region ?_
        refine SR_rd (RD_loadA Try.isAgg33 Try.sizeOf33 rfl rfl) Has.wh rfl ?_
        refine SR_rd (RD_loadA Try.isAgg33 Try.sizeOf33 rfl rfl) Has.wh rfl ?_
        refine SR_rd (RD_loadA Try.isAgg33 Try.sizeOf33 rfl rfl) Has.wh rfl ?_
        refine SR_ox (OX_lit Try.underlying41 Try.type33 rfl rfl rfl rfl (.cons rfl (.cons rfl (.cons rfl (.nil)))) (.cons rfl rfl (.cons rfl rfl (.cons rfl rfl (.nil))))) rfl ?_
        rintro _ _ ⟨b99, rfl, rfl⟩
        refine SR_pu (RD_len Try.runUnderlying41 rfl) rfl ?_
        refine SR_pu (RD_move rfl) rfl ?_
        refine SR_nil ?_
        refine SN.le (l := [(4, _), (9, _), (99, _), (100, _), (101, _)]) ?_ (.cons rfl (.cons rfl (.cons rfl (.cons rfl (.cons rfl (.nil))))))
        refine SN_seq ?_
        refine SC_block ?_
        refine SC_ind (X := Nat × List (List UInt8)) (fun x => x.1 ≤ 3 ∧ x.2.length ≤ 1000 * x.1) (fun x => 3 - x.1) (fun x => [(4, .pointer (some ⟨b4, 0, none⟩)), (9, .pointer (some ⟨k.p, 0, none⟩)), (99, .slice (some ⟨b99, 0, none⟩) 3 3), (100, .int .i64 3), (101, .int .i64 (x.1 : Nat))]) (fun x => pt b4 (.cells a.cells.toArray 33) :: pt b99 (.cells ([b, C, a].flatMap BlkD.cells).toArray 33) :: At worldI k ⟨x.2, []⟩ :: G) ((0, [])) (⟨by simp, by simp⟩) (.cons rfl (.cons rfl (.cons rfl (.cons rfl (.cons rfl (.nil)))))) ((show Lands _ (pt b4 (.cells a.cells.toArray 33) :: pt b99 (.cells (b.cells ++ (C.cells ++ (a.cells ++ []))).toArray 33) :: At worldI k ⟨[], []⟩ :: G) from .fin)) ?_
        intro ⟨i, l⟩ hi ih
        obtain ⟨hi1, hi2⟩ := hi
        dsimp only at hi1 hi2 ih ⊢
        refine SC_seq ?_
        refine SC_region ?_
        refine SR_pu (RD_lss rfl rfl) rfl ?_
        refine SR_nil ?_
        refine SN.le (l := [(4, _), (9, _), (99, _), (100, _), (101, _), (102, _)]) ?_ (.cons rfl (.cons rfl (.cons rfl (.cons rfl (.cons rfl (.cons rfl (.nil)))))))
        refine SN_seq ?_
        refine SC_seq ?_
        refine SC_cond rfl (fun hc102 => ?_) (fun hc102 => ?_)
        · have hin : i < 3 := by simp at hc102; omega
          obtain ⟨x, hx⟩ : ∃ x, [b, C, a][i]? = some x := ⟨_, List.getElem?_eq_getElem (by simp; omega)⟩
          have hxm : x = b ∨ x = C ∨ x = a := by simpa using List.mem_of_getElem? hx
          have hxi : BlkIn G x := by rcases hxm with h | h | h <;> rw [h]; exact hX.b; exact hX.c; exact hX.a
          have hx1 : x.by_.n ≤ 51 := by rcases hxm with h | h | h <;> rw [h] <;> omega
          have hx2 : x.envs.n ≤ 31 := by rcases hxm with h | h | h <;> rw [h] <;> omega
          haveI := hxi.r1
          haveI := hxi.r2
          clear hxm
          have hll1 := blkL_len l x.pure
          have hll2 := blkL_len (blkL l x.pure) a.pure
          have hle1 : x.pure.envs.length = x.envs.n := hxi.n2
          have hle2 : a.pure.envs.length = a.envs.n := hX.a.n2
          refine SC_skip ?_
          refine SN_seq ?_
          refine SC_seq ?_
          refine SC_block ?_
          refine SC_seq ?_
          refine SC_region ?_
          refine SR_rd (RD_ixO (i := (i : Nat)) (cs := ([b, C, a].flatMap BlkD.cells)) Try.runUnderlying41 Try.sizeOf33 rfl rfl (by simp [BlkD.cells]) (by omega) (by omega)) Has.ro rfl ?_
          refine SR_rd (RD_loadAO (vs := x.cells) (cs := ([b, C, a].flatMap BlkD.cells)) Try.isAgg33 Try.sizeOf33 rfl rfl (by show 1 ≤ 6; decide) (fun o v h => by have ho : o < 6 := (List.getElem?_eq_some_iff.1 h).1; rw [show ((i : Nat) : Int).toNat * (5 + 1) + o = i * 6 + o by omega, blk_get hx o ho]; exact h)) Has.ro rfl ?_
          refine SR_ox (OX_alloc Try.zeroValue33 rfl) rfl ?_
          rintro _ _ ⟨b12, rfl, rfl⟩
          refine SR_ox0 (OX_stA (vs := x.cells) Try.sizeOf33 rfl rfl rfl rfl) ?_
          rintro _ _ rfl
          refine SR_nil ?_
          refine SN.le (l := [(4, _), (9, _), (12, _), (99, _), (100, _), (101, _)]) ?_ (.cons rfl (.cons rfl (.cons rfl (.cons rfl (.cons rfl (.cons rfl (.nil)))))))
          refine SN_seq ?_
          refine SC_seq ?_
          refine SC_join (X := Unit) (fun x0 => [(4, .pointer (some ⟨b4, 0, none⟩)), (9, .pointer (some ⟨k.p, 0, none⟩)), (12, .pointer (some ⟨b12, 0, none⟩)), (13, .bool (decide (x.pure = a.pure))), (99, .slice (some ⟨b99, 0, none⟩) 3 3), (100, .int .i64 3), (101, .int .i64 (i : Nat))]) (fun x0 => pt b12 (.cells x.cells.toArray 33) :: pt b4 (.cells a.cells.toArray 33) :: pt b99 (.cells ([b, C, a].flatMap BlkD.cells).toArray 33) :: At worldI k ⟨l, []⟩ :: G) (fun _ => ?_) (fun J0 => ?_)
          · refine SN_seq ?_
            refine SC_seq ?_
            refine SC_drawn (.cons 0 true (.cons 1 true (.cons 3 true (.cons 4 true (.cons 7 true (.cons 2 false (.cons 5 false (.cons 6 true (.cons 8 true (.nil)))))))))) (by kernel_rfl) (by kernel_rfl) ?_
            refine SQ_pu rfl (RD_move rfl) rfl ?_
            refine SQ_rd rfl (RD_loadA Try.isAgg33 Try.sizeOf33 rfl rfl) Has.wh rfl ?_
            refine SQ_pu rfl (RD_move rfl) rfl ?_
            refine SQ_rd rfl (RD_loadA Try.isAgg33 Try.sizeOf33 rfl rfl) Has.wh rfl ?_
            refine SQ_pu rfl (RD_move rfl) rfl ?_
            refine SQ_call rfl Try.call19 (.cons rfl (.cons rfl (.nil))) (CallsK.at (blok_Digest k ⟨l, []⟩ x rfl rfl hxi.n1 hxi.n2 hxi.ok (by omega) (by omega) (by dsimp only; omega))) (lts rfl) ?_
            rintro _ L6 ⟨rfl, hL6⟩
            refine ⟨.lands hL6 (.h Has.wh (.w rfl (.nil))), ?_⟩
            try dsimp only at hL6
            refine SQ.lands hL6 ?_
            refine SQ_call rfl Try.call19 (.cons rfl (.cons rfl (.nil))) (CallsK.at (blok_Digest k ⟨blkL l x.pure, []⟩ a rfl rfl hX.a.n1 hX.a.n2 hX.a.ok (by omega) (by omega) (by dsimp only; omega))) (lts rfl) ?_
            rintro _ L7 ⟨rfl, hL7⟩
            refine ⟨.lands hL7 (.w rfl (.h Has.wh (.nil))), ?_⟩
            try dsimp only at hL7
            refine SQ.lands hL7 ?_
            refine SQ_pu rfl (RD_eql rfl rfl) rfl ?_
            refine SQ_pu rfl (RD_neqB Try.underlying4 rfl rfl) rfl ?_
            refine SQ_nil ?_
            refine SN.le (l := [(4, _), (9, _), (99, _), (100, _), (101, _), (159, _)]) ?_ (.cons rfl (.cons rfl (.cons rfl (.cons rfl (.cons rfl (.cons rfl (.nil)))))))
            refine SN_seq ?_
            refine SC_cond_false rfl (by have h := dig_iff (l := l) (by omega) (hxi.good (by omega) (by omega)) (hX.a.good (by omega) (by omega)); by_cases e : x.pure = a.pure; (rw [decide_eq_true e, decide_eq_true (h.2 e)]; rfl); (rw [decide_eq_false e, decide_eq_false fun q => e (h.1 q)]; rfl)) ?_
            refine SC_skip ?_
            refine SN_block ?_
            refine SN_seq ?_
            refine SC_region ?_
            refine SR_pu (RD_addi rfl rfl (by omega) (by omega)) rfl ?_
            refine SR_pu (RD_move rfl) rfl ?_
            refine SR_nil ?_
            refine SN.le (l := [(4, _), (9, _), (99, _), (100, _), (101, _)]) ?_ (.cons rfl (.cons rfl (.cons rfl (.cons rfl (.cons rfl (.nil))))))
            refine SC_again (ih ((i + 1, blkL (blkL l x.pure) a.pure)) (⟨by dsimp only; omega, by dsimp only; omega⟩) (by dsimp only; omega)) (.fin) (.cons rfl (.cons rfl (.cons rfl (.cons rfl (.cons' rfl (ie (by dsimp only; omega)) (.nil))))))
          · refine SC_region ?_
            first
              | refine SR_pu (RD_fieldAddr0 Try.runUnderlying33 rfl rfl Try.sizeOf3 rfl) rfl ?_
              | refine SR_rd (RD_fieldAddrO 0 Try.runUnderlying33 rfl rfl Try.sizeOf3 rfl (by simp <;> omega)) Has.ro rfl ?_
            refine SR_rd (RD_load Try.isAgg3 rfl) (Has.ce rfl) rfl ?_
            first
              | refine SR_pu (RD_fieldAddr0 Try.runUnderlying33 rfl rfl Try.sizeOf3 rfl) rfl ?_
              | refine SR_rd (RD_fieldAddrO 0 Try.runUnderlying33 rfl rfl Try.sizeOf3 rfl (by simp <;> omega)) Has.ro rfl ?_
            refine SR_rd (RD_load Try.isAgg3 rfl) (Has.ce rfl) rfl ?_
            refine SR_pu (RD_eql rfl rfl) rfl ?_
            refine SR_pu (RD_move rfl) rfl ?_
            refine SR_guard rfl rfl (fun hg26_5 => ?_) (fun hg26_5 => ?_)
            · refine SR_yes rfl rfl (hg26_5) ?_
              first
                | refine SR_pu (RD_fieldAddr 1 Try.runUnderlying33 rfl rfl Try.sizeOf3 rfl) rfl ?_
                | refine SR_rd (RD_fieldAddrO 1 Try.runUnderlying33 rfl rfl Try.sizeOf3 rfl (by simp <;> omega)) Has.ro rfl ?_
              refine SR_yes rfl rfl (hg26_5) ?_
              refine SR_rd (RD_load Try.isAgg3 rfl) (Has.ce rfl) rfl ?_
              refine SR_yes rfl rfl (hg26_5) ?_
              first
                | refine SR_pu (RD_fieldAddr 1 Try.runUnderlying33 rfl rfl Try.sizeOf3 rfl) rfl ?_
                | refine SR_rd (RD_fieldAddrO 1 Try.runUnderlying33 rfl rfl Try.sizeOf3 rfl (by simp <;> omega)) Has.ro rfl ?_
              refine SR_yes rfl rfl (hg26_5) ?_
              refine SR_rd (RD_load Try.isAgg3 rfl) (Has.ce rfl) rfl ?_
              refine SR_yes rfl rfl (hg26_5) ?_
              refine SR_pu (RD_eql rfl rfl) rfl ?_
              refine SR_pu (RD_pick_t rfl (hg26_5) rfl) rfl ?_
              refine SR_pu (RD_move rfl) rfl ?_
              refine SR_guard rfl rfl (fun hg26_12 => ?_) (fun hg26_12 => ?_)
              · refine SR_yes rfl rfl (hg26_12) ?_
                first
                  | refine SR_pu (RD_fieldAddr 2 Try.runUnderlying33 rfl rfl Try.sizeOf30 rfl) rfl ?_
                  | refine SR_rd (RD_fieldAddrO 2 Try.runUnderlying33 rfl rfl Try.sizeOf30 rfl (by simp <;> omega)) Has.ro rfl ?_
                refine SR_yes rfl rfl (hg26_12) ?_
                first
                  | refine SR_pu (RD_fieldAddr0 Try.runUnderlying30 rfl rfl Try.sizeOf3 rfl) rfl ?_
                  | refine SR_rd (RD_fieldAddrO 0 Try.runUnderlying30 rfl rfl Try.sizeOf3 rfl (by simp <;> omega)) Has.ro rfl ?_
                refine SR_yes rfl rfl (hg26_12) ?_
                refine SR_rd (RD_load Try.isAgg3 rfl) (Has.ce rfl) rfl ?_
                refine SR_yes rfl rfl (hg26_12) ?_
                first
                  | refine SR_pu (RD_fieldAddr 2 Try.runUnderlying33 rfl rfl Try.sizeOf30 rfl) rfl ?_
                  | refine SR_rd (RD_fieldAddrO 2 Try.runUnderlying33 rfl rfl Try.sizeOf30 rfl (by simp <;> omega)) Has.ro rfl ?_
                refine SR_yes rfl rfl (hg26_12) ?_
                first
                  | refine SR_pu (RD_fieldAddr0 Try.runUnderlying30 rfl rfl Try.sizeOf3 rfl) rfl ?_
                  | refine SR_rd (RD_fieldAddrO 0 Try.runUnderlying30 rfl rfl Try.sizeOf3 rfl (by simp <;> omega)) Has.ro rfl ?_
                refine SR_yes rfl rfl (hg26_12) ?_
                refine SR_rd (RD_load Try.isAgg3 rfl) (Has.ce rfl) rfl ?_
                refine SR_yes rfl rfl (hg26_12) ?_
                refine SR_pu (RD_eql rfl rfl) rfl ?_
                refine SR_pu (RD_pick_t rfl (hg26_12) rfl) rfl ?_
                refine SR_pu (RD_move rfl) rfl ?_
                refine SR_guard rfl rfl (fun hg26_21 => ?_) (fun hg26_21 => ?_)
                · refine SR_yes rfl rfl (hg26_21) ?_
                  first
                    | refine SR_pu (RD_fieldAddr 2 Try.runUnderlying33 rfl rfl Try.sizeOf30 rfl) rfl ?_
                    | refine SR_rd (RD_fieldAddrO 2 Try.runUnderlying33 rfl rfl Try.sizeOf30 rfl (by simp <;> omega)) Has.ro rfl ?_
                  refine SR_yes rfl rfl (hg26_21) ?_
                  first
                    | refine SR_pu (RD_fieldAddr 1 Try.runUnderlying30 rfl rfl Try.sizeOf3 rfl) rfl ?_
                    | refine SR_rd (RD_fieldAddrO 1 Try.runUnderlying30 rfl rfl Try.sizeOf3 rfl (by simp <;> omega)) Has.ro rfl ?_
                  refine SR_yes rfl rfl (hg26_21) ?_
                  refine SR_rd (RD_load Try.isAgg3 rfl) (Has.ce rfl) rfl ?_
                  refine SR_yes rfl rfl (hg26_21) ?_
                  first
                    | refine SR_pu (RD_fieldAddr 2 Try.runUnderlying33 rfl rfl Try.sizeOf30 rfl) rfl ?_
                    | refine SR_rd (RD_fieldAddrO 2 Try.runUnderlying33 rfl rfl Try.sizeOf30 rfl (by simp <;> omega)) Has.ro rfl ?_
                  refine SR_yes rfl rfl (hg26_21) ?_
                  first
                    | refine SR_pu (RD_fieldAddr 1 Try.runUnderlying30 rfl rfl Try.sizeOf3 rfl) rfl ?_
                    | refine SR_rd (RD_fieldAddrO 1 Try.runUnderlying30 rfl rfl Try.sizeOf3 rfl (by simp <;> omega)) Has.ro rfl ?_
                  refine SR_yes rfl rfl (hg26_21) ?_
                  refine SR_rd (RD_load Try.isAgg3 rfl) (Has.ce rfl) rfl ?_
                  refine SR_yes rfl rfl (hg26_21) ?_
                  refine SR_pu (RD_eql rfl rfl) rfl ?_
                  refine SR_pu (RD_pick_t rfl (hg26_21) rfl) rfl ?_
                  refine SR_pu (RD_move rfl) rfl ?_
                  refine SR_guard rfl rfl (fun hg26_30 => ?_) (fun hg26_30 => ?_)
                  · refine SR_yes rfl rfl (hg26_30) ?_
                    first
                      | refine SR_pu (RD_fieldAddr 2 Try.runUnderlying33 rfl rfl Try.sizeOf30 rfl) rfl ?_
                      | refine SR_rd (RD_fieldAddrO 2 Try.runUnderlying33 rfl rfl Try.sizeOf30 rfl (by simp <;> omega)) Has.ro rfl ?_
                    refine SR_yes rfl rfl (hg26_30) ?_
                    first
                      | refine SR_pu (RD_fieldAddr 2 Try.runUnderlying30 rfl rfl Try.sizeOf22 rfl) rfl ?_
                      | refine SR_rd (RD_fieldAddrO 2 Try.runUnderlying30 rfl rfl Try.sizeOf22 rfl (by simp <;> omega)) Has.ro rfl ?_
                    refine SR_yes rfl rfl (hg26_30) ?_
                    refine SR_rd (RD_load Try.isAgg22 rfl) (Has.ce rfl) rfl ?_
                    refine SR_yes rfl rfl (hg26_30) ?_
                    first
                      | refine SR_pu (RD_fieldAddr 2 Try.runUnderlying33 rfl rfl Try.sizeOf30 rfl) rfl ?_
                      | refine SR_rd (RD_fieldAddrO 2 Try.runUnderlying33 rfl rfl Try.sizeOf30 rfl (by simp <;> omega)) Has.ro rfl ?_
                    refine SR_yes rfl rfl (hg26_30) ?_
                    first
                      | refine SR_pu (RD_fieldAddr 2 Try.runUnderlying30 rfl rfl Try.sizeOf22 rfl) rfl ?_
                      | refine SR_rd (RD_fieldAddrO 2 Try.runUnderlying30 rfl rfl Try.sizeOf22 rfl (by simp <;> omega)) Has.ro rfl ?_
                    refine SR_yes rfl rfl (hg26_30) ?_
                    refine SR_rd (RD_load Try.isAgg22 rfl) (Has.ce rfl) rfl ?_
                    refine SR_yes rfl rfl (hg26_30) ?_
                    refine SR_call Try.call17 (.cons rfl (.cons rfl (.nil))) (ref_SameInts x.by_.a x.by_.n x.by_.c x.by_.l rfl hxi.n1 a.by_.a a.by_.n a.by_.c a.by_.l rfl hX.a.n1 (by omega)) (lts rfl) ?_
                    rintro _ L4 ⟨rfl, hL4⟩
                    refine SR.lands hL4 ?_
                    refine SR_pu (RD_pick_t rfl (hg26_30) rfl) rfl ?_
                    refine SR_pu (RD_move rfl) rfl ?_
                    refine SR_guard rfl rfl (fun hg26_39 => ?_) (fun hg26_39 => ?_)
                    · refine SR_yes rfl rfl (hg26_39) ?_
                      first
                        | refine SR_pu (RD_fieldAddr 5 Try.runUnderlying33 rfl rfl Try.sizeOf31 rfl) rfl ?_
                        | refine SR_rd (RD_fieldAddrO 5 Try.runUnderlying33 rfl rfl Try.sizeOf31 rfl (by simp <;> omega)) Has.ro rfl ?_
                      refine SR_yes rfl rfl (hg26_39) ?_
                      refine SR_rd (RD_load Try.isAgg31 rfl) (Has.ce rfl) rfl ?_
                      refine SR_yes rfl rfl (hg26_39) ?_
                      first
                        | refine SR_pu (RD_fieldAddr 5 Try.runUnderlying33 rfl rfl Try.sizeOf31 rfl) rfl ?_
                        | refine SR_rd (RD_fieldAddrO 5 Try.runUnderlying33 rfl rfl Try.sizeOf31 rfl (by simp <;> omega)) Has.ro rfl ?_
                      refine SR_yes rfl rfl (hg26_39) ?_
                      refine SR_rd (RD_load Try.isAgg31 rfl) (Has.ce rfl) rfl ?_
                      refine SR_yes rfl rfl (hg26_39) ?_
                      refine SR_call Try.call18 (.cons rfl (.cons rfl (.nil))) (ref_Same14 x.envs.a x.envs.n x.envs.c x.envs.l rfl hxi.n2 a.envs.a a.envs.n a.envs.c a.envs.l rfl hX.a.n2 (by omega)) (lts rfl) ?_
                      rintro _ L5 ⟨rfl, hL5⟩
                      refine SR.lands hL5 ?_
                      refine SR_pu (RD_pick_t rfl (hg26_39) rfl) rfl ?_
                      refine SR_pu (RD_assign rfl) rfl ?_
                      refine SR_nil ?_
                      refine SN.le (l := [(4, _), (9, _), (12, _), (13, _), (99, _), (100, _), (101, _)]) ?_ (.cons rfl (.cons rfl (.cons rfl (.cons rfl (.cons rfl (.cons rfl (.cons rfl (.nil))))))))
                      exact J0 (()) _ _ (.cons rfl (.cons rfl (.cons rfl (.cons' rfl (congrArg Value.bool (decide_eq_decide.2 ⟨fun h => pure_eq.2 ⟨of_decide_eq_true hg26_5, of_decide_eq_true hg26_12, of_decide_eq_true hg26_21, of_decide_eq_true hg26_30, of_decide_eq_true hg26_39, h⟩, fun h => (pure_eq.1 h).2.2.2.2.2⟩)) (.cons rfl (.cons rfl (.cons rfl (.nil)))))))) (.fin)
                    · refine SR_no rfl rfl (hg26_39) (lts rfl) ?_
                      refine SR_no rfl rfl (hg26_39) (lts rfl) ?_
                      refine SR_no rfl rfl (hg26_39) (lts rfl) ?_
                      refine SR_no rfl rfl (hg26_39) (lts rfl) ?_
                      refine SR_no rfl rfl (hg26_39) (lts rfl) ?_
                      refine SR_pu (RD_pick_f rfl (hg26_39) rfl) rfl ?_
                      refine SR_pu (RD_assign rfl) rfl ?_
                      refine SR_nil ?_
                      refine SN.le (l := [(4, _), (9, _), (12, _), (13, _), (99, _), (100, _), (101, _)]) ?_ (.cons rfl (.cons rfl (.cons rfl (.cons rfl (.cons rfl (.cons rfl (.cons rfl (.nil))))))))
                      exact J0 (()) _ _ (.cons rfl (.cons rfl (.cons rfl (.cons' rfl (congrArg Value.bool (decide_eq_false fun h => of_decide_eq_false hg26_39 (pure_eq.1 h).2.2.2.2.1).symm) (.cons rfl (.cons rfl (.cons rfl (.nil)))))))) (.fin)
                  · refine SR_no rfl rfl (hg26_30) (lts rfl) ?_
                    refine SR_no rfl rfl (hg26_30) (lts rfl) ?_
                    refine SR_no rfl rfl (hg26_30) (lts rfl) ?_
                    refine SR_no rfl rfl (hg26_30) (lts rfl) ?_
                    refine SR_no rfl rfl (hg26_30) (lts rfl) ?_
                    refine SR_no rfl rfl (hg26_30) (lts rfl) ?_
                    refine SR_no rfl rfl (hg26_30) (lts rfl) ?_
                    refine SR_pu (RD_pick_f rfl (hg26_30) rfl) rfl ?_
                    refine SR_pu (RD_move rfl) rfl ?_
                    refine SR_no rfl rfl (rfl) (lts rfl) ?_
                    refine SR_no rfl rfl (rfl) (lts rfl) ?_
                    refine SR_no rfl rfl (rfl) (lts rfl) ?_
                    refine SR_no rfl rfl (rfl) (lts rfl) ?_
                    refine SR_no rfl rfl (rfl) (lts rfl) ?_
                    refine SR_pu (RD_pick_f rfl (rfl) rfl) rfl ?_
                    refine SR_pu (RD_assign rfl) rfl ?_
                    refine SR_nil ?_
                    refine SN.le (l := [(4, _), (9, _), (12, _), (13, _), (99, _), (100, _), (101, _)]) ?_ (.cons rfl (.cons rfl (.cons rfl (.cons rfl (.cons rfl (.cons rfl (.cons rfl (.nil))))))))
                    exact J0 (()) _ _ (.cons rfl (.cons rfl (.cons rfl (.cons' rfl (congrArg Value.bool (decide_eq_false fun h => of_decide_eq_false hg26_30 (pure_eq.1 h).2.2.2.1).symm) (.cons rfl (.cons rfl (.cons rfl (.nil)))))))) (.fin)
                · refine SR_no rfl rfl (hg26_21) (lts rfl) ?_
                  refine SR_no rfl rfl (hg26_21) (lts rfl) ?_
                  refine SR_no rfl rfl (hg26_21) (lts rfl) ?_
                  refine SR_no rfl rfl (hg26_21) (lts rfl) ?_
                  refine SR_no rfl rfl (hg26_21) (lts rfl) ?_
                  refine SR_no rfl rfl (hg26_21) (lts rfl) ?_
                  refine SR_no rfl rfl (hg26_21) (lts rfl) ?_
                  refine SR_pu (RD_pick_f rfl (hg26_21) rfl) rfl ?_
                  refine SR_pu (RD_move rfl) rfl ?_
                  refine SR_no rfl rfl (rfl) (lts rfl) ?_
                  refine SR_no rfl rfl (rfl) (lts rfl) ?_
                  refine SR_no rfl rfl (rfl) (lts rfl) ?_
                  refine SR_no rfl rfl (rfl) (lts rfl) ?_
                  refine SR_no rfl rfl (rfl) (lts rfl) ?_
                  refine SR_no rfl rfl (rfl) (lts rfl) ?_
                  refine SR_no rfl rfl (rfl) (lts rfl) ?_
                  refine SR_pu (RD_pick_f rfl (rfl) rfl) rfl ?_
                  refine SR_pu (RD_move rfl) rfl ?_
                  refine SR_no rfl rfl (rfl) (lts rfl) ?_
                  refine SR_no rfl rfl (rfl) (lts rfl) ?_
                  refine SR_no rfl rfl (rfl) (lts rfl) ?_
                  refine SR_no rfl rfl (rfl) (lts rfl) ?_
                  refine SR_no rfl rfl (rfl) (lts rfl) ?_
                  refine SR_pu (RD_pick_f rfl (rfl) rfl) rfl ?_
                  refine SR_pu (RD_assign rfl) rfl ?_
                  refine SR_nil ?_
                  refine SN.le (l := [(4, _), (9, _), (12, _), (13, _), (99, _), (100, _), (101, _)]) ?_ (.cons rfl (.cons rfl (.cons rfl (.cons rfl (.cons rfl (.cons rfl (.cons rfl (.nil))))))))
                  exact J0 (()) _ _ (.cons rfl (.cons rfl (.cons rfl (.cons' rfl (congrArg Value.bool (decide_eq_false fun h => of_decide_eq_false hg26_21 (pure_eq.1 h).2.2.1).symm) (.cons rfl (.cons rfl (.cons rfl (.nil)))))))) (.fin)
              · refine SR_no rfl rfl (hg26_12) (lts rfl) ?_
                refine SR_no rfl rfl (hg26_12) (lts rfl) ?_
                refine SR_no rfl rfl (hg26_12) (lts rfl) ?_
                refine SR_no rfl rfl (hg26_12) (lts rfl) ?_
                refine SR_no rfl rfl (hg26_12) (lts rfl) ?_
                refine SR_no rfl rfl (hg26_12) (lts rfl) ?_
                refine SR_no rfl rfl (hg26_12) (lts rfl) ?_
                refine SR_pu (RD_pick_f rfl (hg26_12) rfl) rfl ?_
                refine SR_pu (RD_move rfl) rfl ?_
                refine SR_no rfl rfl (rfl) (lts rfl) ?_
                refine SR_no rfl rfl (rfl) (lts rfl) ?_
                refine SR_no rfl rfl (rfl) (lts rfl) ?_
                refine SR_no rfl rfl (rfl) (lts rfl) ?_
                refine SR_no rfl rfl (rfl) (lts rfl) ?_
                refine SR_no rfl rfl (rfl) (lts rfl) ?_
                refine SR_no rfl rfl (rfl) (lts rfl) ?_
                refine SR_pu (RD_pick_f rfl (rfl) rfl) rfl ?_
                refine SR_pu (RD_move rfl) rfl ?_
                refine SR_no rfl rfl (rfl) (lts rfl) ?_
                refine SR_no rfl rfl (rfl) (lts rfl) ?_
                refine SR_no rfl rfl (rfl) (lts rfl) ?_
                refine SR_no rfl rfl (rfl) (lts rfl) ?_
                refine SR_no rfl rfl (rfl) (lts rfl) ?_
                refine SR_no rfl rfl (rfl) (lts rfl) ?_
                refine SR_no rfl rfl (rfl) (lts rfl) ?_
                refine SR_pu (RD_pick_f rfl (rfl) rfl) rfl ?_
                refine SR_pu (RD_move rfl) rfl ?_
                refine SR_no rfl rfl (rfl) (lts rfl) ?_
                refine SR_no rfl rfl (rfl) (lts rfl) ?_
                refine SR_no rfl rfl (rfl) (lts rfl) ?_
                refine SR_no rfl rfl (rfl) (lts rfl) ?_
                refine SR_no rfl rfl (rfl) (lts rfl) ?_
                refine SR_pu (RD_pick_f rfl (rfl) rfl) rfl ?_
                refine SR_pu (RD_assign rfl) rfl ?_
                refine SR_nil ?_
                refine SN.le (l := [(4, _), (9, _), (12, _), (13, _), (99, _), (100, _), (101, _)]) ?_ (.cons rfl (.cons rfl (.cons rfl (.cons rfl (.cons rfl (.cons rfl (.cons rfl (.nil))))))))
                exact J0 (()) _ _ (.cons rfl (.cons rfl (.cons rfl (.cons' rfl (congrArg Value.bool (decide_eq_false fun h => of_decide_eq_false hg26_12 (pure_eq.1 h).2.1).symm) (.cons rfl (.cons rfl (.cons rfl (.nil)))))))) (.fin)
            · refine SR_no rfl rfl (hg26_5) (lts rfl) ?_
              refine SR_no rfl rfl (hg26_5) (lts rfl) ?_
              refine SR_no rfl rfl (hg26_5) (lts rfl) ?_
              refine SR_no rfl rfl (hg26_5) (lts rfl) ?_
              refine SR_no rfl rfl (hg26_5) (lts rfl) ?_
              refine SR_pu (RD_pick_f rfl (hg26_5) rfl) rfl ?_
              refine SR_pu (RD_move rfl) rfl ?_
              refine SR_no rfl rfl (rfl) (lts rfl) ?_
              refine SR_no rfl rfl (rfl) (lts rfl) ?_
              refine SR_no rfl rfl (rfl) (lts rfl) ?_
              refine SR_no rfl rfl (rfl) (lts rfl) ?_
              refine SR_no rfl rfl (rfl) (lts rfl) ?_
              refine SR_no rfl rfl (rfl) (lts rfl) ?_
              refine SR_no rfl rfl (rfl) (lts rfl) ?_
              refine SR_pu (RD_pick_f rfl (rfl) rfl) rfl ?_
              refine SR_pu (RD_move rfl) rfl ?_
              refine SR_no rfl rfl (rfl) (lts rfl) ?_
              refine SR_no rfl rfl (rfl) (lts rfl) ?_
              refine SR_no rfl rfl (rfl) (lts rfl) ?_
              refine SR_no rfl rfl (rfl) (lts rfl) ?_
              refine SR_no rfl rfl (rfl) (lts rfl) ?_
              refine SR_no rfl rfl (rfl) (lts rfl) ?_
              refine SR_no rfl rfl (rfl) (lts rfl) ?_
              refine SR_pu (RD_pick_f rfl (rfl) rfl) rfl ?_
              refine SR_pu (RD_move rfl) rfl ?_
              refine SR_no rfl rfl (rfl) (lts rfl) ?_
              refine SR_no rfl rfl (rfl) (lts rfl) ?_
              refine SR_no rfl rfl (rfl) (lts rfl) ?_
              refine SR_no rfl rfl (rfl) (lts rfl) ?_
              refine SR_no rfl rfl (rfl) (lts rfl) ?_
              refine SR_no rfl rfl (rfl) (lts rfl) ?_
              refine SR_no rfl rfl (rfl) (lts rfl) ?_
              refine SR_pu (RD_pick_f rfl (rfl) rfl) rfl ?_
              refine SR_pu (RD_move rfl) rfl ?_
              refine SR_no rfl rfl (rfl) (lts rfl) ?_
              refine SR_no rfl rfl (rfl) (lts rfl) ?_
              refine SR_no rfl rfl (rfl) (lts rfl) ?_
              refine SR_no rfl rfl (rfl) (lts rfl) ?_
              refine SR_no rfl rfl (rfl) (lts rfl) ?_
              refine SR_pu (RD_pick_f rfl (rfl) rfl) rfl ?_
              refine SR_pu (RD_assign rfl) rfl ?_
              refine SR_nil ?_
              refine SN.le (l := [(4, _), (9, _), (12, _), (13, _), (99, _), (100, _), (101, _)]) ?_ (.cons rfl (.cons rfl (.cons rfl (.cons rfl (.cons rfl (.cons rfl (.cons rfl (.nil))))))))
              exact J0 (()) _ _ (.cons rfl (.cons rfl (.cons rfl (.cons' rfl (congrArg Value.bool (decide_eq_false fun h => of_decide_eq_false hg26_5 (pure_eq.1 h).1).symm) (.cons rfl (.cons rfl (.cons rfl (.nil)))))))) (.fin)
        · clear ih
          refine SC_exit rfl ?_
          refine SN_seq ?_
          refine SC_seq ?_
          refine SC_region ?_
          refine SR_call Try.call14 (.nil) (blok_awake) (lts rfl) ?_
          rintro _ L9 ⟨rfl, hL9⟩
          refine SR.lands hL9 ?_
          refine SR_pu (RD_assign rfl) rfl ?_
          refine SR_nil ?_
          refine SN.le (l := [(8, _)]) ?_ (.cons rfl (.nil))
          refine SN_seq ?_
          refine SC_ret1 rfl rfl ?_
          exact ⟨rfl, Lands.trans (.fin : Lands _ G) hG⟩
      · refine SC_block ?_
        refine SC_seq ?_
        refine SC_region ?_
        refine SR_pu (RD_eql rfl rfl) rfl ?_
        refine SR_pu (RD_assign rfl) rfl ?_
        refine SR_nil ?_
        refine SN.le (l := [(2, _), (3, _), (4, _), (5, _), (9, _), (10, _), (28, _), (55, _)]) ?_ (.cons rfl (.cons rfl (.cons rfl (.cons rfl (.cons rfl (.cons rfl (.cons rfl (.cons rfl (.nil)))))))))
        refine SN_seq ?_
        refine SC_cond rfl (fun hc55 => ?_) (fun hc55 => ?_)
        · refine SC_region ?_
          refine SR_pu (RD_move rfl) rfl ?_
          first
            | refine SR_pu (RD_fieldAddr0 Try.runUnderlying33 rfl rfl Try.sizeOf3 rfl) rfl ?_
            | refine SR_rd (RD_fieldAddrO 0 Try.runUnderlying33 rfl rfl Try.sizeOf3 rfl (by simp <;> omega)) Has.ro rfl ?_
          refine SR_ox0 (OX_st Try.sizeOf3 rfl rfl) ?_
          rintro _ _ rfl
          refine SR_nil ?_
          refine SN.le (l := [(4, _), (5, _), (9, _), (10, _)]) ?_ (.cons rfl (.cons rfl (.cons rfl (.cons rfl (.nil)))))
          refine SN_block ?_
          exact J0 (⟨(⟨to_, a.author, a.jv, a.jb, a.by_, a.envs⟩, F), ⟨inferInstance, .fin, ⟨inferInstance, inferInstance, by simp [ha1], by simp [ha2], ht, ha.author, ha.jv, ha.jb, ha.by_, ha.envs⟩, ha, hb, by dsimp only; omega, by dsimp only; omega⟩⟩) _ _ (.cons rfl (.cons rfl (.cons rfl (.cons rfl (.nil))))) ((by exact (show Lands _ (pt b4 (.cells a.cells.toArray 33) :: pt b5 (.cells b.cells.toArray 33) :: pt b10 (.cells [.int .i64 to_, .int .i64 a.author, .int .i64 a.jv, .int .i64 a.jb, .slice a.by_.a a.by_.n a.by_.c, .slice a.envs.a a.envs.n a.envs.c].toArray 33) :: At worldI k ⟨[], []⟩ :: F) from .fin)))
        · refine SC_seq ?_
          refine SC_region ?_
          refine SR_pu (RD_eql rfl rfl) rfl ?_
          refine SR_pu (RD_assign rfl) rfl ?_
          refine SR_nil ?_
          refine SN.le (l := [(2, _), (3, _), (4, _), (5, _), (9, _), (10, _), (28, _), (59, _)]) ?_ (.cons rfl (.cons rfl (.cons rfl (.cons rfl (.cons rfl (.cons rfl (.cons rfl (.cons rfl (.nil)))))))))
          refine SN_seq ?_
          refine SC_cond rfl (fun hc59 => ?_) (fun hc59 => ?_)
          · refine SC_region ?_
            refine SR_pu (RD_move rfl) rfl ?_
            first
              | refine SR_pu (RD_fieldAddr 1 Try.runUnderlying33 rfl rfl Try.sizeOf3 rfl) rfl ?_
              | refine SR_rd (RD_fieldAddrO 1 Try.runUnderlying33 rfl rfl Try.sizeOf3 rfl (by simp <;> omega)) Has.ro rfl ?_
            refine SR_ox0 (OX_st Try.sizeOf3 rfl rfl) ?_
            rintro _ _ rfl
            refine SR_nil ?_
            refine SN.le (l := [(4, _), (5, _), (9, _), (10, _)]) ?_ (.cons rfl (.cons rfl (.cons rfl (.cons rfl (.nil)))))
            refine SN_block ?_
            exact J0 (⟨(⟨a.view, to_, a.jv, a.jb, a.by_, a.envs⟩, F), ⟨inferInstance, .fin, ⟨inferInstance, inferInstance, by simp [ha1], by simp [ha2], ha.view, ht, ha.jv, ha.jb, ha.by_, ha.envs⟩, ha, hb, by dsimp only; omega, by dsimp only; omega⟩⟩) _ _ (.cons rfl (.cons rfl (.cons rfl (.cons rfl (.nil))))) ((by exact (show Lands _ (pt b4 (.cells a.cells.toArray 33) :: pt b5 (.cells b.cells.toArray 33) :: pt b10 (.cells [.int .i64 a.view, .int .i64 to_, .int .i64 a.jv, .int .i64 a.jb, .slice a.by_.a a.by_.n a.by_.c, .slice a.envs.a a.envs.n a.envs.c].toArray 33) :: At worldI k ⟨[], []⟩ :: F) from .fin)))
          · refine SC_seq ?_
            refine SC_region ?_
            refine SR_pu (RD_eql rfl rfl) rfl ?_
            refine SR_pu (RD_assign rfl) rfl ?_
            refine SR_nil ?_
            refine SN.le (l := [(2, _), (3, _), (4, _), (5, _), (9, _), (10, _), (28, _), (63, _)]) ?_ (.cons rfl (.cons rfl (.cons rfl (.cons rfl (.cons rfl (.cons rfl (.cons rfl (.cons rfl (.nil)))))))))
            refine SN_seq ?_
            refine SC_cond rfl (fun hc63 => ?_) (fun hc63 => ?_)
            · refine SC_region ?_
              refine SR_pu (RD_move rfl) rfl ?_
              first
                | refine SR_pu (RD_fieldAddr 2 Try.runUnderlying33 rfl rfl Try.sizeOf30 rfl) rfl ?_
                | refine SR_rd (RD_fieldAddrO 2 Try.runUnderlying33 rfl rfl Try.sizeOf30 rfl (by simp <;> omega)) Has.ro rfl ?_
              first
                | refine SR_pu (RD_fieldAddr0 Try.runUnderlying30 rfl rfl Try.sizeOf3 rfl) rfl ?_
                | refine SR_rd (RD_fieldAddrO 0 Try.runUnderlying30 rfl rfl Try.sizeOf3 rfl (by simp <;> omega)) Has.ro rfl ?_
              refine SR_ox0 (OX_st Try.sizeOf3 rfl rfl) ?_
              rintro _ _ rfl
              refine SR_nil ?_
              refine SN.le (l := [(4, _), (5, _), (9, _), (10, _)]) ?_ (.cons rfl (.cons rfl (.cons rfl (.cons rfl (.nil)))))
              refine SN_block ?_
              exact J0 (⟨(⟨a.view, a.author, to_, a.jb, a.by_, a.envs⟩, F), ⟨inferInstance, .fin, ⟨inferInstance, inferInstance, by simp [ha1], by simp [ha2], ha.view, ha.author, ht, ha.jb, ha.by_, ha.envs⟩, ha, hb, by dsimp only; omega, by dsimp only; omega⟩⟩) _ _ (.cons rfl (.cons rfl (.cons rfl (.cons rfl (.nil))))) ((by exact (show Lands _ (pt b4 (.cells a.cells.toArray 33) :: pt b5 (.cells b.cells.toArray 33) :: pt b10 (.cells [.int .i64 a.view, .int .i64 a.author, .int .i64 to_, .int .i64 a.jb, .slice a.by_.a a.by_.n a.by_.c, .slice a.envs.a a.envs.n a.envs.c].toArray 33) :: At worldI k ⟨[], []⟩ :: F) from .fin)))
            · refine SC_seq ?_
              refine SC_region ?_
              refine SR_pu (RD_eql rfl rfl) rfl ?_
              refine SR_pu (RD_assign rfl) rfl ?_
              refine SR_nil ?_
              refine SN.le (l := [(2, _), (3, _), (4, _), (5, _), (9, _), (10, _), (28, _), (68, _)]) ?_ (.cons rfl (.cons rfl (.cons rfl (.cons rfl (.cons rfl (.cons rfl (.cons rfl (.cons rfl (.nil)))))))))
              refine SN_seq ?_
              refine SC_cond rfl (fun hc68 => ?_) (fun hc68 => ?_)
              · refine SC_region ?_
                refine SR_pu (RD_move rfl) rfl ?_
                first
                  | refine SR_pu (RD_fieldAddr 2 Try.runUnderlying33 rfl rfl Try.sizeOf30 rfl) rfl ?_
                  | refine SR_rd (RD_fieldAddrO 2 Try.runUnderlying33 rfl rfl Try.sizeOf30 rfl (by simp <;> omega)) Has.ro rfl ?_
                first
                  | refine SR_pu (RD_fieldAddr 1 Try.runUnderlying30 rfl rfl Try.sizeOf3 rfl) rfl ?_
                  | refine SR_rd (RD_fieldAddrO 1 Try.runUnderlying30 rfl rfl Try.sizeOf3 rfl (by simp <;> omega)) Has.ro rfl ?_
                refine SR_ox0 (OX_st Try.sizeOf3 rfl rfl) ?_
                rintro _ _ rfl
                refine SR_nil ?_
                refine SN.le (l := [(4, _), (5, _), (9, _), (10, _)]) ?_ (.cons rfl (.cons rfl (.cons rfl (.cons rfl (.nil)))))
                refine SN_block ?_
                exact J0 (⟨(⟨a.view, a.author, a.jv, to_, a.by_, a.envs⟩, F), ⟨inferInstance, .fin, ⟨inferInstance, inferInstance, by simp [ha1], by simp [ha2], ha.view, ha.author, ha.jv, ht, ha.by_, ha.envs⟩, ha, hb, by dsimp only; omega, by dsimp only; omega⟩⟩) _ _ (.cons rfl (.cons rfl (.cons rfl (.cons rfl (.nil))))) ((by exact (show Lands _ (pt b4 (.cells a.cells.toArray 33) :: pt b5 (.cells b.cells.toArray 33) :: pt b10 (.cells [.int .i64 a.view, .int .i64 a.author, .int .i64 a.jv, .int .i64 to_, .slice a.by_.a a.by_.n a.by_.c, .slice a.envs.a a.envs.n a.envs.c].toArray 33) :: At worldI k ⟨[], []⟩ :: F) from .fin)))
              · refine SC_seq ?_
                refine SC_region ?_
                refine SR_pu (RD_eql rfl rfl) rfl ?_
                refine SR_pu (RD_assign rfl) rfl ?_
                refine SR_nil ?_
                refine SN.le (l := [(2, _), (3, _), (4, _), (5, _), (9, _), (10, _), (28, _), (73, _)]) ?_ (.cons rfl (.cons rfl (.cons rfl (.cons rfl (.cons rfl (.cons rfl (.cons rfl (.cons rfl (.nil)))))))))
                refine SN_seq ?_
                refine SC_cond rfl (fun hc73 => ?_) (fun hc73 => ?_)
                · refine SC_region ?_
                  refine SR_ox (OX_buildSlice0 Try.runUnderlying22 Try.sizeOf3) rfl ?_
                  rintro _ _ ⟨b75, rfl, rfl⟩
                  refine SR.lands (lit_row (E := 3) (z := 1) (b := b75) (cs := []) 0 rfl) ?_
                  first
                    | refine SR_pu (RD_fieldAddr 2 Try.runUnderlying33 rfl rfl Try.sizeOf30 rfl) rfl ?_
                    | refine SR_rd (RD_fieldAddrO 2 Try.runUnderlying33 rfl rfl Try.sizeOf30 rfl (by simp <;> omega)) Has.ro rfl ?_
                  first
                    | refine SR_pu (RD_fieldAddr 2 Try.runUnderlying30 rfl rfl Try.sizeOf22 rfl) rfl ?_
                    | refine SR_rd (RD_fieldAddrO 2 Try.runUnderlying30 rfl rfl Try.sizeOf22 rfl (by simp <;> omega)) Has.ro rfl ?_
                  refine SR_rd (RD_load Try.isAgg22 rfl) (Has.ce rfl) rfl ?_
                  refine SR_ox (OX_app 1 Try.underlying22 Try.underlying22 Try.type3 rfl rfl rfl rfl rfl (by first | rfl | simp; done | (simp; omega)) 8 rfl (by omega) (by omega)) rfl ?_
                  rintro _ _ ⟨a79, c79, rfl, rfl⟩
                  refine SR_pu (RD_move rfl) rfl ?_
                  refine SR_ox (OX_lit1 Try.underlying22 Try.type3 rfl rfl rfl rfl (.cons rfl (.nil)) (.cons rfl (.nil))) rfl ?_
                  rintro _ _ ⟨b81, rfl, rfl⟩
                  refine SR_ox (OX_app 1 Try.underlying22 Try.underlying22 Try.type3 rfl rfl rfl rfl rfl (by first | rfl | simp; done | (simp; omega)) 8 rfl (by omega) (by omega)) rfl ?_
                  rintro _ _ ⟨a82, c82, rfl, rfl⟩
                  first
                    | refine SR_pu (RD_fieldAddr 2 Try.runUnderlying33 rfl rfl Try.sizeOf30 rfl) rfl ?_
                    | refine SR_rd (RD_fieldAddrO 2 Try.runUnderlying33 rfl rfl Try.sizeOf30 rfl (by simp <;> omega)) Has.ro rfl ?_
                  first
                    | refine SR_pu (RD_fieldAddr 2 Try.runUnderlying30 rfl rfl Try.sizeOf22 rfl) rfl ?_
                    | refine SR_rd (RD_fieldAddrO 2 Try.runUnderlying30 rfl rfl Try.sizeOf22 rfl (by simp <;> omega)) Has.ro rfl ?_
                  refine SR_ox0 (OX_st Try.sizeOf22 rfl rfl) ?_
                  rintro _ _ rfl
                  refine SR_nil ?_
                  refine SN.le (l := [(4, _), (5, _), (9, _), (10, _)]) ?_ (.cons rfl (.cons rfl (.cons rfl (.cons rfl (.nil)))))
                  rw [Nat.zero_add, List.nil_append]
                  have hr4 : a.by_.l.map intV ++ [Value.int .i64 to_] = (a.by_.l ++ [to_]).map intV := by simp [intV]
                  rw [hr4]
                  refine SN_block ?_
                  exact J0 (⟨(⟨a.view, a.author, a.jv, a.jb, ⟨a82, a.by_.n + 1, c82, a.by_.l ++ [to_]⟩, a.envs⟩, rowP 3 1 a82 (a.by_.n + 1) c82 ((a.by_.l ++ [to_]).map intV) :: F), ⟨inferInstance, .fin, ⟨inferInstance, inferInstance, by simp [ha1], by simp [ha2], ha.view, ha.author, ha.jv, ha.jb, (fun x hx => (List.mem_append.1 hx).elim (ha.by_ x) fun h => by simp at h; subst h; exact ht), ha.envs⟩, ha.up, hb.up, by dsimp only; omega, by dsimp only; omega⟩⟩) _ _ (.cons rfl (.cons rfl (.cons rfl (.cons rfl (.nil))))) ((by exact (show Lands _ (pt b4 (.cells a.cells.toArray 33) :: pt b5 (.cells b.cells.toArray 33) :: pt b10 (.cells [.int .i64 a.view, .int .i64 a.author, .int .i64 a.jv, .int .i64 a.jb, .slice a82 (a.by_.n + 1) c82, .slice a.envs.a a.envs.n a.envs.c].toArray 33) :: At worldI k ⟨[], []⟩ :: rowP 3 1 a82 (a.by_.n + 1) c82 ((a.by_.l ++ [to_]).map intV) :: F) from .fin)))
                · refine SC_seq ?_
                  refine SC_region ?_
                  refine SR_pu (RD_eql rfl rfl) rfl ?_
                  refine SR_pu (RD_assign rfl) rfl ?_
                  refine SR_nil ?_
                  refine SN.le (l := [(2, _), (3, _), (4, _), (5, _), (9, _), (10, _), (85, _)]) ?_ (.cons rfl (.cons rfl (.cons rfl (.cons rfl (.cons rfl (.cons rfl (.cons rfl (.nil))))))))
                  refine SN_seq ?_
                  refine SC_cond rfl (fun hc85 => ?_) (fun hc85 => ?_)
                  · refine SC_region ?_
                    refine SR_ox (OX_buildSlice0 Try.runUnderlying31 Try.sizeOf39) rfl ?_
                    rintro _ _ ⟨b87, rfl, rfl⟩
                    refine SR.lands (lit_row (E := 39) (z := 4) (b := b87) (cs := []) 0 rfl) ?_
                    first
                      | refine SR_pu (RD_fieldAddr 5 Try.runUnderlying33 rfl rfl Try.sizeOf31 rfl) rfl ?_
                      | refine SR_rd (RD_fieldAddrO 5 Try.runUnderlying33 rfl rfl Try.sizeOf31 rfl (by simp <;> omega)) Has.ro rfl ?_
                    refine SR_rd (RD_load Try.isAgg31 rfl) (Has.ce rfl) rfl ?_
                    refine SR_ox (OX_app 4 Try.underlying31 Try.underlying31 Try.type39 rfl rfl rfl rfl rfl (by rw [env_len, ha2]) 32 rfl (by omega) (by omega)) rfl ?_
                    rintro _ _ ⟨a90, c90, rfl, rfl⟩
                    refine SR_pu (RD_move rfl) rfl ?_
                    refine SR_pu (RD_build (.cons rfl (.nil)) built39_0) rfl ?_
                    refine SR_ox (OX_lit Try.underlying31 Try.type39 rfl rfl rfl rfl (.cons rfl (.nil)) (.cons rfl rfl (.nil))) rfl ?_
                    rintro _ _ ⟨b93, rfl, rfl⟩
                    refine SR_ox (OX_app 4 Try.underlying31 Try.underlying31 Try.type39 rfl rfl rfl rfl rfl (by first | rfl | simp; done | (simp; omega)) 32 rfl (by omega) (by omega)) rfl ?_
                    rintro _ _ ⟨a94, c94, rfl, rfl⟩
                    first
                      | refine SR_pu (RD_fieldAddr 5 Try.runUnderlying33 rfl rfl Try.sizeOf31 rfl) rfl ?_
                      | refine SR_rd (RD_fieldAddrO 5 Try.runUnderlying33 rfl rfl Try.sizeOf31 rfl (by simp <;> omega)) Has.ro rfl ?_
                    refine SR_ox0 (OX_st Try.sizeOf31 rfl rfl) ?_
                    rintro _ _ rfl
                    refine SR_nil ?_
                    refine SN.le (l := [(4, _), (5, _), (9, _), (10, _)]) ?_ (.cons rfl (.cons rfl (.cons rfl (.cons rfl (.nil)))))
                    rw [Nat.zero_add, List.nil_append]
                    have hr5 : a.envs.l.flatMap EnvD.cells ++ ([Value.int .i64 to_, .int .u64 0, .int .u64 0, .int .i64 0] ++ []) = (a.envs.l ++ [EnvD.mk to_ 0 0 0]).flatMap EnvD.cells := by rw [List.flatMap_append]; rfl
                    rw [hr5]
                    refine SN_block ?_
                    exact J0 (⟨(⟨a.view, a.author, a.jv, a.jb, a.by_, ⟨a94, a.envs.n + 1, c94, a.envs.l ++ [⟨to_, 0, 0, 0⟩]⟩⟩, rowP 39 4 a94 (a.envs.n + 1) c94 ((a.envs.l ++ [EnvD.mk to_ 0 0 0]).flatMap EnvD.cells) :: F), ⟨inferInstance, .fin, ⟨inferInstance, inferInstance, by simp [ha1], by simp [ha2], ha.view, ha.author, ha.jv, ha.jb, ha.by_, (fun x hx => (List.mem_append.1 hx).elim (ha.envs x) fun h => by simp at h; subst h; exact ⟨ht, by unfold I64; dsimp only; omega, by dsimp only; omega, by dsimp only; omega⟩)⟩, ha.up, hb.up, by dsimp only; omega, by dsimp only; omega⟩⟩) _ _ (.cons rfl (.cons rfl (.cons rfl (.cons rfl (.nil))))) ((by exact (show Lands _ (pt b4 (.cells a.cells.toArray 33) :: pt b5 (.cells b.cells.toArray 33) :: pt b10 (.cells [.int .i64 a.view, .int .i64 a.author, .int .i64 a.jv, .int .i64 a.jb, .slice a.by_.a a.by_.n a.by_.c, .slice a94 (a.envs.n + 1) c94].toArray 33) :: At worldI k ⟨[], []⟩ :: rowP 39 4 a94 (a.envs.n + 1) c94 ((a.envs.l ++ [EnvD.mk to_ 0 0 0]).flatMap EnvD.cells) :: F) from .fin)))
                  · refine SC_seq ?_
                    refine SC_region ?_
                    refine SR_ox (OX_buildSlice0 Try.runUnderlying31 Try.sizeOf39) rfl ?_
                    rintro _ _ ⟨b29, rfl, rfl⟩
                    refine SR.lands (lit_row (E := 39) (z := 4) (b := b29) (cs := []) 0 rfl) ?_
                    first
                      | refine SR_pu (RD_fieldAddr 5 Try.runUnderlying33 rfl rfl Try.sizeOf31 rfl) rfl ?_
                      | refine SR_rd (RD_fieldAddrO 5 Try.runUnderlying33 rfl rfl Try.sizeOf31 rfl (by simp <;> omega)) Has.ro rfl ?_
                    refine SR_rd (RD_load Try.isAgg31 rfl) (Has.ce rfl) rfl ?_
                    refine SR_ox (OX_app 4 Try.underlying31 Try.underlying31 Try.type39 rfl rfl rfl rfl rfl (by rw [env_len, ha2]) 32 rfl (by omega) (by omega)) rfl ?_
                    rintro _ _ ⟨a32, c32, rfl, rfl⟩
                    first
                      | refine SR_pu (RD_fieldAddr 5 Try.runUnderlying33 rfl rfl Try.sizeOf31 rfl) rfl ?_
                      | refine SR_rd (RD_fieldAddrO 5 Try.runUnderlying33 rfl rfl Try.sizeOf31 rfl (by simp <;> omega)) Has.ro rfl ?_
                    refine SR_ox0 (OX_st Try.sizeOf31 rfl rfl) ?_
                    rintro _ _ rfl
                    refine SR_nil ?_
                    refine SN.le (l := [(2, _), (3, _), (4, _), (5, _), (9, _), (10, _)]) ?_ (.cons rfl (.cons rfl (.cons rfl (.cons rfl (.cons rfl (.cons rfl (.nil)))))))
                    rw [Nat.zero_add, List.nil_append]
                    refine SN_seq ?_
                    refine SC_seq ?_
                    refine SC_region ?_
                    first
                      | refine SR_pu (RD_fieldAddr 5 Try.runUnderlying33 rfl rfl Try.sizeOf31 rfl) rfl ?_
                      | refine SR_rd (RD_fieldAddrO 5 Try.runUnderlying33 rfl rfl Try.sizeOf31 rfl (by simp <;> omega)) Has.ro rfl ?_
                    refine SR_rd (RD_load Try.isAgg31 rfl) (Has.ce rfl) rfl ?_
                    refine SR_pu (RD_len Try.runUnderlying31 rfl) rfl ?_
                    refine SR_pu (RD_gtr rfl rfl) rfl ?_
                    refine SR_nil ?_
                    refine SN.le (l := [(2, _), (3, _), (4, _), (5, _), (9, _), (10, _), (37, _)]) ?_ (.cons rfl (.cons rfl (.cons rfl (.cons rfl (.cons rfl (.cons rfl (.cons rfl (.nil))))))))
                    refine SN_seq ?_
                    refine SC_cond rfl (fun hc37 => ?_) (fun hc37 => ?_)
                    · have hpos : 0 < a.envs.n := by simp at hc37; omega
                      obtain ⟨o, ho⟩ : ∃ o : Nat, how.fdiv (2 ^ min (3 : Int).toNat IntKind.i64.bits) % 256 % (a.envs.n : Int) = (o : Int) := ⟨(how.fdiv (2 ^ min (3 : Int).toNat IntKind.i64.bits) % 256 % (a.envs.n : Int)).toNat, by rw [Int.toNat_of_nonneg (Int.emod_nonneg _ (by omega))]⟩
                      have ho1 : o < a.envs.n := by have := Int.emod_lt_of_pos (how.fdiv (2 ^ min (3 : Int).toNat IntKind.i64.bits) % 256) (show (0 : Int) < (a.envs.n : Int) by omega); omega
                      obtain ⟨e, he⟩ : ∃ e, a.envs.l[o]? = some e := ⟨_, List.getElem?_eq_getElem (by omega)⟩
                      have hge := ha.envs e (List.mem_of_getElem? he)
                      refine SC_drawn (.cons 0 true (.cons 1 true (.cons 2 true (.cons 3 true (.cons 4 true (.cons 5 true (.cons 6 true (.cons 7 true (.cons 8 true (.cons 9 true (.cons 10 true (.cons 11 true (.cons 12 true (.cons 13 true (.cons 14 true (.cons 15 true (.cons 16 true (.cons 17 false (.nil))))))))))))))))))) (by kernel_rfl) (by kernel_rfl) ?_
                      first
                        | refine SQ_pu rfl (RD_fieldAddr 5 Try.runUnderlying33 rfl rfl Try.sizeOf31 rfl) rfl ?_
                        | refine SQ_rd rfl (RD_fieldAddrO 5 Try.runUnderlying33 rfl rfl Try.sizeOf31 rfl (by simp <;> omega)) Has.ro rfl ?_
                      refine SQ_rd rfl (RD_load Try.isAgg31 rfl) (Has.ce rfl) rfl ?_
                      refine SQ_pu rfl (RD_move rfl) rfl ?_
                      refine SQ_pu rfl (RD_shr rfl rfl (by omega)) rfl ?_
                      refine SQ_pu rfl (RD_mask 8 rfl rfl rfl (by decide) 256 rfl) rfl ?_
                      first
                        | refine SQ_pu rfl (RD_fieldAddr 5 Try.runUnderlying33 rfl rfl Try.sizeOf31 rfl) rfl ?_
                        | refine SQ_rd rfl (RD_fieldAddrO 5 Try.runUnderlying33 rfl rfl Try.sizeOf31 rfl (by simp <;> omega)) Has.ro rfl ?_
                      refine SQ_rd rfl (RD_load Try.isAgg31 rfl) (Has.ce rfl) rfl ?_
                      refine SQ_pu rfl (RD_len Try.runUnderlying31 rfl) rfl ?_
                      refine SQ_pu rfl (RD_remi rfl rfl (by omega) (by omega)) rfl ?_
                      refine SQ_rd rfl (RD_ixO (i := (o : Nat)) (cs := a.envs.l.flatMap EnvD.cells) Try.runUnderlying31 Try.sizeOf39 rfl (congrArg some (ie ho)) (by rw [env_len, ha2]) (by omega) (by omega)) Has.ro rfl ?_
                      refine SQ_rd rfl (RD_fieldAddrO (cs := a.envs.l.flatMap EnvD.cells) 2 Try.runUnderlying39 rfl rfl Try.sizeOf37 rfl (by rw [env_len, ha2]; omega)) Has.ro rfl ?_
                      refine SQ_rd rfl (RD_loadO (v := .int .u64 e.fee) (cs := a.envs.l.flatMap EnvD.cells) Try.isAgg37 rfl (by rw [show ((o : Nat) : Int).toNat * (3 + 1) + 2 = o * 4 + 2 by omega, env_get he 2 (by omega)]; rfl)) Has.ro rfl ?_
                      refine SQ_pu rfl (RD_move rfl) rfl ?_
                      first
                        | refine SQ_pu rfl (RD_conv64 Try.runUnderlying3 Try.runUnderlying37 rfl (by omega) (by omega)) rfl ?_
                        | refine SQ_pu rfl (RD_convI Try.runUnderlying3 Try.runUnderlying37 rfl) rfl ?_
                      refine SQ_pu rfl (RD_xor rfl rfl) rfl ?_
                      refine SQ_rd rfl (RD_ixE (i := (o : Nat)) Try.runUnderlying31 Try.sizeOf39 rfl (congrArg some (ie ho)) (by omega) (by omega)) (Has.rs (by first | (rw [env_len]; omega) | (rw [List.length_set, env_len]; omega))) rfl ?_
                      refine SQ_rd rfl (RD_fieldAddrO (cs := a.envs.l.flatMap EnvD.cells) 2 Try.runUnderlying39 rfl rfl Try.sizeOf37 rfl (by rw [env_len, ha2]; omega)) Has.ro rfl ?_
                      refine SQ_ox0 rfl (OX_stRow Try.sizeOf37 rfl rfl (by rw [env_len, ha2]; omega)) ?_
                      rintro _ _ rfl
                      refine ⟨.w rfl (.h (Has.rs (by first | (rw [env_len]; omega) | (rw [List.length_set, env_len]; omega))) (.w rfl (.w rfl (.w rfl (.w rfl (.w rfl (.nil))))))), ?_⟩
                      refine SQ_nil ?_
                      refine SN.le (l := [(4, _), (5, _), (9, _), (10, _)]) ?_ (.cons rfl (.cons rfl (.cons rfl (.cons rfl (.nil)))))
                      refine SN_block ?_
                      exact J0 (⟨(⟨a.view, a.author, a.jv, a.jb, a.by_, ⟨a32, a.envs.n, c32, a.envs.l.set o ⟨e.client, e.nonce, bxor .u64 e.fee (IntKind.u64.wrap to_), e.cipher⟩⟩⟩, rowP 39 4 a32 a.envs.n c32 ((a.envs.l.set o ⟨e.client, e.nonce, bxor .u64 e.fee (IntKind.u64.wrap to_), e.cipher⟩).flatMap EnvD.cells) :: F), ⟨inferInstance, .fin, ⟨inferInstance, inferInstance, by simp [ha1], by simp [ha2], ha.view, ha.author, ha.jv, ha.jb, ha.by_, (fun x hx => (List.mem_or_eq_of_mem_set hx).elim (ha.envs x) fun h => by subst h; exact ⟨hge.1, hge.2.1, hge.2.2.1, bxor_u64 _ _⟩)⟩, ha.up, hb.up, by dsimp only; omega, by dsimp only; omega⟩⟩) _ _ (.cons rfl (.cons rfl (.cons rfl (.cons rfl (.nil))))) ((by rw [show ((o : Nat) : Int).toNat * (3 + 1) + 2 = o * 4 + 2 by omega, set_fee he]; exact (show Lands _ (pt b4 (.cells a.cells.toArray 33) :: pt b5 (.cells b.cells.toArray 33) :: pt b10 (.cells [.int .i64 a.view, .int .i64 a.author, .int .i64 a.jv, .int .i64 a.jb, .slice a.by_.a a.by_.n a.by_.c, .slice a32 a.envs.n c32].toArray 33) :: At worldI k ⟨[], []⟩ :: rowP 39 4 a32 a.envs.n c32 ((a.envs.l.set o ⟨e.client, e.nonce, bxor .u64 e.fee (IntKind.u64.wrap to_), e.cipher⟩).flatMap EnvD.cells) :: F) from .fin)))
                    · refine SC_skip ?_
                      refine SN_block ?_
                      exact J0 (⟨(⟨a.view, a.author, a.jv, a.jb, a.by_, ⟨a32, a.envs.n, c32, a.envs.l⟩⟩, rowP 39 4 a32 a.envs.n c32 (a.envs.l.flatMap EnvD.cells) :: F), ⟨inferInstance, .fin, ⟨inferInstance, inferInstance, by simp [ha1], by simp [ha2], ha.view, ha.author, ha.jv, ha.jb, ha.by_, ha.envs⟩, ha.up, hb.up, by dsimp only; omega, by dsimp only; omega⟩⟩) _ _ (.cons rfl (.cons rfl (.cons rfl (.cons rfl (.nil))))) ((by exact (show Lands _ (pt b4 (.cells a.cells.toArray 33) :: pt b5 (.cells b.cells.toArray 33) :: pt b10 (.cells [.int .i64 a.view, .int .i64 a.author, .int .i64 a.jv, .int .i64 a.jb, .slice a.by_.a a.by_.n a.by_.c, .slice a32 a.envs.n c32].toArray 33) :: At worldI k ⟨[], []⟩ :: rowP 39 4 a32 a.envs.n c32 (a.envs.l.flatMap EnvD.cells) :: F) from .fin)))
  · refine SR_no rfl rfl (hg1_3) (lts rfl) ?_
    refine SR_no rfl rfl (hg1_3) (lts rfl) ?_
    refine SR_no rfl rfl (hg1_3) (lts rfl) ?_
    refine SR_pu (RD_pick_t rfl (hg1_3) rfl) rfl ?_
    refine SR_nil ?_
    refine SN.le (l := [(2, _), (3, _), (4, _), (5, _), (21, _)]) ?_ (.cons rfl (.cons rfl (.cons rfl (.cons rfl (.cons rfl (.nil))))))
    refine SN_seq ?_
    refine SC_cond_true rfl (rfl) ?_
    refine SC_seq ?_
    refine SC_region ?_
    refine SR_call Try.call14 (.nil) (blok_awake) (lts rfl) ?_
    rintro _ L9 ⟨rfl, hL9⟩
    refine SR.lands hL9 ?_
    refine SR_pu (RD_assign rfl) rfl ?_
    refine SR_nil ?_
    refine SN.le (l := [(8, _)]) ?_ (.cons rfl (.nil))
    refine SN_seq ?_
    refine SC_ret1 rfl rfl ?_
    exact ⟨rfl, .fin⟩

end Go.Proofs.Ytnifaajdiolbjaa
