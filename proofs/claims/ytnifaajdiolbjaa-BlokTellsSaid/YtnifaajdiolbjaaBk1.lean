/- Blocks: who leads, who signed, may one be. -/
import Derived.Test.YtnifaajdiolbjaaCe6
import Derived.Test.YtnifaajdiolbjaaTr2
namespace Go.Proofs.Ytnifaajdiolbjaa
open Go Go.Proofs
set_option maxRecDepth 100000
def CfgD.lead (c : CfgD) (v : Int) : Int := if c.n < 1 ∨ v < 0 then 0 else v % c.n
def leadB (x : Int) : List UInt8 := tagB [108, 101, 97, 100] [x]
def Blk.leadL (l : List (List UInt8)) (b : Blk) : List (List UInt8) := dput (blkL l b) (leadB (blkD l b : Nat))
def Blk.leadD (l : List (List UInt8)) (b : Blk) : Nat := dnum (b.leadL l) (leadB (blkD l b : Nat))
theorem leadL_ext (l : List (List UInt8)) (b : Blk) : Ext l (b.leadL l) := (blkL_ext l b).trans (Ext.put _ _)
theorem leadL_len (l : List (List UInt8)) (b : Blk) : (b.leadL l).length ≤ l.length + b.envs.length + 2 := by
  have := blkL_len l b
  have := dput_len (blkL l b) (leadB (blkD l b : Nat))
  unfold Blk.leadL; omega
theorem leadL_envs {l : List (List UInt8)} {b : Blk} {e : EnvD} (h : e ∈ b.envs) : envB e ∈ b.leadL l := (Ext.put _ _).mem ((Ext.put _ _).mem (digsL_mem h))
def okE (l : List (List UInt8)) (S : List (Int × List Int)) (e : EnvD) : Prop := 0 ≤ e.client ∧ e.client ≤ 999 ∧ 1000 + e.client ∈ signers S (dnum l (envB e) : Nat)
instance decOkE (l : List (List UInt8)) (S : List (Int × List Int)) (e : EnvD) : Decidable (okE l S e) := by unfold okE; infer_instance
def okL (l : List (List UInt8)) (e : EnvD) : List (List UInt8) := if 0 ≤ e.client ∧ e.client ≤ 999 then dput l (envB e) else l
def unl (l : List (List UInt8)) (S : List (Int × List Int)) (es : List EnvD) : Bool := decide ((numsE l es).Nodup) && es.all (fun e => decide (okE l S e))
theorem unl_dup {l : List (List UInt8)} {S : List (Int × List Int)} {es : List EnvD} {i : Nat} {e : EnvD} (h : es[i]? = some e) (hd : ((dnum l (envB e) : Nat) : Int) ∈ numsE l (es.take i)) : unl l S es = false := by
  unfold unl
  have : ¬ (numsE l es).Nodup := fun hn => by
    have he : es = es.take i ++ e :: es.drop (i + 1) := by
      obtain ⟨hi, rfl⟩ := List.getElem?_eq_some_iff.1 h
      rw [List.getElem_cons_drop, List.take_append_drop]
    rw [he] at hn
    unfold numsE at hn hd
    rw [List.map_append, List.map_cons] at hn
    exact (List.nodup_append.1 hn).2.2 _ hd _ (List.mem_cons_self) rfl
  rw [decide_eq_false this]; rfl
theorem unl_bad {l : List (List UInt8)} {S : List (Int × List Int)} {es : List EnvD} {i : Nat} {e : EnvD} (h : es[i]? = some e) (hd : ¬ okE l S e) : unl l S es = false := by
  unfold unl
  have : (es.all fun e => decide (okE l S e)) = false := by
    rw [List.all_eq_false]; exact ⟨e, List.mem_of_getElem? h, by simpa using hd⟩
  rw [this, Bool.and_false]
theorem unl_all {l : List (List UInt8)} {S : List (Int × List Int)} {es : List EnvD} (h : (numsE l es).Nodup) (hd : ∀ e ∈ es, okE l S e) : unl l S es = true := by
  unfold unl
  rw [decide_eq_true h, Bool.true_and, List.all_eq_true]
  exact fun e he => decide_eq_true (hd e he)
/-- May a block be? What is in the arena then. -/
def Blk.ok (c : CfgD) (l : List (List UInt8)) (S : List (Int × List Int)) (b : Blk) : Bool × List (List UInt8) :=
  if b.view < 1 ∨ b.author ≠ c.lead b.view then (false, l)
  else if b.author ∉ signers S (b.leadD l : Nat) then (false, b.leadL l)
  else (c.qcOk (c.qcL (b.leadL l) b.jv b.jb) S b.jv b.jb b.by_ && (decide (b.jv < b.view) && (decide ((b.envs.length : Int) ≤ c.bt) && unl (c.qcL (b.leadL l) b.jv b.jb) S b.envs)), c.qcL (b.leadL l) b.jv b.jb)

theorem blok_Lead {W : World} {F : List HProp} [Abs F] (c : CfgD) (v : Int) :
    CallsK W Try.prog 13 #[c.val, .int .i64 v] (F) (fun u L => u = .int .i64 (c.lead v) ∧ Lands L F) := by
  refine CallsK_enter (n := 16) Try.func13 rfl rfl rfl ?_
  refine SC_seq ?_
  refine SC_region ?_
  refine SR_ox (OX_box rfl rfl) rfl ?_
  rintro _ _ ⟨b2, rfl, rfl⟩
  refine SR_pu (RD_assign rfl) rfl ?_
  refine SR_nil ?_
  refine SN.le (l := [(1, _), (2, _)]) ?_ (.cons rfl (.cons rfl (.nil)))
  refine SN_seq ?_
  refine SC_seq ?_
  refine SC_seq ?_
  refine SC_region ?_
  first
    | refine SR_pu (RD_fieldAddr 1 Try.runUnderlying24 rfl rfl Try.sizeOf3 rfl) rfl ?_
    | refine SR_rd (RD_fieldAddrO 1 Try.runUnderlying24 rfl rfl Try.sizeOf3 rfl (by simp <;> omega)) Has.ro rfl ?_
  refine SR_rd (RD_load Try.isAgg3 rfl) (Has.ce rfl) rfl ?_
  refine SR_pu (RD_lss rfl rfl) rfl ?_
  refine SR_pu (RD_move rfl) rfl ?_
  refine SR_guard rfl rfl (fun hg1_3 => ?_) (fun hg1_3 => ?_)
  · refine SR_yes rfl rfl (hg1_3) ?_
    refine SR_pu (RD_move rfl) rfl ?_
    refine SR_yes rfl rfl (hg1_3) ?_
    refine SR_pu (RD_lss rfl rfl) rfl ?_
    refine SR_pu (RD_pick_f rfl (hg1_3) rfl) rfl ?_
    refine SR_nil ?_
    refine SN.le (l := [(1, _), (2, _), (11, _)]) ?_ (.cons rfl (.cons rfl (.cons rfl (.nil))))
    refine SN_seq ?_
    refine SC_cond rfl (fun hc11 => ?_) (fun hc11 => ?_)
    · have hv : c.n < 1 ∨ v < 0 := .inr (by simpa using hc11)
      refine SC_seq ?_
      refine SC_region ?_
      refine SR_pu (RD_assign rfl) rfl ?_
      refine SR_nil ?_
      refine SN.le (l := [(4, _)]) ?_ (.cons rfl (.nil))
      refine SN_seq ?_
      refine SC_ret1 rfl rfl ?_
      unfold CfgD.lead
      rw [if_pos hv]
      exact ⟨rfl, .fin⟩
    · have hv : ¬ (c.n < 1 ∨ v < 0) := by simp at hg1_3 hc11; omega
      refine SC_skip ?_
      refine SN_seq ?_
      refine SC_seq ?_
      refine SC_region ?_
      refine SR_pu (RD_move rfl) rfl ?_
      first
        | refine SR_pu (RD_fieldAddr 1 Try.runUnderlying24 rfl rfl Try.sizeOf3 rfl) rfl ?_
        | refine SR_rd (RD_fieldAddrO 1 Try.runUnderlying24 rfl rfl Try.sizeOf3 rfl (by simp <;> omega)) Has.ro rfl ?_
      refine SR_rd (RD_load Try.isAgg3 rfl) (Has.ce rfl) rfl ?_
      refine SR_pu (RD_remi rfl rfl (by omega) (by omega)) rfl ?_
      refine SR_pu (RD_assign rfl) rfl ?_
      refine SR_nil ?_
      refine SN.le (l := [(4, _)]) ?_ (.cons rfl (.nil))
      refine SN_seq ?_
      refine SC_ret1 rfl rfl ?_
      unfold CfgD.lead
      rw [if_neg hv]
      exact ⟨rfl, .fin⟩
  · refine SR_no rfl rfl (hg1_3) (lts rfl) ?_
    refine SR_no rfl rfl (hg1_3) (lts rfl) ?_
    refine SR_pu (RD_pick_t rfl (hg1_3) rfl) rfl ?_
    refine SR_nil ?_
    refine SN.le (l := [(1, _), (2, _), (11, _)]) ?_ (.cons rfl (.cons rfl (.cons rfl (.nil))))
    refine SN_seq ?_
    have hv : c.n < 1 ∨ v < 0 := .inl (of_decide_eq_true hg1_3)
    refine SC_cond_true rfl (rfl) ?_
    refine SC_seq ?_
    refine SC_region ?_
    refine SR_pu (RD_assign rfl) rfl ?_
    refine SR_nil ?_
    refine SN.le (l := [(4, _)]) ?_ (.cons rfl (.nil))
    refine SN_seq ?_
    refine SC_ret1 rfl rfl ?_
    unfold CfgD.lead
    rw [if_pos hv]
    exact ⟨rfl, .fin⟩

theorem w_Ok {W : World} {F : List HProp} [Abs F] (k : WK) (s : WS) (e : EnvD) (he : e.Ok) (hl : s.l.length ≤ 1000000000) :
    CallsK W Try.prog 28 #[.pointer (some ⟨k.p, 0, none⟩), e.val] (At worldI k s :: F) (fun u L => u = .bool (decide (okE (okL s.l e) s.S e)) ∧ Lands L (At worldI k ⟨okL s.l e, s.S⟩ :: F)) := by
  refine CallsK_enter (n := 26) Try.func28 rfl rfl rfl ?_
  refine SC_seq ?_
  refine SC_region ?_
  refine SR_ox (OX_box rfl rfl) rfl ?_
  rintro _ _ ⟨b3, rfl, rfl⟩
  refine SR_pu (RD_assign rfl) rfl ?_
  refine SR_nil ?_
  refine SN.le (l := [(0, _), (3, _)]) ?_ (.cons rfl (.cons rfl (.nil)))
  refine SN_seq ?_
  refine SC_seq ?_
  refine SC.lands (Lands.op_world (k := k) (s := s)) ?_
  refine SC_drawn (.cons 0 true (.cons 1 true (.cons 2 true (.cons 3 true (.cons 4 true (.cons 5 true (.cons 6 true (.cons 7 true (.cons 8 true (.cons 9 true (.cons 10 true (.cons 11 true (.cons 12 true (.cons 13 true (.cons 14 true (.cons 15 true (.cons 16 true (.cons 17 true (.cons 18 false (.cons 19 false (.cons 20 true (.cons 21 true (.nil))))))))))))))))))))))) (by kernel_rfl) (by kernel_rfl) ?_
  first
    | refine SQ_pu rfl (RD_fieldAddr0 Try.runUnderlying39 rfl rfl Try.sizeOf3 rfl) rfl ?_
    | refine SQ_rd rfl (RD_fieldAddrO 0 Try.runUnderlying39 rfl rfl Try.sizeOf3 rfl (by simp <;> omega)) Has.ro rfl ?_
  refine SQ_rd rfl (RD_load Try.isAgg3 rfl) (Has.ce rfl) rfl ?_
  refine SQ_pu rfl (RD_geq rfl rfl) rfl ?_
  refine SQ_pu rfl (RD_move rfl) rfl ?_
  refine SQ_guard (i := 4) rfl rfl rfl (fun hg1_3 => ?_) (fun hg1_3 => ?_)
  · first
      | refine SQ_pyes rfl rfl rfl (hg1_3) (RD_fieldAddr0 Try.runUnderlying39 rfl rfl Try.sizeOf3 rfl) rfl ?_
      | refine SQ_yes rfl rfl rfl (hg1_3) (RD_fieldAddrO 0 Try.runUnderlying39 rfl rfl Try.sizeOf3 rfl (by simp <;> omega)) Has.ro rfl ?_
    refine SQ_yes rfl rfl rfl (hg1_3) (RD_load Try.isAgg3 rfl) (Has.ce rfl) rfl ?_
    refine SQ_pyes rfl rfl rfl (hg1_3) (RD_leq rfl rfl) rfl ?_
    refine SQ_pu rfl (RD_pick_t rfl (hg1_3) rfl) rfl ?_
    refine SQ_pu rfl (RD_move rfl) rfl ?_
    refine SQ_guard (i := 9) rfl rfl rfl (fun hg1_8 => ?_) (fun hg1_8 => ?_)
    · have hr : 0 ≤ e.client ∧ e.client ≤ 999 := by simp at hg1_3 hg1_8; exact ⟨hg1_3, hg1_8⟩
      refine SQ_pyes rfl rfl rfl (hg1_8) (RD_move rfl) rfl ?_
      first
        | refine SQ_pyes rfl rfl rfl (hg1_8) (RD_nilCheck rfl) rfl ?_
        | refine SQ_pyes rfl rfl rfl (hg1_8) (RD_nilCheckF rfl) rfl ?_
      first
        | refine SQ_pyes rfl rfl rfl (hg1_8) (RD_fieldAddr 1 Try.runUnderlying102 rfl rfl Try.sizeOf47 rfl) rfl ?_
        | refine SQ_yes rfl rfl rfl (hg1_8) (RD_fieldAddrO 1 Try.runUnderlying102 rfl rfl Try.sizeOf47 rfl (by simp <;> omega)) Has.ro rfl ?_
      refine SQ_yes rfl rfl rfl (hg1_8) (RD_load Try.isAgg47 rfl) (Has.ce rfl) rfl ?_
      first
        | refine SQ_pyes rfl rfl rfl (hg1_8) (RD_fieldAddr0 Try.runUnderlying39 rfl rfl Try.sizeOf3 rfl) rfl ?_
        | refine SQ_yes rfl rfl rfl (hg1_8) (RD_fieldAddrO 0 Try.runUnderlying39 rfl rfl Try.sizeOf3 rfl (by simp <;> omega)) Has.ro rfl ?_
      refine SQ_yes rfl rfl rfl (hg1_8) (RD_load Try.isAgg3 rfl) (Has.ce rfl) rfl ?_
      refine SQ_pyes rfl rfl rfl (hg1_8) (RD_addi rfl rfl (by omega) (by omega)) rfl ?_
      refine SQ_pyes rfl rfl rfl (hg1_8) (RD_move rfl) rfl ?_
      refine SQ_yes rfl rfl rfl (hg1_8) (RD_loadA Try.isAgg39 Try.sizeOf39 rfl rfl) Has.wh rfl ?_
      refine SQ_one (SA_call rfl (.mk rfl rfl (hg1_8)) Try.call29 (.cons rfl (.cons rfl (.nil))) (CallsK.lands ((close_world (k := k) (l := s.l) (S := s.S)).trans .fin : Lands _ (At worldI k s :: pt b3 (.cells (EnvD.cells e).toArray 39) :: F)) (w_EnvDigest k s e he hl _ _ rfl rfl)) (lts rfl) ?_)
      rintro _ L2 ⟨rfl, hL2⟩
      have hL2b := hL2.trans open_world
      dsimp only at hL2b
      refine ⟨.lands hL2b (.w rfl (.h (Has.ce rfl) (.h (Has.ce rfl) (.h (Has.ce rfl) (.h (Has.ce rfl) (.nil)))))), ?_⟩
      refine SQ.lands hL2b ?_
      refine SQ_one (SA_call rfl (.mk rfl rfl (hg1_8)) Try.call22 (.cons rfl (.cons rfl (.cons rfl (.nil)))) (CallsK.at (book_Has k.b s.S (1000 + e.client) _)) (lts rfl) ?_)
      rintro _ L3 ⟨rfl, hL3⟩
      refine ⟨.lands hL3 (.h Has.wh (.h (Has.ce rfl) (.w rfl (.h (Has.ce rfl) (.h (Has.ce rfl) (.nil)))))), ?_⟩
      refine SQ.lands hL3 ?_
      refine SQ_pu rfl (RD_pick_t rfl (hg1_8) rfl) rfl ?_
      refine SQ_pu rfl (RD_assign rfl) rfl ?_
      refine SQ_nil ?_
      refine SN.le (l := [(4, _)]) ?_ (.cons rfl (.nil))
      refine SN_seq ?_
      refine SC_ret1 rfl rfl ?_
      rw [show okL s.l e = dput s.l (envB e) from if_pos hr]
      refine ⟨?_, (close_world (k := k) (l := dput s.l (envB e)) (S := s.S)).trans .fin⟩
      have : decide (okE (dput s.l (envB e)) s.S e) = decide (1000 + e.client ∈ signers s.S (dnum (dput s.l (envB e)) (envB e) : Nat)) := decide_eq_decide.2 ⟨fun h => h.2.2, fun h => ⟨hr.1, hr.2, h⟩⟩
      rw [this]
    · refine SQ_no rfl rfl rfl (hg1_8) (lts rfl) ?_
      refine SQ_no rfl rfl rfl (hg1_8) (lts rfl) ?_
      refine SQ_no rfl rfl rfl (hg1_8) (lts rfl) ?_
      refine SQ_no rfl rfl rfl (hg1_8) (lts rfl) ?_
      refine SQ_no rfl rfl rfl (hg1_8) (lts rfl) ?_
      refine SQ_no rfl rfl rfl (hg1_8) (lts rfl) ?_
      refine SQ_no rfl rfl rfl (hg1_8) (lts rfl) ?_
      refine SQ_no rfl rfl rfl (hg1_8) (lts rfl) ?_
      refine SQ_no rfl rfl rfl (hg1_8) (lts rfl) ?_
      refine SQ_no1 rfl rfl rfl (hg1_8) (lts rfl) ?_
      refine SQ_no1 rfl rfl rfl (hg1_8) (lts rfl) ?_
      refine SQ_pu rfl (RD_pick_f rfl (hg1_8) rfl) rfl ?_
      refine SQ_pu rfl (RD_assign rfl) rfl ?_
      refine SQ_nil ?_
      refine SN.le (l := [(4, _)]) ?_ (.cons rfl (.nil))
      refine SN_seq ?_
      refine SC_ret1 rfl rfl ?_
      have hr : ¬ (0 ≤ e.client ∧ e.client ≤ 999) := fun h => by simp at hg1_3 hg1_8; omega
      rw [show okL s.l e = s.l from if_neg hr]
      have hz : ¬ okE s.l s.S e := fun h => hr ⟨h.1, h.2.1⟩
      rw [decide_eq_false hz]
      exact ⟨rfl, (close_world (k := k) (l := s.l) (S := s.S)).trans .fin⟩
  · refine SQ_no rfl rfl rfl (hg1_3) (lts rfl) ?_
    refine SQ_no rfl rfl rfl (hg1_3) (lts rfl) ?_
    refine SQ_no rfl rfl rfl (hg1_3) (lts rfl) ?_
    refine SQ_pu rfl (RD_pick_f rfl (hg1_3) rfl) rfl ?_
    refine SQ_pu rfl (RD_move rfl) rfl ?_
    refine SQ_no rfl rfl rfl (rfl) (lts rfl) ?_
    refine SQ_no rfl rfl rfl (rfl) (lts rfl) ?_
    refine SQ_no rfl rfl rfl (rfl) (lts rfl) ?_
    refine SQ_no rfl rfl rfl (rfl) (lts rfl) ?_
    refine SQ_no rfl rfl rfl (rfl) (lts rfl) ?_
    refine SQ_no rfl rfl rfl (rfl) (lts rfl) ?_
    refine SQ_no rfl rfl rfl (rfl) (lts rfl) ?_
    refine SQ_no rfl rfl rfl (rfl) (lts rfl) ?_
    refine SQ_no rfl rfl rfl (rfl) (lts rfl) ?_
    refine SQ_no1 rfl rfl rfl (rfl) (lts rfl) ?_
    refine SQ_no1 rfl rfl rfl (rfl) (lts rfl) ?_
    refine SQ_pu rfl (RD_pick_f rfl (rfl) rfl) rfl ?_
    refine SQ_pu rfl (RD_assign rfl) rfl ?_
    refine SQ_nil ?_
    refine SN.le (l := [(4, _)]) ?_ (.cons rfl (.nil))
    refine SN_seq ?_
    refine SC_ret1 rfl rfl ?_
    have hr : ¬ (0 ≤ e.client ∧ e.client ≤ 999) := fun h => by simp at hg1_3; omega
    rw [show okL s.l e = s.l from if_neg hr]
    have hz : ¬ okE s.l s.S e := fun h => hr ⟨h.1, h.2.1⟩
    rw [decide_eq_false hz]
    exact ⟨rfl, (close_world (k := k) (l := s.l) (S := s.S)).trans .fin⟩

theorem w_Ok' {W : World} {F : List HProp} [Abs F] (k : WK) (s : WS) (e : EnvD) (he : e.Ok) (hl : s.l.length ≤ 1000000000) (hm : envB e ∈ s.l) :
    CallsK W Try.prog 28 #[.pointer (some ⟨k.p, 0, none⟩), e.val] (At worldI k s :: F) (fun u L => u = .bool (decide (okE s.l s.S e)) ∧ Lands L (At worldI k s :: F)) := by
  have h := w_Ok (W := W) (F := F) k s e he hl
  have : okL s.l e = s.l := by unfold okL; split; exact dput_idem hm; rfl
  rw [this] at h
  exact h

theorem blok_lead {W : World} {F : List HProp} [Abs F] (k : WK) (s : WS) (b : BlkD) {cs ds : List Value} [HasRow F b.by_.a cs] [HasRow F b.envs.a ds] (hcs : cs = b.by_.l.map intV) (hds : ds = b.envs.l.flatMap EnvD.cells) (hf : b.Fit) (hl : s.l.length ≤ 800000000) :
    CallsK W Try.prog 74 #[.pointer (some ⟨k.p, 0, none⟩), b.val] (At worldI k s :: F) (fun v L => v = .int .i64 (b.pure.leadD s.l : Nat) ∧ Lands L (At worldI k ⟨b.pure.leadL s.l, s.S⟩ :: F)) := by
  refine CallsK_enter (n := 11) Try.func74 rfl rfl rfl ?_
  subst hcs
  subst hds
  obtain ⟨hf1, hf2, hf3, hf4, hf5⟩ := hf
  have hbl := blkL_len s.l b.pure
  have hbe : b.pure.envs.length = b.envs.n := hf2
  refine SC_seq ?_
  refine SC_region ?_
  refine SR_ox (OX_box rfl rfl) rfl ?_
  rintro _ _ ⟨b3, rfl, rfl⟩
  refine SR_pu (RD_assign rfl) rfl ?_
  refine SR_nil ?_
  refine SN.le (l := [(0, _), (3, _)]) ?_ (.cons rfl (.cons rfl (.nil)))
  refine SN_seq ?_
  refine SC_seq ?_
  refine SC_region ?_
  refine SR_pu (RD_move rfl) rfl ?_
  refine SR_pu (RD_move rfl) rfl ?_
  refine SR_rd (RD_loadA Try.isAgg33 Try.sizeOf33 rfl rfl) Has.wh rfl ?_
  refine SR_call Try.call19 (.cons rfl (.cons rfl (.nil))) (CallsK.at (blok_Digest k s b rfl rfl hf1 hf2 hf5 (by omega) (by omega) (by omega))) (lts rfl) ?_
  rintro _ L1 ⟨rfl, hL1⟩
  refine SR.lands hL1 ?_
  refine SR_ox (OX_lit1 Try.underlying22 Try.type3 rfl rfl rfl rfl (.cons rfl (.nil)) (.cons rfl (.nil))) rfl ?_
  rintro _ _ ⟨b9, rfl, rfl⟩
  refine SR_call Try.call62 (.cons rfl (.cons rfl (.cons rfl (.nil)))) (CallsK.lands (lit_row (E := 3) (z := 1) (cs := [.int .i64 (blkD s.l b.pure : Nat)]) 1 rfl) (CallsK.at (w_Tagged k ⟨blkL s.l b.pure, s.S⟩ [108, 101, 97, 100] [(blkD s.l b.pure : Nat)] _ 1 1 rfl rfl (by simp) (by omega) (by dsimp only; omega) _ _ rfl rfl))) (lts rfl) ?_
  rintro _ L2 ⟨rfl, hL2⟩
  refine SR.lands hL2 ?_
  refine SR_pu (RD_assign rfl) rfl ?_
  refine SR_nil ?_
  refine SN.le (l := [(4, _)]) ?_ (.cons rfl (.nil))
  refine SN_seq ?_
  refine SC_ret1 rfl rfl ?_
  refine ⟨rfl, ?_⟩
  rw [show b.pure.leadL s.l = dput (blkL s.l b.pure) (tagB [108, 101, 97, 100] [((blkD s.l b.pure : Nat) : Int)]) from rfl]
  exact .fin

theorem blok_Sign {W : World} {F : List HProp} [Abs F] (k : WK) (s : WS) (b : BlkD) {cs ds : List Value} [HasRow F b.by_.a cs] [HasRow F b.envs.a ds] (hcs : cs = b.by_.l.map intV) (hds : ds = b.envs.l.flatMap EnvD.cells) (hf : b.Fit) (hl : s.l.length ≤ 800000000) :
    CallsK W Try.prog 36 #[.pointer (some ⟨k.p, 0, none⟩), b.val] (At worldI k s :: F) (fun v L => v = .tuple #[] ∧ Lands L (At worldI k ⟨b.pure.leadL s.l, addTo s.S b.author (b.pure.leadD s.l : Nat)⟩ :: F)) := by
  refine CallsK_enter (n := 12) Try.func36 rfl rfl rfl ?_
  refine SC_seq ?_
  refine SC_region ?_
  refine SR_ox (OX_box rfl rfl) rfl ?_
  rintro _ _ ⟨b3, rfl, rfl⟩
  refine SR_nil ?_
  refine SN.le (l := [(0, _), (3, _)]) ?_ (.cons rfl (.cons rfl (.nil)))
  refine SN_seq ?_
  refine SC_drawn (.cons 0 true (.cons 2 true (.cons 3 true (.cons 4 true (.cons 5 true (.cons 1 false (.cons 6 false (.cons 7 false (.nil))))))))) (by kernel_rfl) (by kernel_rfl) ?_
  refine SQ_pu rfl (RD_move rfl) rfl ?_
  first
    | refine SQ_pu rfl (RD_fieldAddr 1 Try.runUnderlying33 rfl rfl Try.sizeOf3 rfl) rfl ?_
    | refine SQ_rd rfl (RD_fieldAddrO 1 Try.runUnderlying33 rfl rfl Try.sizeOf3 rfl (by simp <;> omega)) Has.ro rfl ?_
  refine SQ_rd rfl (RD_load Try.isAgg3 rfl) (Has.ce rfl) rfl ?_
  refine SQ_pu rfl (RD_move rfl) rfl ?_
  refine SQ_rd rfl (RD_loadA Try.isAgg33 Try.sizeOf33 rfl rfl) Has.wh rfl ?_
  refine SQ_call rfl Try.call21 (.cons rfl (.nil)) (CallsK.at (w_Signs k s)) (lts rfl) ?_
  rintro _ L1 ⟨rfl, hL1⟩
  refine ⟨.lands hL1 (.h Has.wh (.h (Has.ce rfl) (.nil))), ?_⟩
  refine SQ.lands hL1 ?_
  refine SQ_call rfl Try.call74 (.cons rfl (.cons rfl (.nil))) (CallsK.at (blok_lead k s b hcs hds hf hl)) (lts rfl) ?_
  rintro _ L2 ⟨rfl, hL2⟩
  refine ⟨.lands hL2 (.w rfl (.h (Has.ce rfl) (.nil))), ?_⟩
  refine SQ.lands hL2 ?_
  refine SQ_call rfl Try.call51 (.cons rfl (.cons rfl (.cons rfl (.nil)))) (CallsK.at (w_Sign k _ b.author _)) (lts rfl) ?_
  rintro _ L3 ⟨rfl, hL3⟩
  refine ⟨.lands hL3 (.h Has.wh (.w rfl (.nil))), ?_⟩
  refine SQ.lands hL3 ?_
  refine SQ_nil ?_
  refine SN.le (l := []) ?_ (.nil)
  refine SN_stop0 rfl ?_
  exact ⟨rfl, .fin⟩

theorem blok_unlike {W : World} {F : List HProp} [Abs F] (k : WK) (s : WS) (a : Option Addr) (n c : Nat) (es : List EnvD) {cs : List Value} [HasRow F a cs] (hcs : cs = es.flatMap EnvD.cells) (hn : es.length = n) (hb : n ≤ 10000) (hok : ∀ e ∈ es, e.Ok) (hm : ∀ e ∈ es, envB e ∈ s.l) (hl : s.l.length ≤ 900000000) :
    CallsK W Try.prog 75 #[.pointer (some ⟨k.p, 0, none⟩), .slice a n c] (At worldI k s :: F) (fun v L => v = .bool (unl s.l s.S es) ∧ Lands L (At worldI k s :: F)) := by
  refine CallsK_enter (n := 34) Try.func75 rfl rfl rfl ?_
  subst hcs
  refine SC_seq ?_
  refine SC_region ?_
  refine SR_pu (RD_assign rfl) rfl ?_
  refine SR_nil ?_
  refine SN.le (l := [(0, _), (1, _)]) ?_ (.cons rfl (.cons rfl (.nil)))
  refine SN_seq ?_
  refine SC_seq ?_
  refine SC_region ?_
  refine SR_ox (OX_mk intK) rfl ?_
  rintro _ _ ⟨b9, rfl, rfl⟩
  refine SR_pu (RD_assign rfl) rfl ?_
  refine SR_nil ?_
  refine SN.le (l := [(0, _), (1, _), (5, _)]) ?_ (.cons rfl (.cons rfl (.cons rfl (.nil))))
  refine SN_seq ?_
  refine SC_seq ?_
  refine SC_seq ?_
  refine SC_region ?_
  refine SR_pu (RD_move rfl) rfl ?_
  refine SR_pu (RD_len Try.runUnderlying31 rfl) rfl ?_
  refine SR_pu (RD_move rfl) rfl ?_
  refine SR_nil ?_
  refine SN.le (l := [(0, _), (5, _), (10, _), (11, _), (12, _)]) ?_ (.cons rfl (.cons rfl (.cons rfl (.cons rfl (.cons rfl (.nil))))))
  refine SN_seq ?_
  refine SC_block ?_
  refine SC_ind (X := Nat) (fun i => i ≤ n ∧ (numsE s.l (es.take i)).Nodup ∧ ∀ e ∈ es.take i, okE s.l s.S e) (fun i => n - i) (fun i => [(0, .pointer (some ⟨k.p, 0, none⟩)), (5, .map (some b9)), (10, .slice a n c), (11, .int .i64 (n : Nat)), (12, .int .i64 (i : Nat))]) (fun i => mapP intK b9 ((numsE s.l (es.take i)).map fun w => (w, Value.int .i64 1)) :: At worldI k s :: F) (0) (⟨by omega, by simp [numsE], fun e he => by simp at he⟩) (.cons rfl (.cons rfl (.cons rfl (.cons rfl (.cons rfl (.nil)))))) (by simp only [List.take_zero, numsE, List.map_nil]; exact .fin) ?_
  intro i hi ih
  obtain ⟨hi1, hi2, hi3⟩ := hi
  refine SC_seq ?_
  refine SC_region ?_
  refine SR_pu (RD_lss rfl rfl) rfl ?_
  refine SR_nil ?_
  refine SN.le (l := [(0, _), (5, _), (10, _), (11, _), (12, _), (13, _)]) ?_ (.cons rfl (.cons rfl (.cons rfl (.cons rfl (.cons rfl (.cons rfl (.nil)))))))
  refine SN_seq ?_
  refine SC_seq ?_
  refine SC_cond rfl (fun hc13 => ?_) (fun hc13 => ?_)
  · have hin : i < n := by simp at hc13; omega
    obtain ⟨e, hx⟩ : ∃ e, es[i]? = some e := ⟨_, List.getElem?_eq_getElem (by omega)⟩
    have hmem := List.mem_of_getElem? hx
    have hmm := hm e hmem
    have htk : es.take (i + 1) = es.take i ++ [e] := by rw [List.take_add_one, hx]; rfl
    have hne : numsE s.l (es.take (i + 1)) = numsE s.l (es.take i) ++ [((dnum s.l (envB e) : Nat) : Int)] := by rw [htk]; simp [numsE]
    by_cases hd : ((dnum s.l (envB e) : Nat) : Int) ∈ (numsE s.l (es.take i))
    · refine SC_skip ?_
      refine SN_seq ?_
      refine SC_seq ?_
      refine SC_block ?_
      refine SC_seq ?_
      refine SC_region ?_
      refine SR_rd (RD_ixO (cs := es.flatMap EnvD.cells) Try.runUnderlying31 Try.sizeOf39 rfl rfl (by rw [env_len, hn]) (by omega) (by omega)) Has.ro rfl ?_
      refine SR_rd (RD_loadAO (vs := e.cells) (cs := es.flatMap EnvD.cells) Try.isAgg39 Try.sizeOf39 rfl rfl (by decide) (fun o v h => by have ho : o < 4 := (List.getElem?_eq_some_iff.1 h).1; rw [show ((i : Nat) : Int).toNat * (3 + 1) + o = i * 4 + o by omega, env_get hx o ho]; exact h)) Has.ro rfl ?_
      refine SR_ox (OX_alloc Try.zeroValue39 rfl) rfl ?_
      rintro _ _ ⟨b7, rfl, rfl⟩
      refine SR_ox0 (OX_stA Try.sizeOf39 rfl rfl rfl rfl) ?_
      rintro _ _ rfl
      refine SR_nil ?_
      refine SN.le (l := [(0, _), (5, _), (7, _), (10, _), (11, _), (12, _)]) ?_ (.cons rfl (.cons rfl (.cons rfl (.cons rfl (.cons rfl (.cons rfl (.nil)))))))
      refine SN_seq ?_
      refine SC_seq ?_
      refine SC_region ?_
      refine SR_pu (RD_move rfl) rfl ?_
      refine SR_rd (RD_loadA Try.isAgg39 Try.sizeOf39 rfl rfl) Has.wh rfl ?_
      refine SR_call Try.call29 (.cons rfl (.cons rfl (.nil))) (CallsK.at (w_EnvDigest k s e (hok e hmem) (by omega) s.l (dnum s.l (envB e)) (dput_idem hmm) rfl)) (lts rfl) ?_
      rintro _ L1 ⟨rfl, hL1⟩
      refine SR.lands hL1 ?_
      refine SR_pu (RD_assign rfl) rfl ?_
      refine SR_nil ?_
      refine SN.le (l := [(0, _), (5, _), (7, _), (8, _), (10, _), (11, _), (12, _)]) ?_ (.cons rfl (.cons rfl (.cons rfl (.cons rfl (.cons rfl (.cons rfl (.cons rfl (.nil))))))))
      refine SN_seq ?_
      refine SC_seq ?_
      refine SC_region ?_
      refine SR_pu (RD_move rfl) rfl ?_
      refine SR_pu (RD_move rfl) rfl ?_
      refine SR_rd (RD_lookS (K := intK) (m := ((numsE s.l (es.take i)).map fun w => (w, Value.int .i64 1))) Try.underlying25 Try.underlying3 Try.zeroValue3 rfl rfl (by rw [mget_ws, if_pos hd])) (Has.ma (K := intK)) rfl ?_
      refine SR_pu (RD_addi rfl rfl (by omega) (by omega)) rfl ?_
      refine SR_ox0 (OX_mu (K := intK) Try.underlying25 Try.underlying3 rfl rfl rfl) ?_
      rintro _ _ rfl
      refine SR_nil ?_
      refine SN.le (l := [(0, _), (5, _), (7, _), (8, _), (10, _), (11, _), (12, _)]) ?_ (.cons rfl (.cons rfl (.cons rfl (.cons rfl (.cons rfl (.cons rfl (.cons rfl (.nil))))))))
      refine SN_seq ?_
      refine SC_seq ?_
      refine SC_region ?_
      refine SR_pu (RD_move rfl) rfl ?_
      refine SR_pu (RD_move rfl) rfl ?_
      refine SR_rd (RD_lookS (K := intK) (u := .int .i64 2) (m := mset ((numsE s.l (es.take i)).map fun w => (w, Value.int .i64 1)) ((dnum s.l (envB e) : Nat) : Int) (.int .i64 2)) Try.underlying25 Try.underlying3 Try.zeroValue3 rfl rfl (by rw [mget_mset, if_pos rfl])) (Has.ma (K := intK)) rfl ?_
      refine SR_pu (RD_gtr rfl rfl) rfl ?_
      refine SR_pu (RD_move rfl) rfl ?_
      refine SR_no rfl rfl (rfl) (lts rfl) ?_
      refine SR_no rfl rfl (rfl) (lts rfl) ?_
      refine SR_no rfl rfl (rfl) (lts rfl) ?_
      refine SR_no rfl rfl (rfl) (lts rfl) ?_
      refine SR_pu (RD_pick_t rfl (rfl) rfl) rfl ?_
      refine SR_nil ?_
      refine SN.le (l := [(0, _), (5, _), (10, _), (11, _), (12, _), (32, _)]) ?_ (.cons rfl (.cons rfl (.cons rfl (.cons rfl (.cons rfl (.cons rfl (.nil)))))))
      refine SN_seq ?_
      refine SC_cond_true rfl (rfl) ?_
      refine SC_seq ?_
      refine SC_region ?_
      refine SR_pu (RD_assign rfl) rfl ?_
      refine SR_nil ?_
      refine SN.le (l := [(4, _)]) ?_ (.cons rfl (.nil))
      refine SN_seq ?_
      refine SC_ret1 rfl rfl ?_
      rw [unl_dup hx hd]
      exact ⟨rfl, .fin⟩
    · refine SC_skip ?_
      refine SN_seq ?_
      refine SC_seq ?_
      refine SC_block ?_
      refine SC_seq ?_
      refine SC_region ?_
      refine SR_rd (RD_ixO (cs := es.flatMap EnvD.cells) Try.runUnderlying31 Try.sizeOf39 rfl rfl (by rw [env_len, hn]) (by omega) (by omega)) Has.ro rfl ?_
      refine SR_rd (RD_loadAO (vs := e.cells) (cs := es.flatMap EnvD.cells) Try.isAgg39 Try.sizeOf39 rfl rfl (by decide) (fun o v h => by have ho : o < 4 := (List.getElem?_eq_some_iff.1 h).1; rw [show ((i : Nat) : Int).toNat * (3 + 1) + o = i * 4 + o by omega, env_get hx o ho]; exact h)) Has.ro rfl ?_
      refine SR_ox (OX_alloc Try.zeroValue39 rfl) rfl ?_
      rintro _ _ ⟨b7, rfl, rfl⟩
      refine SR_ox0 (OX_stA Try.sizeOf39 rfl rfl rfl rfl) ?_
      rintro _ _ rfl
      refine SR_nil ?_
      refine SN.le (l := [(0, _), (5, _), (7, _), (10, _), (11, _), (12, _)]) ?_ (.cons rfl (.cons rfl (.cons rfl (.cons rfl (.cons rfl (.cons rfl (.nil)))))))
      refine SN_seq ?_
      refine SC_seq ?_
      refine SC_region ?_
      refine SR_pu (RD_move rfl) rfl ?_
      refine SR_rd (RD_loadA Try.isAgg39 Try.sizeOf39 rfl rfl) Has.wh rfl ?_
      refine SR_call Try.call29 (.cons rfl (.cons rfl (.nil))) (CallsK.at (w_EnvDigest k s e (hok e hmem) (by omega) s.l (dnum s.l (envB e)) (dput_idem hmm) rfl)) (lts rfl) ?_
      rintro _ L1 ⟨rfl, hL1⟩
      refine SR.lands hL1 ?_
      refine SR_pu (RD_assign rfl) rfl ?_
      refine SR_nil ?_
      refine SN.le (l := [(0, _), (5, _), (7, _), (8, _), (10, _), (11, _), (12, _)]) ?_ (.cons rfl (.cons rfl (.cons rfl (.cons rfl (.cons rfl (.cons rfl (.cons rfl (.nil))))))))
      refine SN_seq ?_
      refine SC_seq ?_
      refine SC_region ?_
      refine SR_pu (RD_move rfl) rfl ?_
      refine SR_pu (RD_move rfl) rfl ?_
      refine SR_rd (RD_lookNo (K := intK) (m := ((numsE s.l (es.take i)).map fun w => (w, Value.int .i64 1))) Try.underlying25 Try.underlying3 Try.zeroValue3 rfl rfl (by rw [mget_ws, if_neg hd])) (Has.ma (K := intK)) rfl ?_
      refine SR_pu (RD_addi rfl rfl (by omega) (by omega)) rfl ?_
      refine SR_ox0 (OX_mu (K := intK) Try.underlying25 Try.underlying3 rfl rfl rfl) ?_
      rintro _ _ rfl
      refine SR_nil ?_
      refine SN.le (l := [(0, _), (5, _), (7, _), (8, _), (10, _), (11, _), (12, _)]) ?_ (.cons rfl (.cons rfl (.cons rfl (.cons rfl (.cons rfl (.cons rfl (.cons rfl (.nil))))))))
      refine SN_seq ?_
      refine SC_seq ?_
      refine SC_region ?_
      refine SR_pu (RD_move rfl) rfl ?_
      refine SR_pu (RD_move rfl) rfl ?_
      refine SR_rd (RD_lookS (K := intK) (u := .int .i64 1) (m := mset ((numsE s.l (es.take i)).map fun w => (w, Value.int .i64 1)) ((dnum s.l (envB e) : Nat) : Int) (.int .i64 1)) Try.underlying25 Try.underlying3 Try.zeroValue3 rfl rfl (by rw [mget_mset, if_pos rfl])) (Has.ma (K := intK)) rfl ?_
      refine SR_pu (RD_gtr rfl rfl) rfl ?_
      refine SR_pu (RD_move rfl) rfl ?_
      refine SR_yes rfl rfl (rfl) ?_
      refine SR_pu (RD_move rfl) rfl ?_
      refine SR_yes rfl rfl (rfl) ?_
      refine SR_rd (RD_loadA Try.isAgg39 Try.sizeOf39 rfl rfl) Has.wh rfl ?_
      refine SR_yes rfl rfl (rfl) ?_
      refine SR_call Try.call28 (.cons rfl (.cons rfl (.nil))) (CallsK.at (w_Ok' k s e (hok e hmem) (by omega) hmm)) (lts rfl) ?_
      rintro _ L2 ⟨rfl, hL2⟩
      refine SR.lands hL2 ?_
      refine SR_yes rfl rfl (rfl) ?_
      refine SR_pu (RD_not rfl) rfl ?_
      refine SR_pu (RD_pick_f rfl (rfl) rfl) rfl ?_
      refine SR_nil ?_
      refine SN.le (l := [(0, _), (5, _), (10, _), (11, _), (12, _), (32, _)]) ?_ (.cons rfl (.cons rfl (.cons rfl (.cons rfl (.cons rfl (.cons rfl (.nil)))))))
      refine SN_seq ?_
      refine SC_cond rfl (fun hc32 => ?_) (fun hc32 => ?_)
      · have hno : ¬ okE s.l s.S e := by simpa using hc32
        refine SC_seq ?_
        refine SC_region ?_
        refine SR_pu (RD_assign rfl) rfl ?_
        refine SR_nil ?_
        refine SN.le (l := [(4, _)]) ?_ (.cons rfl (.nil))
        refine SN_seq ?_
        refine SC_ret1 rfl rfl ?_
        rw [unl_bad hx hno]
        exact ⟨rfl, .fin⟩
      · have hyes : okE s.l s.S e := by simpa using hc32
        have hms : mset ((numsE s.l (es.take i)).map fun w => (w, Value.int .i64 1)) ((dnum s.l (envB e) : Nat) : Int) (.int .i64 (0 + 1)) = ((numsE s.l (es.take (i + 1))).map fun w => (w, Value.int .i64 1)) := by rw [Int.zero_add, mset_ws, hne]; unfold putW; rw [if_neg hd]
        refine SC_skip ?_
        refine SN_block ?_
        refine SN_seq ?_
        refine SC_region ?_
        refine SR_pu (RD_addi rfl rfl (by omega) (by omega)) rfl ?_
        refine SR_pu (RD_move rfl) rfl ?_
        refine SR_nil ?_
        refine SN.le (l := [(0, _), (5, _), (10, _), (11, _), (12, _)]) ?_ (.cons rfl (.cons rfl (.cons rfl (.cons rfl (.cons rfl (.nil))))))
        refine SC_again (ih (i + 1) (⟨by omega, by rw [hne]; exact List.nodup_append.2 ⟨hi2, by simp, fun x hx y hy e2 => by simp at hy; subst hy; subst e2; exact hd hx⟩, fun x hx => by rw [htk] at hx; rcases List.mem_append.1 hx with h | h; exact hi3 x h; simp at h; subst h; exact hyes⟩) (by omega)) (by rw [← hms]; exact .fin) (.cons rfl (.cons rfl (.cons rfl (.cons rfl (.cons' rfl (ie (by omega)) (.nil))))))
  · have hin : i = n := by simp at hc13; omega
    subst hin
    have htk : es.take i = es := by rw [← hn, List.take_length]
    rw [htk] at hi2 hi3
    have hun := unl_all hi2 hi3
    refine SC_exit rfl ?_
    refine SN_seq ?_
    refine SC_seq ?_
    refine SC_region ?_
    refine SR_pu (RD_assign rfl) rfl ?_
    refine SR_nil ?_
    refine SN.le (l := [(4, _)]) ?_ (.cons rfl (.nil))
    refine SN_seq ?_
    refine SC_ret1 rfl rfl ?_
    rw [hun]
    exact ⟨rfl, .fin⟩

theorem blok_Ok {W : World} {F : List HProp} [Abs F] (k : WK) (s : WS) (c : CfgD) (hw : c.n < 9223372036854775808) (b : BlkD) {cs ds : List Value} [HasRow F b.by_.a cs] [HasRow F b.envs.a ds] (hcs : cs = b.by_.l.map intV) (hds : ds = b.envs.l.flatMap EnvD.cells) (hf : b.Fit) (hl : s.l.length ≤ 800000000) :
    CallsK W Try.prog 33 #[.pointer (some ⟨k.p, 0, none⟩), c.val, b.val] (At worldI k s :: F) (fun v L => v = .bool (b.pure.ok c s.l s.S).1 ∧ Lands L (At worldI k ⟨(b.pure.ok c s.l s.S).2, s.S⟩ :: F)) := by
  refine CallsK_enter (n := 57) Try.func33 rfl rfl rfl ?_
  subst hcs
  subst hds
  obtain ⟨hf1, hf2, hf3, hf4, hf5⟩ := id hf
  have hbl := leadL_len s.l b.pure
  have hbe : b.pure.envs.length = b.envs.n := hf2
  refine SC_seq ?_
  refine SC_region ?_
  refine SR_ox (OX_box rfl rfl) rfl ?_
  rintro _ _ ⟨b4, rfl, rfl⟩
  refine SR_ox (OX_box rfl rfl) rfl ?_
  rintro _ _ ⟨b5, rfl, rfl⟩
  refine SR_pu (RD_assign rfl) rfl ?_
  refine SR_nil ?_
  refine SN.le (l := [(0, _), (4, _), (5, _)]) ?_ (.cons rfl (.cons rfl (.cons rfl (.nil))))
  refine SN_seq ?_
  refine SC_seq ?_
  refine SC_seq ?_
  refine SC_drawn (.cons 0 true (.cons 1 true (.cons 2 true (.cons 3 true (.cons 4 true (.cons 5 true (.cons 6 true (.cons 7 true (.cons 8 true (.cons 9 false (.cons 10 true (.cons 11 true (.cons 12 true (.cons 13 true (.cons 15 true (.cons 16 true (.cons 17 true (.cons 18 true (.cons 14 false (.cons 19 false (.cons 20 false (.cons 21 true (.cons 22 true (.nil)))))))))))))))))))))))) (by kernel_rfl) (by kernel_rfl) ?_
  first
    | refine SQ_pu rfl (RD_fieldAddr0 Try.runUnderlying33 rfl rfl Try.sizeOf3 rfl) rfl ?_
    | refine SQ_rd rfl (RD_fieldAddrO 0 Try.runUnderlying33 rfl rfl Try.sizeOf3 rfl (by simp <;> omega)) Has.ro rfl ?_
  refine SQ_rd rfl (RD_load Try.isAgg3 rfl) (Has.ce rfl) rfl ?_
  refine SQ_pu rfl (RD_lss rfl rfl) rfl ?_
  refine SQ_pu rfl (RD_move rfl) rfl ?_
  refine SQ_guard (i := 4) rfl rfl rfl (fun hg1_3 => ?_) (fun hg1_3 => ?_)
  · first
      | refine SQ_pyes rfl rfl rfl (hg1_3) (RD_fieldAddr 1 Try.runUnderlying33 rfl rfl Try.sizeOf3 rfl) rfl ?_
      | refine SQ_yes rfl rfl rfl (hg1_3) (RD_fieldAddrO 1 Try.runUnderlying33 rfl rfl Try.sizeOf3 rfl (by simp <;> omega)) Has.ro rfl ?_
    refine SQ_yes rfl rfl rfl (hg1_3) (RD_load Try.isAgg3 rfl) (Has.ce rfl) rfl ?_
    refine SQ_yes rfl rfl rfl (hg1_3) (RD_loadA Try.isAgg24 Try.sizeOf24 rfl rfl) Has.wh rfl ?_
    first
      | refine SQ_pyes rfl rfl rfl (hg1_3) (RD_fieldAddr0 Try.runUnderlying33 rfl rfl Try.sizeOf3 rfl) rfl ?_
      | refine SQ_yes rfl rfl rfl (hg1_3) (RD_fieldAddrO 0 Try.runUnderlying33 rfl rfl Try.sizeOf3 rfl (by simp <;> omega)) Has.ro rfl ?_
    refine SQ_yes rfl rfl rfl (hg1_3) (RD_load Try.isAgg3 rfl) (Has.ce rfl) rfl ?_
    refine SQ_one (SA_call rfl (.mk rfl rfl (hg1_3)) Try.call13 (.cons rfl (.cons rfl (.nil))) (blok_Lead c b.view) (lts rfl) ?_)
    rintro _ L1 ⟨rfl, hL1⟩
    refine ⟨.lands hL1 (.w rfl (.w rfl (.h (Has.ce rfl) (.h (Has.ce rfl) (.nil))))), ?_⟩
    refine SQ.lands hL1 ?_
    refine SQ_pyes rfl rfl rfl (hg1_3) (RD_neq rfl rfl) rfl ?_
    refine SQ_pu rfl (RD_pick_f rfl (hg1_3) rfl) rfl ?_
    refine SQ_pu rfl (RD_move rfl) rfl ?_
    refine SQ_guard (i := 13) rfl rfl rfl (fun hg1_12 => ?_) (fun hg1_12 => ?_)
    · refine SQ_pyes rfl rfl rfl (hg1_12) (RD_move rfl) rfl ?_
      first
        | refine SQ_pyes rfl rfl rfl (hg1_12) (RD_fieldAddr 1 Try.runUnderlying33 rfl rfl Try.sizeOf3 rfl) rfl ?_
        | refine SQ_yes rfl rfl rfl (hg1_12) (RD_fieldAddrO 1 Try.runUnderlying33 rfl rfl Try.sizeOf3 rfl (by simp <;> omega)) Has.ro rfl ?_
      refine SQ_yes rfl rfl rfl (hg1_12) (RD_load Try.isAgg3 rfl) (Has.ce rfl) rfl ?_
      refine SQ_pyes rfl rfl rfl (hg1_12) (RD_move rfl) rfl ?_
      refine SQ_yes rfl rfl rfl (hg1_12) (RD_loadA Try.isAgg33 Try.sizeOf33 rfl rfl) Has.wh rfl ?_
      refine SQ_one (SA_call rfl (.mk rfl rfl (hg1_12)) Try.call21 (.cons rfl (.nil)) (CallsK.at (w_Signs k s)) (lts rfl) ?_)
      rintro _ L2 ⟨rfl, hL2⟩
      refine ⟨.lands hL2 (.h Has.wh (.h (Has.ce rfl) (.h (Has.ce rfl) (.h Has.wh (.h (Has.ce rfl) (.h (Has.ce rfl) (.nil))))))), ?_⟩
      refine SQ.lands hL2 ?_
      refine SQ_one (SA_call rfl (.mk rfl rfl (hg1_12)) Try.call74 (.cons rfl (.cons rfl (.nil))) (CallsK.at (blok_lead k s b rfl rfl hf hl)) (lts rfl) ?_)
      rintro _ L3 ⟨rfl, hL3⟩
      refine ⟨.lands hL3 (.w rfl (.h (Has.ce rfl) (.h (Has.ce rfl) (.h Has.wh (.h (Has.ce rfl) (.h (Has.ce rfl) (.nil))))))), ?_⟩
      refine SQ.lands hL3 ?_
      refine SQ_one (SA_call rfl (.mk rfl rfl (hg1_12)) Try.call22 (.cons rfl (.cons rfl (.cons rfl (.nil)))) (CallsK.at (w_Has k _ b.author _)) (lts rfl) ?_)
      rintro _ L4 ⟨rfl, hL4⟩
      refine ⟨.lands hL4 (.h Has.wh (.w rfl (.h (Has.ce rfl) (.h Has.wh (.h (Has.ce rfl) (.h (Has.ce rfl) (.nil))))))), ?_⟩
      refine SQ.lands hL4 ?_
      refine SQ_pyes rfl rfl rfl (hg1_12) (RD_not rfl) rfl ?_
      refine SQ_pu rfl (RD_pick_f rfl (hg1_12) rfl) rfl ?_
      refine SQ_nil ?_
      refine SN.le (l := [(0, _), (4, _), (5, _), (29, _)]) ?_ (.cons rfl (.cons rfl (.cons rfl (.cons rfl (.nil)))))
      refine SN_seq ?_
      have h1 : ¬ (b.pure.view < 1 ∨ b.pure.author ≠ c.lead b.pure.view) := fun h => by
        rcases h with h | h
        · exact of_decide_eq_false hg1_3 h
        · simp at hg1_12; exact h hg1_12
      refine SC_cond rfl (fun hc29 => ?_) (fun hc29 => ?_)
      · have h2 : b.pure.author ∉ signers s.S (b.pure.leadD s.l : Nat) := by simp at hc29; exact hc29
        refine SC_seq ?_
        refine SC_region ?_
        refine SR_pu (RD_assign rfl) rfl ?_
        refine SR_nil ?_
        refine SN.le (l := [(6, _)]) ?_ (.cons rfl (.nil))
        refine SN_seq ?_
        refine SC_ret1 rfl rfl ?_
        unfold Blk.ok
        first
          | (rw [if_pos h1]; exact ⟨rfl, .fin⟩)
          | (rw [if_neg h1, if_pos h2]; exact ⟨rfl, .fin⟩)
      · have h2 : ¬ b.pure.author ∉ signers s.S (b.pure.leadD s.l : Nat) := by simp at hc29; exact fun h => h hc29
        have hqe := c.qcL_ext (b.pure.leadL s.l) b.jv b.jb
        have hql := c.qcL_len (b.pure.leadL s.l) b.jv b.jb
        refine SC_skip ?_
        refine SN_seq ?_
        refine SC_seq ?_
        refine SC_region ?_
        refine SR_pu (RD_move rfl) rfl ?_
        refine SR_rd (RD_loadA Try.isAgg24 Try.sizeOf24 rfl rfl) Has.wh rfl ?_
        first
          | refine SR_pu (RD_fieldAddr 2 Try.runUnderlying33 rfl rfl Try.sizeOf30 rfl) rfl ?_
          | refine SR_rd (RD_fieldAddrO 2 Try.runUnderlying33 rfl rfl Try.sizeOf30 rfl (by simp <;> omega)) Has.ro rfl ?_
        refine SR_rd (RD_loadA (vs := QcD.cells ⟨b.jv, b.jb, b.by_⟩) Try.isAgg30 Try.sizeOf30 rfl rfl) (Has.ces (cs := b.cells) fun j v h => by rcases j with _ | _ | _ | j <;> simp [QcD.cells, BlkD.cells] at h ⊢ <;> exact h) rfl ?_
        refine SR_call Try.call27 (.cons rfl (.cons rfl (.cons rfl (.nil)))) (CallsK.at (cert_QcOk k ⟨b.pure.leadL s.l, s.S⟩ c ⟨b.jv, b.jb, b.by_⟩ rfl hf1 (by dsimp only; omega) (by dsimp only; omega) hw)) (lts rfl) ?_
        rintro _ L5 ⟨rfl, hL5⟩
        try dsimp only at hL5
        refine SR.lands hL5 ?_
        refine SR_pu (RD_move rfl) rfl ?_
        refine SR_guard rfl rfl (fun hg3_5 => ?_) (fun hg3_5 => ?_)
        · refine SR_yes rfl rfl (hg3_5) ?_
          first
            | refine SR_pu (RD_fieldAddr 2 Try.runUnderlying33 rfl rfl Try.sizeOf30 rfl) rfl ?_
            | refine SR_rd (RD_fieldAddrO 2 Try.runUnderlying33 rfl rfl Try.sizeOf30 rfl (by simp <;> omega)) Has.ro rfl ?_
          refine SR_yes rfl rfl (hg3_5) ?_
          first
            | refine SR_pu (RD_fieldAddr0 Try.runUnderlying30 rfl rfl Try.sizeOf3 rfl) rfl ?_
            | refine SR_rd (RD_fieldAddrO 0 Try.runUnderlying30 rfl rfl Try.sizeOf3 rfl (by simp <;> omega)) Has.ro rfl ?_
          refine SR_yes rfl rfl (hg3_5) ?_
          refine SR_rd (RD_load Try.isAgg3 rfl) (Has.ce rfl) rfl ?_
          refine SR_yes rfl rfl (hg3_5) ?_
          first
            | refine SR_pu (RD_fieldAddr0 Try.runUnderlying33 rfl rfl Try.sizeOf3 rfl) rfl ?_
            | refine SR_rd (RD_fieldAddrO 0 Try.runUnderlying33 rfl rfl Try.sizeOf3 rfl (by simp <;> omega)) Has.ro rfl ?_
          refine SR_yes rfl rfl (hg3_5) ?_
          refine SR_rd (RD_load Try.isAgg3 rfl) (Has.ce rfl) rfl ?_
          refine SR_yes rfl rfl (hg3_5) ?_
          refine SR_pu (RD_lss rfl rfl) rfl ?_
          refine SR_pu (RD_pick_t rfl (hg3_5) rfl) rfl ?_
          refine SR_pu (RD_move rfl) rfl ?_
          refine SR_guard rfl rfl (fun hg3_13 => ?_) (fun hg3_13 => ?_)
          · refine SR_yes rfl rfl (hg3_13) ?_
            first
              | refine SR_pu (RD_fieldAddr 5 Try.runUnderlying33 rfl rfl Try.sizeOf31 rfl) rfl ?_
              | refine SR_rd (RD_fieldAddrO 5 Try.runUnderlying33 rfl rfl Try.sizeOf31 rfl (by simp <;> omega)) Has.ro rfl ?_
            refine SR_yes rfl rfl (hg3_13) ?_
            refine SR_rd (RD_load Try.isAgg31 rfl) (Has.ce rfl) rfl ?_
            refine SR_yes rfl rfl (hg3_13) ?_
            refine SR_pu (RD_len Try.runUnderlying31 rfl) rfl ?_
            refine SR_yes rfl rfl (hg3_13) ?_
            first
              | refine SR_pu (RD_fieldAddr 5 Try.runUnderlying24 rfl rfl Try.sizeOf3 rfl) rfl ?_
              | refine SR_rd (RD_fieldAddrO 5 Try.runUnderlying24 rfl rfl Try.sizeOf3 rfl (by simp <;> omega)) Has.ro rfl ?_
            refine SR_yes rfl rfl (hg3_13) ?_
            refine SR_rd (RD_load Try.isAgg3 rfl) (Has.ce rfl) rfl ?_
            refine SR_yes rfl rfl (hg3_13) ?_
            refine SR_pu (RD_leq rfl rfl) rfl ?_
            refine SR_pu (RD_pick_t rfl (hg3_13) rfl) rfl ?_
            refine SR_pu (RD_move rfl) rfl ?_
            refine SR_guard rfl rfl (fun hg3_21 => ?_) (fun hg3_21 => ?_)
            · refine SR_yes rfl rfl (hg3_21) ?_
              refine SR_pu (RD_move rfl) rfl ?_
              refine SR_yes rfl rfl (hg3_21) ?_
              first
                | refine SR_pu (RD_fieldAddr 5 Try.runUnderlying33 rfl rfl Try.sizeOf31 rfl) rfl ?_
                | refine SR_rd (RD_fieldAddrO 5 Try.runUnderlying33 rfl rfl Try.sizeOf31 rfl (by simp <;> omega)) Has.ro rfl ?_
              refine SR_yes rfl rfl (hg3_21) ?_
              refine SR_rd (RD_load Try.isAgg31 rfl) (Has.ce rfl) rfl ?_
              refine SR_yes rfl rfl (hg3_21) ?_
              refine SR_call Try.call75 (.cons rfl (.cons rfl (.nil))) (CallsK.at (blok_unlike k ⟨c.qcL (b.pure.leadL s.l) b.jv b.jb, s.S⟩ b.envs.a b.envs.n b.envs.c b.envs.l rfl hf2 (by omega) hf5 (fun e he => hqe.mem (leadL_envs he)) (by dsimp only; omega))) (lts rfl) ?_
              rintro _ L6 ⟨rfl, hL6⟩
              refine SR.lands hL6 ?_
              refine SR_pu (RD_pick_t rfl (hg3_21) rfl) rfl ?_
              refine SR_pu (RD_assign rfl) rfl ?_
              refine SR_nil ?_
              refine SN.le (l := [(6, _)]) ?_ (.cons rfl (.nil))
              refine SN_seq ?_
              refine SC_ret1 rfl rfl ?_
              unfold Blk.ok
              rw [if_neg h1, if_neg h2]
              refine ⟨congrArg Value.bool ?_, (show Lands _ (At worldI k ⟨c.qcL (b.pure.leadL s.l) b.jv b.jb, s.S⟩ :: F) from .fin)⟩
              dsimp only
              rw [show c.qcOk (c.qcL (b.pure.leadL s.l) b.pure.jv b.pure.jb) s.S b.pure.jv b.pure.jb b.pure.by_ = true from hg3_5, show decide (b.pure.jv < b.pure.view) = true from hg3_13, show decide ((b.pure.envs.length : Int) ≤ c.bt) = true by rw [hbe]; exact hg3_21]
              rfl
            · refine SR_no rfl rfl (hg3_21) (lts rfl) ?_
              refine SR_no rfl rfl (hg3_21) (lts rfl) ?_
              refine SR_no rfl rfl (hg3_21) (lts rfl) ?_
              refine SR_no rfl rfl (hg3_21) (lts rfl) ?_
              refine SR_pu (RD_pick_f rfl (hg3_21) rfl) rfl ?_
              refine SR_pu (RD_assign rfl) rfl ?_
              refine SR_nil ?_
              refine SN.le (l := [(6, _)]) ?_ (.cons rfl (.nil))
              refine SN_seq ?_
              refine SC_ret1 rfl rfl ?_
              unfold Blk.ok
              rw [if_neg h1, if_neg h2]
              refine ⟨congrArg Value.bool ?_, (show Lands _ (At worldI k ⟨c.qcL (b.pure.leadL s.l) b.jv b.jb, s.S⟩ :: F) from .fin)⟩
              dsimp only
              rw [show c.qcOk (c.qcL (b.pure.leadL s.l) b.pure.jv b.pure.jb) s.S b.pure.jv b.pure.jb b.pure.by_ = true from hg3_5, show decide (b.pure.jv < b.pure.view) = true from hg3_13, show decide ((b.pure.envs.length : Int) ≤ c.bt) = false by rw [hbe]; exact hg3_21]
              rfl
          · refine SR_no rfl rfl (hg3_13) (lts rfl) ?_
            refine SR_no rfl rfl (hg3_13) (lts rfl) ?_
            refine SR_no rfl rfl (hg3_13) (lts rfl) ?_
            refine SR_no rfl rfl (hg3_13) (lts rfl) ?_
            refine SR_no rfl rfl (hg3_13) (lts rfl) ?_
            refine SR_no rfl rfl (hg3_13) (lts rfl) ?_
            refine SR_pu (RD_pick_f rfl (hg3_13) rfl) rfl ?_
            refine SR_pu (RD_move rfl) rfl ?_
            refine SR_no rfl rfl (rfl) (lts rfl) ?_
            refine SR_no rfl rfl (rfl) (lts rfl) ?_
            refine SR_no rfl rfl (rfl) (lts rfl) ?_
            refine SR_no rfl rfl (rfl) (lts rfl) ?_
            refine SR_pu (RD_pick_f rfl (rfl) rfl) rfl ?_
            refine SR_pu (RD_assign rfl) rfl ?_
            refine SR_nil ?_
            refine SN.le (l := [(6, _)]) ?_ (.cons rfl (.nil))
            refine SN_seq ?_
            refine SC_ret1 rfl rfl ?_
            unfold Blk.ok
            rw [if_neg h1, if_neg h2]
            refine ⟨congrArg Value.bool ?_, (show Lands _ (At worldI k ⟨c.qcL (b.pure.leadL s.l) b.jv b.jb, s.S⟩ :: F) from .fin)⟩
            dsimp only
            rw [show c.qcOk (c.qcL (b.pure.leadL s.l) b.pure.jv b.pure.jb) s.S b.pure.jv b.pure.jb b.pure.by_ = true from hg3_5, show decide (b.pure.jv < b.pure.view) = false from hg3_13]
            rfl
        · refine SR_no rfl rfl (hg3_5) (lts rfl) ?_
          refine SR_no rfl rfl (hg3_5) (lts rfl) ?_
          refine SR_no rfl rfl (hg3_5) (lts rfl) ?_
          refine SR_no rfl rfl (hg3_5) (lts rfl) ?_
          refine SR_no rfl rfl (hg3_5) (lts rfl) ?_
          refine SR_no rfl rfl (hg3_5) (lts rfl) ?_
          refine SR_pu (RD_pick_f rfl (hg3_5) rfl) rfl ?_
          refine SR_pu (RD_move rfl) rfl ?_
          refine SR_no rfl rfl (rfl) (lts rfl) ?_
          refine SR_no rfl rfl (rfl) (lts rfl) ?_
          refine SR_no rfl rfl (rfl) (lts rfl) ?_
          refine SR_no rfl rfl (rfl) (lts rfl) ?_
          refine SR_no rfl rfl (rfl) (lts rfl) ?_
          refine SR_no rfl rfl (rfl) (lts rfl) ?_
          refine SR_pu (RD_pick_f rfl (rfl) rfl) rfl ?_
          refine SR_pu (RD_move rfl) rfl ?_
          refine SR_no rfl rfl (rfl) (lts rfl) ?_
          refine SR_no rfl rfl (rfl) (lts rfl) ?_
          refine SR_no rfl rfl (rfl) (lts rfl) ?_
          refine SR_no rfl rfl (rfl) (lts rfl) ?_
          refine SR_pu (RD_pick_f rfl (rfl) rfl) rfl ?_
          refine SR_pu (RD_assign rfl) rfl ?_
          refine SR_nil ?_
          refine SN.le (l := [(6, _)]) ?_ (.cons rfl (.nil))
          refine SN_seq ?_
          refine SC_ret1 rfl rfl ?_
          unfold Blk.ok
          rw [if_neg h1, if_neg h2]
          refine ⟨congrArg Value.bool ?_, (show Lands _ (At worldI k ⟨c.qcL (b.pure.leadL s.l) b.jv b.jb, s.S⟩ :: F) from .fin)⟩
          dsimp only
          rw [show c.qcOk (c.qcL (b.pure.leadL s.l) b.pure.jv b.pure.jb) s.S b.pure.jv b.pure.jb b.pure.by_ = false from hg3_5]
          rfl
    · refine SQ_no rfl rfl rfl (hg1_12) (lts rfl) ?_
      refine SQ_no rfl rfl rfl (hg1_12) (lts rfl) ?_
      refine SQ_no rfl rfl rfl (hg1_12) (lts rfl) ?_
      refine SQ_no rfl rfl rfl (hg1_12) (lts rfl) ?_
      refine SQ_no rfl rfl rfl (hg1_12) (lts rfl) ?_
      refine SQ_no1 rfl rfl rfl (hg1_12) (lts rfl) ?_
      refine SQ_no1 rfl rfl rfl (hg1_12) (lts rfl) ?_
      refine SQ_no1 rfl rfl rfl (hg1_12) (lts rfl) ?_
      refine SQ_no rfl rfl rfl (hg1_12) (lts rfl) ?_
      refine SQ_pu rfl (RD_pick_t rfl (hg1_12) rfl) rfl ?_
      refine SQ_nil ?_
      refine SN.le (l := [(0, _), (4, _), (5, _), (29, _)]) ?_ (.cons rfl (.cons rfl (.cons rfl (.cons rfl (.nil)))))
      refine SN_seq ?_
      have h1 : b.pure.view < 1 ∨ b.pure.author ≠ c.lead b.pure.view := .inr (fun h => by rw [show b.author = c.lead b.view from h] at hg1_12; simp at hg1_12)
      refine SC_cond_true rfl (rfl) ?_
      refine SC_seq ?_
      refine SC_region ?_
      refine SR_pu (RD_assign rfl) rfl ?_
      refine SR_nil ?_
      refine SN.le (l := [(6, _)]) ?_ (.cons rfl (.nil))
      refine SN_seq ?_
      refine SC_ret1 rfl rfl ?_
      unfold Blk.ok
      first
        | (rw [if_pos h1]; exact ⟨rfl, .fin⟩)
        | (rw [if_neg h1, if_pos h2]; exact ⟨rfl, .fin⟩)
  · refine SQ_no rfl rfl rfl (hg1_3) (lts rfl) ?_
    refine SQ_no rfl rfl rfl (hg1_3) (lts rfl) ?_
    refine SQ_no rfl rfl rfl (hg1_3) (lts rfl) ?_
    refine SQ_no rfl rfl rfl (hg1_3) (lts rfl) ?_
    refine SQ_no rfl rfl rfl (hg1_3) (lts rfl) ?_
    refine SQ_no1 rfl rfl rfl (hg1_3) (lts rfl) ?_
    refine SQ_no rfl rfl rfl (hg1_3) (lts rfl) ?_
    refine SQ_pu rfl (RD_pick_t rfl (hg1_3) rfl) rfl ?_
    refine SQ_pu rfl (RD_move rfl) rfl ?_
    refine SQ_no rfl rfl rfl (rfl) (lts rfl) ?_
    refine SQ_no rfl rfl rfl (rfl) (lts rfl) ?_
    refine SQ_no rfl rfl rfl (rfl) (lts rfl) ?_
    refine SQ_no rfl rfl rfl (rfl) (lts rfl) ?_
    refine SQ_no rfl rfl rfl (rfl) (lts rfl) ?_
    refine SQ_no1 rfl rfl rfl (rfl) (lts rfl) ?_
    refine SQ_no1 rfl rfl rfl (rfl) (lts rfl) ?_
    refine SQ_no1 rfl rfl rfl (rfl) (lts rfl) ?_
    refine SQ_no rfl rfl rfl (rfl) (lts rfl) ?_
    refine SQ_pu rfl (RD_pick_t rfl (rfl) rfl) rfl ?_
    refine SQ_nil ?_
    refine SN.le (l := [(0, _), (4, _), (5, _), (29, _)]) ?_ (.cons rfl (.cons rfl (.cons rfl (.cons rfl (.nil)))))
    refine SN_seq ?_
    have h1 : b.pure.view < 1 ∨ b.pure.author ≠ c.lead b.pure.view := .inl (of_decide_eq_true hg1_3)
    refine SC_cond_true rfl (rfl) ?_
    refine SC_seq ?_
    refine SC_region ?_
    refine SR_pu (RD_assign rfl) rfl ?_
    refine SR_nil ?_
    refine SN.le (l := [(6, _)]) ?_ (.cons rfl (.nil))
    refine SN_seq ?_
    refine SC_ret1 rfl rfl ?_
    unfold Blk.ok
    first
      | (rw [if_pos h1]; exact ⟨rfl, .fin⟩)
      | (rw [if_neg h1, if_pos h2]; exact ⟨rfl, .fin⟩)

end Go.Proofs.Ytnifaajdiolbjaa
