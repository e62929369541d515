/- Any certificate is Ok, or not, as the document says: the statement. -/
import Derived.Test.YtmigjpmadhebfaaCk2
namespace Go.Proofs.Ytmigjpmadhebfaa
open Go Go.Proofs
set_option maxRecDepth 100000
theorem OX_stAt3 {W : World} {P : Program} {l : Env} {L R : List HProp} {ty : TypeId} {x y : Operand} {t b off m : Nat} {cs vs cs' : List Value} {T : TypeId} (hz : ∀ w, (sizeOf t).run P w = .ok m w) (hx : ev l x = some (.pointer (some ⟨b, off, none⟩))) (hy : ev l y = some (.agg vs.toArray)) [ho : Ones vs] [tp : TakePt L b (.cells cs.toArray T) R]
    (hm : vs.length = m) (hc : off + m ≤ cs.length) (he : setL cs off vs = cs') : OX W P l L (.store t x y) ty (fun _ L' => L' = pt b (.cells cs'.toArray T) :: R) :=
  (OX.lands (fun m => Den_perm tp.perm m) (OX_storeA hz hm hx hy (fun v hv => (ho.h v hv)) hc)).imp fun _ _ e => by rw [e, he]
abbrev KX : Type := Nat × CfgD × QcD × TcD × List (List UInt8) × List (Int × List Int) × List HProp
structure KQ (F : List HProp) (a4 : Option Addr) (who : List Int) (x : KX) : Prop where
  abs : Abs x.2.2.2.2.2.2
  lands : Lands x.2.2.2.2.2.2 F
  r1 : HasRow x.2.2.2.2.2.2 x.2.2.1.by_.a (x.2.2.1.by_.l.map intV)
  r2 : HasRow x.2.2.2.2.2.2 x.2.2.2.1.by_.a (x.2.2.2.1.by_.l.map intV)
  r3 : HasRow x.2.2.2.2.2.2 x.2.2.2.1.highs.a (x.2.2.2.1.highs.l.map intV)
  r4 : HasRow x.2.2.2.2.2.2 x.2.2.2.1.high.by_.a (x.2.2.2.1.high.by_.l.map intV)
  rw : HasRow x.2.2.2.2.2.2 a4 (who.map intV)
  n1 : x.2.2.1.by_.l.length = x.2.2.1.by_.n ∧ x.2.2.1.by_.n ≤ 200
  n2 : x.2.2.2.1.by_.l.length = x.2.2.2.1.by_.n ∧ x.2.2.2.1.by_.n ≤ 200
  n3 : x.2.2.2.1.highs.l.length = x.2.2.2.1.highs.n ∧ x.2.2.2.1.highs.n ≤ 200
  n4 : x.2.2.2.1.high.by_.l.length = x.2.2.2.1.high.by_.n ∧ x.2.2.2.1.high.by_.n ≤ 200
  cn : x.2.1.n < 9223372036854775808
  inv : Inv x.2.2.2.2.1 x.2.2.2.2.2.1
  hl : x.2.2.2.2.1.length ≤ 2000 * x.1
  hi : x.1 ≤ 3
structure LQ (F : List HProp) (a4 : Option Addr) (who : List Int) (NB : Nat) (x : QcD × TcD × List HProp) : Prop where
  abs : Abs x.2.2
  lands : Lands x.2.2 F
  r1 : HasRow x.2.2 x.1.by_.a (x.1.by_.l.map intV)
  r4 : HasRow x.2.2 x.2.1.high.by_.a (x.2.1.high.by_.l.map intV)
  rw : HasRow x.2.2 a4 (who.map intV)
  n1 : x.1.by_.l.length = NB ∧ x.1.by_.n = NB
  n2 : x.2.1.by_.l.length = NB ∧ x.2.1.by_.n = NB
  n3 : x.2.1.highs.l.length = NB ∧ x.2.1.highs.n = NB
  n4 : x.2.1.high.by_.l.length = NB ∧ x.2.1.high.by_.n = NB
  v1 : 0 ≤ x.1.view
  v2 : 0 ≤ x.2.1.view

set_option maxHeartbeats 2000000 in
theorem law_CertTells {W : World} {F : List HProp} [Abs F] (c0 : CfgD) (hc0 : c0.n < 9223372036854775808) (n : Int) (q0 : QcD) (t0 : TcD) [HasRow F q0.by_.a (q0.by_.l.map intV)] [HasRow F t0.by_.a (t0.by_.l.map intV)] [HasRow F t0.highs.a (t0.highs.l.map intV)] [HasRow F t0.high.by_.a (t0.high.by_.l.map intV)] (hq0 : q0.by_.l.length = q0.by_.n) (ht1 : t0.by_.l.length = t0.by_.n) (ht2 : t0.highs.l.length = t0.highs.n) (ht3 : t0.high.by_.l.length = t0.high.by_.n) (hz : q0.by_.n ≤ 140737488355328 ∧ t0.by_.n ≤ 140737488355328 ∧ t0.highs.n ≤ 140737488355328 ∧ t0.high.by_.n ≤ 140737488355328) (a4 : Option Addr) (n4 c4 : Nat) (who : List Int) [HasRow F a4 (who.map intV)] (hn4 : who.length = n4) (view0 block0 how : Int) :
    CallsK W Try.prog 3 #[c0.val, .int .i64 n, q0.val, t0.val, .slice a4 n4 c4, .int .i64 view0, .int .i64 block0, .int .i64 how] (F) (fun v L => v = .bool true ∧ Lands L F) := by
  refine CallsK_enter (n := 298) Try.func3 rfl rfl rfl ?_
  refine SC_seq ?_
  refine SC_region ?_
  refine SR_ox (OX_box rfl rfl) rfl ?_
  rintro _ _ ⟨b8, rfl, rfl⟩
  refine SR_ox (OX_box rfl rfl) rfl ?_
  rintro _ _ ⟨b10, rfl, rfl⟩
  refine SR_ox (OX_box rfl rfl) rfl ?_
  rintro _ _ ⟨b11, rfl, rfl⟩
  refine SR_pu (RD_assign rfl) rfl ?_
  refine SR_nil ?_
  refine SN.le (l := [(1, _), (4, _), (5, _), (6, _), (7, _), (8, _), (10, _), (11, _)]) ?_ (.cons rfl (.cons rfl (.cons rfl (.cons rfl (.cons rfl (.cons rfl (.cons rfl (.cons rfl (.nil)))))))))
  refine SN_seq ?_
  refine SC_seq ?_
  refine SC_seq ?_
  refine SC_region ?_
  first
    | refine SR_pu (RD_fieldAddr 2 Try.runUnderlying26 rfl rfl Try.sizeOf24 rfl) rfl ?_
    | refine SR_rd (RD_fieldAddrO 2 Try.runUnderlying26 rfl rfl Try.sizeOf24 rfl (by simp <;> omega)) Has.ro rfl ?_
  refine SR_rd (RD_load Try.isAgg24 rfl) (Has.ce rfl) rfl ?_
  refine SR_pu (RD_len Try.runUnderlying24 rfl) rfl ?_
  first
    | refine SR_pu (RD_fieldAddr 1 Try.runUnderlying28 rfl rfl Try.sizeOf24 rfl) rfl ?_
    | refine SR_rd (RD_fieldAddrO 1 Try.runUnderlying28 rfl rfl Try.sizeOf24 rfl (by simp <;> omega)) Has.ro rfl ?_
  refine SR_rd (RD_load Try.isAgg24 rfl) (Has.ce rfl) rfl ?_
  refine SR_pu (RD_len Try.runUnderlying24 rfl) rfl ?_
  refine SR_pu (RD_addi rfl rfl (by omega) (by omega)) rfl ?_
  first
    | refine SR_pu (RD_fieldAddr 2 Try.runUnderlying28 rfl rfl Try.sizeOf24 rfl) rfl ?_
    | refine SR_rd (RD_fieldAddrO 2 Try.runUnderlying28 rfl rfl Try.sizeOf24 rfl (by simp <;> omega)) Has.ro rfl ?_
  refine SR_rd (RD_load Try.isAgg24 rfl) (Has.ce rfl) rfl ?_
  refine SR_pu (RD_len Try.runUnderlying24 rfl) rfl ?_
  refine SR_pu (RD_addi rfl rfl (by omega) (by omega)) rfl ?_
  first
    | refine SR_pu (RD_fieldAddr 3 Try.runUnderlying28 rfl rfl Try.sizeOf26 rfl) rfl ?_
    | refine SR_rd (RD_fieldAddrO 3 Try.runUnderlying28 rfl rfl Try.sizeOf26 rfl (by simp <;> omega)) Has.ro rfl ?_
  first
    | refine SR_pu (RD_fieldAddr 2 Try.runUnderlying26 rfl rfl Try.sizeOf24 rfl) rfl ?_
    | refine SR_rd (RD_fieldAddrO 2 Try.runUnderlying26 rfl rfl Try.sizeOf24 rfl (by simp <;> omega)) Has.ro rfl ?_
  refine SR_rd (RD_load Try.isAgg24 rfl) (Has.ce rfl) rfl ?_
  refine SR_pu (RD_len Try.runUnderlying24 rfl) rfl ?_
  refine SR_pu (RD_addi rfl rfl (by omega) (by omega)) rfl ?_
  refine SR_pu (RD_gtr rfl rfl) rfl ?_
  refine SR_nil ?_
  refine SN.le (l := [(1, _), (4, _), (5, _), (6, _), (7, _), (8, _), (10, _), (11, _), (39, _)]) ?_ (.cons rfl (.cons rfl (.cons rfl (.cons rfl (.cons rfl (.cons rfl (.cons rfl (.cons rfl (.cons rfl (.nil))))))))))
  refine SN_seq ?_
  refine SC_cond rfl (fun hc39 => ?_) (fun hc39 => ?_)
  · refine SC_seq ?_
    refine SC_region ?_
    refine SR_call Try.call6 (.nil) (cert_awake) (lts rfl) ?_
    rintro _ L0 ⟨rfl, hL0⟩
    refine SR.lands hL0 ?_
    refine SR_pu (RD_assign rfl) rfl ?_
    refine SR_nil ?_
    refine SN.le (l := [(16, _)]) ?_ (.cons rfl (.nil))
    refine SN_seq ?_
    refine SC_ret1 rfl rfl ?_
    exact ⟨rfl, .fin⟩
  · have hlen : q0.by_.n + t0.by_.n + t0.highs.n + t0.high.by_.n ≤ 200 := by have := of_decide_eq_false hc39; omega
    refine SC_skip ?_
    refine SN_seq ?_
    refine SC_seq ?_
    refine SC_region ?_
    refine SR_call Try.call7 (.cons rfl (.nil)) (enve_New 1) (lts rfl) ?_
    rintro _ L1 ⟨k, rfl, hL1⟩
    refine SR.lands hL1 ?_
    refine SR_pu (RD_assign rfl) rfl ?_
    refine SR_nil ?_
    refine SN.le (l := [(1, _), (4, _), (5, _), (6, _), (7, _), (8, _), (10, _), (11, _), (17, _)]) ?_ (.cons rfl (.cons rfl (.cons rfl (.cons rfl (.cons rfl (.cons rfl (.cons rfl (.cons rfl (.cons rfl (.nil))))))))))
    refine SN_seq ?_
    refine SC_seq ?_
    refine SC_seq ?_
    refine SC_region ?_
    refine SR_pu (RD_move rfl) rfl ?_
    refine SR_pu (RD_eqlP Try.underlying30 rfl rfl) rfl ?_
    refine SR_nil ?_
    refine SN.le (l := [(1, _), (4, _), (5, _), (6, _), (7, _), (8, _), (10, _), (11, _), (17, _), (43, _)]) ?_ (.cons rfl (.cons rfl (.cons rfl (.cons rfl (.cons rfl (.cons rfl (.cons rfl (.cons rfl (.cons rfl (.cons rfl (.nil)))))))))))
    refine SN_seq ?_
    refine SC_cond_false rfl (rfl) ?_
    refine SC_skip ?_
    refine SN_seq ?_
    refine SC_seq ?_
    refine SC_region ?_
    refine SR_rd (RD_loadA (vs := c0.cells) Try.isAgg23 Try.sizeOf23 rfl rfl) Has.wh rfl ?_
    refine SR_ox (OX_alloc Try.zeroValue23 rfl) rfl ?_
    rintro _ _ ⟨b18, rfl, rfl⟩
    refine SR_ox0 (OX_stA (vs := c0.cells) Try.sizeOf23 rfl rfl rfl rfl) ?_
    rintro _ _ rfl
    refine SR_nil ?_
    refine SN.le (l := [(1, _), (4, _), (5, _), (6, _), (7, _), (10, _), (11, _), (17, _), (18, _)]) ?_ (.cons rfl (.cons rfl (.cons rfl (.cons rfl (.cons rfl (.cons rfl (.cons rfl (.cons rfl (.cons rfl (.nil))))))))))
    refine SN_seq ?_
    refine SC_seq ?_
    refine SC_seq ?_
    refine SC_region ?_
    refine SR_pu (RD_assign rfl) rfl ?_
    refine SR_nil ?_
    refine SN.le (l := [(1, _), (4, _), (5, _), (6, _), (7, _), (10, _), (11, _), (17, _), (18, _), (19, _)]) ?_ (.cons rfl (.cons rfl (.cons rfl (.cons rfl (.cons rfl (.cons rfl (.cons rfl (.cons rfl (.cons rfl (.cons rfl (.nil)))))))))))
    refine SN_seq ?_
    refine SC_block ?_
    refine SC_ind (X := {x : KX // KQ F a4 who x} × Int × Int) (fun x => True) (fun x => 3 - x.1.1.1) (fun x => [(1, .int .i64 n), (4, .slice a4 n4 c4), (5, .int .i64 x.2.1), (6, .int .i64 x.2.2), (7, .int .i64 how), (10, .pointer (some ⟨b10, 0, none⟩)), (11, .pointer (some ⟨b11, 0, none⟩)), (17, .pointer (some ⟨k.p, 0, none⟩)), (18, .pointer (some ⟨b18, 0, none⟩)), (19, .int .i64 (x.1.1.1 : Nat))]) (fun x => pt b18 (.cells x.1.1.2.1.cells.toArray 23) :: pt b10 (.cells x.1.1.2.2.1.cells.toArray 26) :: pt b11 (.cells x.1.1.2.2.2.1.cells.toArray 28) :: At worldI k ⟨x.1.1.2.2.2.2.1, x.1.1.2.2.2.2.2.1⟩ :: x.1.1.2.2.2.2.2.2) ((⟨(0, c0, q0, t0, [], [], F), ⟨inferInstance, .fin, inferInstance, inferInstance, inferInstance, inferInstance, inferInstance, ⟨hq0, by dsimp only; omega⟩, ⟨ht1, by dsimp only; omega⟩, ⟨ht2, by dsimp only; omega⟩, ⟨ht3, by dsimp only; omega⟩, hc0, Inv.nil, by simp, by simp⟩⟩, view0, block0)) (trivial) (.cons rfl (.cons rfl (.cons rfl (.cons rfl (.cons rfl (.cons rfl (.cons rfl (.cons rfl (.cons rfl (.cons rfl (.nil))))))))))) (.fin) ?_
    intro ⟨⟨⟨i, c, q, t, l, S, G⟩, hX⟩, view, block⟩ hi ih
    dsimp only at ih ⊢
    haveI := hX.abs
    have hG : Lands G F := hX.lands
    haveI : HasRow G q.by_.a (q.by_.l.map intV) := hX.r1
    haveI : HasRow G t.by_.a (t.by_.l.map intV) := hX.r2
    haveI : HasRow G t.highs.a (t.highs.l.map intV) := hX.r3
    haveI : HasRow G t.high.by_.a (t.high.by_.l.map intV) := hX.r4
    haveI : HasRow G a4 (who.map intV) := hX.rw
    obtain ⟨q1, q2⟩ : q.by_.l.length = q.by_.n ∧ q.by_.n ≤ 200 := hX.n1
    obtain ⟨t1, t2⟩ : t.by_.l.length = t.by_.n ∧ t.by_.n ≤ 200 := hX.n2
    obtain ⟨t3, t4⟩ : t.highs.l.length = t.highs.n ∧ t.highs.n ≤ 200 := hX.n3
    obtain ⟨t5, t6⟩ : t.high.by_.l.length = t.high.by_.n ∧ t.high.by_.n ≤ 200 := hX.n4
    have hcn : c.n < 9223372036854775808 := hX.cn
    have hI : Inv l S := hX.inv
    have hll : l.length ≤ 2000 * i := hX.hl
    have hi3 : i ≤ 3 := hX.hi
    clear hX
    refine SC_seq ?_
    refine SC_seq ?_
    refine SC_region ?_
    refine SR_pu (RD_move rfl) rfl ?_
    refine SR_pu (RD_lss rfl rfl) rfl ?_
    refine SR_nil ?_
    refine SN.le (l := [(1, _), (4, _), (5, _), (6, _), (7, _), (10, _), (11, _), (17, _), (18, _), (19, _), (46, _)]) ?_ (.cons rfl (.cons rfl (.cons rfl (.cons rfl (.cons rfl (.cons rfl (.cons rfl (.cons rfl (.cons rfl (.cons rfl (.cons rfl (.nil))))))))))))
    refine SN_seq ?_
    refine SC_cond rfl (fun hc46 => ?_) (fun hc46 => ?_)
    · have hin : i < 3 := by simp at hc46; omega
      obtain ⟨l1, hl1⟩ : ∃ l1, c.qcL l q.view q.block = l1 := ⟨_, rfl⟩
      obtain ⟨v1, hv1⟩ : ∃ v1, c.qcOk l1 S q.view q.block q.by_.l = v1 := ⟨_, rfl⟩
      have hx1 : Ext l l1 := by rw [← hl1]; exact CfgD.qcL_ext _ _ _ _
      have hl1n : l1.length ≤ l.length + 1 := by rw [← hl1]; exact CfgD.qcL_len _ _ _ _
      have hI1 := hI.ext hx1
      refine SC_skip ?_
      refine SN_seq ?_
      refine SC_seq ?_
      refine SC_block ?_
      refine SC_seq ?_
      refine SC_seq ?_
      refine SC_join (X := {y : List (List UInt8) // Ext l y ∧ y.length ≤ l.length + 500}) (fun x => [(1, .int .i64 n), (4, .slice a4 n4 c4), (5, .int .i64 view), (6, .int .i64 block), (7, .int .i64 how), (10, .pointer (some ⟨b10, 0, none⟩)), (11, .pointer (some ⟨b11, 0, none⟩)), (17, .pointer (some ⟨k.p, 0, none⟩)), (18, .pointer (some ⟨b18, 0, none⟩)), (19, .int .i64 (i : Nat)), (98, .bool false)]) (fun x => pt b18 (.cells c.cells.toArray 23) :: pt b10 (.cells q.cells.toArray 26) :: pt b11 (.cells t.cells.toArray 28) :: At worldI k ⟨x.1, S⟩ :: G) (fun ⟨l4, hx4, hl4n⟩ => ?_) (fun J0 => ?_)
      · dsimp only
        have hI4 := hI.ext hx4
        obtain ⟨l5, hl5⟩ : ∃ l5, dput l4 (voteB view block) = l5 := ⟨_, rfl⟩
        obtain ⟨d5, hd5⟩ : ∃ d, dnum l5 (voteB view block) = d := ⟨_, rfl⟩
        have hp5 : dput l5 (voteB view block) = l5 := by rw [← hl5]; exact dput_idem (dput_mem _ _)
        have hx5 : Ext l4 l5 := by rw [← hl5]; exact Ext.put _ _
        have hl5n : l5.length ≤ l4.length + 1 := by rw [← hl5]; exact dput_len _ _
        obtain ⟨l6, hl6⟩ : ∃ l6, dput l5 (outB view block) = l6 := ⟨_, rfl⟩
        obtain ⟨d6, hd6⟩ : ∃ d, dnum l6 (outB view block) = d := ⟨_, rfl⟩
        have hp6 : dput l6 (outB view block) = l6 := by rw [← hl6]; exact dput_idem (dput_mem _ _)
        have hx6 : Ext l5 l6 := by rw [← hl6]; exact Ext.put _ _
        have hl6n : l6.length ≤ l5.length + 1 := by rw [← hl6]; exact dput_len _ _
        obtain ⟨l7, hl7⟩ : ∃ l7, dput l6 rootB = l7 := ⟨_, rfl⟩
        obtain ⟨d7, hd7⟩ : ∃ d, dnum l7 rootB = d := ⟨_, rfl⟩
        have hp7 : dput l7 rootB = l7 := by rw [← hl7]; exact dput_idem (dput_mem _ _)
        have hx7 : Ext l6 l7 := by rw [← hl7]; exact Ext.put _ _
        have hl7n : l7.length ≤ l6.length + 1 := by rw [← hl7]; exact dput_len _ _
        have hI7 : Inv l7 S := ((hI4.ext hx5).ext hx6).ext hx7
        refine SN_seq ?_
        refine SC_cond_false rfl (rfl) ?_
        refine SC_skip ?_
        refine SN_seq ?_
        refine SC_seq ?_
        refine SC_seq ?_
        refine SC_region ?_
        refine SR_pu (RD_move rfl) rfl ?_
        refine SR_pu (RD_move rfl) rfl ?_
        refine SR_pu (RD_move rfl) rfl ?_
        refine SR_call Try.call13 (.cons rfl (.cons rfl (.cons rfl (.nil)))) (CallsK.at (cert_Vote k ⟨l4, S⟩ view block (by dsimp only; omega) l5 d5 hl5 hd5)) (lts rfl) ?_
        rintro _ L7 ⟨rfl, hL7⟩
        refine SR.lands hL7 ?_
        refine SR_pu (RD_move rfl) rfl ?_
        refine SR_call Try.call14 (.cons rfl (.nil)) (CallsK.at (w_Terms k ⟨l5, S⟩)) (lts rfl) ?_
        rintro _ L8 ⟨rfl, hL8⟩
        refine SR.lands hL8 ?_
        refine SR_pu (RD_move rfl) rfl ?_
        refine SR_pu (RD_move rfl) rfl ?_
        refine SR_call Try.call16 (.cons rfl (.cons rfl (.nil))) (law15_Vote view block) (lts rfl) ?_
        rintro _ L9 ⟨va9, vc9, rfl, hL9⟩
        refine SR.lands hL9 ?_
        refine SR_call Try.call15 (.cons rfl (.cons rfl (.nil))) (CallsK.at (w_Digest k ⟨l5, S⟩ va9 _ vc9 (voteB view block) rfl rfl (by dsimp only; omega) l5 d5 hp5 hd5)) (lts rfl) ?_
        rintro _ L10 ⟨rfl, hL10⟩
        refine SR.lands hL10 ?_
        refine SR_pu (RD_neq rfl rfl) rfl ?_
        refine SR_pu (RD_move rfl) rfl ?_
        refine SR_yes rfl rfl (by simp) ?_
        refine SR_pu (RD_move rfl) rfl ?_
        refine SR_yes rfl rfl (by simp) ?_
        refine SR_pu (RD_move rfl) rfl ?_
        refine SR_yes rfl rfl (by simp) ?_
        refine SR_pu (RD_move rfl) rfl ?_
        refine SR_yes rfl rfl (by simp) ?_
        refine SR_call Try.call17 (.cons rfl (.cons rfl (.cons rfl (.nil)))) (CallsK.at (cert_Out k ⟨l5, S⟩ view block (by dsimp only; omega) l6 d6 hl6 hd6)) (lts rfl) ?_
        rintro _ L11 ⟨rfl, hL11⟩
        refine SR.lands hL11 ?_
        refine SR_yes rfl rfl (by simp) ?_
        refine SR_pu (RD_move rfl) rfl ?_
        refine SR_yes rfl rfl (by simp) ?_
        refine SR_call Try.call14 (.cons rfl (.nil)) (CallsK.at (w_Terms k ⟨l6, S⟩)) (lts rfl) ?_
        rintro _ L12 ⟨rfl, hL12⟩
        refine SR.lands hL12 ?_
        refine SR_yes rfl rfl (by simp) ?_
        refine SR_pu (RD_move rfl) rfl ?_
        refine SR_yes rfl rfl (by simp) ?_
        refine SR_pu (RD_move rfl) rfl ?_
        refine SR_yes rfl rfl (by simp) ?_
        refine SR_call Try.call18 (.cons rfl (.cons rfl (.nil))) (law15_Out view block) (lts rfl) ?_
        rintro _ L13 ⟨va13, vc13, rfl, hL13⟩
        refine SR.lands hL13 ?_
        refine SR_yes rfl rfl (by simp) ?_
        refine SR_call Try.call15 (.cons rfl (.cons rfl (.nil))) (CallsK.at (w_Digest k ⟨l6, S⟩ va13 _ vc13 (outB view block) rfl rfl (by dsimp only; omega) l6 d6 hp6 hd6)) (lts rfl) ?_
        rintro _ L14 ⟨rfl, hL14⟩
        refine SR.lands hL14 ?_
        refine SR_yes rfl rfl (by simp) ?_
        refine SR_pu (RD_neq rfl rfl) rfl ?_
        refine SR_pu (RD_pick_f rfl (by simp) rfl) rfl ?_
        refine SR_pu (RD_move rfl) rfl ?_
        refine SR_yes rfl rfl (by simp) ?_
        refine SR_pu (RD_move rfl) rfl ?_
        refine SR_yes rfl rfl (by simp) ?_
        refine SR_call Try.call19 (.cons rfl (.nil)) (CallsK.at (cert_Root k ⟨l6, S⟩ (by dsimp only; omega) l7 d7 hl7 hd7)) (lts rfl) ?_
        rintro _ L15 ⟨rfl, hL15⟩
        refine SR.lands hL15 ?_
        refine SR_yes rfl rfl (by simp) ?_
        refine SR_pu (RD_move rfl) rfl ?_
        refine SR_yes rfl rfl (by simp) ?_
        refine SR_call Try.call14 (.cons rfl (.nil)) (CallsK.at (w_Terms k ⟨l7, S⟩)) (lts rfl) ?_
        rintro _ L16 ⟨rfl, hL16⟩
        refine SR.lands hL16 ?_
        refine SR_yes rfl rfl (by simp) ?_
        refine SR_ox (OX_lit1 Try.underlying39 Try.type5 rfl rfl rfl rfl (.cons rfl (.cons rfl (.cons rfl (.cons rfl (.nil))))) (.cons rfl (.cons rfl (.cons rfl (.cons rfl (.nil)))))) rfl ?_
        rintro _ _ ⟨b128, rfl, rfl⟩
        refine SR_yes rfl rfl (by simp) ?_
        refine SR_ox (OX_mark Try.underlying39 Try.underlying5 rfl) rfl ?_
        rintro _ _ ⟨fz129, rfl, rfl⟩
        refine SR_yes rfl rfl (by simp) ?_
        refine SR_call Try.call20 (.cons rfl (.nil)) (ref_Text (some ⟨b128, 0, none⟩) 4 4 [114, 111, 111, 116] (cs := [.int .u8 114, .int .u8 111, .int .u8 111, .int .u8 116]) rfl rfl (by omega)) (lts rfl) ?_
        rintro _ L17 ⟨xa, xc, rfl, hL17⟩
        refine SR.lands hL17 ?_
        refine SR_yes rfl rfl (by simp) ?_
        refine SR_call Try.call15 (.cons rfl (.cons rfl (.nil))) (CallsK.at (w_Digest k ⟨l7, S⟩ xa _ xc rootB (by simp [rootB, tagB]) (by unfold rootB; rw [tagB_len]; rfl) (by dsimp only; omega) l7 d7 hp7 hd7)) (lts rfl) ?_
        rintro _ L18 ⟨rfl, hL18⟩
        refine SR.lands hL18 ?_
        refine SR_yes rfl rfl (by simp) ?_
        refine SR_pu (RD_neq rfl rfl) rfl ?_
        refine SR_pu (RD_pick_f rfl (by simp) rfl) rfl ?_
        refine SR_nil ?_
        refine SN.le (l := [(1, _), (4, _), (5, _), (6, _), (7, _), (10, _), (11, _), (17, _), (18, _), (19, _), (133, _)]) ?_ (.cons rfl (.cons rfl (.cons rfl (.cons rfl (.cons rfl (.cons rfl (.cons rfl (.cons rfl (.cons rfl (.cons rfl (.cons rfl (.nil))))))))))))
        refine SN_seq ?_
        refine SC_cond_false rfl (by simp) ?_
        refine SC_skip ?_
        refine SN_seq ?_
        refine SC_seq ?_
        refine SC_region ?_
        refine SR_pu (RD_move rfl) rfl ?_
        refine SR_call Try.call21 (.cons rfl (.nil)) (law15_Config2 n) (lts rfl) ?_
        rintro _ L19 ⟨c2, rfl, ⟨hcf, hc2n⟩, hL19⟩
        refine SR.lands hL19 ?_
        refine SR_ox0 (OX_stA (vs := c2.cells) Try.sizeOf23 rfl rfl rfl rfl) ?_
        rintro _ _ rfl
        refine SR_nil ?_
        refine SN.le (l := [(1, _), (4, _), (5, _), (6, _), (7, _), (10, _), (11, _), (17, _), (18, _), (19, _)]) ?_ (.cons rfl (.cons rfl (.cons rfl (.cons rfl (.cons rfl (.cons rfl (.cons rfl (.cons rfl (.cons rfl (.cons rfl (.nil)))))))))))
        refine SN_seq ?_
        refine SC_seq ?_
        refine SC_region ?_
        refine SR_pu (RD_move rfl) rfl ?_
        refine SR_pu (RD_mask 3 rfl rfl rfl (by decide) 8 rfl) rfl ?_
        refine SR_pu (RD_addi rfl rfl (by omega) (by omega)) rfl ?_
        refine SR_pu (RD_move rfl) rfl ?_
        refine SR_pu (RD_mask 2 rfl rfl rfl (by decide) 4 rfl) rfl ?_
        refine SR_pu (RD_addi rfl rfl (by omega) (by omega)) rfl ?_
        refine SR_pu (RD_assign rfl) rfl ?_
        refine SR_pu (RD_assign rfl) rfl ?_
        refine SR_nil ?_
        refine SN.le (l := [(1, _), (4, _), (5, _), (6, _), (7, _), (10, _), (11, _), (17, _), (18, _), (19, _)]) ?_ (.cons rfl (.cons rfl (.cons rfl (.cons rfl (.cons rfl (.cons rfl (.cons rfl (.cons rfl (.cons rfl (.cons rfl (.nil)))))))))))
        obtain ⟨v, hv⟩ : ∃ v, view % 8 + 1 = v := ⟨_, rfl⟩
        obtain ⟨b2, hb2⟩ : ∃ b, block % 4 + 1 = b := ⟨_, rfl⟩
        rw [hv, hb2]
        have hvv : 1 ≤ v ∧ v ≤ 8 := by omega
        refine SN_seq ?_
        refine SC_seq ?_
        refine SC_region ?_
        refine SR_pu (RD_move rfl) rfl ?_
        refine SR_pu (RD_move rfl) rfl ?_
        refine SR_pu (RD_build (.cons rfl (.cons rfl (.nil))) built26_0_1) rfl ?_
        refine SR_pu (RD_move rfl) rfl ?_
        refine SR_pu (RD_addi rfl rfl (by omega) (by omega)) rfl ?_
        refine SR_pu (RD_build (.cons rfl (.nil)) built28_0) rfl ?_
        refine SR_ox0 (OX_stA (vs := [.int .i64 v, .int .i64 b2, .slice none 0 0]) Try.sizeOf26 rfl rfl rfl rfl) ?_
        rintro _ _ rfl
        refine SR_ox0 (OX_stA (vs := [.int .i64 (v + 1), .slice none 0 0, .slice none 0 0, .int .i64 0, .int .i64 0, .slice none 0 0]) Try.sizeOf28 rfl rfl rfl rfl) ?_
        rintro _ _ rfl
        refine SR_nil ?_
        refine SN.le (l := [(1, _), (4, _), (5, _), (6, _), (7, _), (10, _), (11, _), (17, _), (18, _), (19, _)]) ?_ (.cons rfl (.cons rfl (.cons rfl (.cons rfl (.cons rfl (.cons rfl (.cons rfl (.cons rfl (.cons rfl (.cons rfl (.nil)))))))))))
        refine SN_seq ?_
        refine SC_seq ?_
        refine SC_seq ?_
        refine SC_region ?_
        refine SR_pu (RD_assign rfl) rfl ?_
        refine SR_nil ?_
        refine SN.le (l := [(1, _), (4, _), (5, _), (6, _), (7, _), (10, _), (11, _), (17, _), (18, _), (19, _), (20, _)]) ?_ (.cons rfl (.cons rfl (.cons rfl (.cons rfl (.cons rfl (.cons rfl (.cons rfl (.cons rfl (.cons rfl (.cons rfl (.cons rfl (.nil))))))))))))
        refine SN_seq ?_
        refine SC_block ?_
        obtain ⟨M, hM⟩ : ∃ M : Nat, c2.n = (M : Int) := ⟨c2.n.toNat, by omega⟩
        have hM10 : M ≤ 10 := by omega
        refine SC_ind (X := Nat × List Int × Option Addr × Nat × Option Addr × Nat × Option Addr × Nat × List (List UInt8) × List (Int × List Int)) (fun x => (x.1 ≤ M ∧ x.2.1.length ≤ x.1) ∧ Inv x.2.2.2.2.2.2.2.2.1 x.2.2.2.2.2.2.2.2.2 ∧ x.2.2.2.2.2.2.2.2.1.length ≤ l7.length + 2 * x.1) (fun x => M - x.1) (fun x => [(1, .int .i64 n), (4, .slice a4 n4 c4), (5, .int .i64 v), (6, .int .i64 b2), (7, .int .i64 how), (10, .pointer (some ⟨b10, 0, none⟩)), (11, .pointer (some ⟨b11, 0, none⟩)), (17, .pointer (some ⟨k.p, 0, none⟩)), (18, .pointer (some ⟨b18, 0, none⟩)), (19, .int .i64 (i : Nat)), (20, .int .i64 (x.1 : Nat))]) (fun x => rowP 3 1 x.2.2.1 x.2.1.length x.2.2.2.1 (x.2.1.map intV) :: rowP 3 1 x.2.2.2.2.1 x.2.1.length x.2.2.2.2.2.1 (x.2.1.map intV) :: rowP 3 1 x.2.2.2.2.2.2.1 x.2.1.length x.2.2.2.2.2.2.2.1 ((List.replicate x.2.1.length v).map intV) :: pt b18 (.cells c2.cells.toArray 23) :: pt b10 (.cells [.int .i64 v, .int .i64 b2, .slice x.2.2.1 x.2.1.length x.2.2.2.1].toArray 26) :: pt b11 (.cells [.int .i64 (v + 1), .slice x.2.2.2.2.1 x.2.1.length x.2.2.2.2.2.1, .slice x.2.2.2.2.2.2.1 x.2.1.length x.2.2.2.2.2.2.2.1, .int .i64 0, .int .i64 0, .slice none 0 0].toArray 28) :: At worldI k ⟨x.2.2.2.2.2.2.2.2.1, x.2.2.2.2.2.2.2.2.2⟩ :: G) ((0, [], none, 0, none, 0, none, 0, l7, S)) (⟨⟨by simp, by simp⟩, hI7, by dsimp only; omega⟩) (.cons rfl (.cons rfl (.cons rfl (.cons rfl (.cons rfl (.cons rfl (.cons rfl (.cons rfl (.cons rfl (.cons rfl (.cons rfl (.nil)))))))))))) (((row_new 3 1 none).trans ((row_new 3 1 none).trans ((row_new 3 1 none).trans (show Lands _ (rowP 3 1 none 0 0 [] :: rowP 3 1 none 0 0 [] :: rowP 3 1 none 0 0 [] :: pt b18 (.cells c2.cells.toArray 23) :: pt b10 (.cells [.int .i64 v, .int .i64 b2, .slice none 0 0].toArray 26) :: pt b11 (.cells [.int .i64 (v + 1), .slice none 0 0, .slice none 0 0, .int .i64 0, .int .i64 0, .slice none 0 0].toArray 28) :: At worldI k ⟨l7, S⟩ :: G) from .fin))))) ?_
        intro ⟨kk, B, qa, qd, ta, td, ha, hd, l8, S8⟩ hi ih1
        obtain ⟨⟨hk1, hk2⟩, hI8, hl8⟩ := hi
        dsimp only at hk1 hk2 hI8 hl8 ih1 ⊢
        refine SC_seq ?_
        refine SC_seq ?_
        refine SC_region ?_
        refine SR_pu (RD_move rfl) rfl ?_
        first
          | refine SR_pu (RD_fieldAddr 1 Try.runUnderlying23 rfl rfl Try.sizeOf3 rfl) rfl ?_
          | refine SR_rd (RD_fieldAddrO 1 Try.runUnderlying23 rfl rfl Try.sizeOf3 rfl (by simp <;> omega)) Has.ro rfl ?_
        refine SR_rd (RD_load Try.isAgg3 rfl) (Has.ce rfl) rfl ?_
        refine SR_pu (RD_lss rfl rfl) rfl ?_
        refine SR_nil ?_
        refine SN.le (l := [(1, _), (4, _), (5, _), (6, _), (7, _), (10, _), (11, _), (17, _), (18, _), (19, _), (20, _), (151, _)]) ?_ (.cons rfl (.cons rfl (.cons rfl (.cons rfl (.cons rfl (.cons rfl (.cons rfl (.cons rfl (.cons rfl (.cons rfl (.cons rfl (.cons rfl (.nil)))))))))))))
        refine SN_seq ?_
        refine SC_cond rfl (fun hc151 => ?_) (fun hc151 => ?_)
        · have hkn : kk < M := by have := of_decide_eq_true hc151; omega
          obtain ⟨l9, hl9⟩ : ∃ x, dput l8 (voteB v b2) = x := ⟨_, rfl⟩
          obtain ⟨d9, hd9⟩ : ∃ d, dnum l9 (voteB v b2) = d := ⟨_, rfl⟩
          have hm9 : voteB v b2 ∈ l9 := by rw [← hl9]; exact dput_mem _ _
          have hx9 : Ext l8 l9 := by rw [← hl9]; exact Ext.put _ _
          have hl9n : l9.length ≤ l8.length + 1 := by rw [← hl9]; exact dput_len _ _
          have hI9 : Inv l9 (addTo S8 (kk : Int) (d9 : Nat)) := by have := (hI8.ext hx9).add hm9 (kk : Int); rwa [hd9] at this
          obtain ⟨l10, hl10⟩ : ∃ x, dput l9 (outB (v + 1) v) = x := ⟨_, rfl⟩
          obtain ⟨d10, hd10⟩ : ∃ d, dnum l10 (outB (v + 1) v) = d := ⟨_, rfl⟩
          have hm10 : outB (v + 1) v ∈ l10 := by rw [← hl10]; exact dput_mem _ _
          have hx10 : Ext l9 l10 := by rw [← hl10]; exact Ext.put _ _
          have hl10n : l10.length ≤ l9.length + 1 := by rw [← hl10]; exact dput_len _ _
          have hI10 : Inv l10 (addTo (addTo S8 (kk : Int) (d9 : Nat)) (kk : Int) (d10 : Nat)) := by have := (hI9.ext hx10).add hm10 (kk : Int); rwa [hd10] at this
          refine SC_skip ?_
          refine SN_seq ?_
          refine SC_seq ?_
          refine SC_block ?_
          refine SC_seq ?_
          refine SC_join (X := Bool) (fun x => [(1, .int .i64 n), (4, .slice a4 n4 c4), (5, .int .i64 v), (6, .int .i64 b2), (7, .int .i64 how), (10, .pointer (some ⟨b10, 0, none⟩)), (11, .pointer (some ⟨b11, 0, none⟩)), (17, .pointer (some ⟨k.p, 0, none⟩)), (18, .pointer (some ⟨b18, 0, none⟩)), (19, .int .i64 (i : Nat)), (20, .int .i64 (kk : Nat)), (163, .bool x)]) (fun x => rowP 3 1 qa B.length qd (B.map intV) :: rowP 3 1 ta B.length td (B.map intV) :: rowP 3 1 ha B.length hd ((List.replicate B.length v).map intV) :: pt b18 (.cells c2.cells.toArray 23) :: pt b10 (.cells [.int .i64 v, .int .i64 b2, .slice qa B.length qd].toArray 26) :: pt b11 (.cells [.int .i64 (v + 1), .slice ta B.length td, .slice ha B.length hd, .int .i64 0, .int .i64 0, .slice none 0 0].toArray 28) :: At worldI k ⟨l8, S8⟩ :: G) (fun tk => ?_) (fun J0 => ?_)
          · refine SN_seq ?_
            refine SC_cond rfl (fun hc163 => ?_) (fun hc163 => ?_)
            · refine SC_seq ?_
              refine SC_region ?_
              first
                | refine SR_pu (RD_fieldAddr 2 Try.runUnderlying26 rfl rfl Try.sizeOf24 rfl) rfl ?_
                | refine SR_rd (RD_fieldAddrO 2 Try.runUnderlying26 rfl rfl Try.sizeOf24 rfl (by simp <;> omega)) Has.ro rfl ?_
              refine SR_rd (RD_load Try.isAgg24 rfl) (Has.ce rfl) rfl ?_
              refine SR_pu (RD_move rfl) rfl ?_
              refine SR_ox (OX_lit1 Try.underlying24 Try.type3 rfl rfl rfl rfl (.cons rfl (.nil)) (.cons rfl (.nil))) rfl ?_
              rintro _ _ ⟨b167, rfl, rfl⟩
              refine SR_ox (OX_app 1 Try.underlying24 Try.underlying24 Try.type3 rfl rfl rfl rfl rfl (by first | rfl | simp; done | (simp; omega)) 8 rfl (by omega) (by omega)) rfl ?_
              rintro _ _ ⟨a168, c168, rfl, rfl⟩
              first
                | refine SR_pu (RD_fieldAddr 2 Try.runUnderlying26 rfl rfl Try.sizeOf24 rfl) rfl ?_
                | refine SR_rd (RD_fieldAddrO 2 Try.runUnderlying26 rfl rfl Try.sizeOf24 rfl (by simp <;> omega)) Has.ro rfl ?_
              refine SR_ox0 (OX_st Try.sizeOf24 rfl rfl) ?_
              rintro _ _ rfl
              refine SR_nil ?_
              refine SN.le (l := [(1, _), (4, _), (5, _), (6, _), (7, _), (10, _), (11, _), (17, _), (18, _), (19, _), (20, _)]) ?_ (.cons rfl (.cons rfl (.cons rfl (.cons rfl (.cons rfl (.cons rfl (.cons rfl (.cons rfl (.cons rfl (.cons rfl (.cons rfl (.nil))))))))))))
              refine SN_seq ?_
              refine SC_seq ?_
              refine SC_join (X := Option Addr × Nat × Option Addr × Nat) (fun x => [(1, .int .i64 n), (4, .slice a4 n4 c4), (5, .int .i64 v), (6, .int .i64 b2), (7, .int .i64 how), (10, .pointer (some ⟨b10, 0, none⟩)), (11, .pointer (some ⟨b11, 0, none⟩)), (17, .pointer (some ⟨k.p, 0, none⟩)), (18, .pointer (some ⟨b18, 0, none⟩)), (19, .int .i64 (i : Nat)), (20, .int .i64 (kk : Nat))]) (fun x => rowP 3 1 a168 (B.length + 1) c168 (B.map intV ++ [Value.int .i64 (kk : Nat)]) :: rowP 3 1 x.1 (B.length + 1) x.2.1 (B.map intV ++ [Value.int .i64 (kk : Nat)]) :: rowP 3 1 x.2.2.1 (B.length + 1) x.2.2.2 ((List.replicate B.length v).map intV ++ [Value.int .i64 v]) :: pt b18 (.cells c2.cells.toArray 23) :: pt b10 (.cells [.int .i64 v, .int .i64 b2, .slice a168 (B.length + 1) c168].toArray 26) :: pt b11 (.cells [.int .i64 (v + 1), .slice x.1 (B.length + 1) x.2.1, .slice x.2.2.1 (B.length + 1) x.2.2.2, .int .i64 0, .int .i64 0, .slice none 0 0].toArray 28) :: At worldI k ⟨l8, S8⟩ :: G) (fun ⟨ta2, td2, ha2, hd2⟩ => ?_) (fun J0 => ?_)
              · dsimp only
                rw [show B.map intV ++ [Value.int .i64 (kk : Nat)] = (B ++ [(kk : Int)]).map intV by simp [intV]]
                rw [show (List.replicate B.length v).map intV ++ [Value.int .i64 v] = (List.replicate (B ++ [(kk : Int)]).length v).map intV by rw [List.length_append, List.length_singleton, List.replicate_succ', List.map_append]; rfl]
                rw [show B.length + 1 = (B ++ [(kk : Int)]).length by simp]
                refine SN_seq ?_
                refine SC_seq ?_
                refine SC_region ?_
                refine SR_pu (RD_move rfl) rfl ?_
                refine SR_call Try.call22 (.cons rfl (.nil)) (CallsK.at (w_Signs k ⟨l8, S8⟩)) (lts rfl) ?_
                rintro _ L20 ⟨rfl, hL20⟩
                refine SR.lands hL20 ?_
                refine SR_pu (RD_move rfl) rfl ?_
                refine SR_pu (RD_move rfl) rfl ?_
                refine SR_call Try.call14 (.cons rfl (.nil)) (CallsK.at (w_Terms k ⟨l8, S8⟩)) (lts rfl) ?_
                rintro _ L21 ⟨rfl, hL21⟩
                refine SR.lands hL21 ?_
                refine SR_pu (RD_move rfl) rfl ?_
                refine SR_pu (RD_move rfl) rfl ?_
                refine SR_call Try.call16 (.cons rfl (.cons rfl (.nil))) (law15_Vote v b2) (lts rfl) ?_
                rintro _ L22 ⟨va22, vc22, rfl, hL22⟩
                refine SR.lands hL22 ?_
                refine SR_call Try.call15 (.cons rfl (.cons rfl (.nil))) (CallsK.at (w_Digest k ⟨l8, S8⟩ va22 _ vc22 (voteB v b2) rfl rfl (by dsimp only; omega) l9 d9 hl9 hd9)) (lts rfl) ?_
                rintro _ L23 ⟨rfl, hL23⟩
                refine SR.lands hL23 ?_
                refine SR_call Try.call23 (.cons rfl (.cons rfl (.cons rfl (.nil)))) (CallsK.at (w_Sign k ⟨l9, S8⟩ (kk : Int) (d9 : Nat))) (lts rfl) ?_
                rintro _ L24 ⟨rfl, hL24⟩
                refine SR.lands hL24 ?_
                refine SR_nil ?_
                refine SN.le (l := [(1, _), (4, _), (5, _), (6, _), (7, _), (10, _), (11, _), (17, _), (18, _), (19, _), (20, _)]) ?_ (.cons rfl (.cons rfl (.cons rfl (.cons rfl (.cons rfl (.cons rfl (.cons rfl (.cons rfl (.cons rfl (.cons rfl (.cons rfl (.nil))))))))))))
                refine SN_seq ?_
                refine SC_region ?_
                refine SR_pu (RD_move rfl) rfl ?_
                refine SR_call Try.call22 (.cons rfl (.nil)) (CallsK.at (w_Signs k ⟨l9, addTo S8 (kk : Int) (d9 : Nat)⟩)) (lts rfl) ?_
                rintro _ L25 ⟨rfl, hL25⟩
                refine SR.lands hL25 ?_
                refine SR_pu (RD_move rfl) rfl ?_
                refine SR_pu (RD_move rfl) rfl ?_
                refine SR_call Try.call14 (.cons rfl (.nil)) (CallsK.at (w_Terms k ⟨l9, addTo S8 (kk : Int) (d9 : Nat)⟩)) (lts rfl) ?_
                rintro _ L26 ⟨rfl, hL26⟩
                refine SR.lands hL26 ?_
                refine SR_pu (RD_move rfl) rfl ?_
                refine SR_pu (RD_addi rfl rfl (by omega) (by omega)) rfl ?_
                refine SR_pu (RD_move rfl) rfl ?_
                refine SR_call Try.call18 (.cons rfl (.cons rfl (.nil))) (law15_Out (v + 1) v) (lts rfl) ?_
                rintro _ L27 ⟨va27, vc27, rfl, hL27⟩
                refine SR.lands hL27 ?_
                refine SR_call Try.call15 (.cons rfl (.cons rfl (.nil))) (CallsK.at (w_Digest k ⟨l9, addTo S8 (kk : Int) (d9 : Nat)⟩ va27 _ vc27 (outB (v + 1) v) rfl rfl (by dsimp only; omega) l10 d10 hl10 hd10)) (lts rfl) ?_
                rintro _ L28 ⟨rfl, hL28⟩
                refine SR.lands hL28 ?_
                refine SR_call Try.call23 (.cons rfl (.cons rfl (.cons rfl (.nil)))) (CallsK.at (w_Sign k ⟨l10, addTo S8 (kk : Int) (d9 : Nat)⟩ (kk : Int) (d10 : Nat))) (lts rfl) ?_
                rintro _ L29 ⟨rfl, hL29⟩
                refine SR.lands hL29 ?_
                refine SR_nil ?_
                refine SN.le (l := [(1, _), (4, _), (5, _), (6, _), (7, _), (10, _), (11, _), (17, _), (18, _), (19, _), (20, _)]) ?_ (.cons rfl (.cons rfl (.cons rfl (.cons rfl (.cons rfl (.cons rfl (.cons rfl (.cons rfl (.cons rfl (.cons rfl (.cons rfl (.nil))))))))))))
                refine SN_block ?_
                refine SN_seq ?_
                refine SC_region ?_
                refine SR_pu (RD_move rfl) rfl ?_
                refine SR_pu (RD_addi rfl rfl (by omega) (by omega)) rfl ?_
                refine SR_pu (RD_assign rfl) rfl ?_
                refine SR_nil ?_
                refine SN.le (l := [(1, _), (4, _), (5, _), (6, _), (7, _), (10, _), (11, _), (17, _), (18, _), (19, _), (20, _)]) ?_ (.cons rfl (.cons rfl (.cons rfl (.cons rfl (.cons rfl (.cons rfl (.cons rfl (.cons rfl (.cons rfl (.cons rfl (.cons rfl (.nil))))))))))))
                refine SC_again (ih1 ((kk + 1, B ++ [(kk : Int)], a168, c168, ta2, td2, ha2, hd2, l10, addTo (addTo S8 (kk : Int) (d9 : Nat)) (kk : Int) (d10 : Nat))) (⟨⟨by dsimp only; omega, by simp; omega⟩, hI10, by dsimp only; omega⟩) (by dsimp only; omega)) (.fin) (.cons rfl (.cons rfl (.cons rfl (.cons rfl (.cons rfl (.cons rfl (.cons rfl (.cons rfl (.cons rfl (.cons rfl (.cons' rfl (ie (by dsimp only; omega)) (.nil))))))))))))
              · refine SC_drawn (.cons 0 true (.cons 1 true (.cons 2 true (.cons 5 true (.cons 6 true (.cons 7 true (.alts [3, 8] (fun i => bif Nat.beq i 3 then (.alts [4, 8] (fun i => bif Nat.beq i 4 then (.cons 10 true (.cons 8 false (.cons 9 false (.cons 11 false (.cons 12 true (.cons 13 false (.nil))))))) else (.cons 4 false (.cons 10 true (.cons 9 false (.cons 11 false (.cons 12 true (.cons 13 false (.nil))))))))) else (.cons 3 false (.cons 4 false (.cons 10 true (.cons 9 false (.cons 11 false (.cons 12 true (.cons 13 false (.nil)))))))))))))))) (by kernel_rfl) (by kernel_rfl) ?_
                first
                  | refine SQ_pu rfl (RD_fieldAddr 1 Try.runUnderlying28 rfl rfl Try.sizeOf24 rfl) rfl ?_
                  | refine SQ_rd rfl (RD_fieldAddrO 1 Try.runUnderlying28 rfl rfl Try.sizeOf24 rfl (by simp <;> omega)) Has.ro rfl ?_
                refine SQ_rd rfl (RD_load Try.isAgg24 rfl) (Has.ce rfl) rfl ?_
                refine SQ_pu rfl (RD_move rfl) rfl ?_
                first
                  | refine SQ_pu rfl (RD_fieldAddr 2 Try.runUnderlying28 rfl rfl Try.sizeOf24 rfl) rfl ?_
                  | refine SQ_rd rfl (RD_fieldAddrO 2 Try.runUnderlying28 rfl rfl Try.sizeOf24 rfl (by simp <;> omega)) Has.ro rfl ?_
                refine SQ_rd rfl (RD_load Try.isAgg24 rfl) (Has.ce rfl) rfl ?_
                refine SQ_pu rfl (RD_move rfl) rfl ?_
                refine SQ_two ?_ ?_
                · refine SA_ox rfl .free (OX_lit1 Try.underlying24 Try.type3 rfl rfl rfl rfl (.cons rfl (.nil)) (.cons rfl (.nil))) rfl ?_
                  rintro _ _ ⟨b173, rfl, rfl⟩
                  refine ⟨.h (Has.ce rfl) (.h (Has.ce rfl) (.nil)), ?_⟩
                  refine SQ_two ?_ ?_
                  · refine SA_ox rfl .free (OX_app 1 Try.underlying24 Try.underlying24 Try.type3 rfl rfl rfl rfl rfl (by first | rfl | simp; done | (simp; omega)) 8 rfl (by omega) (by omega)) rfl ?_
                    rintro _ _ ⟨a174, c174, rfl, rfl⟩
                    refine ⟨.h (Has.ce rfl) (.w rfl (.nil)), ?_⟩
                    first
                      | refine SQ_pu rfl (RD_fieldAddr 1 Try.runUnderlying28 rfl rfl Try.sizeOf24 rfl) rfl ?_
                      | refine SQ_rd rfl (RD_fieldAddrO 1 Try.runUnderlying28 rfl rfl Try.sizeOf24 rfl (by simp <;> omega)) Has.ro rfl ?_
                    refine SQ_ox rfl (OX_lit1 Try.underlying24 Try.type3 rfl rfl rfl rfl (.cons rfl (.nil)) (.cons rfl (.nil))) rfl ?_
                    rintro _ _ ⟨b178, rfl, rfl⟩
                    refine ⟨.h (Has.ce rfl) (.h (Has.ce rfl) (.nil)), ?_⟩
                    refine SQ_ox rfl (OX_app 1 Try.underlying24 Try.underlying24 Try.type3 rfl rfl rfl rfl rfl (by first | rfl | simp; done | (simp; omega)) 8 rfl (by omega) (by omega)) rfl ?_
                    rintro _ _ ⟨a179, c179, rfl, rfl⟩
                    refine ⟨.w rfl (.h (Has.ce rfl) (.nil)), ?_⟩
                    refine SQ_ox0 rfl (OX_st Try.sizeOf24 rfl rfl) ?_
                    rintro _ _ rfl
                    refine ⟨.w rfl (.w rfl (.nil)), ?_⟩
                    first
                      | refine SQ_pu rfl (RD_fieldAddr 2 Try.runUnderlying28 rfl rfl Try.sizeOf24 rfl) rfl ?_
                      | refine SQ_rd rfl (RD_fieldAddrO 2 Try.runUnderlying28 rfl rfl Try.sizeOf24 rfl (by simp <;> omega)) Has.ro rfl ?_
                    refine SQ_ox0 rfl (OX_st Try.sizeOf24 rfl rfl) ?_
                    rintro _ _ rfl
                    refine ⟨.w rfl (.w rfl (.nil)), ?_⟩
                    refine SQ_nil ?_
                    refine SN.le (l := [(1, _), (4, _), (5, _), (6, _), (7, _), (10, _), (11, _), (17, _), (18, _), (19, _), (20, _)]) ?_ (.cons rfl (.cons rfl (.cons rfl (.cons rfl (.cons rfl (.cons rfl (.cons rfl (.cons rfl (.cons rfl (.cons rfl (.cons rfl (.nil))))))))))))
                    exact J0 ((a174, c174, a179, c179)) _ _ (.cons rfl (.cons rfl (.cons rfl (.cons rfl (.cons rfl (.cons rfl (.cons rfl (.cons rfl (.cons rfl (.cons rfl (.cons rfl (.nil)))))))))))) (.fin)
                  · refine SA_ox rfl .free (OX_lit1 Try.underlying24 Try.type3 rfl rfl rfl rfl (.cons rfl (.nil)) (.cons rfl (.nil))) rfl ?_
                    rintro _ _ ⟨b178, rfl, rfl⟩
                    refine ⟨.h (Has.ce rfl) (.h (Has.ce rfl) (.nil)), ?_⟩
                    refine SQ_ox rfl (OX_app 1 Try.underlying24 Try.underlying24 Try.type3 rfl rfl rfl rfl rfl (by first | rfl | simp; done | (simp; omega)) 8 rfl (by omega) (by omega)) rfl ?_
                    rintro _ _ ⟨a174, c174, rfl, rfl⟩
                    refine ⟨.h (Has.ce rfl) (.w rfl (.nil)), ?_⟩
                    first
                      | refine SQ_pu rfl (RD_fieldAddr 1 Try.runUnderlying28 rfl rfl Try.sizeOf24 rfl) rfl ?_
                      | refine SQ_rd rfl (RD_fieldAddrO 1 Try.runUnderlying28 rfl rfl Try.sizeOf24 rfl (by simp <;> omega)) Has.ro rfl ?_
                    refine SQ_ox rfl (OX_app 1 Try.underlying24 Try.underlying24 Try.type3 rfl rfl rfl rfl rfl (by first | rfl | simp; done | (simp; omega)) 8 rfl (by omega) (by omega)) rfl ?_
                    rintro _ _ ⟨a179, c179, rfl, rfl⟩
                    refine ⟨.w rfl (.h (Has.ce rfl) (.nil)), ?_⟩
                    refine SQ_ox0 rfl (OX_st Try.sizeOf24 rfl rfl) ?_
                    rintro _ _ rfl
                    refine ⟨.w rfl (.w rfl (.nil)), ?_⟩
                    first
                      | refine SQ_pu rfl (RD_fieldAddr 2 Try.runUnderlying28 rfl rfl Try.sizeOf24 rfl) rfl ?_
                      | refine SQ_rd rfl (RD_fieldAddrO 2 Try.runUnderlying28 rfl rfl Try.sizeOf24 rfl (by simp <;> omega)) Has.ro rfl ?_
                    refine SQ_ox0 rfl (OX_st Try.sizeOf24 rfl rfl) ?_
                    rintro _ _ rfl
                    refine ⟨.w rfl (.w rfl (.nil)), ?_⟩
                    refine SQ_nil ?_
                    refine SN.le (l := [(1, _), (4, _), (5, _), (6, _), (7, _), (10, _), (11, _), (17, _), (18, _), (19, _), (20, _)]) ?_ (.cons rfl (.cons rfl (.cons rfl (.cons rfl (.cons rfl (.cons rfl (.cons rfl (.cons rfl (.cons rfl (.cons rfl (.cons rfl (.nil))))))))))))
                    exact J0 ((a174, c174, a179, c179)) _ _ (.cons rfl (.cons rfl (.cons rfl (.cons rfl (.cons rfl (.cons rfl (.cons rfl (.cons rfl (.cons rfl (.cons rfl (.cons rfl (.nil)))))))))))) (.fin)
                · refine SA_ox rfl .free (OX_lit1 Try.underlying24 Try.type3 rfl rfl rfl rfl (.cons rfl (.nil)) (.cons rfl (.nil))) rfl ?_
                  rintro _ _ ⟨b178, rfl, rfl⟩
                  refine ⟨.h (Has.ce rfl) (.h (Has.ce rfl) (.nil)), ?_⟩
                  refine SQ_ox rfl (OX_lit1 Try.underlying24 Try.type3 rfl rfl rfl rfl (.cons rfl (.nil)) (.cons rfl (.nil))) rfl ?_
                  rintro _ _ ⟨b173, rfl, rfl⟩
                  refine ⟨.h (Has.ce rfl) (.h (Has.ce rfl) (.nil)), ?_⟩
                  refine SQ_ox rfl (OX_app 1 Try.underlying24 Try.underlying24 Try.type3 rfl rfl rfl rfl rfl (by first | rfl | simp; done | (simp; omega)) 8 rfl (by omega) (by omega)) rfl ?_
                  rintro _ _ ⟨a174, c174, rfl, rfl⟩
                  refine ⟨.h (Has.ce rfl) (.w rfl (.nil)), ?_⟩
                  first
                    | refine SQ_pu rfl (RD_fieldAddr 1 Try.runUnderlying28 rfl rfl Try.sizeOf24 rfl) rfl ?_
                    | refine SQ_rd rfl (RD_fieldAddrO 1 Try.runUnderlying28 rfl rfl Try.sizeOf24 rfl (by simp <;> omega)) Has.ro rfl ?_
                  refine SQ_ox rfl (OX_app 1 Try.underlying24 Try.underlying24 Try.type3 rfl rfl rfl rfl rfl (by first | rfl | simp; done | (simp; omega)) 8 rfl (by omega) (by omega)) rfl ?_
                  rintro _ _ ⟨a179, c179, rfl, rfl⟩
                  refine ⟨.w rfl (.h (Has.ce rfl) (.nil)), ?_⟩
                  refine SQ_ox0 rfl (OX_st Try.sizeOf24 rfl rfl) ?_
                  rintro _ _ rfl
                  refine ⟨.w rfl (.w rfl (.nil)), ?_⟩
                  first
                    | refine SQ_pu rfl (RD_fieldAddr 2 Try.runUnderlying28 rfl rfl Try.sizeOf24 rfl) rfl ?_
                    | refine SQ_rd rfl (RD_fieldAddrO 2 Try.runUnderlying28 rfl rfl Try.sizeOf24 rfl (by simp <;> omega)) Has.ro rfl ?_
                  refine SQ_ox0 rfl (OX_st Try.sizeOf24 rfl rfl) ?_
                  rintro _ _ rfl
                  refine ⟨.w rfl (.w rfl (.nil)), ?_⟩
                  refine SQ_nil ?_
                  refine SN.le (l := [(1, _), (4, _), (5, _), (6, _), (7, _), (10, _), (11, _), (17, _), (18, _), (19, _), (20, _)]) ?_ (.cons rfl (.cons rfl (.cons rfl (.cons rfl (.cons rfl (.cons rfl (.cons rfl (.cons rfl (.cons rfl (.cons rfl (.cons rfl (.nil))))))))))))
                  exact J0 ((a174, c174, a179, c179)) _ _ (.cons rfl (.cons rfl (.cons rfl (.cons rfl (.cons rfl (.cons rfl (.cons rfl (.cons rfl (.cons rfl (.cons rfl (.cons rfl (.nil)))))))))))) (.fin)
            · refine SC_skip ?_
              refine SN_block ?_
              refine SN_seq ?_
              refine SC_region ?_
              refine SR_pu (RD_move rfl) rfl ?_
              refine SR_pu (RD_addi rfl rfl (by omega) (by omega)) rfl ?_
              refine SR_pu (RD_assign rfl) rfl ?_
              refine SR_nil ?_
              refine SN.le (l := [(1, _), (4, _), (5, _), (6, _), (7, _), (10, _), (11, _), (17, _), (18, _), (19, _), (20, _)]) ?_ (.cons rfl (.cons rfl (.cons rfl (.cons rfl (.cons rfl (.cons rfl (.cons rfl (.cons rfl (.cons rfl (.cons rfl (.cons rfl (.nil))))))))))))
              refine SC_again (ih1 ((kk + 1, B, qa, qd, ta, td, ha, hd, l8, S8)) (⟨⟨by dsimp only; omega, by dsimp only; omega⟩, hI8, by dsimp only; omega⟩) (by dsimp only; omega)) (.fin) (.cons rfl (.cons rfl (.cons rfl (.cons rfl (.cons rfl (.cons rfl (.cons rfl (.cons rfl (.cons rfl (.cons rfl (.cons' rfl (ie (by dsimp only; omega)) (.nil))))))))))))
          · refine SC_region ?_
            refine SR_pu (RD_move rfl) rfl ?_
            refine SR_pu (RD_move rfl) rfl ?_
            first
              | refine SR_pu (RD_conv64 Try.runUnderlying3 Try.runUnderlying44 rfl (by omega) (by omega)) rfl ?_
              | refine SR_pu (RD_convI Try.runUnderlying3 Try.runUnderlying44 rfl) rfl ?_
            refine SR_pu (RD_shr rfl rfl (by omega)) rfl ?_
            refine SR_pu (RD_mask 1 rfl rfl rfl (by decide) 2 rfl) rfl ?_
            refine SR_pu (RD_eql rfl rfl) rfl ?_
            refine SR_pu (RD_move rfl) rfl ?_
            refine SR_guard rfl rfl (fun hg20_6 => ?_) (fun hg20_6 => ?_)
            · refine SR_yes rfl rfl (hg20_6) ?_
              refine SR_pu (RD_move rfl) rfl ?_
              refine SR_yes rfl rfl (hg20_6) ?_
              refine SR_pu (RD_eql rfl rfl) rfl ?_
              refine SR_pu (RD_pick_f rfl (hg20_6) rfl) rfl ?_
              refine SR_nil ?_
              refine SN.le (l := [(1, _), (4, _), (5, _), (6, _), (7, _), (10, _), (11, _), (17, _), (18, _), (19, _), (20, _), (163, _)]) ?_ (.cons rfl (.cons rfl (.cons rfl (.cons rfl (.cons rfl (.cons rfl (.cons rfl (.cons rfl (.cons rfl (.cons rfl (.cons rfl (.cons rfl (.nil)))))))))))))
              exact J0 (decide ((i : Int) = 1)) _ _ (.cons rfl (.cons rfl (.cons rfl (.cons rfl (.cons rfl (.cons rfl (.cons rfl (.cons rfl (.cons rfl (.cons rfl (.cons rfl (.cons rfl (.nil))))))))))))) (.fin)
            · refine SR_no rfl rfl (hg20_6) (lts rfl) ?_
              refine SR_no rfl rfl (hg20_6) (lts rfl) ?_
              refine SR_pu (RD_pick_t rfl (hg20_6) rfl) rfl ?_
              refine SR_nil ?_
              refine SN.le (l := [(1, _), (4, _), (5, _), (6, _), (7, _), (10, _), (11, _), (17, _), (18, _), (19, _), (20, _), (163, _)]) ?_ (.cons rfl (.cons rfl (.cons rfl (.cons rfl (.cons rfl (.cons rfl (.cons rfl (.cons rfl (.cons rfl (.cons rfl (.cons rfl (.cons rfl (.nil)))))))))))))
              exact J0 (true) _ _ (.cons rfl (.cons rfl (.cons rfl (.cons rfl (.cons rfl (.cons rfl (.cons rfl (.cons rfl (.cons rfl (.cons rfl (.cons rfl (.cons rfl (.nil))))))))))))) (.fin)
        · clear ih1
          obtain ⟨NB, hNB⟩ : ∃ NB, B.length = NB := ⟨_, rfl⟩
          rw [hNB]
          have hrep : (List.replicate NB v).length = NB := by simp
          refine SC_exit rfl ?_
          refine SN_seq ?_
          refine SC_seq ?_
          refine SC_region ?_
          refine SR_rd (RD_loadA (vs := [.int .i64 v, .int .i64 b2, .slice qa NB qd]) Try.isAgg26 Try.sizeOf26 rfl rfl) Has.wh rfl ?_
          first
            | refine SR_pu (RD_fieldAddr 3 Try.runUnderlying28 rfl rfl Try.sizeOf26 rfl) rfl ?_
            | refine SR_rd (RD_fieldAddrO 3 Try.runUnderlying28 rfl rfl Try.sizeOf26 rfl (by simp <;> omega)) Has.ro rfl ?_
          refine SR_ox0 (OX_stAt3 (cs' := [.int .i64 (v + 1), .slice ta NB td, .slice ha NB hd, .int .i64 v, .int .i64 b2, .slice qa NB qd]) Try.sizeOf26 rfl rfl rfl (by show 0 + 3 + 3 ≤ 6; decide) rfl) ?_
          rintro _ _ rfl
          refine SR_nil ?_
          refine SN.le (l := [(1, _), (4, _), (5, _), (6, _), (7, _), (10, _), (11, _), (17, _), (18, _), (19, _)]) ?_ (.cons rfl (.cons rfl (.cons rfl (.cons rfl (.cons rfl (.cons rfl (.cons rfl (.cons rfl (.cons rfl (.cons rfl (.nil)))))))))))
          refine SN_seq ?_
          refine SC_seq ?_
          refine SC_region ?_
          refine SR_pu (RD_assign rfl) rfl ?_
          refine SR_nil ?_
          refine SN.le (l := [(1, _), (4, _), (5, _), (6, _), (7, _), (10, _), (11, _), (17, _), (18, _), (19, _), (21, _)]) ?_ (.cons rfl (.cons rfl (.cons rfl (.cons rfl (.cons rfl (.cons rfl (.cons rfl (.cons rfl (.cons rfl (.cons rfl (.cons rfl (.nil))))))))))))
          refine SN_seq ?_
          refine SC_block ?_
          refine SC_ind (X := Nat × {x : QcD × TcD × List HProp // LQ F a4 who NB x}) (fun x => x.1 ≤ 3 ∧ x.2.1.1.view ≤ 20 + (x.1 : Int) ∧ x.2.1.2.1.view ≤ 20 + (x.1 : Int)) (fun x => 3 - x.1) (fun x => [(1, .int .i64 n), (4, .slice a4 n4 c4), (5, .int .i64 v), (6, .int .i64 b2), (7, .int .i64 how), (10, .pointer (some ⟨b10, 0, none⟩)), (11, .pointer (some ⟨b11, 0, none⟩)), (17, .pointer (some ⟨k.p, 0, none⟩)), (18, .pointer (some ⟨b18, 0, none⟩)), (19, .int .i64 (i : Nat)), (21, .int .i64 (x.1 : Nat))]) (fun x => rowP 3 1 x.2.1.2.1.by_.a x.2.1.2.1.by_.n x.2.1.2.1.by_.c (x.2.1.2.1.by_.l.map intV) :: rowP 3 1 x.2.1.2.1.highs.a x.2.1.2.1.highs.n x.2.1.2.1.highs.c (x.2.1.2.1.highs.l.map intV) :: pt b18 (.cells c2.cells.toArray 23) :: pt b10 (.cells x.2.1.1.cells.toArray 26) :: pt b11 (.cells x.2.1.2.1.cells.toArray 28) :: At worldI k ⟨l8, S8⟩ :: x.2.1.2.2) ((0, ⟨(⟨v, b2, ⟨qa, NB, qd, B⟩⟩, ⟨v + 1, ⟨ta, NB, td, B⟩, ⟨ha, NB, hd, List.replicate NB v⟩, ⟨v, b2, ⟨qa, NB, qd, B⟩⟩⟩, rowP 3 1 qa NB qd (B.map intV) :: G), ⟨inferInstance, .trans .fin hG, inferInstance, inferInstance, inferInstance, ⟨hNB, rfl⟩, ⟨hNB, rfl⟩, ⟨hrep, rfl⟩, ⟨hNB, rfl⟩, by dsimp only; omega, by dsimp only; omega⟩⟩)) (⟨by simp, by dsimp only; omega, by dsimp only; omega⟩) (.cons rfl (.cons rfl (.cons rfl (.cons rfl (.cons rfl (.cons rfl (.cons rfl (.cons rfl (.cons rfl (.cons rfl (.cons rfl (.nil)))))))))))) ((show Lands _ (rowP 3 1 ta NB td (B.map intV) :: rowP 3 1 ha NB hd ((List.replicate NB v).map intV) :: pt b18 (.cells c2.cells.toArray 23) :: pt b10 (.cells [.int .i64 v, .int .i64 b2, .slice qa NB qd].toArray 26) :: pt b11 (.cells [.int .i64 (v + 1), .slice ta NB td, .slice ha NB hd, .int .i64 v, .int .i64 b2, .slice qa NB qd].toArray 28) :: At worldI k ⟨l8, S8⟩ :: rowP 3 1 qa NB qd (B.map intV) :: G) from .fin)) ?_
          intro ⟨jj, ⟨⟨q, t, G2⟩, hX⟩⟩ hi ih2
          dsimp only at hi ih2 ⊢
          haveI := hX.abs
          have hG2 : Lands G2 F := hX.lands
          haveI : HasRow G2 q.by_.a (q.by_.l.map intV) := hX.r1
          haveI : HasRow G2 t.high.by_.a (t.high.by_.l.map intV) := hX.r4
          haveI : HasRow G2 a4 (who.map intV) := hX.rw
          obtain ⟨q1, q2⟩ : q.by_.l.length = NB ∧ q.by_.n = NB := hX.n1
          obtain ⟨t1, t2⟩ : t.by_.l.length = NB ∧ t.by_.n = NB := hX.n2
          obtain ⟨t3, t4⟩ : t.highs.l.length = NB ∧ t.highs.n = NB := hX.n3
          obtain ⟨t5, t6⟩ : t.high.by_.l.length = NB ∧ t.high.by_.n = NB := hX.n4
          have hv3 : 0 ≤ q.view := hX.v1
          have hv4 : 0 ≤ t.view := hX.v2
          obtain ⟨hi, hv5, hv6⟩ := hi
          clear hX
          refine SC_seq ?_
          refine SC_seq ?_
          refine SC_join (X := {y : Bool // y = true → jj < n4 ∧ jj < 3 ∧ 0 < q.by_.n}) (fun x => [(1, .int .i64 n), (4, .slice a4 n4 c4), (5, .int .i64 v), (6, .int .i64 b2), (7, .int .i64 how), (10, .pointer (some ⟨b10, 0, none⟩)), (11, .pointer (some ⟨b11, 0, none⟩)), (17, .pointer (some ⟨k.p, 0, none⟩)), (18, .pointer (some ⟨b18, 0, none⟩)), (19, .int .i64 (i : Nat)), (21, .int .i64 (jj : Nat)), (222, .bool x.1)]) (fun x => rowP 3 1 t.by_.a t.by_.n t.by_.c (t.by_.l.map intV) :: rowP 3 1 t.highs.a t.highs.n t.highs.c (t.highs.l.map intV) :: pt b18 (.cells c2.cells.toArray 23) :: pt b10 (.cells q.cells.toArray 26) :: pt b11 (.cells t.cells.toArray 28) :: At worldI k ⟨l8, S8⟩ :: G2) (fun ⟨yy, hyy⟩ => ?_) (fun J0 => ?_)
          · refine SN_seq ?_
            refine SC_cond rfl (fun hc222 => ?_) (fun hc222 => ?_)
            · obtain ⟨hj1, hj2, hj3⟩ := hyy hc222
              obtain ⟨z, hz⟩ : ∃ z, who[jj]? = some z := ⟨_, List.getElem?_eq_getElem (by omega)⟩
              obtain ⟨u, hu⟩ : ∃ u : Nat, z % 256 % ((q.by_.n : Nat) : Int) = (u : Int) := ⟨(z % 256 % ((q.by_.n : Nat) : Int)).toNat, by rw [Int.toNat_of_nonneg (Int.emod_nonneg _ (by omega))]⟩
              have hul : u < NB := by have := Int.emod_lt_of_pos (z % 256) (show (0 : Int) < ((q.by_.n : Nat) : Int) by omega); omega
              refine SC_skip ?_
              refine SN_seq ?_
              refine SC_seq ?_
              refine SC_block ?_
              refine SC_seq ?_
              refine SC_drawn (.cons 0 true (.cons 1 true (.cons 2 true (.cons 3 true (.cons 4 true (.cons 5 true (.cons 6 true (.cons 7 true (.cons 8 true (.cons 9 true (.nil))))))))))) (by kernel_rfl) (by kernel_rfl) ?_
              refine SQ_pu rfl (RD_move rfl) rfl ?_
              refine SQ_pu rfl (RD_move rfl) rfl ?_
              refine SQ_rd rfl (RD_ixO (i := (jj : Nat)) (cs := who.map intV) Try.runUnderlying24 Try.sizeOf3 rfl rfl (by simpa using hn4) (by omega) (by omega)) Has.ro rfl ?_
              refine SQ_rd rfl (RD_loadO (v := intV z) (cs := who.map intV) Try.isAgg3 rfl (by simp [hz])) Has.ro rfl ?_
              refine SQ_pu rfl (RD_mask 8 rfl rfl rfl (by decide) 256 rfl) rfl ?_
              first
                | refine SQ_pu rfl (RD_fieldAddr 2 Try.runUnderlying26 rfl rfl Try.sizeOf24 rfl) rfl ?_
                | refine SQ_rd rfl (RD_fieldAddrO 2 Try.runUnderlying26 rfl rfl Try.sizeOf24 rfl (by simp <;> omega)) Has.ro rfl ?_
              refine SQ_rd rfl (RD_load Try.isAgg24 rfl) (Has.ce rfl) rfl ?_
              refine SQ_pu rfl (RD_len Try.runUnderlying24 rfl) rfl ?_
              refine SQ_pu rfl (RD_remi rfl rfl (by omega) (by omega)) rfl ?_
              refine SQ_pu rfl (RD_assign rfl) rfl ?_
              refine SQ_nil ?_
              refine SN.le (l := [(1, _), (4, _), (5, _), (6, _), (7, _), (10, _), (11, _), (17, _), (18, _), (19, _), (21, _), (22, _)]) ?_ (.cons rfl (.cons rfl (.cons rfl (.cons rfl (.cons rfl (.cons rfl (.cons rfl (.cons rfl (.cons rfl (.cons rfl (.cons rfl (.cons rfl (.nil)))))))))))))
              rw [hu]
              refine SN_seq ?_
              refine SC_seq ?_
              refine SC_region ?_
              refine SR_pu (RD_move rfl) rfl ?_
              refine SR_pu (RD_move rfl) rfl ?_
              refine SR_rd (RD_ixO (i := (jj : Nat)) (cs := who.map intV) Try.runUnderlying24 Try.sizeOf3 rfl rfl (by simpa using hn4) (by omega) (by omega)) Has.ro rfl ?_
              refine SR_rd (RD_loadO (v := intV z) (cs := who.map intV) Try.isAgg3 rfl (by simp [hz])) Has.ro rfl ?_
              refine SR_pu (RD_shr rfl rfl (by omega)) rfl ?_
              refine SR_pu (RD_mask 3 rfl rfl rfl (by decide) 8 rfl) rfl ?_
              refine SR_nil ?_
              refine SN.le (l := [(1, _), (4, _), (5, _), (6, _), (7, _), (10, _), (11, _), (17, _), (18, _), (19, _), (21, _), (22, _), (239, _)]) ?_ (.cons rfl (.cons rfl (.cons rfl (.cons rfl (.cons rfl (.cons rfl (.cons rfl (.cons rfl (.cons rfl (.cons rfl (.cons rfl (.cons rfl (.cons rfl (.nil))))))))))))))
              refine SN_seq ?_
              refine SC_block ?_
              refine SC_seq ?_
              rw [show QcD.cells q = [.int .i64 q.view, .int .i64 q.block, .slice q.by_.a q.by_.n q.by_.c] from rfl, show TcD.cells t = [.int .i64 t.view, .slice t.by_.a t.by_.n t.by_.c, .slice t.highs.a t.highs.n t.highs.c, .int .i64 t.high.view, .int .i64 t.high.block, .slice t.high.by_.a t.high.by_.n t.high.by_.c] from rfl]
              refine SC_region ?_
              refine SR_pu (RD_eql rfl rfl) rfl ?_
              refine SR_pu (RD_assign rfl) rfl ?_
              refine SR_nil ?_
              refine SN.le (l := [(1, _), (4, _), (5, _), (6, _), (7, _), (10, _), (11, _), (17, _), (18, _), (19, _), (21, _), (22, _), (239, _), (240, _)]) ?_ (.cons rfl (.cons rfl (.cons rfl (.cons rfl (.cons rfl (.cons rfl (.cons rfl (.cons rfl (.cons rfl (.cons rfl (.cons rfl (.cons rfl (.cons rfl (.cons rfl (.nil)))))))))))))))
              refine SN_seq ?_
              refine SC_cond rfl (fun hc240 => ?_) (fun hc240 => ?_)
              · refine SC_seq ?_
                refine SC_region ?_
                refine SR_ox (OX_buildSlice0 Try.runUnderlying24 Try.sizeOf3) rfl ?_
                rintro _ _ ⟨b242, rfl, rfl⟩
                refine SR.lands (lit_row (E := 3) (z := 1) (b := b242) (cs := []) 0 rfl) ?_
                first
                  | refine SR_pu (RD_fieldAddr 2 Try.runUnderlying26 rfl rfl Try.sizeOf24 rfl) rfl ?_
                  | refine SR_rd (RD_fieldAddrO 2 Try.runUnderlying26 rfl rfl Try.sizeOf24 rfl (by simp <;> omega)) Has.ro rfl ?_
                refine SR_rd (RD_load Try.isAgg24 rfl) (Has.ce rfl) rfl ?_
                refine SR_ox (OX_app 1 Try.underlying24 Try.underlying24 Try.type3 rfl rfl rfl rfl rfl (by simp; omega) 8 rfl (by omega) (by omega)) rfl ?_
                rintro _ _ ⟨a245, c245, rfl, rfl⟩
                first
                  | refine SR_pu (RD_fieldAddr 2 Try.runUnderlying26 rfl rfl Try.sizeOf24 rfl) rfl ?_
                  | refine SR_rd (RD_fieldAddrO 2 Try.runUnderlying26 rfl rfl Try.sizeOf24 rfl (by simp <;> omega)) Has.ro rfl ?_
                refine SR_ox0 (OX_st Try.sizeOf24 rfl rfl) ?_
                rintro _ _ rfl
                refine SR_nil ?_
                refine SN.le (l := [(1, _), (4, _), (5, _), (6, _), (7, _), (10, _), (11, _), (17, _), (18, _), (19, _), (21, _), (22, _)]) ?_ (.cons rfl (.cons rfl (.cons rfl (.cons rfl (.cons rfl (.cons rfl (.cons rfl (.cons rfl (.cons rfl (.cons rfl (.cons rfl (.cons rfl (.nil)))))))))))))
                rw [Nat.zero_add, List.nil_append]
                refine SN_seq ?_
                refine SC_drawn (.cons 0 true (.cons 1 true (.cons 2 true (.cons 3 true (.cons 4 true (.cons 5 true (.cons 6 true (.cons 7 true (.cons 8 true (.cons 9 true (.cons 10 false (.nil)))))))))))) (by kernel_rfl) (by kernel_rfl) ?_
                first
                  | refine SQ_pu rfl (RD_fieldAddr 2 Try.runUnderlying26 rfl rfl Try.sizeOf24 rfl) rfl ?_
                  | refine SQ_rd rfl (RD_fieldAddrO 2 Try.runUnderlying26 rfl rfl Try.sizeOf24 rfl (by simp <;> omega)) Has.ro rfl ?_
                refine SQ_rd rfl (RD_load Try.isAgg24 rfl) (Has.ce rfl) rfl ?_
                refine SQ_pu rfl (RD_move rfl) rfl ?_
                refine SQ_pu rfl (RD_move rfl) rfl ?_
                refine SQ_pu rfl (RD_move rfl) rfl ?_
                refine SQ_rd rfl (RD_ixO (i := (jj : Nat)) (cs := who.map intV) Try.runUnderlying24 Try.sizeOf3 rfl rfl (by simpa using hn4) (by omega) (by omega)) Has.ro rfl ?_
                refine SQ_rd rfl (RD_loadO (v := intV z) (cs := who.map intV) Try.isAgg3 rfl (by simp [hz])) Has.ro rfl ?_
                refine SQ_pu rfl (RD_shr rfl rfl (by omega)) rfl ?_
                refine SQ_pu rfl (RD_mask 4 rfl rfl rfl (by decide) 16 rfl) rfl ?_
                refine SQ_rd rfl (RD_ixO (i := (u : Nat)) (cs := q.by_.l.map intV) Try.runUnderlying24 Try.sizeOf3 rfl rfl (by simp; omega) (by omega) (by omega)) Has.ro rfl ?_
                refine SQ_ox0 rfl (OX_stRow Try.sizeOf3 rfl rfl (by simp; omega)) ?_
                rintro _ _ rfl
                refine ⟨.w rfl (.w rfl (.w rfl (.w rfl (.nil)))), ?_⟩
                refine SQ_nil ?_
                refine SN.le (l := [(1, _), (4, _), (5, _), (6, _), (7, _), (10, _), (11, _), (17, _), (18, _), (19, _), (21, _)]) ?_ (.cons rfl (.cons rfl (.cons rfl (.cons rfl (.cons rfl (.cons rfl (.cons rfl (.cons rfl (.cons rfl (.cons rfl (.cons rfl (.nil))))))))))))
                refine SN_block ?_
                refine SN_block ?_
                refine SN_seq ?_
                refine SC_region ?_
                refine SR_pu (RD_move rfl) rfl ?_
                refine SR_pu (RD_addi rfl rfl (by omega) (by omega)) rfl ?_
                refine SR_pu (RD_assign rfl) rfl ?_
                refine SR_nil ?_
                refine SN.le (l := [(1, _), (4, _), (5, _), (6, _), (7, _), (10, _), (11, _), (17, _), (18, _), (19, _), (21, _)]) ?_ (.cons rfl (.cons rfl (.cons rfl (.cons rfl (.cons rfl (.cons rfl (.cons rfl (.cons rfl (.cons rfl (.cons rfl (.cons rfl (.nil))))))))))))
                refine SC_again (ih2 ((jj + 1, ⟨(⟨q.view, q.block, ⟨a245, q.by_.n, c245, q.by_.l.set u (z.fdiv (2 ^ min (11 : Int).toNat IntKind.i64.bits) % 16)⟩⟩, t, (rowP 3 1 a245 q.by_.n c245 ((q.by_.l.set u (z.fdiv (2 ^ min (11 : Int).toNat IntKind.i64.bits) % 16)).map intV) :: G2)), ⟨inferInstance, .trans .fin hG2, inferInstance, inferInstance, inferInstance, ⟨by simp [q1], q2⟩, ⟨t1, t2⟩, ⟨t3, t4⟩, ⟨t5, t6⟩, hv3, hv4⟩⟩)) (⟨by dsimp only; omega, by dsimp only; omega, by dsimp only; omega⟩) (by dsimp only; omega)) ((by (try dsimp only); rw [show (q.by_.l.set u (z.fdiv (2 ^ min (11 : Int).toNat IntKind.i64.bits) % 16)).map intV = (q.by_.l.map intV).set (((u : Nat) : Int).toNat * (0 + 1)) (.int .i64 (z.fdiv (2 ^ min (11 : Int).toNat IntKind.i64.bits) % 16)) by rw [List.map_set]; simp [intV]]; exact (show Lands _ (rowP 3 1 t.by_.a t.by_.n t.by_.c (t.by_.l.map intV) :: rowP 3 1 t.highs.a t.highs.n t.highs.c (t.highs.l.map intV) :: pt b18 (.cells c2.cells.toArray 23) :: pt b10 (.cells [.int .i64 q.view, .int .i64 q.block, .slice a245 q.by_.n c245].toArray 26) :: pt b11 (.cells [.int .i64 t.view, .slice t.by_.a t.by_.n t.by_.c, .slice t.highs.a t.highs.n t.highs.c, .int .i64 t.high.view, .int .i64 t.high.block, .slice t.high.by_.a t.high.by_.n t.high.by_.c].toArray 28) :: At worldI k ⟨l8, S8⟩ :: rowP 3 1 a245 q.by_.n c245 ((q.by_.l.map intV).set (((u : Nat) : Int).toNat * (0 + 1)) (.int .i64 (z.fdiv (2 ^ min (11 : Int).toNat IntKind.i64.bits) % 16))) :: G2) from .fin))) (.cons rfl (.cons rfl (.cons rfl (.cons rfl (.cons rfl (.cons rfl (.cons rfl (.cons rfl (.cons rfl (.cons rfl (.cons' rfl (ie (by dsimp only; omega)) (.nil))))))))))))
              · refine SC_seq ?_
                refine SC_region ?_
                refine SR_pu (RD_eql rfl rfl) rfl ?_
                refine SR_pu (RD_assign rfl) rfl ?_
                refine SR_nil ?_
                refine SN.le (l := [(1, _), (4, _), (5, _), (6, _), (7, _), (10, _), (11, _), (17, _), (18, _), (19, _), (21, _), (22, _), (239, _), (257, _)]) ?_ (.cons rfl (.cons rfl (.cons rfl (.cons rfl (.cons rfl (.cons rfl (.cons rfl (.cons rfl (.cons rfl (.cons rfl (.cons rfl (.cons rfl (.cons rfl (.cons rfl (.nil)))))))))))))))
                refine SN_seq ?_
                refine SC_cond rfl (fun hc257 => ?_) (fun hc257 => ?_)
                · refine SC_region ?_
                  first
                    | refine SR_pu (RD_fieldAddr0 Try.runUnderlying26 rfl rfl Try.sizeOf3 rfl) rfl ?_
                    | refine SR_rd (RD_fieldAddrO 0 Try.runUnderlying26 rfl rfl Try.sizeOf3 rfl (by simp <;> omega)) Has.ro rfl ?_
                  refine SR_rd (RD_load Try.isAgg3 rfl) (Has.ce rfl) rfl ?_
                  refine SR_pu (RD_addi rfl rfl (by omega) (by omega)) rfl ?_
                  first
                    | refine SR_pu (RD_fieldAddr0 Try.runUnderlying26 rfl rfl Try.sizeOf3 rfl) rfl ?_
                    | refine SR_rd (RD_fieldAddrO 0 Try.runUnderlying26 rfl rfl Try.sizeOf3 rfl (by simp <;> omega)) Has.ro rfl ?_
                  refine SR_ox0 (OX_st Try.sizeOf3 rfl rfl) ?_
                  rintro _ _ rfl
                  refine SR_nil ?_
                  refine SN.le (l := [(1, _), (4, _), (5, _), (6, _), (7, _), (10, _), (11, _), (17, _), (18, _), (19, _), (21, _)]) ?_ (.cons rfl (.cons rfl (.cons rfl (.cons rfl (.cons rfl (.cons rfl (.cons rfl (.cons rfl (.cons rfl (.cons rfl (.cons rfl (.nil))))))))))))
                  refine SN_block ?_
                  refine SN_block ?_
                  refine SN_seq ?_
                  refine SC_region ?_
                  refine SR_pu (RD_move rfl) rfl ?_
                  refine SR_pu (RD_addi rfl rfl (by omega) (by omega)) rfl ?_
                  refine SR_pu (RD_assign rfl) rfl ?_
                  refine SR_nil ?_
                  refine SN.le (l := [(1, _), (4, _), (5, _), (6, _), (7, _), (10, _), (11, _), (17, _), (18, _), (19, _), (21, _)]) ?_ (.cons rfl (.cons rfl (.cons rfl (.cons rfl (.cons rfl (.cons rfl (.cons rfl (.cons rfl (.cons rfl (.cons rfl (.cons rfl (.nil))))))))))))
                  refine SC_again (ih2 ((jj + 1, ⟨(⟨q.view + 1, q.block, q.by_⟩, t, G2), ⟨inferInstance, hG2, inferInstance, inferInstance, inferInstance, ⟨q1, q2⟩, ⟨t1, t2⟩, ⟨t3, t4⟩, ⟨t5, t6⟩, by dsimp only; omega, hv4⟩⟩)) (⟨by dsimp only; omega, by dsimp only; omega, by dsimp only; omega⟩) (by dsimp only; omega)) ((show Lands _ (rowP 3 1 t.by_.a t.by_.n t.by_.c (t.by_.l.map intV) :: rowP 3 1 t.highs.a t.highs.n t.highs.c (t.highs.l.map intV) :: pt b18 (.cells c2.cells.toArray 23) :: pt b10 (.cells [.int .i64 (q.view + 1), .int .i64 q.block, .slice q.by_.a q.by_.n q.by_.c].toArray 26) :: pt b11 (.cells [.int .i64 t.view, .slice t.by_.a t.by_.n t.by_.c, .slice t.highs.a t.highs.n t.highs.c, .int .i64 t.high.view, .int .i64 t.high.block, .slice t.high.by_.a t.high.by_.n t.high.by_.c].toArray 28) :: At worldI k ⟨l8, S8⟩ :: G2) from .fin)) (.cons rfl (.cons rfl (.cons rfl (.cons rfl (.cons rfl (.cons rfl (.cons rfl (.cons rfl (.cons rfl (.cons rfl (.cons' rfl (ie (by dsimp only; omega)) (.nil))))))))))))
                · refine SC_seq ?_
                  refine SC_region ?_
                  refine SR_pu (RD_eql rfl rfl) rfl ?_
                  refine SR_pu (RD_assign rfl) rfl ?_
                  refine SR_nil ?_
                  refine SN.le (l := [(1, _), (4, _), (5, _), (6, _), (7, _), (10, _), (11, _), (17, _), (18, _), (19, _), (21, _), (22, _), (239, _), (263, _)]) ?_ (.cons rfl (.cons rfl (.cons rfl (.cons rfl (.cons rfl (.cons rfl (.cons rfl (.cons rfl (.cons rfl (.cons rfl (.cons rfl (.cons rfl (.cons rfl (.cons rfl (.nil)))))))))))))))
                  refine SN_seq ?_
                  refine SC_cond rfl (fun hc263 => ?_) (fun hc263 => ?_)
                  · refine SC_drawn (.cons 0 true (.cons 1 true (.cons 2 true (.cons 3 true (.cons 4 true (.cons 5 true (.cons 6 true (.cons 7 true (.cons 8 true (.cons 9 true (.cons 10 false (.nil)))))))))))) (by kernel_rfl) (by kernel_rfl) ?_
                    first
                      | refine SQ_pu rfl (RD_fieldAddr 2 Try.runUnderlying28 rfl rfl Try.sizeOf24 rfl) rfl ?_
                      | refine SQ_rd rfl (RD_fieldAddrO 2 Try.runUnderlying28 rfl rfl Try.sizeOf24 rfl (by simp <;> omega)) Has.ro rfl ?_
                    refine SQ_rd rfl (RD_load Try.isAgg24 rfl) (Has.ce rfl) rfl ?_
                    refine SQ_pu rfl (RD_move rfl) rfl ?_
                    refine SQ_pu rfl (RD_move rfl) rfl ?_
                    refine SQ_pu rfl (RD_move rfl) rfl ?_
                    refine SQ_rd rfl (RD_ixO (i := (jj : Nat)) (cs := who.map intV) Try.runUnderlying24 Try.sizeOf3 rfl rfl (by simpa using hn4) (by omega) (by omega)) Has.ro rfl ?_
                    refine SQ_rd rfl (RD_loadO (v := intV z) (cs := who.map intV) Try.isAgg3 rfl (by simp [hz])) Has.ro rfl ?_
                    refine SQ_pu rfl (RD_shr rfl rfl (by omega)) rfl ?_
                    refine SQ_pu rfl (RD_mask 3 rfl rfl rfl (by decide) 8 rfl) rfl ?_
                    refine SQ_rd rfl (RD_ixO (i := (u : Nat)) (cs := t.highs.l.map intV) Try.runUnderlying24 Try.sizeOf3 rfl rfl (by simp; omega) (by omega) (by omega)) Has.ro rfl ?_
                    refine SQ_ox0 rfl (OX_stRow Try.sizeOf3 rfl rfl (by simp; omega)) ?_
                    rintro _ _ rfl
                    refine ⟨.w rfl (.w rfl (.w rfl (.w rfl (.nil)))), ?_⟩
                    refine SQ_nil ?_
                    refine SN.le (l := [(1, _), (4, _), (5, _), (6, _), (7, _), (10, _), (11, _), (17, _), (18, _), (19, _), (21, _)]) ?_ (.cons rfl (.cons rfl (.cons rfl (.cons rfl (.cons rfl (.cons rfl (.cons rfl (.cons rfl (.cons rfl (.cons rfl (.cons rfl (.nil))))))))))))
                    refine SN_block ?_
                    refine SN_block ?_
                    refine SN_seq ?_
                    refine SC_region ?_
                    refine SR_pu (RD_move rfl) rfl ?_
                    refine SR_pu (RD_addi rfl rfl (by omega) (by omega)) rfl ?_
                    refine SR_pu (RD_assign rfl) rfl ?_
                    refine SR_nil ?_
                    refine SN.le (l := [(1, _), (4, _), (5, _), (6, _), (7, _), (10, _), (11, _), (17, _), (18, _), (19, _), (21, _)]) ?_ (.cons rfl (.cons rfl (.cons rfl (.cons rfl (.cons rfl (.cons rfl (.cons rfl (.cons rfl (.cons rfl (.cons rfl (.cons rfl (.nil))))))))))))
                    refine SC_again (ih2 ((jj + 1, ⟨(q, ⟨t.view, t.by_, ⟨t.highs.a, t.highs.n, t.highs.c, t.highs.l.set u (z.fdiv (2 ^ min (11 : Int).toNat IntKind.i64.bits) % 8)⟩, t.high⟩, G2), ⟨inferInstance, hG2, inferInstance, inferInstance, inferInstance, ⟨q1, q2⟩, ⟨t1, t2⟩, ⟨by simp [t3], t4⟩, ⟨t5, t6⟩, hv3, hv4⟩⟩)) (⟨by dsimp only; omega, by dsimp only; omega, by dsimp only; omega⟩) (by dsimp only; omega)) ((by (try dsimp only); rw [show (t.highs.l.set u (z.fdiv (2 ^ min (11 : Int).toNat IntKind.i64.bits) % 8)).map intV = (t.highs.l.map intV).set (((u : Nat) : Int).toNat * (0 + 1)) (.int .i64 (z.fdiv (2 ^ min (11 : Int).toNat IntKind.i64.bits) % 8)) by rw [List.map_set]; simp [intV]]; exact (show Lands _ (rowP 3 1 t.by_.a t.by_.n t.by_.c (t.by_.l.map intV) :: rowP 3 1 t.highs.a t.highs.n t.highs.c ((t.highs.l.map intV).set (((u : Nat) : Int).toNat * (0 + 1)) (.int .i64 (z.fdiv (2 ^ min (11 : Int).toNat IntKind.i64.bits) % 8))) :: pt b18 (.cells c2.cells.toArray 23) :: pt b10 (.cells [.int .i64 q.view, .int .i64 q.block, .slice q.by_.a q.by_.n q.by_.c].toArray 26) :: pt b11 (.cells [.int .i64 t.view, .slice t.by_.a t.by_.n t.by_.c, .slice t.highs.a t.highs.n t.highs.c, .int .i64 t.high.view, .int .i64 t.high.block, .slice t.high.by_.a t.high.by_.n t.high.by_.c].toArray 28) :: At worldI k ⟨l8, S8⟩ :: G2) from .fin))) (.cons rfl (.cons rfl (.cons rfl (.cons rfl (.cons rfl (.cons rfl (.cons rfl (.cons rfl (.cons rfl (.cons rfl (.cons' rfl (ie (by dsimp only; omega)) (.nil))))))))))))
                  · refine SC_seq ?_
                    refine SC_region ?_
                    refine SR_pu (RD_eql rfl rfl) rfl ?_
                    refine SR_pu (RD_assign rfl) rfl ?_
                    refine SR_nil ?_
                    refine SN.le (l := [(1, _), (4, _), (5, _), (6, _), (7, _), (10, _), (11, _), (17, _), (18, _), (19, _), (21, _), (22, _), (239, _), (275, _)]) ?_ (.cons rfl (.cons rfl (.cons rfl (.cons rfl (.cons rfl (.cons rfl (.cons rfl (.cons rfl (.cons rfl (.cons rfl (.cons rfl (.cons rfl (.cons rfl (.cons rfl (.nil)))))))))))))))
                    refine SN_seq ?_
                    refine SC_cond rfl (fun hc275 => ?_) (fun hc275 => ?_)
                    · refine SC_region ?_
                      first
                        | refine SR_pu (RD_fieldAddr 3 Try.runUnderlying28 rfl rfl Try.sizeOf26 rfl) rfl ?_
                        | refine SR_rd (RD_fieldAddrO 3 Try.runUnderlying28 rfl rfl Try.sizeOf26 rfl (by simp <;> omega)) Has.ro rfl ?_
                      first
                        | refine SR_pu (RD_fieldAddr0 Try.runUnderlying26 rfl rfl Try.sizeOf3 rfl) rfl ?_
                        | refine SR_rd (RD_fieldAddrO 0 Try.runUnderlying26 rfl rfl Try.sizeOf3 rfl (by simp <;> omega)) Has.ro rfl ?_
                      refine SR_ox0 (OX_st Try.sizeOf3 rfl rfl) ?_
                      rintro _ _ rfl
                      refine SR_nil ?_
                      refine SN.le (l := [(1, _), (4, _), (5, _), (6, _), (7, _), (10, _), (11, _), (17, _), (18, _), (19, _), (21, _)]) ?_ (.cons rfl (.cons rfl (.cons rfl (.cons rfl (.cons rfl (.cons rfl (.cons rfl (.cons rfl (.cons rfl (.cons rfl (.cons rfl (.nil))))))))))))
                      refine SN_block ?_
                      refine SN_block ?_
                      refine SN_seq ?_
                      refine SC_region ?_
                      refine SR_pu (RD_move rfl) rfl ?_
                      refine SR_pu (RD_addi rfl rfl (by omega) (by omega)) rfl ?_
                      refine SR_pu (RD_assign rfl) rfl ?_
                      refine SR_nil ?_
                      refine SN.le (l := [(1, _), (4, _), (5, _), (6, _), (7, _), (10, _), (11, _), (17, _), (18, _), (19, _), (21, _)]) ?_ (.cons rfl (.cons rfl (.cons rfl (.cons rfl (.cons rfl (.cons rfl (.cons rfl (.cons rfl (.cons rfl (.cons rfl (.cons rfl (.nil))))))))))))
                      refine SC_again (ih2 ((jj + 1, ⟨(q, ⟨t.view, t.by_, t.highs, ⟨0, t.high.block, t.high.by_⟩⟩, G2), ⟨inferInstance, hG2, inferInstance, inferInstance, inferInstance, ⟨q1, q2⟩, ⟨t1, t2⟩, ⟨t3, t4⟩, ⟨t5, t6⟩, hv3, hv4⟩⟩)) (⟨by dsimp only; omega, by dsimp only; omega, by dsimp only; omega⟩) (by dsimp only; omega)) ((show Lands _ (rowP 3 1 t.by_.a t.by_.n t.by_.c (t.by_.l.map intV) :: rowP 3 1 t.highs.a t.highs.n t.highs.c (t.highs.l.map intV) :: pt b18 (.cells c2.cells.toArray 23) :: pt b10 (.cells [.int .i64 q.view, .int .i64 q.block, .slice q.by_.a q.by_.n q.by_.c].toArray 26) :: pt b11 (.cells [.int .i64 t.view, .slice t.by_.a t.by_.n t.by_.c, .slice t.highs.a t.highs.n t.highs.c, .int .i64 0, .int .i64 t.high.block, .slice t.high.by_.a t.high.by_.n t.high.by_.c].toArray 28) :: At worldI k ⟨l8, S8⟩ :: G2) from .fin)) (.cons rfl (.cons rfl (.cons rfl (.cons rfl (.cons rfl (.cons rfl (.cons rfl (.cons rfl (.cons rfl (.cons rfl (.cons' rfl (ie (by dsimp only; omega)) (.nil))))))))))))
                    · refine SC_seq ?_
                      refine SC_region ?_
                      refine SR_pu (RD_eql rfl rfl) rfl ?_
                      refine SR_pu (RD_assign rfl) rfl ?_
                      refine SR_nil ?_
                      refine SN.le (l := [(1, _), (4, _), (5, _), (6, _), (7, _), (10, _), (11, _), (17, _), (18, _), (19, _), (21, _), (22, _), (239, _), (279, _)]) ?_ (.cons rfl (.cons rfl (.cons rfl (.cons rfl (.cons rfl (.cons rfl (.cons rfl (.cons rfl (.cons rfl (.cons rfl (.cons rfl (.cons rfl (.cons rfl (.cons rfl (.nil)))))))))))))))
                      refine SN_seq ?_
                      refine SC_cond rfl (fun hc279 => ?_) (fun hc279 => ?_)
                      · refine SC_region ?_
                        first
                          | refine SR_pu (RD_fieldAddr0 Try.runUnderlying28 rfl rfl Try.sizeOf3 rfl) rfl ?_
                          | refine SR_rd (RD_fieldAddrO 0 Try.runUnderlying28 rfl rfl Try.sizeOf3 rfl (by simp <;> omega)) Has.ro rfl ?_
                        refine SR_rd (RD_load Try.isAgg3 rfl) (Has.ce rfl) rfl ?_
                        refine SR_pu (RD_addi rfl rfl (by omega) (by omega)) rfl ?_
                        first
                          | refine SR_pu (RD_fieldAddr0 Try.runUnderlying28 rfl rfl Try.sizeOf3 rfl) rfl ?_
                          | refine SR_rd (RD_fieldAddrO 0 Try.runUnderlying28 rfl rfl Try.sizeOf3 rfl (by simp <;> omega)) Has.ro rfl ?_
                        refine SR_ox0 (OX_st Try.sizeOf3 rfl rfl) ?_
                        rintro _ _ rfl
                        refine SR_nil ?_
                        refine SN.le (l := [(1, _), (4, _), (5, _), (6, _), (7, _), (10, _), (11, _), (17, _), (18, _), (19, _), (21, _)]) ?_ (.cons rfl (.cons rfl (.cons rfl (.cons rfl (.cons rfl (.cons rfl (.cons rfl (.cons rfl (.cons rfl (.cons rfl (.cons rfl (.nil))))))))))))
                        refine SN_block ?_
                        refine SN_block ?_
                        refine SN_seq ?_
                        refine SC_region ?_
                        refine SR_pu (RD_move rfl) rfl ?_
                        refine SR_pu (RD_addi rfl rfl (by omega) (by omega)) rfl ?_
                        refine SR_pu (RD_assign rfl) rfl ?_
                        refine SR_nil ?_
                        refine SN.le (l := [(1, _), (4, _), (5, _), (6, _), (7, _), (10, _), (11, _), (17, _), (18, _), (19, _), (21, _)]) ?_ (.cons rfl (.cons rfl (.cons rfl (.cons rfl (.cons rfl (.cons rfl (.cons rfl (.cons rfl (.cons rfl (.cons rfl (.cons rfl (.nil))))))))))))
                        refine SC_again (ih2 ((jj + 1, ⟨(q, ⟨t.view + 1, t.by_, t.highs, t.high⟩, G2), ⟨inferInstance, hG2, inferInstance, inferInstance, inferInstance, ⟨q1, q2⟩, ⟨t1, t2⟩, ⟨t3, t4⟩, ⟨t5, t6⟩, hv3, by dsimp only; omega⟩⟩)) (⟨by dsimp only; omega, by dsimp only; omega, by dsimp only; omega⟩) (by dsimp only; omega)) ((show Lands _ (rowP 3 1 t.by_.a t.by_.n t.by_.c (t.by_.l.map intV) :: rowP 3 1 t.highs.a t.highs.n t.highs.c (t.highs.l.map intV) :: pt b18 (.cells c2.cells.toArray 23) :: pt b10 (.cells [.int .i64 q.view, .int .i64 q.block, .slice q.by_.a q.by_.n q.by_.c].toArray 26) :: pt b11 (.cells [.int .i64 (t.view + 1), .slice t.by_.a t.by_.n t.by_.c, .slice t.highs.a t.highs.n t.highs.c, .int .i64 t.high.view, .int .i64 t.high.block, .slice t.high.by_.a t.high.by_.n t.high.by_.c].toArray 28) :: At worldI k ⟨l8, S8⟩ :: G2) from .fin)) (.cons rfl (.cons rfl (.cons rfl (.cons rfl (.cons rfl (.cons rfl (.cons rfl (.cons rfl (.cons rfl (.cons rfl (.cons' rfl (ie (by dsimp only; omega)) (.nil))))))))))))
                      · refine SC_seq ?_
                        refine SC_region ?_
                        refine SR_pu (RD_eql rfl rfl) rfl ?_
                        refine SR_pu (RD_assign rfl) rfl ?_
                        refine SR_nil ?_
                        refine SN.le (l := [(1, _), (4, _), (5, _), (6, _), (7, _), (10, _), (11, _), (17, _), (18, _), (19, _), (21, _), (22, _), (285, _)]) ?_ (.cons rfl (.cons rfl (.cons rfl (.cons rfl (.cons rfl (.cons rfl (.cons rfl (.cons rfl (.cons rfl (.cons rfl (.cons rfl (.cons rfl (.cons rfl (.nil))))))))))))))
                        refine SN_seq ?_
                        refine SC_cond rfl (fun hc285 => ?_) (fun hc285 => ?_)
                        · refine SC_drawn (.cons 0 true (.cons 1 true (.cons 2 true (.cons 3 true (.cons 4 true (.cons 5 true (.cons 6 true (.cons 7 true (.cons 8 true (.cons 9 true (.cons 10 false (.nil)))))))))))) (by kernel_rfl) (by kernel_rfl) ?_
                          first
                            | refine SQ_pu rfl (RD_fieldAddr 1 Try.runUnderlying28 rfl rfl Try.sizeOf24 rfl) rfl ?_
                            | refine SQ_rd rfl (RD_fieldAddrO 1 Try.runUnderlying28 rfl rfl Try.sizeOf24 rfl (by simp <;> omega)) Has.ro rfl ?_
                          refine SQ_rd rfl (RD_load Try.isAgg24 rfl) (Has.ce rfl) rfl ?_
                          refine SQ_pu rfl (RD_move rfl) rfl ?_
                          refine SQ_pu rfl (RD_move rfl) rfl ?_
                          refine SQ_pu rfl (RD_move rfl) rfl ?_
                          refine SQ_rd rfl (RD_ixO (i := (jj : Nat)) (cs := who.map intV) Try.runUnderlying24 Try.sizeOf3 rfl rfl (by simpa using hn4) (by omega) (by omega)) Has.ro rfl ?_
                          refine SQ_rd rfl (RD_loadO (v := intV z) (cs := who.map intV) Try.isAgg3 rfl (by simp [hz])) Has.ro rfl ?_
                          refine SQ_pu rfl (RD_shr rfl rfl (by omega)) rfl ?_
                          refine SQ_pu rfl (RD_mask 4 rfl rfl rfl (by decide) 16 rfl) rfl ?_
                          refine SQ_rd rfl (RD_ixO (i := (u : Nat)) (cs := t.by_.l.map intV) Try.runUnderlying24 Try.sizeOf3 rfl rfl (by simp; omega) (by omega) (by omega)) Has.ro rfl ?_
                          refine SQ_ox0 rfl (OX_stRow Try.sizeOf3 rfl rfl (by simp; omega)) ?_
                          rintro _ _ rfl
                          refine ⟨.w rfl (.w rfl (.w rfl (.w rfl (.nil)))), ?_⟩
                          refine SQ_nil ?_
                          refine SN.le (l := [(1, _), (4, _), (5, _), (6, _), (7, _), (10, _), (11, _), (17, _), (18, _), (19, _), (21, _)]) ?_ (.cons rfl (.cons rfl (.cons rfl (.cons rfl (.cons rfl (.cons rfl (.cons rfl (.cons rfl (.cons rfl (.cons rfl (.cons rfl (.nil))))))))))))
                          refine SN_block ?_
                          refine SN_block ?_
                          refine SN_seq ?_
                          refine SC_region ?_
                          refine SR_pu (RD_move rfl) rfl ?_
                          refine SR_pu (RD_addi rfl rfl (by omega) (by omega)) rfl ?_
                          refine SR_pu (RD_assign rfl) rfl ?_
                          refine SR_nil ?_
                          refine SN.le (l := [(1, _), (4, _), (5, _), (6, _), (7, _), (10, _), (11, _), (17, _), (18, _), (19, _), (21, _)]) ?_ (.cons rfl (.cons rfl (.cons rfl (.cons rfl (.cons rfl (.cons rfl (.cons rfl (.cons rfl (.cons rfl (.cons rfl (.cons rfl (.nil))))))))))))
                          refine SC_again (ih2 ((jj + 1, ⟨(q, ⟨t.view, ⟨t.by_.a, t.by_.n, t.by_.c, t.by_.l.set u (z.fdiv (2 ^ min (11 : Int).toNat IntKind.i64.bits) % 16)⟩, t.highs, t.high⟩, G2), ⟨inferInstance, hG2, inferInstance, inferInstance, inferInstance, ⟨q1, q2⟩, ⟨by simp [t1], t2⟩, ⟨t3, t4⟩, ⟨t5, t6⟩, hv3, hv4⟩⟩)) (⟨by dsimp only; omega, by dsimp only; omega, by dsimp only; omega⟩) (by dsimp only; omega)) ((by (try dsimp only); rw [show (t.by_.l.set u (z.fdiv (2 ^ min (11 : Int).toNat IntKind.i64.bits) % 16)).map intV = (t.by_.l.map intV).set (((u : Nat) : Int).toNat * (0 + 1)) (.int .i64 (z.fdiv (2 ^ min (11 : Int).toNat IntKind.i64.bits) % 16)) by rw [List.map_set]; simp [intV]]; exact (show Lands _ (rowP 3 1 t.by_.a t.by_.n t.by_.c ((t.by_.l.map intV).set (((u : Nat) : Int).toNat * (0 + 1)) (.int .i64 (z.fdiv (2 ^ min (11 : Int).toNat IntKind.i64.bits) % 16))) :: rowP 3 1 t.highs.a t.highs.n t.highs.c (t.highs.l.map intV) :: pt b18 (.cells c2.cells.toArray 23) :: pt b10 (.cells [.int .i64 q.view, .int .i64 q.block, .slice q.by_.a q.by_.n q.by_.c].toArray 26) :: pt b11 (.cells [.int .i64 t.view, .slice t.by_.a t.by_.n t.by_.c, .slice t.highs.a t.highs.n t.highs.c, .int .i64 t.high.view, .int .i64 t.high.block, .slice t.high.by_.a t.high.by_.n t.high.by_.c].toArray 28) :: At worldI k ⟨l8, S8⟩ :: G2) from .fin))) (.cons rfl (.cons rfl (.cons rfl (.cons rfl (.cons rfl (.cons rfl (.cons rfl (.cons rfl (.cons rfl (.cons rfl (.cons' rfl (ie (by dsimp only; omega)) (.nil))))))))))))
                        · refine SC_skip ?_
                          refine SN_block ?_
                          refine SN_block ?_
                          refine SN_seq ?_
                          refine SC_region ?_
                          refine SR_pu (RD_move rfl) rfl ?_
                          refine SR_pu (RD_addi rfl rfl (by omega) (by omega)) rfl ?_
                          refine SR_pu (RD_assign rfl) rfl ?_
                          refine SR_nil ?_
                          refine SN.le (l := [(1, _), (4, _), (5, _), (6, _), (7, _), (10, _), (11, _), (17, _), (18, _), (19, _), (21, _)]) ?_ (.cons rfl (.cons rfl (.cons rfl (.cons rfl (.cons rfl (.cons rfl (.cons rfl (.cons rfl (.cons rfl (.cons rfl (.cons rfl (.nil))))))))))))
                          refine SC_again (ih2 ((jj + 1, ⟨(q, t, G2), ⟨inferInstance, hG2, inferInstance, inferInstance, inferInstance, ⟨q1, q2⟩, ⟨t1, t2⟩, ⟨t3, t4⟩, ⟨t5, t6⟩, hv3, hv4⟩⟩)) (⟨by dsimp only; omega, by dsimp only; omega, by dsimp only; omega⟩) (by dsimp only; omega)) ((show Lands _ (rowP 3 1 t.by_.a t.by_.n t.by_.c (t.by_.l.map intV) :: rowP 3 1 t.highs.a t.highs.n t.highs.c (t.highs.l.map intV) :: pt b18 (.cells c2.cells.toArray 23) :: pt b10 (.cells [.int .i64 q.view, .int .i64 q.block, .slice q.by_.a q.by_.n q.by_.c].toArray 26) :: pt b11 (.cells [.int .i64 t.view, .slice t.by_.a t.by_.n t.by_.c, .slice t.highs.a t.highs.n t.highs.c, .int .i64 t.high.view, .int .i64 t.high.block, .slice t.high.by_.a t.high.by_.n t.high.by_.c].toArray 28) :: At worldI k ⟨l8, S8⟩ :: G2) from .fin)) (.cons rfl (.cons rfl (.cons rfl (.cons rfl (.cons rfl (.cons rfl (.cons rfl (.cons rfl (.cons rfl (.cons rfl (.cons' rfl (ie (by dsimp only; omega)) (.nil))))))))))))
            · clear ih2
              refine SC_exit rfl ?_
              refine SN_block ?_
              refine SN_seq ?_
              refine SC_region ?_
              refine SR_pu (RD_move rfl) rfl ?_
              refine SR_pu (RD_addi rfl rfl (by omega) (by omega)) rfl ?_
              refine SR_pu (RD_assign rfl) rfl ?_
              refine SR_nil ?_
              refine SN.le (l := [(1, _), (4, _), (5, _), (6, _), (7, _), (10, _), (11, _), (17, _), (18, _), (19, _)]) ?_ (.cons rfl (.cons rfl (.cons rfl (.cons rfl (.cons rfl (.cons rfl (.cons rfl (.cons rfl (.cons rfl (.cons rfl (.nil)))))))))))
              refine SC_again (ih ((⟨(i + 1, c2, q, t, l8, S8, (rowP 3 1 t.by_.a t.by_.n t.by_.c (t.by_.l.map intV) :: rowP 3 1 t.highs.a t.highs.n t.highs.c (t.highs.l.map intV) :: G2)), ⟨inferInstance, .trans .fin hG2, inferInstance, inferInstance, inferInstance, inferInstance, inferInstance, ⟨by dsimp only; omega, by dsimp only; omega⟩, ⟨by dsimp only; omega, by dsimp only; omega⟩, ⟨by dsimp only; omega, by dsimp only; omega⟩, ⟨by dsimp only; omega, by dsimp only; omega⟩, by dsimp only; omega, hI8, by dsimp only; omega, by dsimp only; omega⟩⟩, v, b2)) (trivial) (by dsimp only; omega)) (.fin) (.cons rfl (.cons rfl (.cons rfl (.cons rfl (.cons rfl (.cons rfl (.cons rfl (.cons rfl (.cons rfl (.cons' rfl (ie (by dsimp only; omega)) (.nil)))))))))))
          · refine SC_region ?_
            refine SR_pu (RD_move rfl) rfl ?_
            refine SR_pu (RD_move rfl) rfl ?_
            refine SR_pu (RD_len Try.runUnderlying24 rfl) rfl ?_
            refine SR_pu (RD_lss rfl rfl) rfl ?_
            refine SR_pu (RD_move rfl) rfl ?_
            refine SR_guard rfl rfl (fun hg27_4 => ?_) (fun hg27_4 => ?_)
            · have hk4 := of_decide_eq_true hg27_4
              refine SR_yes rfl rfl (hg27_4) ?_
              refine SR_pu (RD_move rfl) rfl ?_
              refine SR_yes rfl rfl (hg27_4) ?_
              refine SR_pu (RD_lss rfl rfl) rfl ?_
              refine SR_pu (RD_pick_t rfl (hg27_4) rfl) rfl ?_
              refine SR_pu (RD_move rfl) rfl ?_
              refine SR_guard rfl rfl (fun hg27_8 => ?_) (fun hg27_8 => ?_)
              · have hk8 := of_decide_eq_true hg27_8
                refine SR_yes rfl rfl (hg27_8) ?_
                refine SR_pu (RD_move rfl) rfl ?_
                refine SR_yes rfl rfl (hg27_8) ?_
                refine SR_pu (RD_eql rfl rfl) rfl ?_
                refine SR_pu (RD_pick_t rfl (hg27_8) rfl) rfl ?_
                refine SR_pu (RD_move rfl) rfl ?_
                refine SR_guard rfl rfl (fun hg27_12 => ?_) (fun hg27_12 => ?_)
                · have hk12 := of_decide_eq_true hg27_12
                  refine SR_yes rfl rfl (hg27_12) ?_
                  first
                    | refine SR_pu (RD_fieldAddr 2 Try.runUnderlying26 rfl rfl Try.sizeOf24 rfl) rfl ?_
                    | refine SR_rd (RD_fieldAddrO 2 Try.runUnderlying26 rfl rfl Try.sizeOf24 rfl (by simp <;> omega)) Has.ro rfl ?_
                  refine SR_yes rfl rfl (hg27_12) ?_
                  refine SR_rd (RD_load Try.isAgg24 rfl) (Has.ce rfl) rfl ?_
                  refine SR_yes rfl rfl (hg27_12) ?_
                  refine SR_pu (RD_len Try.runUnderlying24 rfl) rfl ?_
                  refine SR_yes rfl rfl (hg27_12) ?_
                  refine SR_pu (RD_gtr rfl rfl) rfl ?_
                  refine SR_pu (RD_pick_t rfl (hg27_12) rfl) rfl ?_
                  refine SR_nil ?_
                  refine SN.le (l := [(1, _), (4, _), (5, _), (6, _), (7, _), (10, _), (11, _), (17, _), (18, _), (19, _), (21, _), (222, _)]) ?_ (.cons rfl (.cons rfl (.cons rfl (.cons rfl (.cons rfl (.cons rfl (.cons rfl (.cons rfl (.cons rfl (.cons rfl (.cons rfl (.cons rfl (.nil)))))))))))))
                  exact J0 (⟨decide ((q.by_.n : Int) > 0), fun h => by have := of_decide_eq_true h; omega⟩) _ _ (.cons rfl (.cons rfl (.cons rfl (.cons rfl (.cons rfl (.cons rfl (.cons rfl (.cons rfl (.cons rfl (.cons rfl (.cons rfl (.cons rfl (.nil))))))))))))) (.fin)
                · refine SR_no rfl rfl (hg27_12) (lts rfl) ?_
                  refine SR_no rfl rfl (hg27_12) (lts rfl) ?_
                  refine SR_no rfl rfl (hg27_12) (lts rfl) ?_
                  refine SR_no rfl rfl (hg27_12) (lts rfl) ?_
                  refine SR_pu (RD_pick_f rfl (hg27_12) rfl) rfl ?_
                  refine SR_nil ?_
                  refine SN.le (l := [(1, _), (4, _), (5, _), (6, _), (7, _), (10, _), (11, _), (17, _), (18, _), (19, _), (21, _), (222, _)]) ?_ (.cons rfl (.cons rfl (.cons rfl (.cons rfl (.cons rfl (.cons rfl (.cons rfl (.cons rfl (.cons rfl (.cons rfl (.cons rfl (.cons rfl (.nil)))))))))))))
                  exact J0 (⟨false, fun h => by cases h⟩) _ _ (.cons rfl (.cons rfl (.cons rfl (.cons rfl (.cons rfl (.cons rfl (.cons rfl (.cons rfl (.cons rfl (.cons rfl (.cons rfl (.cons rfl (.nil))))))))))))) (.fin)
              · refine SR_no rfl rfl (hg27_8) (lts rfl) ?_
                refine SR_no rfl rfl (hg27_8) (lts rfl) ?_
                refine SR_pu (RD_pick_f rfl (hg27_8) rfl) rfl ?_
                refine SR_pu (RD_move rfl) rfl ?_
                refine SR_no rfl rfl (rfl) (lts rfl) ?_
                refine SR_no rfl rfl (rfl) (lts rfl) ?_
                refine SR_no rfl rfl (rfl) (lts rfl) ?_
                refine SR_no rfl rfl (rfl) (lts rfl) ?_
                refine SR_pu (RD_pick_f rfl (rfl) rfl) rfl ?_
                refine SR_nil ?_
                refine SN.le (l := [(1, _), (4, _), (5, _), (6, _), (7, _), (10, _), (11, _), (17, _), (18, _), (19, _), (21, _), (222, _)]) ?_ (.cons rfl (.cons rfl (.cons rfl (.cons rfl (.cons rfl (.cons rfl (.cons rfl (.cons rfl (.cons rfl (.cons rfl (.cons rfl (.cons rfl (.nil)))))))))))))
                exact J0 (⟨false, fun h => by cases h⟩) _ _ (.cons rfl (.cons rfl (.cons rfl (.cons rfl (.cons rfl (.cons rfl (.cons rfl (.cons rfl (.cons rfl (.cons rfl (.cons rfl (.cons rfl (.nil))))))))))))) (.fin)
            · refine SR_no rfl rfl (hg27_4) (lts rfl) ?_
              refine SR_no rfl rfl (hg27_4) (lts rfl) ?_
              refine SR_pu (RD_pick_f rfl (hg27_4) rfl) rfl ?_
              refine SR_pu (RD_move rfl) rfl ?_
              refine SR_no rfl rfl (rfl) (lts rfl) ?_
              refine SR_no rfl rfl (rfl) (lts rfl) ?_
              refine SR_pu (RD_pick_f rfl (rfl) rfl) rfl ?_
              refine SR_pu (RD_move rfl) rfl ?_
              refine SR_no rfl rfl (rfl) (lts rfl) ?_
              refine SR_no rfl rfl (rfl) (lts rfl) ?_
              refine SR_no rfl rfl (rfl) (lts rfl) ?_
              refine SR_no rfl rfl (rfl) (lts rfl) ?_
              refine SR_pu (RD_pick_f rfl (rfl) rfl) rfl ?_
              refine SR_nil ?_
              refine SN.le (l := [(1, _), (4, _), (5, _), (6, _), (7, _), (10, _), (11, _), (17, _), (18, _), (19, _), (21, _), (222, _)]) ?_ (.cons rfl (.cons rfl (.cons rfl (.cons rfl (.cons rfl (.cons rfl (.cons rfl (.cons rfl (.cons rfl (.cons rfl (.cons rfl (.cons rfl (.nil)))))))))))))
              exact J0 (⟨false, fun h => by cases h⟩) _ _ (.cons rfl (.cons rfl (.cons rfl (.cons rfl (.cons rfl (.cons rfl (.cons rfl (.cons rfl (.cons rfl (.cons rfl (.cons rfl (.cons rfl (.nil))))))))))))) (.fin)
      · refine SC_drawn (.cons 0 true (.cons 1 true (.cons 2 true (.cons 4 true (.cons 5 true (.cons 6 true (.cons 3 false (.cons 7 false (.cons 8 true (.cons 9 true (.cons 10 true (.cons 11 true (.cons 12 true (.cons 14 true (.cons 15 true (.cons 16 true (.cons 13 false (.cons 17 false (.cons 18 true (.cons 19 true (.cons 20 true (.cons 21 true (.cons 22 true (.cons 23 true (.cons 24 true (.cons 25 true (.cons 26 true (.cons 27 true (.cons 28 true (.cons 29 true (.cons 30 true (.cons 31 true (.cons 32 true (.cons 33 true (.cons 34 true (.cons 35 true (.cons 36 true (.cons 37 true (.cons 38 true (.cons 39 true (.cons 40 true (.cons 42 true (.cons 43 true (.cons 44 true (.cons 45 true (.cons 46 true (.cons 41 false (.cons 47 true (.cons 48 true (.cons 49 true (.nil))))))))))))))))))))))))))))))))))))))))))))))))))) (by kernel_rfl) (by kernel_rfl) ?_
        refine SQ_pu rfl (RD_move rfl) rfl ?_
        refine SQ_rd rfl (RD_loadA (vs := c.cells) Try.isAgg23 Try.sizeOf23 rfl rfl) Has.wh rfl ?_
        refine SQ_rd rfl (RD_loadA (vs := q.cells) Try.isAgg26 Try.sizeOf26 rfl rfl) Has.wh rfl ?_
        refine SQ_pu rfl (RD_move rfl) rfl ?_
        refine SQ_rd rfl (RD_loadA (vs := c.cells) Try.isAgg23 Try.sizeOf23 rfl rfl) Has.wh rfl ?_
        refine SQ_rd rfl (RD_loadA (vs := q.cells) Try.isAgg26 Try.sizeOf26 rfl rfl) Has.wh rfl ?_
        refine SQ_call rfl Try.call8 (.cons rfl (.cons rfl (.cons rfl (.nil)))) (CallsK.at (cert_QcOk' k ⟨l, S⟩ c q rfl q1 (by omega) (by dsimp only; omega) hcn l1 v1 hl1 hv1)) (lts rfl) ?_
        rintro _ L2 ⟨rfl, hL2⟩
        refine ⟨.lands hL2 (.h Has.wh (.h Has.wh (.w rfl (.w rfl (.nil))))), ?_⟩
        refine SQ.lands hL2 ?_
        refine SQ_call rfl Try.call9 (.cons rfl (.cons rfl (.cons rfl (.nil)))) (CallsK.at (law15_qc k ⟨l1, S⟩ hI1 c q q1 (by omega) (by dsimp only; omega) hcn)) (lts rfl) ?_
        rintro _ L3 ⟨l2, hx2, hl2n, _, rfl, hL3⟩
        dsimp only at hx2 hl2n
        refine ⟨.lands hL3 (.w rfl (.w rfl (.h Has.wh (.h Has.wh (.nil))))), ?_⟩
        have e1 : c.qcOk l2 S q.view q.block q.by_.l = v1 := by rw [qcOk_same hI1 hx2 (fun hf hv => by rw [← hl1]; exact qcL_root hf hv), hv1]
        dsimp only
        rw [e1]
        refine SQ.lands hL3 ?_
        refine SQ_pu rfl (RD_neqB Try.underlying4 rfl rfl) rfl ?_
        refine SQ_pu rfl (RD_move rfl) rfl ?_
        refine SQ_pyes rfl rfl rfl (by simp) (RD_move rfl) rfl ?_
        refine SQ_yes rfl rfl rfl (by simp) (RD_loadA (vs := c.cells) Try.isAgg23 Try.sizeOf23 rfl rfl) Has.wh rfl ?_
        refine SQ_yes rfl rfl rfl (by simp) (RD_loadA (vs := t.cells) Try.isAgg28 Try.sizeOf28 rfl rfl) Has.wh rfl ?_
        refine SQ_pyes rfl rfl rfl (by simp) (RD_move rfl) rfl ?_
        refine SQ_yes rfl rfl rfl (by simp) (RD_loadA (vs := c.cells) Try.isAgg23 Try.sizeOf23 rfl rfl) Has.wh rfl ?_
        refine SQ_yes rfl rfl rfl (by simp) (RD_loadA (vs := t.cells) Try.isAgg28 Try.sizeOf28 rfl rfl) Has.wh rfl ?_
        refine SQ_one (SA_call rfl (.mk rfl rfl (by simp)) Try.call10 (.cons rfl (.cons rfl (.cons rfl (.nil)))) (CallsK.at (cert_TcOk k ⟨l2, S⟩ (hI1.ext hx2) c t rfl rfl rfl t1 t3 t5 (by omega) (by omega) (by omega) (by dsimp only; omega) hcn)) (lts rfl) ?_)
        rintro _ L4 ⟨l3, hx3, hl3n, hrt, rfl, hL4⟩
        dsimp only at hx3 hl3n hrt
        refine ⟨.lands hL4 (.h Has.wh (.h Has.wh (.w rfl (.w rfl (.h Has.wh (.h Has.wh (.h Has.wh (.h Has.wh (.nil))))))))), ?_⟩
        refine SQ.lands hL4 ?_
        refine SQ_one (SA_call rfl (.mk rfl rfl (by simp)) Try.call11 (.cons rfl (.cons rfl (.cons rfl (.nil)))) (CallsK.at (law15_tc k ⟨l3, S⟩ ((hI1.ext hx2).ext hx3) c t t1 t3 t5 (by omega) (by omega) (by omega) (by dsimp only; omega) hcn)) (lts rfl) ?_)
        rintro _ L5 ⟨l4, hx4, hl4n, rfl, hL5⟩
        dsimp only at hx4 hl4n
        refine ⟨.lands hL5 (.w rfl (.w rfl (.h Has.wh (.h Has.wh (.h Has.wh (.h Has.wh (.h Has.wh (.h Has.wh (.nil))))))))), ?_⟩
        have e2 : c.tcOk l4 S t = c.tcOk l3 S t := tcOk_same ((hI1.ext hx2).ext hx3) hx4 hrt
        dsimp only
        rw [e2]
        refine SQ.lands hL5 ?_
        refine SQ_pyes rfl rfl rfl (by simp) (RD_neqB Try.underlying4 rfl rfl) rfl ?_
        refine SQ_pu rfl (RD_pick_f rfl (by simp) rfl) rfl ?_
        refine SQ_pu rfl (RD_move rfl) rfl ?_
        first
          | refine SQ_pyes rfl rfl rfl (by simp) (RD_fieldAddr 1 Try.runUnderlying23 rfl rfl Try.sizeOf3 rfl) rfl ?_
          | refine SQ_yes rfl rfl rfl (by simp) (RD_fieldAddrO 1 Try.runUnderlying23 rfl rfl Try.sizeOf3 rfl (by simp <;> omega)) Has.ro rfl ?_
        refine SQ_yes rfl rfl rfl (by simp) (RD_load Try.isAgg3 rfl) (Has.ce rfl) rfl ?_
        refine SQ_pyes rfl rfl rfl (by simp) (RD_gtr rfl rfl) rfl ?_
        refine SQ_pyes rfl rfl rfl (by simp) (RD_move rfl) rfl ?_
        refine SQ_guard (i := 25) rfl rfl rfl (fun hg10_24 => ?_) (fun hg10_24 => ?_)
        · have hk24 := of_decide_eq_true hg10_24
          first
            | refine SQ_pyes rfl rfl rfl (hg10_24) (RD_fieldAddr 1 Try.runUnderlying23 rfl rfl Try.sizeOf3 rfl) rfl ?_
            | refine SQ_yes rfl rfl rfl (hg10_24) (RD_fieldAddrO 1 Try.runUnderlying23 rfl rfl Try.sizeOf3 rfl (by simp <;> omega)) Has.ro rfl ?_
          refine SQ_yes rfl rfl rfl (hg10_24) (RD_load Try.isAgg3 rfl) (Has.ce rfl) rfl ?_
          refine SQ_pyes rfl rfl rfl (hg10_24) (RD_lss rfl rfl) rfl ?_
          refine SQ_pyes rfl rfl rfl (by simp) (RD_pick_t rfl (hg10_24) rfl) rfl ?_
          refine SQ_pyes rfl rfl rfl (by simp) (RD_move rfl) rfl ?_
          refine SQ_guard (i := 30) rfl rfl rfl (fun hg10_29 => ?_) (fun hg10_29 => ?_)
          · have hk29 := of_decide_eq_true hg10_29
            first
              | refine SQ_pyes rfl rfl rfl (hg10_29) (RD_fieldAddr0 Try.runUnderlying23 rfl rfl Try.sizeOf3 rfl) rfl ?_
              | refine SQ_yes rfl rfl rfl (hg10_29) (RD_fieldAddrO 0 Try.runUnderlying23 rfl rfl Try.sizeOf3 rfl (by simp <;> omega)) Has.ro rfl ?_
            refine SQ_yes rfl rfl rfl (hg10_29) (RD_load Try.isAgg3 rfl) (Has.ce rfl) rfl ?_
            refine SQ_pyes rfl rfl rfl (hg10_29) (RD_gtr rfl rfl) rfl ?_
            refine SQ_pyes rfl rfl rfl (by simp) (RD_pick_t rfl (hg10_29) rfl) rfl ?_
            refine SQ_pyes rfl rfl rfl (by simp) (RD_move rfl) rfl ?_
            refine SQ_guard (i := 35) rfl rfl rfl (fun hg10_34 => ?_) (fun hg10_34 => ?_)
            · have hk34 := of_decide_eq_true hg10_34
              first
                | refine SQ_pyes rfl rfl rfl (hg10_34) (RD_fieldAddr0 Try.runUnderlying23 rfl rfl Try.sizeOf3 rfl) rfl ?_
                | refine SQ_yes rfl rfl rfl (hg10_34) (RD_fieldAddrO 0 Try.runUnderlying23 rfl rfl Try.sizeOf3 rfl (by simp <;> omega)) Has.ro rfl ?_
              refine SQ_yes rfl rfl rfl (hg10_34) (RD_load Try.isAgg3 rfl) (Has.ce rfl) rfl ?_
              refine SQ_pyes rfl rfl rfl (hg10_34) (RD_lss rfl rfl) rfl ?_
              refine SQ_pyes rfl rfl rfl (by simp) (RD_pick_t rfl (hg10_34) rfl) rfl ?_
              refine SQ_pyes rfl rfl rfl (by simp) (RD_move rfl) rfl ?_
              refine SQ_guard (i := 40) rfl rfl rfl (fun hg10_39 => ?_) (fun hg10_39 => ?_)
              · have hk39 := of_decide_eq_true hg10_39
                refine SQ_yes rfl rfl rfl (hg10_39) (RD_loadA (vs := c.cells) Try.isAgg23 Try.sizeOf23 rfl rfl) Has.wh rfl ?_
                first
                  | refine SQ_pyes rfl rfl rfl (hg10_39) (RD_fieldAddr 1 Try.runUnderlying23 rfl rfl Try.sizeOf3 rfl) rfl ?_
                  | refine SQ_yes rfl rfl rfl (hg10_39) (RD_fieldAddrO 1 Try.runUnderlying23 rfl rfl Try.sizeOf3 rfl (by simp <;> omega)) Has.ro rfl ?_
                refine SQ_yes rfl rfl rfl (hg10_39) (RD_load Try.isAgg3 rfl) (Has.ce rfl) rfl ?_
                first
                  | refine SQ_pyes rfl rfl rfl (hg10_39) (RD_fieldAddr0 Try.runUnderlying23 rfl rfl Try.sizeOf3 rfl) rfl ?_
                  | refine SQ_yes rfl rfl rfl (hg10_39) (RD_fieldAddrO 0 Try.runUnderlying23 rfl rfl Try.sizeOf3 rfl (by simp <;> omega)) Has.ro rfl ?_
                refine SQ_yes rfl rfl rfl (hg10_39) (RD_load Try.isAgg3 rfl) (Has.ce rfl) rfl ?_
                refine SQ_pyes rfl rfl rfl (hg10_39) (RD_subi rfl rfl (by omega) (by omega)) rfl ?_
                refine SQ_one (SA_call rfl (.mk rfl rfl (hg10_39)) Try.call12 (.cons rfl (.nil)) (cert_Quorum c) (lts rfl) ?_)
                rintro _ L6 ⟨rfl, hL6⟩
                refine ⟨.lands hL6 (.h (Has.ce rfl) (.h (Has.ce rfl) (.w rfl (.h (Has.ce rfl) (.h (Has.ce rfl) (.h (Has.ce rfl) (.h (Has.ce rfl) (.h Has.wh (.h Has.wh (.h Has.wh (.h Has.wh (.h Has.wh (.h Has.wh (.h Has.wh (.h Has.wh (.nil)))))))))))))))), ?_⟩
                refine SQ.lands hL6 ?_
                refine SQ_pyes rfl rfl rfl (hg10_39) (RD_neq rfl rfl) rfl ?_
                refine SQ_pyes rfl rfl rfl (by simp) (RD_pick_t rfl (hg10_39) rfl) rfl ?_
                refine SQ_pu rfl (RD_pick_f rfl (by simp) rfl) rfl ?_
                refine SQ_nil ?_
                refine SN.le (l := [(1, _), (4, _), (5, _), (6, _), (7, _), (10, _), (11, _), (17, _), (18, _), (19, _), (98, _)]) ?_ (.cons rfl (.cons rfl (.cons rfl (.cons rfl (.cons rfl (.cons rfl (.cons rfl (.cons rfl (.cons rfl (.cons rfl (.cons rfl (.nil))))))))))))
                exact J0 (⟨l4, ((hx1.trans hx2).trans hx3).trans hx4, by (try dsimp only); omega⟩) _ _ (.cons rfl (.cons rfl (.cons rfl (.cons rfl (.cons rfl (.cons rfl (.cons rfl (.cons rfl (.cons rfl (.cons rfl (.cons' rfl (congrArg Value.bool (by rw [show IntKind.i64.wrap (c.n - c.f) = c.n - c.f by rw [IntKind.wrap_i64]; omega]; simp)) (.nil)))))))))))) (.fin)
              · refine SQ_no rfl rfl rfl (hg10_39) (lts rfl) ?_
                refine SQ_no rfl rfl rfl (hg10_39) (lts rfl) ?_
                refine SQ_no rfl rfl rfl (hg10_39) (lts rfl) ?_
                refine SQ_no rfl rfl rfl (hg10_39) (lts rfl) ?_
                refine SQ_no rfl rfl rfl (hg10_39) (lts rfl) ?_
                refine SQ_no rfl rfl rfl (hg10_39) (lts rfl) ?_
                refine SQ_no1 rfl rfl rfl (hg10_39) (lts rfl) ?_
                refine SQ_no rfl rfl rfl (hg10_39) (lts rfl) ?_
                refine SQ_pyes rfl rfl rfl (by simp) (RD_pick_f rfl (hg10_39) rfl) rfl ?_
                refine SQ_pu rfl (RD_pick_f rfl (by simp) rfl) rfl ?_
                refine SQ_nil ?_
                refine SN.le (l := [(1, _), (4, _), (5, _), (6, _), (7, _), (10, _), (11, _), (17, _), (18, _), (19, _), (98, _)]) ?_ (.cons rfl (.cons rfl (.cons rfl (.cons rfl (.cons rfl (.cons rfl (.cons rfl (.cons rfl (.cons rfl (.cons rfl (.cons rfl (.nil))))))))))))
                exact J0 (⟨l4, ((hx1.trans hx2).trans hx3).trans hx4, by (try dsimp only); omega⟩) _ _ (.cons rfl (.cons rfl (.cons rfl (.cons rfl (.cons rfl (.cons rfl (.cons rfl (.cons rfl (.cons rfl (.cons rfl (.cons' rfl (rfl) (.nil)))))))))))) (.fin)
            · refine SQ_no rfl rfl rfl (hg10_34) (lts rfl) ?_
              refine SQ_no rfl rfl rfl (hg10_34) (lts rfl) ?_
              refine SQ_no rfl rfl rfl (hg10_34) (lts rfl) ?_
              refine SQ_pyes rfl rfl rfl (by simp) (RD_pick_f rfl (hg10_34) rfl) rfl ?_
              refine SQ_pyes rfl rfl rfl (by simp) (RD_move rfl) rfl ?_
              refine SQ_no rfl rfl rfl (rfl) (lts rfl) ?_
              refine SQ_no rfl rfl rfl (rfl) (lts rfl) ?_
              refine SQ_no rfl rfl rfl (rfl) (lts rfl) ?_
              refine SQ_no rfl rfl rfl (rfl) (lts rfl) ?_
              refine SQ_no rfl rfl rfl (rfl) (lts rfl) ?_
              refine SQ_no rfl rfl rfl (rfl) (lts rfl) ?_
              refine SQ_no1 rfl rfl rfl (rfl) (lts rfl) ?_
              refine SQ_no rfl rfl rfl (rfl) (lts rfl) ?_
              refine SQ_pyes rfl rfl rfl (by simp) (RD_pick_f rfl (rfl) rfl) rfl ?_
              refine SQ_pu rfl (RD_pick_f rfl (by simp) rfl) rfl ?_
              refine SQ_nil ?_
              refine SN.le (l := [(1, _), (4, _), (5, _), (6, _), (7, _), (10, _), (11, _), (17, _), (18, _), (19, _), (98, _)]) ?_ (.cons rfl (.cons rfl (.cons rfl (.cons rfl (.cons rfl (.cons rfl (.cons rfl (.cons rfl (.cons rfl (.cons rfl (.cons rfl (.nil))))))))))))
              exact J0 (⟨l4, ((hx1.trans hx2).trans hx3).trans hx4, by (try dsimp only); omega⟩) _ _ (.cons rfl (.cons rfl (.cons rfl (.cons rfl (.cons rfl (.cons rfl (.cons rfl (.cons rfl (.cons rfl (.cons rfl (.cons' rfl (rfl) (.nil)))))))))))) (.fin)
          · refine SQ_no rfl rfl rfl (hg10_29) (lts rfl) ?_
            refine SQ_no rfl rfl rfl (hg10_29) (lts rfl) ?_
            refine SQ_no rfl rfl rfl (hg10_29) (lts rfl) ?_
            refine SQ_pyes rfl rfl rfl (by simp) (RD_pick_f rfl (hg10_29) rfl) rfl ?_
            refine SQ_pyes rfl rfl rfl (by simp) (RD_move rfl) rfl ?_
            refine SQ_no rfl rfl rfl (rfl) (lts rfl) ?_
            refine SQ_no rfl rfl rfl (rfl) (lts rfl) ?_
            refine SQ_no rfl rfl rfl (rfl) (lts rfl) ?_
            refine SQ_pyes rfl rfl rfl (by simp) (RD_pick_f rfl (rfl) rfl) rfl ?_
            refine SQ_pyes rfl rfl rfl (by simp) (RD_move rfl) rfl ?_
            refine SQ_no rfl rfl rfl (rfl) (lts rfl) ?_
            refine SQ_no rfl rfl rfl (rfl) (lts rfl) ?_
            refine SQ_no rfl rfl rfl (rfl) (lts rfl) ?_
            refine SQ_no rfl rfl rfl (rfl) (lts rfl) ?_
            refine SQ_no rfl rfl rfl (rfl) (lts rfl) ?_
            refine SQ_no rfl rfl rfl (rfl) (lts rfl) ?_
            refine SQ_no1 rfl rfl rfl (rfl) (lts rfl) ?_
            refine SQ_no rfl rfl rfl (rfl) (lts rfl) ?_
            refine SQ_pyes rfl rfl rfl (by simp) (RD_pick_f rfl (rfl) rfl) rfl ?_
            refine SQ_pu rfl (RD_pick_f rfl (by simp) rfl) rfl ?_
            refine SQ_nil ?_
            refine SN.le (l := [(1, _), (4, _), (5, _), (6, _), (7, _), (10, _), (11, _), (17, _), (18, _), (19, _), (98, _)]) ?_ (.cons rfl (.cons rfl (.cons rfl (.cons rfl (.cons rfl (.cons rfl (.cons rfl (.cons rfl (.cons rfl (.cons rfl (.cons rfl (.nil))))))))))))
            exact J0 (⟨l4, ((hx1.trans hx2).trans hx3).trans hx4, by (try dsimp only); omega⟩) _ _ (.cons rfl (.cons rfl (.cons rfl (.cons rfl (.cons rfl (.cons rfl (.cons rfl (.cons rfl (.cons rfl (.cons rfl (.cons' rfl (rfl) (.nil)))))))))))) (.fin)
        · refine SQ_no rfl rfl rfl (hg10_24) (lts rfl) ?_
          refine SQ_no rfl rfl rfl (hg10_24) (lts rfl) ?_
          refine SQ_no rfl rfl rfl (hg10_24) (lts rfl) ?_
          refine SQ_pyes rfl rfl rfl (by simp) (RD_pick_f rfl (hg10_24) rfl) rfl ?_
          refine SQ_pyes rfl rfl rfl (by simp) (RD_move rfl) rfl ?_
          refine SQ_no rfl rfl rfl (rfl) (lts rfl) ?_
          refine SQ_no rfl rfl rfl (rfl) (lts rfl) ?_
          refine SQ_no rfl rfl rfl (rfl) (lts rfl) ?_
          refine SQ_pyes rfl rfl rfl (by simp) (RD_pick_f rfl (rfl) rfl) rfl ?_
          refine SQ_pyes rfl rfl rfl (by simp) (RD_move rfl) rfl ?_
          refine SQ_no rfl rfl rfl (rfl) (lts rfl) ?_
          refine SQ_no rfl rfl rfl (rfl) (lts rfl) ?_
          refine SQ_no rfl rfl rfl (rfl) (lts rfl) ?_
          refine SQ_pyes rfl rfl rfl (by simp) (RD_pick_f rfl (rfl) rfl) rfl ?_
          refine SQ_pyes rfl rfl rfl (by simp) (RD_move rfl) rfl ?_
          refine SQ_no rfl rfl rfl (rfl) (lts rfl) ?_
          refine SQ_no rfl rfl rfl (rfl) (lts rfl) ?_
          refine SQ_no rfl rfl rfl (rfl) (lts rfl) ?_
          refine SQ_no rfl rfl rfl (rfl) (lts rfl) ?_
          refine SQ_no rfl rfl rfl (rfl) (lts rfl) ?_
          refine SQ_no rfl rfl rfl (rfl) (lts rfl) ?_
          refine SQ_no1 rfl rfl rfl (rfl) (lts rfl) ?_
          refine SQ_no rfl rfl rfl (rfl) (lts rfl) ?_
          refine SQ_pyes rfl rfl rfl (by simp) (RD_pick_f rfl (rfl) rfl) rfl ?_
          refine SQ_pu rfl (RD_pick_f rfl (by simp) rfl) rfl ?_
          refine SQ_nil ?_
          refine SN.le (l := [(1, _), (4, _), (5, _), (6, _), (7, _), (10, _), (11, _), (17, _), (18, _), (19, _), (98, _)]) ?_ (.cons rfl (.cons rfl (.cons rfl (.cons rfl (.cons rfl (.cons rfl (.cons rfl (.cons rfl (.cons rfl (.cons rfl (.cons rfl (.nil))))))))))))
          exact J0 (⟨l4, ((hx1.trans hx2).trans hx3).trans hx4, by (try dsimp only); omega⟩) _ _ (.cons rfl (.cons rfl (.cons rfl (.cons rfl (.cons rfl (.cons rfl (.cons rfl (.cons rfl (.cons rfl (.cons rfl (.cons' rfl (rfl) (.nil)))))))))))) (.fin)
    · clear ih
      refine SC_exit rfl ?_
      refine SN_seq ?_
      refine SC_seq ?_
      refine SC_region ?_
      refine SR_call Try.call6 (.nil) (cert_awake) (lts rfl) ?_
      rintro _ L0 ⟨rfl, hL0⟩
      refine SR.lands hL0 ?_
      refine SR_pu (RD_assign rfl) rfl ?_
      refine SR_nil ?_
      refine SN.le (l := [(16, _)]) ?_ (.cons rfl (.nil))
      refine SN_seq ?_
      refine SC_ret1 rfl rfl ?_
      exact ⟨rfl, Lands.trans (.fin : Lands _ G) hG⟩

end Go.Proofs.Ytmigjpmadhebfaa
