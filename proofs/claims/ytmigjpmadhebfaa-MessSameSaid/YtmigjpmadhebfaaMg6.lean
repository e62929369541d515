/- Messages: two are the same just if all fields are. -/
import Derived.Test.YtmigjpmadhebfaaMg5
namespace Go.Proofs.Ytmigjpmadhebfaa
open Go Go.Proofs
set_option maxRecDepth 100000
theorem OX_stC {W : World} {P : Program} {l : Env} {L R : List HProp} {ty : TypeId} {x y : Operand} {t b off : Nat} {cs cs' : List Value} {T : TypeId} {v : Value} (hz : ∀ w, (sizeOf t).run P w = .ok 1 w)
    (hx : ev l x = some (.pointer (some ⟨b, off, none⟩))) (hy : ev l y = some v) [ho : One v] [tp : TakePt L b (.cells cs.toArray T) R] (hlt : Nat.blt off cs.length = true) (he : cs.set off v = cs') :
    OX W P l L (.store t x y) ty (fun _ L' => L' = pt b (.cells cs'.toArray T) :: R) :=
  (OX.lands (fun m => Den_perm tp.perm m) (OX_store hz hx hy ho.one ho.cells hlt)).imp fun _ _ e => by rw [e, he]
theorem MsgIn.set_h {F : List HProp} {m : MsgD} (h : MsgIn F m) {k f t v n : Int} (hh : ∀ x ∈ [k, f, t, v, n], I64 x) : MsgIn F ⟨k, f, t, v, n, m.qc, m.tc, m.env, m.bl⟩ := ⟨h.q, h.t, h.h, h.k, h.b, h.n, h.s, h.bs, hh, h.q1, h.t1, h.k1, h.e⟩
theorem MsgIn.set_q {F : List HProp} {m : MsgD} (h : MsgIn F m) {q : QcD} (hq : RIn F q.by_) (h1 : I64 q.view ∧ I64 q.block) : MsgIn F ⟨m.kind, m.from_, m.to_, m.view, m.num, q, m.tc, m.env, m.bl⟩ := ⟨hq, h.t, h.h, h.k, h.b, h.n, h.s, h.bs, h.head, h1, h.t1, h.k1, h.e⟩
theorem MsgIn.set_t {F : List HProp} {m : MsgD} (h : MsgIn F m) {t : TcD} (h1 : RIn F t.by_) (h2 : RIn F t.highs) (h3 : RIn F t.high.by_) (h4 : I64 t.view) (h5 : I64 t.high.view ∧ I64 t.high.block) : MsgIn F ⟨m.kind, m.from_, m.to_, m.view, m.num, m.qc, t, m.env, m.bl⟩ := ⟨h.q, h1, h2, h3, h.b, h.n, h.s, h.bs, h.head, h.q1, h4, h5, h.e⟩
theorem MsgIn.set_e {F : List HProp} {m : MsgD} (h : MsgIn F m) {e : EnvD} (he : e.Good) : MsgIn F ⟨m.kind, m.from_, m.to_, m.view, m.num, m.qc, m.tc, e, m.bl⟩ := ⟨h.q, h.t, h.h, h.k, h.b, h.n, h.s, h.bs, h.head, h.q1, h.t1, h.k1, he⟩
theorem MsgIn.set_b {F : List HProp} {m : MsgD} (h : MsgIn F m) {b : BRow} (h1 : HasRow F b.a (b.l.flatMap BlkD.cells)) (h2 : b.l.length = b.n) (h3 : b.n ≤ 20) (h4 : ∀ x ∈ b.l, BIn F x) : MsgIn F ⟨m.kind, m.from_, m.to_, m.view, m.num, m.qc, m.tc, m.env, b⟩ := ⟨h.q, h.t, h.h, h.k, h1, h2, h3, h4, h.head, h.q1, h.t1, h.k1, h.e⟩
theorem MsgRaw.up {F : List HProp} {A : HProp} {m : MsgD} (h : MsgRaw F m) : MsgRaw (A :: F) m := ⟨haveI := h.b; inferInstance, h.n, h.s, h.q, h.t, h.h, h.k, h.bs⟩
def vB (v : Int) : BlkD := ⟨v, 0, 0, 0, noRow, noE⟩
theorem vB_in {F : List HProp} {v : Int} (h : I64 v) : BIn F (vB v) := ⟨⟨HasRow.nil, rfl, fun _ h => (nomatch h), Nat.zero_le _⟩, HasRow.nil, rfl, h, i0, i0, i0, fun _ h => (nomatch h), Nat.zero_le _⟩
theorem RIn.grow {F : List HProp} {r : Row} {a : Option Addr} {n c : Nat} {to : Int} (h : RIn F r) (hr : r.n ≤ 100) (ht : I64 to) (hn : n = r.n + 1) (hw : HasRow F a ((r.l ++ [to]).map intV)) : RIn F ⟨a, n, c, r.l ++ [to]⟩ := ⟨hw, by subst hn; show (r.l ++ [to]).length = _; rw [List.length_append, h.n]; rfl, fun x hx => by
  rcases List.mem_append.1 hx with hx | hx
  · exact h.i x hx
  · simp at hx; subst hx; exact ht, by show n ≤ 200; omega⟩

theorem five {k f t v n : Int} (h1 : I64 k) (h2 : I64 f) (h3 : I64 t) (h4 : I64 v) (h5 : I64 n) : ∀ x ∈ [k, f, t, v, n], I64 x := by
  intro x hx
  simp at hx
  rcases hx with rfl | rfl | rfl | rfl | rfl <;> assumption
theorem u64w (n : Int) : 0 ≤ IntKind.u64.wrap n ∧ IntKind.u64.wrap n < 18446744073709551616 := by rw [IntKind.wrap_u64]; omega

theorem law_MessSame {W : World} {F : List HProp} [Abs F] (m : MsgD) (hM : MsgRaw F m) (hS : Small m → MsgIn F m) (how to : Int) (hto : I64 to) :
    CallsK W Try.prog 4 #[m.val, .int .i64 how, .int .i64 to] (F) (fun v L => v = .bool true ∧ Lands L F) := by
  refine CallsK_enter (n := 119) Try.func4 rfl rfl rfl ?_
  refine SC_seq ?_
  refine SC_region ?_
  refine SR_ox (OX_box rfl rfl) rfl ?_
  rintro _ _ ⟨b3, rfl, rfl⟩
  refine SR_pu (RD_assign rfl) rfl ?_
  refine SR_nil ?_
  refine SN.le (l := [(1, _), (2, _), (3, _)]) ?_ (.cons rfl (.cons rfl (.cons rfl (.nil))))
  refine SN_seq ?_
  refine SC_seq ?_
  refine SC_seq ?_
  refine SC_region ?_
  refine SR_rd (RD_loadA (vs := m.cells) Try.isAgg54 Try.sizeOf54 rfl rfl) Has.wh rfl ?_
  refine SR_call Try.call24 (.cons rfl (.nil)) (ref24_Few m hM.up) (lts rfl) ?_
  rintro _ L1 ⟨f, rfl, hf, hL1⟩
  refine SR.lands hL1 ?_
  refine SR_pu (RD_not rfl) rfl ?_
  refine SR_nil ?_
  refine SN.le (l := [(1, _), (2, _), (3, _), (10, _)]) ?_ (.cons rfl (.cons rfl (.cons rfl (.cons rfl (.nil)))))
  refine SN_seq ?_
  refine SC_cond rfl (fun hc10 => ?_) (fun hc10 => ?_)
  · refine SC_seq ?_
    refine SC_region ?_
    refine SR_call Try.call25 (.nil) (mess_awake) (lts rfl) ?_
    rintro _ L2 ⟨rfl, hL2⟩
    refine SR.lands hL2 ?_
    refine SR_pu (RD_assign rfl) rfl ?_
    refine SR_nil ?_
    refine SN.le (l := [(6, _)]) ?_ (.cons rfl (.nil))
    refine SN_seq ?_
    refine SC_ret1 rfl rfl ?_
    exact ⟨rfl, .fin⟩
  · have hs := hf (by simpa using hc10)
    haveI hI := hS hs
    haveI := hI.q.row; haveI := hI.h.row; haveI := hI.b
    have n1 := hI.q.n; have n2 := hI.h.n; have n3 := hI.n
    have s1 := hs.q; have s2 := hs.h; have s3 := hs.s
    have hd : I64 m.kind ∧ I64 m.from_ ∧ I64 m.to_ ∧ I64 m.view ∧ I64 m.num := ⟨hI.head _ (by simp), hI.head _ (by simp), hI.head _ (by simp), hI.head _ (by simp), hI.head _ (by simp)⟩
    refine SC_skip ?_
    refine SN_seq ?_
    refine SC_seq ?_
    refine SC_region ?_
    refine SR_rd (RD_loadA (vs := m.cells) Try.isAgg54 Try.sizeOf54 rfl rfl) Has.wh rfl ?_
    refine SR_ox (OX_alloc Try.zeroValue54 rfl) rfl ?_
    rintro _ _ ⟨b7, rfl, rfl⟩
    refine SR_ox0 (OX_stA (vs := m.cells) Try.sizeOf54 rfl rfl rfl rfl) ?_
    rintro _ _ rfl
    refine SR_nil ?_
    refine SN.le (l := [(1, _), (2, _), (3, _), (7, _)]) ?_ (.cons rfl (.cons rfl (.cons rfl (.cons rfl (.nil)))))
    refine SN_seq ?_
    refine SC_seq ?_
    refine SC_seq ?_
    refine SC_region ?_
    refine SR_pu (RD_move rfl) rfl ?_
    refine SR_pu (RD_mask 4 rfl rfl rfl (by decide) 16 rfl) rfl ?_
    refine SR_nil ?_
    refine SN.le (l := [(2, _), (3, _), (7, _), (14, _)]) ?_ (.cons rfl (.cons rfl (.cons rfl (.cons rfl (.nil)))))
    refine SN_seq ?_
    refine SC_join (X := {x : MsgD × HProp // MsgIn (x.2 :: F) x.1}) (fun x => [(3, .pointer (some ⟨b3, 0, none⟩)), (7, .pointer (some ⟨b7, 0, none⟩))]) (fun x => pt b3 (.cells m.cells.toArray 54) :: pt b7 (.cells x.1.1.cells.toArray 54) :: x.1.2 :: F) (fun ⟨⟨k, A⟩, hk⟩ => ?_) (fun J0 => ?_)
    · dsimp only
      haveI := hk
      refine SN_seq ?_
      refine SC_seq ?_
      refine SC_drawn (.cons 0 true (.cons 1 true (.cons 3 true (.cons 4 true (.cons 2 false (.cons 5 false (.cons 6 true (.cons 7 true (.cons 8 true (.cons 9 true (.cons 11 true (.cons 12 true (.cons 10 false (.cons 13 false (.cons 14 true (.cons 15 true (.cons 16 true (.cons 17 true (.cons 18 true (.cons 19 false (.cons 20 true (.cons 21 true (.cons 22 false (.cons 23 true (.cons 24 true (.nil)))))))))))))))))))))))))) (by kernel_rfl) (by kernel_rfl) ?_
      refine SQ_rd rfl (RD_loadA (vs := m.cells) Try.isAgg54 Try.sizeOf54 rfl rfl) Has.wh rfl ?_
      refine SQ_rd rfl (RD_loadA (vs := k.cells) Try.isAgg54 Try.sizeOf54 rfl rfl) Has.wh rfl ?_
      refine SQ_rd rfl (RD_loadA (vs := m.cells) Try.isAgg54 Try.sizeOf54 rfl rfl) Has.wh rfl ?_
      refine SQ_rd rfl (RD_loadA (vs := k.cells) Try.isAgg54 Try.sizeOf54 rfl rfl) Has.wh rfl ?_
      refine SQ_call rfl Try.call26 (.cons rfl (.cons rfl (.nil))) (mess_Same m k) (lts rfl) ?_
      rintro _ L3 ⟨rfl, hL3⟩
      refine ⟨.lands hL3 (.h Has.wh (.h Has.wh (.w rfl (.w rfl (.nil))))), ?_⟩
      refine SQ.lands hL3 ?_
      refine SQ_call rfl Try.call27 (.cons rfl (.cons rfl (.nil))) (ref24_Same m k) (lts rfl) ?_
      rintro _ L4 ⟨rfl, hL4⟩
      refine ⟨.lands hL4 (.w rfl (.w rfl (.h Has.wh (.h Has.wh (.nil))))), ?_⟩
      refine SQ.lands hL4 ?_
      refine SQ_pu rfl (RD_eqlB Try.underlying4 rfl rfl) rfl ?_
      refine SQ_pu rfl (RD_move rfl) rfl ?_
      refine SQ_yes rfl rfl rfl (beq_self_eq_true _) (RD_loadA (vs := k.cells) Try.isAgg54 Try.sizeOf54 rfl rfl) Has.wh rfl ?_
      refine SQ_yes rfl rfl rfl (beq_self_eq_true _) (RD_loadA (vs := m.cells) Try.isAgg54 Try.sizeOf54 rfl rfl) Has.wh rfl ?_
      refine SQ_yes rfl rfl rfl (beq_self_eq_true _) (RD_loadA (vs := m.cells) Try.isAgg54 Try.sizeOf54 rfl rfl) Has.wh rfl ?_
      refine SQ_yes rfl rfl rfl (beq_self_eq_true _) (RD_loadA (vs := k.cells) Try.isAgg54 Try.sizeOf54 rfl rfl) Has.wh rfl ?_
      refine SQ_one (SA_call rfl (.mk rfl rfl (beq_self_eq_true _)) Try.call26 (.cons rfl (.cons rfl (.nil))) (mess_Same k m) (lts rfl) ?_)
      rintro _ L5 ⟨rfl, hL5⟩
      refine ⟨.lands hL5 (.h Has.wh (.h Has.wh (.w rfl (.w rfl (.h Has.wh (.h Has.wh (.h Has.wh (.h Has.wh (.nil))))))))), ?_⟩
      refine SQ.lands hL5 ?_
      refine SQ_one (SA_call rfl (.mk rfl rfl (beq_self_eq_true _)) Try.call27 (.cons rfl (.cons rfl (.nil))) (ref24_Same m k) (lts rfl) ?_)
      rintro _ L6 ⟨rfl, hL6⟩
      refine ⟨.lands hL6 (.w rfl (.w rfl (.h Has.wh (.h Has.wh (.h Has.wh (.h Has.wh (.h Has.wh (.h Has.wh (.nil))))))))), ?_⟩
      refine SQ.lands hL6 ?_
      refine SQ_pyes rfl rfl rfl (beq_self_eq_true _) (RD_eqlB Try.underlying4 rfl rfl) rfl ?_
      refine SQ_pu rfl (RD_pick_t rfl (beq_self_eq_true _) rfl) rfl ?_
      refine SQ_pu rfl (RD_move rfl) rfl ?_
      refine SQ_yes rfl rfl rfl (by rw [show decide (k.p = m.p) = decide (m.p = k.p) from dec_iff ⟨Eq.symm, Eq.symm⟩]; exact beq_self_eq_true _) (RD_loadA (vs := m.cells) Try.isAgg54 Try.sizeOf54 rfl rfl) Has.wh rfl ?_
      refine SQ_yes rfl rfl rfl (by rw [show decide (k.p = m.p) = decide (m.p = k.p) from dec_iff ⟨Eq.symm, Eq.symm⟩]; exact beq_self_eq_true _) (RD_loadA (vs := m.cells) Try.isAgg54 Try.sizeOf54 rfl rfl) Has.wh rfl ?_
      refine SQ_one (SA_call rfl (.mk rfl rfl (by rw [show decide (k.p = m.p) = decide (m.p = k.p) from dec_iff ⟨Eq.symm, Eq.symm⟩]; exact beq_self_eq_true _)) Try.call26 (.cons rfl (.cons rfl (.nil))) (mess_Same m m) (lts rfl) ?_)
      rintro _ L7 ⟨rfl, hL7⟩
      refine ⟨.lands hL7 (.w rfl (.w rfl (.h Has.wh (.h Has.wh (.h Has.wh (.h Has.wh (.h Has.wh (.h Has.wh (.h Has.wh (.h Has.wh (.nil))))))))))), ?_⟩
      refine SQ.lands hL7 ?_
      refine SQ_pu rfl (RD_pick_t rfl (by rw [show decide (k.p = m.p) = decide (m.p = k.p) from dec_iff ⟨Eq.symm, Eq.symm⟩]; exact beq_self_eq_true _) rfl) rfl ?_
      refine SQ_pu rfl (RD_move rfl) rfl ?_
      refine SQ_one (SA_call rfl (.mk rfl rfl (decide_eq_true rfl)) Try.call25 (.nil) (mess_awake) (lts rfl) ?_)
      rintro _ L8 ⟨rfl, hL8⟩
      refine ⟨.lands hL8 (.h Has.wh (.h Has.wh (.h Has.wh (.h Has.wh (.h Has.wh (.h Has.wh (.h Has.wh (.h Has.wh (.h Has.wh (.h Has.wh (.nil))))))))))), ?_⟩
      refine SQ.lands hL8 ?_
      refine SQ_pu rfl (RD_pick_t rfl (decide_eq_true rfl) rfl) rfl ?_
      refine SQ_pu rfl (RD_assign rfl) rfl ?_
      refine SQ_nil ?_
      refine SN.le (l := [(6, _)]) ?_ (.cons rfl (.nil))
      refine SN_seq ?_
      refine SC_ret1 rfl rfl ?_
      exact ⟨rfl, .fin⟩
    · refine SC_block ?_
      refine SC_seq ?_
      refine SC_region ?_
      refine SR_pu (RD_eql rfl rfl) rfl ?_
      refine SR_pu (RD_assign rfl) rfl ?_
      refine SR_nil ?_
      refine SN.le (l := [(2, _), (3, _), (7, _), (14, _), (24, _)]) ?_ (.cons rfl (.cons rfl (.cons rfl (.cons rfl (.cons rfl (.nil))))))
      refine SN_seq ?_
      refine SC_cond rfl (fun hc24 => ?_) (fun hc24 => ?_)
      · 
        refine SC_region ?_
        refine SR_pu (RD_move rfl) rfl ?_
        first
          | refine SR_pu (RD_fieldAddr0 Try.runUnderlying54 rfl rfl Try.sizeOf3 rfl) rfl ?_
          | refine SR_rd (RD_fieldAddrO 0 Try.runUnderlying54 rfl rfl Try.sizeOf3 rfl (by simp <;> omega)) Has.ro rfl ?_
        refine SR_ox0 (OX_stC (cs := m.cells) (cs' := MsgD.cells (⟨to, m.from_, m.to_, m.view, m.num, m.qc, m.tc, m.env, m.bl⟩ : MsgD)) Try.sizeOf3 rfl rfl rfl rfl) ?_
        rintro _ _ rfl
        refine SR_nil ?_
        refine SN.le (l := [(3, _), (7, _)]) ?_ (.cons rfl (.cons rfl (.nil)))
        refine SN_block ?_
        exact J0 (⟨((⟨to, m.from_, m.to_, m.view, m.num, m.qc, m.tc, m.env, m.bl⟩ : MsgD), rowP 3 1 none 0 0 []), by have hU : MsgIn (rowP 3 1 none 0 0 [] :: F) m := inferInstance; exact (hU.set_h (five hto hd.2.1 hd.2.2.1 hd.2.2.2.1 hd.2.2.2.2))⟩) _ _ (.cons rfl (.cons rfl (.nil))) ((row_new 3 1 none).trans .fin)
      · refine SC_seq ?_
        refine SC_region ?_
        refine SR_pu (RD_eql rfl rfl) rfl ?_
        refine SR_pu (RD_assign rfl) rfl ?_
        refine SR_nil ?_
        refine SN.le (l := [(2, _), (3, _), (7, _), (14, _), (28, _)]) ?_ (.cons rfl (.cons rfl (.cons rfl (.cons rfl (.cons rfl (.nil))))))
        refine SN_seq ?_
        refine SC_cond rfl (fun hc28 => ?_) (fun hc28 => ?_)
        · 
          refine SC_region ?_
          refine SR_pu (RD_move rfl) rfl ?_
          first
            | refine SR_pu (RD_fieldAddr 1 Try.runUnderlying54 rfl rfl Try.sizeOf3 rfl) rfl ?_
            | refine SR_rd (RD_fieldAddrO 1 Try.runUnderlying54 rfl rfl Try.sizeOf3 rfl (by simp <;> omega)) Has.ro rfl ?_
          refine SR_ox0 (OX_stC (cs := m.cells) (cs' := MsgD.cells (⟨m.kind, to, m.to_, m.view, m.num, m.qc, m.tc, m.env, m.bl⟩ : MsgD)) Try.sizeOf3 rfl rfl rfl rfl) ?_
          rintro _ _ rfl
          refine SR_nil ?_
          refine SN.le (l := [(3, _), (7, _)]) ?_ (.cons rfl (.cons rfl (.nil)))
          refine SN_block ?_
          exact J0 (⟨((⟨m.kind, to, m.to_, m.view, m.num, m.qc, m.tc, m.env, m.bl⟩ : MsgD), rowP 3 1 none 0 0 []), by have hU : MsgIn (rowP 3 1 none 0 0 [] :: F) m := inferInstance; exact (hU.set_h (five hd.1 hto hd.2.2.1 hd.2.2.2.1 hd.2.2.2.2))⟩) _ _ (.cons rfl (.cons rfl (.nil))) ((row_new 3 1 none).trans .fin)
        · refine SC_seq ?_
          refine SC_region ?_
          refine SR_pu (RD_eql rfl rfl) rfl ?_
          refine SR_pu (RD_assign rfl) rfl ?_
          refine SR_nil ?_
          refine SN.le (l := [(2, _), (3, _), (7, _), (14, _), (32, _)]) ?_ (.cons rfl (.cons rfl (.cons rfl (.cons rfl (.cons rfl (.nil))))))
          refine SN_seq ?_
          refine SC_cond rfl (fun hc32 => ?_) (fun hc32 => ?_)
          · 
            refine SC_region ?_
            refine SR_pu (RD_move rfl) rfl ?_
            first
              | refine SR_pu (RD_fieldAddr 2 Try.runUnderlying54 rfl rfl Try.sizeOf3 rfl) rfl ?_
              | refine SR_rd (RD_fieldAddrO 2 Try.runUnderlying54 rfl rfl Try.sizeOf3 rfl (by simp <;> omega)) Has.ro rfl ?_
            refine SR_ox0 (OX_stC (cs := m.cells) (cs' := MsgD.cells (⟨m.kind, m.from_, to, m.view, m.num, m.qc, m.tc, m.env, m.bl⟩ : MsgD)) Try.sizeOf3 rfl rfl rfl rfl) ?_
            rintro _ _ rfl
            refine SR_nil ?_
            refine SN.le (l := [(3, _), (7, _)]) ?_ (.cons rfl (.cons rfl (.nil)))
            refine SN_block ?_
            exact J0 (⟨((⟨m.kind, m.from_, to, m.view, m.num, m.qc, m.tc, m.env, m.bl⟩ : MsgD), rowP 3 1 none 0 0 []), by have hU : MsgIn (rowP 3 1 none 0 0 [] :: F) m := inferInstance; exact (hU.set_h (five hd.1 hd.2.1 hto hd.2.2.2.1 hd.2.2.2.2))⟩) _ _ (.cons rfl (.cons rfl (.nil))) ((row_new 3 1 none).trans .fin)
          · refine SC_seq ?_
            refine SC_region ?_
            refine SR_pu (RD_eql rfl rfl) rfl ?_
            refine SR_pu (RD_assign rfl) rfl ?_
            refine SR_nil ?_
            refine SN.le (l := [(2, _), (3, _), (7, _), (14, _), (36, _)]) ?_ (.cons rfl (.cons rfl (.cons rfl (.cons rfl (.cons rfl (.nil))))))
            refine SN_seq ?_
            refine SC_cond rfl (fun hc36 => ?_) (fun hc36 => ?_)
            · 
              refine SC_region ?_
              refine SR_pu (RD_move rfl) rfl ?_
              first
                | refine SR_pu (RD_fieldAddr 3 Try.runUnderlying54 rfl rfl Try.sizeOf3 rfl) rfl ?_
                | refine SR_rd (RD_fieldAddrO 3 Try.runUnderlying54 rfl rfl Try.sizeOf3 rfl (by simp <;> omega)) Has.ro rfl ?_
              refine SR_ox0 (OX_stC (cs := m.cells) (cs' := MsgD.cells (⟨m.kind, m.from_, m.to_, to, m.num, m.qc, m.tc, m.env, m.bl⟩ : MsgD)) Try.sizeOf3 rfl rfl rfl rfl) ?_
              rintro _ _ rfl
              refine SR_nil ?_
              refine SN.le (l := [(3, _), (7, _)]) ?_ (.cons rfl (.cons rfl (.nil)))
              refine SN_block ?_
              exact J0 (⟨((⟨m.kind, m.from_, m.to_, to, m.num, m.qc, m.tc, m.env, m.bl⟩ : MsgD), rowP 3 1 none 0 0 []), by have hU : MsgIn (rowP 3 1 none 0 0 [] :: F) m := inferInstance; exact (hU.set_h (five hd.1 hd.2.1 hd.2.2.1 hto hd.2.2.2.2))⟩) _ _ (.cons rfl (.cons rfl (.nil))) ((row_new 3 1 none).trans .fin)
            · refine SC_seq ?_
              refine SC_region ?_
              refine SR_pu (RD_eql rfl rfl) rfl ?_
              refine SR_pu (RD_assign rfl) rfl ?_
              refine SR_nil ?_
              refine SN.le (l := [(2, _), (3, _), (7, _), (14, _), (40, _)]) ?_ (.cons rfl (.cons rfl (.cons rfl (.cons rfl (.cons rfl (.nil))))))
              refine SN_seq ?_
              refine SC_cond rfl (fun hc40 => ?_) (fun hc40 => ?_)
              · 
                refine SC_region ?_
                refine SR_pu (RD_move rfl) rfl ?_
                first
                  | refine SR_pu (RD_fieldAddr 4 Try.runUnderlying54 rfl rfl Try.sizeOf3 rfl) rfl ?_
                  | refine SR_rd (RD_fieldAddrO 4 Try.runUnderlying54 rfl rfl Try.sizeOf3 rfl (by simp <;> omega)) Has.ro rfl ?_
                refine SR_ox0 (OX_stC (cs := m.cells) (cs' := MsgD.cells (⟨m.kind, m.from_, m.to_, m.view, to, m.qc, m.tc, m.env, m.bl⟩ : MsgD)) Try.sizeOf3 rfl rfl rfl rfl) ?_
                rintro _ _ rfl
                refine SR_nil ?_
                refine SN.le (l := [(3, _), (7, _)]) ?_ (.cons rfl (.cons rfl (.nil)))
                refine SN_block ?_
                exact J0 (⟨((⟨m.kind, m.from_, m.to_, m.view, to, m.qc, m.tc, m.env, m.bl⟩ : MsgD), rowP 3 1 none 0 0 []), by have hU : MsgIn (rowP 3 1 none 0 0 [] :: F) m := inferInstance; exact (hU.set_h (five hd.1 hd.2.1 hd.2.2.1 hd.2.2.2.1 hto))⟩) _ _ (.cons rfl (.cons rfl (.nil))) ((row_new 3 1 none).trans .fin)
              · refine SC_seq ?_
                refine SC_region ?_
                refine SR_pu (RD_eql rfl rfl) rfl ?_
                refine SR_pu (RD_assign rfl) rfl ?_
                refine SR_nil ?_
                refine SN.le (l := [(2, _), (3, _), (7, _), (14, _), (44, _)]) ?_ (.cons rfl (.cons rfl (.cons rfl (.cons rfl (.cons rfl (.nil))))))
                refine SN_seq ?_
                refine SC_cond rfl (fun hc44 => ?_) (fun hc44 => ?_)
                · 
                  refine SC_region ?_
                  refine SR_pu (RD_move rfl) rfl ?_
                  first
                    | refine SR_pu (RD_fieldAddr 5 Try.runUnderlying54 rfl rfl Try.sizeOf26 rfl) rfl ?_
                    | refine SR_rd (RD_fieldAddrO 5 Try.runUnderlying54 rfl rfl Try.sizeOf26 rfl (by simp <;> omega)) Has.ro rfl ?_
                  first
                    | refine SR_pu (RD_fieldAddr0 Try.runUnderlying26 rfl rfl Try.sizeOf3 rfl) rfl ?_
                    | refine SR_rd (RD_fieldAddrO 0 Try.runUnderlying26 rfl rfl Try.sizeOf3 rfl (by simp <;> omega)) Has.ro rfl ?_
                  refine SR_ox0 (OX_stC (cs := m.cells) (cs' := MsgD.cells (⟨m.kind, m.from_, m.to_, m.view, m.num, ⟨to, m.qc.block, m.qc.by_⟩, m.tc, m.env, m.bl⟩ : MsgD)) Try.sizeOf3 rfl rfl rfl rfl) ?_
                  rintro _ _ rfl
                  refine SR_nil ?_
                  refine SN.le (l := [(3, _), (7, _)]) ?_ (.cons rfl (.cons rfl (.nil)))
                  refine SN_block ?_
                  exact J0 (⟨((⟨m.kind, m.from_, m.to_, m.view, m.num, ⟨to, m.qc.block, m.qc.by_⟩, m.tc, m.env, m.bl⟩ : MsgD), rowP 3 1 none 0 0 []), by have hU : MsgIn (rowP 3 1 none 0 0 [] :: F) m := inferInstance; exact (hU.set_q (q := ⟨to, m.qc.block, m.qc.by_⟩) hU.q ⟨hto, hU.q1.2⟩)⟩) _ _ (.cons rfl (.cons rfl (.nil))) ((row_new 3 1 none).trans .fin)
                · refine SC_seq ?_
                  refine SC_region ?_
                  refine SR_pu (RD_eql rfl rfl) rfl ?_
                  refine SR_pu (RD_assign rfl) rfl ?_
                  refine SR_nil ?_
                  refine SN.le (l := [(2, _), (3, _), (7, _), (14, _), (49, _)]) ?_ (.cons rfl (.cons rfl (.cons rfl (.cons rfl (.cons rfl (.nil))))))
                  refine SN_seq ?_
                  refine SC_cond rfl (fun hc49 => ?_) (fun hc49 => ?_)
                  · 
                    refine SC_region ?_
                    refine SR_ox (OX_buildSlice0 Try.runUnderlying24 Try.sizeOf3) rfl ?_
                    rintro _ _ ⟨b51, rfl, rfl⟩
                    first
                      | refine SR_pu (RD_fieldAddr 5 Try.runUnderlying54 rfl rfl Try.sizeOf26 rfl) rfl ?_
                      | refine SR_rd (RD_fieldAddrO 5 Try.runUnderlying54 rfl rfl Try.sizeOf26 rfl (by simp <;> omega)) Has.ro rfl ?_
                    first
                      | refine SR_pu (RD_fieldAddr 2 Try.runUnderlying26 rfl rfl Try.sizeOf24 rfl) rfl ?_
                      | refine SR_rd (RD_fieldAddrO 2 Try.runUnderlying26 rfl rfl Try.sizeOf24 rfl (by simp <;> omega)) Has.ro rfl ?_
                    refine SR_rd (RD_load (v := .slice m.qc.by_.a m.qc.by_.n m.qc.by_.c) Try.isAgg24 rfl) (Has.ce rfl) rfl ?_
                    refine SR_ox (OX_app0 1 Try.underlying24 Try.underlying24 Try.type3 rfl rfl rfl rfl rfl (by rw [List.length_map, n1, Nat.mul_one]) 8 rfl (by omega) (by omega)) rfl ?_
                    rintro _ _ ⟨a55, c55, rfl, rfl⟩
                    refine SR_pu (RD_move rfl) rfl ?_
                    refine SR_ox (OX_lit1 Try.underlying24 Try.type3 rfl rfl rfl rfl (.cons rfl (.nil)) (.cons rfl (.nil))) rfl ?_
                    rintro _ _ ⟨b57, rfl, rfl⟩
                    refine SR_ox (OX_app 1 Try.underlying24 Try.underlying24 Try.type3 rfl rfl rfl rfl rfl (by first | rfl | simp; done | (simp; omega)) 8 rfl (by omega) (by omega)) rfl ?_
                    rintro _ _ ⟨a58, c58, rfl, rfl⟩
                    first
                      | refine SR_pu (RD_fieldAddr 5 Try.runUnderlying54 rfl rfl Try.sizeOf26 rfl) rfl ?_
                      | refine SR_rd (RD_fieldAddrO 5 Try.runUnderlying54 rfl rfl Try.sizeOf26 rfl (by simp <;> omega)) Has.ro rfl ?_
                    first
                      | refine SR_pu (RD_fieldAddr 2 Try.runUnderlying26 rfl rfl Try.sizeOf24 rfl) rfl ?_
                      | refine SR_rd (RD_fieldAddrO 2 Try.runUnderlying26 rfl rfl Try.sizeOf24 rfl (by simp <;> omega)) Has.ro rfl ?_
                    refine SR_ox0 (OX_stC (cs := m.cells) (cs' := MsgD.cells (⟨m.kind, m.from_, m.to_, m.view, m.num, ⟨m.qc.view, m.qc.block, ⟨a58, m.qc.by_.n + 1, c58, m.qc.by_.l ++ [to]⟩⟩, m.tc, m.env, m.bl⟩ : MsgD)) Try.sizeOf24 rfl rfl rfl rfl) ?_
                    rintro _ _ rfl
                    refine SR_nil ?_
                    refine SN.le (l := [(3, _), (7, _)]) ?_ (.cons rfl (.cons rfl (.nil)))
                    refine SN_block ?_
                    exact J0 (⟨((⟨m.kind, m.from_, m.to_, m.view, m.num, ⟨m.qc.view, m.qc.block, ⟨a58, m.qc.by_.n + 1, c58, m.qc.by_.l ++ [to]⟩⟩, m.tc, m.env, m.bl⟩ : MsgD), rowP 3 1 a58 (m.qc.by_.n + 1) c58 (m.qc.by_.l.map intV ++ [.int .i64 to])), by have hU : MsgIn (rowP 3 1 a58 (m.qc.by_.n + 1) c58 (m.qc.by_.l.map intV ++ [.int .i64 to]) :: F) m := inferInstance; exact (hU.set_q (q := ⟨m.qc.view, m.qc.block, ⟨a58, m.qc.by_.n + 1, c58, m.qc.by_.l ++ [to]⟩⟩) (hU.q.grow s1 hto rfl (by rw [List.map_append]; exact inferInstanceAs (HasRow (rowP 3 1 a58 (m.qc.by_.n + 1) c58 _ :: F) a58 _))) ⟨hU.q1.1, hU.q1.2⟩)⟩) _ _ (.cons rfl (.cons rfl (.nil))) (.fin)
                  · refine SC_seq ?_
                    refine SC_region ?_
                    refine SR_pu (RD_eql rfl rfl) rfl ?_
                    refine SR_pu (RD_assign rfl) rfl ?_
                    refine SR_nil ?_
                    refine SN.le (l := [(2, _), (3, _), (7, _), (14, _), (61, _)]) ?_ (.cons rfl (.cons rfl (.cons rfl (.cons rfl (.cons rfl (.nil))))))
                    refine SN_seq ?_
                    refine SC_cond rfl (fun hc61 => ?_) (fun hc61 => ?_)
                    · 
                      refine SC_region ?_
                      refine SR_pu (RD_move rfl) rfl ?_
                      first
                        | refine SR_pu (RD_fieldAddr 8 Try.runUnderlying54 rfl rfl Try.sizeOf28 rfl) rfl ?_
                        | refine SR_rd (RD_fieldAddrO 8 Try.runUnderlying54 rfl rfl Try.sizeOf28 rfl (by simp <;> omega)) Has.ro rfl ?_
                      first
                        | refine SR_pu (RD_fieldAddr0 Try.runUnderlying28 rfl rfl Try.sizeOf3 rfl) rfl ?_
                        | refine SR_rd (RD_fieldAddrO 0 Try.runUnderlying28 rfl rfl Try.sizeOf3 rfl (by simp <;> omega)) Has.ro rfl ?_
                      refine SR_ox0 (OX_stC (cs := m.cells) (cs' := MsgD.cells (⟨m.kind, m.from_, m.to_, m.view, m.num, m.qc, ⟨to, m.tc.by_, m.tc.highs, m.tc.high⟩, m.env, m.bl⟩ : MsgD)) Try.sizeOf3 rfl rfl rfl rfl) ?_
                      rintro _ _ rfl
                      refine SR_nil ?_
                      refine SN.le (l := [(3, _), (7, _)]) ?_ (.cons rfl (.cons rfl (.nil)))
                      refine SN_block ?_
                      exact J0 (⟨((⟨m.kind, m.from_, m.to_, m.view, m.num, m.qc, ⟨to, m.tc.by_, m.tc.highs, m.tc.high⟩, m.env, m.bl⟩ : MsgD), rowP 3 1 none 0 0 []), by have hU : MsgIn (rowP 3 1 none 0 0 [] :: F) m := inferInstance; exact (hU.set_t (t := ⟨to, m.tc.by_, m.tc.highs, m.tc.high⟩) hU.t hU.h hU.k hto hU.k1)⟩) _ _ (.cons rfl (.cons rfl (.nil))) ((row_new 3 1 none).trans .fin)
                    · refine SC_seq ?_
                      refine SC_region ?_
                      refine SR_pu (RD_eql rfl rfl) rfl ?_
                      refine SR_pu (RD_assign rfl) rfl ?_
                      refine SR_nil ?_
                      refine SN.le (l := [(2, _), (3, _), (7, _), (14, _), (66, _)]) ?_ (.cons rfl (.cons rfl (.cons rfl (.cons rfl (.cons rfl (.nil))))))
                      refine SN_seq ?_
                      refine SC_cond rfl (fun hc66 => ?_) (fun hc66 => ?_)
                      · 
                        refine SC_region ?_
                        refine SR_ox (OX_buildSlice0 Try.runUnderlying24 Try.sizeOf3) rfl ?_
                        rintro _ _ ⟨b68, rfl, rfl⟩
                        first
                          | refine SR_pu (RD_fieldAddr 8 Try.runUnderlying54 rfl rfl Try.sizeOf28 rfl) rfl ?_
                          | refine SR_rd (RD_fieldAddrO 8 Try.runUnderlying54 rfl rfl Try.sizeOf28 rfl (by simp <;> omega)) Has.ro rfl ?_
                        first
                          | refine SR_pu (RD_fieldAddr 2 Try.runUnderlying28 rfl rfl Try.sizeOf24 rfl) rfl ?_
                          | refine SR_rd (RD_fieldAddrO 2 Try.runUnderlying28 rfl rfl Try.sizeOf24 rfl (by simp <;> omega)) Has.ro rfl ?_
                        refine SR_rd (RD_load (v := .slice m.tc.highs.a m.tc.highs.n m.tc.highs.c) Try.isAgg24 rfl) (Has.ce rfl) rfl ?_
                        refine SR_ox (OX_app0 1 Try.underlying24 Try.underlying24 Try.type3 rfl rfl rfl rfl rfl (by rw [List.length_map, n2, Nat.mul_one]) 8 rfl (by omega) (by omega)) rfl ?_
                        rintro _ _ ⟨a72, c72, rfl, rfl⟩
                        refine SR_pu (RD_move rfl) rfl ?_
                        refine SR_ox (OX_lit1 Try.underlying24 Try.type3 rfl rfl rfl rfl (.cons rfl (.nil)) (.cons rfl (.nil))) rfl ?_
                        rintro _ _ ⟨b74, rfl, rfl⟩
                        refine SR_ox (OX_app 1 Try.underlying24 Try.underlying24 Try.type3 rfl rfl rfl rfl rfl (by first | rfl | simp; done | (simp; omega)) 8 rfl (by omega) (by omega)) rfl ?_
                        rintro _ _ ⟨a75, c75, rfl, rfl⟩
                        first
                          | refine SR_pu (RD_fieldAddr 8 Try.runUnderlying54 rfl rfl Try.sizeOf28 rfl) rfl ?_
                          | refine SR_rd (RD_fieldAddrO 8 Try.runUnderlying54 rfl rfl Try.sizeOf28 rfl (by simp <;> omega)) Has.ro rfl ?_
                        first
                          | refine SR_pu (RD_fieldAddr 2 Try.runUnderlying28 rfl rfl Try.sizeOf24 rfl) rfl ?_
                          | refine SR_rd (RD_fieldAddrO 2 Try.runUnderlying28 rfl rfl Try.sizeOf24 rfl (by simp <;> omega)) Has.ro rfl ?_
                        refine SR_ox0 (OX_stC (cs := m.cells) (cs' := MsgD.cells (⟨m.kind, m.from_, m.to_, m.view, m.num, m.qc, ⟨m.tc.view, m.tc.by_, ⟨a75, m.tc.highs.n + 1, c75, m.tc.highs.l ++ [to]⟩, m.tc.high⟩, m.env, m.bl⟩ : MsgD)) Try.sizeOf24 rfl rfl rfl rfl) ?_
                        rintro _ _ rfl
                        refine SR_nil ?_
                        refine SN.le (l := [(3, _), (7, _)]) ?_ (.cons rfl (.cons rfl (.nil)))
                        refine SN_block ?_
                        exact J0 (⟨((⟨m.kind, m.from_, m.to_, m.view, m.num, m.qc, ⟨m.tc.view, m.tc.by_, ⟨a75, m.tc.highs.n + 1, c75, m.tc.highs.l ++ [to]⟩, m.tc.high⟩, m.env, m.bl⟩ : MsgD), rowP 3 1 a75 (m.tc.highs.n + 1) c75 (m.tc.highs.l.map intV ++ [.int .i64 to])), by have hU : MsgIn (rowP 3 1 a75 (m.tc.highs.n + 1) c75 (m.tc.highs.l.map intV ++ [.int .i64 to]) :: F) m := inferInstance; exact (hU.set_t (t := ⟨m.tc.view, m.tc.by_, ⟨a75, m.tc.highs.n + 1, c75, m.tc.highs.l ++ [to]⟩, m.tc.high⟩) hU.t (hU.h.grow s2 hto rfl (by rw [List.map_append]; exact inferInstanceAs (HasRow (rowP 3 1 a75 (m.tc.highs.n + 1) c75 _ :: F) a75 _))) hU.k hU.t1 hU.k1)⟩) _ _ (.cons rfl (.cons rfl (.nil))) (.fin)
                      · refine SC_seq ?_
                        refine SC_region ?_
                        refine SR_pu (RD_eql rfl rfl) rfl ?_
                        refine SR_pu (RD_assign rfl) rfl ?_
                        refine SR_nil ?_
                        refine SN.le (l := [(2, _), (3, _), (7, _), (14, _), (78, _)]) ?_ (.cons rfl (.cons rfl (.cons rfl (.cons rfl (.cons rfl (.nil))))))
                        refine SN_seq ?_
                        refine SC_cond rfl (fun hc78 => ?_) (fun hc78 => ?_)
                        · 
                          refine SC_region ?_
                          refine SR_pu (RD_move rfl) rfl ?_
                          first
                            | refine SR_pu (RD_fieldAddr 8 Try.runUnderlying54 rfl rfl Try.sizeOf28 rfl) rfl ?_
                            | refine SR_rd (RD_fieldAddrO 8 Try.runUnderlying54 rfl rfl Try.sizeOf28 rfl (by simp <;> omega)) Has.ro rfl ?_
                          first
                            | refine SR_pu (RD_fieldAddr 3 Try.runUnderlying28 rfl rfl Try.sizeOf26 rfl) rfl ?_
                            | refine SR_rd (RD_fieldAddrO 3 Try.runUnderlying28 rfl rfl Try.sizeOf26 rfl (by simp <;> omega)) Has.ro rfl ?_
                          first
                            | refine SR_pu (RD_fieldAddr 1 Try.runUnderlying26 rfl rfl Try.sizeOf3 rfl) rfl ?_
                            | refine SR_rd (RD_fieldAddrO 1 Try.runUnderlying26 rfl rfl Try.sizeOf3 rfl (by simp <;> omega)) Has.ro rfl ?_
                          refine SR_ox0 (OX_stC (cs := m.cells) (cs' := MsgD.cells (⟨m.kind, m.from_, m.to_, m.view, m.num, m.qc, ⟨m.tc.view, m.tc.by_, m.tc.highs, ⟨m.tc.high.view, to, m.tc.high.by_⟩⟩, m.env, m.bl⟩ : MsgD)) Try.sizeOf3 rfl rfl rfl rfl) ?_
                          rintro _ _ rfl
                          refine SR_nil ?_
                          refine SN.le (l := [(3, _), (7, _)]) ?_ (.cons rfl (.cons rfl (.nil)))
                          refine SN_block ?_
                          exact J0 (⟨((⟨m.kind, m.from_, m.to_, m.view, m.num, m.qc, ⟨m.tc.view, m.tc.by_, m.tc.highs, ⟨m.tc.high.view, to, m.tc.high.by_⟩⟩, m.env, m.bl⟩ : MsgD), rowP 3 1 none 0 0 []), by have hU : MsgIn (rowP 3 1 none 0 0 [] :: F) m := inferInstance; exact (hU.set_t (t := ⟨m.tc.view, m.tc.by_, m.tc.highs, ⟨m.tc.high.view, to, m.tc.high.by_⟩⟩) hU.t hU.h hU.k hU.t1 ⟨hU.k1.1, hto⟩)⟩) _ _ (.cons rfl (.cons rfl (.nil))) ((row_new 3 1 none).trans .fin)
                        · refine SC_seq ?_
                          refine SC_region ?_
                          refine SR_pu (RD_eql rfl rfl) rfl ?_
                          refine SR_pu (RD_assign rfl) rfl ?_
                          refine SR_nil ?_
                          refine SN.le (l := [(2, _), (3, _), (7, _), (14, _), (84, _)]) ?_ (.cons rfl (.cons rfl (.cons rfl (.cons rfl (.cons rfl (.nil))))))
                          refine SN_seq ?_
                          refine SC_cond rfl (fun hc84 => ?_) (fun hc84 => ?_)
                          · 
                            refine SC_region ?_
                            refine SR_pu (RD_move rfl) rfl ?_
                            refine SR_pu (RD_convI Try.runUnderlying3 Try.runUnderlying49 rfl) rfl ?_
                            first
                              | refine SR_pu (RD_fieldAddr 14 Try.runUnderlying54 rfl rfl Try.sizeOf51 rfl) rfl ?_
                              | refine SR_rd (RD_fieldAddrO 14 Try.runUnderlying54 rfl rfl Try.sizeOf51 rfl (by simp <;> omega)) Has.ro rfl ?_
                            first
                              | refine SR_pu (RD_fieldAddr 2 Try.runUnderlying51 rfl rfl Try.sizeOf49 rfl) rfl ?_
                              | refine SR_rd (RD_fieldAddrO 2 Try.runUnderlying51 rfl rfl Try.sizeOf49 rfl (by simp <;> omega)) Has.ro rfl ?_
                            refine SR_ox0 (OX_stC (cs := m.cells) (cs' := MsgD.cells (⟨m.kind, m.from_, m.to_, m.view, m.num, m.qc, m.tc, ⟨m.env.client, m.env.nonce, IntKind.u64.wrap to, m.env.cipher⟩, m.bl⟩ : MsgD)) Try.sizeOf49 rfl rfl rfl rfl) ?_
                            rintro _ _ rfl
                            refine SR_nil ?_
                            refine SN.le (l := [(3, _), (7, _)]) ?_ (.cons rfl (.cons rfl (.nil)))
                            refine SN_block ?_
                            exact J0 (⟨((⟨m.kind, m.from_, m.to_, m.view, m.num, m.qc, m.tc, ⟨m.env.client, m.env.nonce, IntKind.u64.wrap to, m.env.cipher⟩, m.bl⟩ : MsgD), rowP 3 1 none 0 0 []), by have hU : MsgIn (rowP 3 1 none 0 0 [] :: F) m := inferInstance; exact (hU.set_e (e := ⟨m.env.client, m.env.nonce, IntKind.u64.wrap to, m.env.cipher⟩) ⟨hU.e.1, hU.e.2.1, hU.e.2.2.1, u64w to⟩)⟩) _ _ (.cons rfl (.cons rfl (.nil))) ((row_new 3 1 none).trans .fin)
                          · refine SC_seq ?_
                            refine SC_region ?_
                            refine SR_pu (RD_eql rfl rfl) rfl ?_
                            refine SR_pu (RD_assign rfl) rfl ?_
                            refine SR_nil ?_
                            refine SN.le (l := [(2, _), (3, _), (7, _), (90, _)]) ?_ (.cons rfl (.cons rfl (.cons rfl (.cons rfl (.nil)))))
                            refine SN_seq ?_
                            refine SC_cond rfl (fun hc90 => ?_) (fun hc90 => ?_)
                            · 
                              refine SC_region ?_
                              refine SR_pu (RD_move rfl) rfl ?_
                              first
                                | refine SR_pu (RD_fieldAddr 14 Try.runUnderlying54 rfl rfl Try.sizeOf51 rfl) rfl ?_
                                | refine SR_rd (RD_fieldAddrO 14 Try.runUnderlying54 rfl rfl Try.sizeOf51 rfl (by simp <;> omega)) Has.ro rfl ?_
                              first
                                | refine SR_pu (RD_fieldAddr 3 Try.runUnderlying51 rfl rfl Try.sizeOf3 rfl) rfl ?_
                                | refine SR_rd (RD_fieldAddrO 3 Try.runUnderlying51 rfl rfl Try.sizeOf3 rfl (by simp <;> omega)) Has.ro rfl ?_
                              refine SR_ox0 (OX_stC (cs := m.cells) (cs' := MsgD.cells (⟨m.kind, m.from_, m.to_, m.view, m.num, m.qc, m.tc, ⟨m.env.client, m.env.nonce, m.env.fee, to⟩, m.bl⟩ : MsgD)) Try.sizeOf3 rfl rfl rfl rfl) ?_
                              rintro _ _ rfl
                              refine SR_nil ?_
                              refine SN.le (l := [(3, _), (7, _)]) ?_ (.cons rfl (.cons rfl (.nil)))
                              refine SN_block ?_
                              exact J0 (⟨((⟨m.kind, m.from_, m.to_, m.view, m.num, m.qc, m.tc, ⟨m.env.client, m.env.nonce, m.env.fee, to⟩, m.bl⟩ : MsgD), rowP 3 1 none 0 0 []), by have hU : MsgIn (rowP 3 1 none 0 0 [] :: F) m := inferInstance; exact (hU.set_e (e := ⟨m.env.client, m.env.nonce, m.env.fee, to⟩) ⟨hU.e.1, hto, hU.e.2.2⟩)⟩) _ _ (.cons rfl (.cons rfl (.nil))) ((row_new 3 1 none).trans .fin)
                            · 
                              refine SC_region ?_
                              refine SR_ox (OX_buildSlice0 Try.runUnderlying52 Try.sizeOf58) rfl ?_
                              rintro _ _ ⟨b15, rfl, rfl⟩
                              first
                                | refine SR_pu (RD_fieldAddr 18 Try.runUnderlying54 rfl rfl Try.sizeOf52 rfl) rfl ?_
                                | refine SR_rd (RD_fieldAddrO 18 Try.runUnderlying54 rfl rfl Try.sizeOf52 rfl (by simp <;> omega)) Has.ro rfl ?_
                              refine SR_rd (RD_load (v := .slice m.bl.a m.bl.n m.bl.c) Try.isAgg52 rfl) (Has.ce rfl) rfl ?_
                              refine SR_ox (OX_app0 6 Try.underlying52 Try.underlying52 Try.type58 rfl rfl rfl rfl rfl (by rw [blkds_len, n3]) 80 rfl (by omega) (by omega)) rfl ?_
                              rintro _ _ ⟨a18, c18, rfl, rfl⟩
                              refine SR_pu (RD_move rfl) rfl ?_
                              refine SR_pu (RD_build (.cons rfl (.nil)) built58_0) rfl ?_
                              refine SR_ox (OX_lit Try.underlying52 Try.type58 rfl rfl rfl rfl (.cons rfl (.nil)) (.cons rfl rfl (.nil))) rfl ?_
                              rintro _ _ ⟨b21, rfl, rfl⟩
                              refine SR_ox (OX_app 6 Try.underlying52 Try.underlying52 Try.type58 rfl rfl rfl rfl rfl (by first | rfl | simp; done | (simp; omega)) 80 rfl (by omega) (by omega)) rfl ?_
                              rintro _ _ ⟨a22, c22, rfl, rfl⟩
                              first
                                | refine SR_pu (RD_fieldAddr 18 Try.runUnderlying54 rfl rfl Try.sizeOf52 rfl) rfl ?_
                                | refine SR_rd (RD_fieldAddrO 18 Try.runUnderlying54 rfl rfl Try.sizeOf52 rfl (by simp <;> omega)) Has.ro rfl ?_
                              refine SR_ox0 (OX_stC (cs := m.cells) (cs' := MsgD.cells (⟨m.kind, m.from_, m.to_, m.view, m.num, m.qc, m.tc, m.env, ⟨a22, m.bl.n + 1, c22, m.bl.l ++ [vB to]⟩⟩ : MsgD)) Try.sizeOf52 rfl rfl rfl rfl) ?_
                              rintro _ _ rfl
                              refine SR_nil ?_
                              refine SN.le (l := [(3, _), (7, _)]) ?_ (.cons rfl (.cons rfl (.nil)))
                              refine SN_block ?_
                              exact J0 (⟨((⟨m.kind, m.from_, m.to_, m.view, m.num, m.qc, m.tc, m.env, ⟨a22, m.bl.n + 1, c22, m.bl.l ++ [vB to]⟩⟩ : MsgD), rowP 58 6 a22 (m.bl.n + 1) c22 (m.bl.l.flatMap BlkD.cells ++ ([.int .i64 to, .int .i64 0, .int .i64 0, .int .i64 0, .slice none 0 0, .slice none 0 0] ++ []))), by have hU : MsgIn (rowP 58 6 a22 (m.bl.n + 1) c22 (m.bl.l.flatMap BlkD.cells ++ ([.int .i64 to, .int .i64 0, .int .i64 0, .int .i64 0, .slice none 0 0, .slice none 0 0] ++ [])) :: F) m := inferInstance; exact (hU.set_b (b := ⟨a22, m.bl.n + 1, c22, m.bl.l ++ [vB to]⟩) (by rw [List.flatMap_append]; exact (HasRow.row : HasRow (rowP 58 6 a22 (m.bl.n + 1) c22 (m.bl.l.flatMap BlkD.cells ++ ([.int .i64 to, .int .i64 0, .int .i64 0, .int .i64 0, .slice none 0 0, .slice none 0 0] ++ [])) :: F) a22 _)) (by show (m.bl.l ++ [vB to]).length = _; rw [List.length_append, hI.n]; rfl) (by show m.bl.n + 1 ≤ 20; omega) (fun x hx => by
                                  rcases List.mem_append.1 hx with hx | hx
                                  · exact (hI.bs x hx).up
                                  · simp at hx; subst hx; exact vB_in hto))⟩) _ _ (.cons rfl (.cons rfl (.nil))) (.fin)

end Go.Proofs.Ytmigjpmadhebfaa
