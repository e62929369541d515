/- Messages: parsed; what the document fixes; small ones. -/
import Derived.Test.YtmigjpmadhebfaaMg4
namespace Go.Proofs.Ytmigjpmadhebfaa
open Go Go.Proofs
set_option maxRecDepth 100000
theorem OX_stM {W : World} {P : Program} {l : Env} {L R : List HProp} {ty : TypeId} {x y : Operand} {t b off m : Nat} {cs vs cs' : List Value} {T : TypeId} (hz : ∀ w, (sizeOf t).run P w = .ok m w) (hx : ev l x = some (.pointer (some ⟨b, off, none⟩))) (hy : ev l y = some (.agg vs.toArray)) [ho : Ones vs] [tp : TakePt L b (.cells cs.toArray T) R]
    (hm : vs.length = m) (hc : off + m ≤ cs.length) (he : setL cs off vs = cs') : OX W P l L (.store t x y) ty (fun _ L' => L' = pt b (.cells cs'.toArray T) :: R) :=
  (OX.lands (fun m => Den_perm tp.perm m) (OX_storeA hz hm hx hy (fun v hv => (ho.h v hv)) hc)).imp fun _ _ e => by rw [e, he]

theorem mess_Parse {W : World} {F : List HProp} [Abs F] (a : Option Addr) (c : Nat) {cs : List Value} [HasRow F a cs] (hcs : cs = (st 0).1.map byteV) :
    CallsK W Try.prog 54 #[.slice a 160 c] (F) (fun v L => (∃ a1 c1 a2 c2 a3 c3 a4 c4, v = .tuple #[MsgD.val (⟨3, 1, 2, 3, 4, ⟨0, 0, ⟨a1, 0, c1, []⟩⟩, ⟨0, ⟨a2, 0, c2, []⟩, ⟨a3, 0, c3, []⟩, ⟨0, 0, ⟨a4, 0, c4, []⟩⟩⟩, zE, zB⟩ : MsgD), .bool true] ∧ Lands L F)) := by
  refine CallsK_enter (n := 88) Try.func54 rfl rfl rfl ?_
  subst hcs
  refine SC_seq ?_
  refine SC_region ?_
  refine SR_ox (OX_alloc Try.zeroValue54 rfl) rfl ?_
  rintro _ _ ⟨b2, rfl, rfl⟩
  refine SR_pu (RD_assign rfl) rfl ?_
  refine SR_nil ?_
  refine SN.le (l := [(0, _), (2, _)]) ?_ (.cons rfl (.cons rfl (.nil)))
  refine SN_seq ?_
  refine SC_seq ?_
  refine SC_region ?_
  refine SR_pu (RD_move rfl) rfl ?_
  refine SR_call Try.call77 (.cons rfl (.nil)) (wire_Read (st 0).1 a 160 c rfl (by decide +kernel) (by omega)) (lts rfl) ?_
  rintro _ L0 ⟨rp, rfl, hL0⟩
  change Lands L0 (At readerI rp (st 0) :: _) at hL0
  refine SR.lands hL0 ?_
  refine SR_pu (RD_move rfl) rfl ?_
  refine SR_pu (RD_len Try.runUnderlying39 rfl) rfl ?_
  refine SR_pu (RD_build (.cons rfl (.cons rfl (.nil))) built135_0_1) rfl ?_
  refine SR_ox (OX_alloc Try.zeroValue135 rfl) rfl ?_
  rintro _ _ ⟨b4, rfl, rfl⟩
  refine SR_ox0 (OX_stA (vs := [.pointer (some ⟨rp, 0, none⟩), .int .i64 160]) Try.sizeOf135 rfl rfl rfl rfl) ?_
  rintro _ _ rfl
  refine SR_nil ?_
  refine SN.le (l := [(0, _), (2, _), (4, _)]) ?_ (.cons rfl (.cons rfl (.cons rfl (.nil))))
  refine SN_seq ?_
  refine SC_seq ?_
  refine SC_region ?_
  refine SR_rd (RD_loadA (vs := [.pointer (some ⟨rp, 0, none⟩), .int .i64 160]) Try.isAgg135 Try.sizeOf135 rfl rfl) Has.wh rfl ?_
  refine SR_call Try.call78 (.cons rfl (.nil)) (CallsK.at (mess_rints rp (st 0) (st 1) 5 (show rdNum (st 0) = (5, st 1) from rd0 0 (by omega)) (by omega) (st_len _))) (lts rfl) ?_
  rintro _ L9 ⟨a9, c9, rfl, hL9⟩
  rw [rd5] at hL9
  dsimp only at hL9
  refine SR.lands hL9 ?_
  refine SR_pu (RD_assign rfl) rfl ?_
  refine SR_nil ?_
  refine SN.le (l := [(0, _), (2, _), (4, _), (5, _)]) ?_ (.cons rfl (.cons rfl (.cons rfl (.cons rfl (.nil)))))
  refine SN_seq ?_
  refine SC_seq ?_
  refine SC_seq ?_
  refine SC_region ?_
  refine SR_pu (RD_move rfl) rfl ?_
  refine SR_pu (RD_len Try.runUnderlying24 rfl) rfl ?_
  refine SR_pu (RD_neq rfl rfl) rfl ?_
  refine SR_nil ?_
  refine SN.le (l := [(0, _), (2, _), (4, _), (5, _), (20, _)]) ?_ (.cons rfl (.cons rfl (.cons rfl (.cons rfl (.cons rfl (.nil))))))
  refine SN_seq ?_
  refine SC_cond_false rfl (rfl) ?_
  refine SC_skip ?_
  refine SN_seq ?_
  refine SC_seq ?_
  refine SC_drawn (.cons 0 true (.cons 1 true (.cons 2 true (.cons 3 true (.cons 4 true (.cons 5 true (.cons 6 true (.cons 7 true (.cons 8 true (.cons 9 true (.cons 10 true (.cons 11 true (.cons 12 true (.cons 13 true (.cons 14 true (.cons 15 true (.cons 16 false (.cons 17 false (.nil))))))))))))))))))) (by kernel_rfl) (by kernel_rfl) ?_
  refine SQ_pu rfl (RD_move rfl) rfl ?_
  refine SQ_rd rfl (RD_ixO (cs := [3, 1, 2, 3, 4].map intV) Try.runUnderlying24 Try.sizeOf3 rfl rfl rfl (by omega) (by omega)) Has.ro rfl ?_
  refine SQ_rd rfl (RD_loadO (v := .int .i64 3) (cs := [3, 1, 2, 3, 4].map intV) Try.isAgg3 rfl rfl) Has.ro rfl ?_
  refine SQ_pu rfl (RD_move rfl) rfl ?_
  refine SQ_rd rfl (RD_ixO (cs := [3, 1, 2, 3, 4].map intV) Try.runUnderlying24 Try.sizeOf3 rfl rfl rfl (by omega) (by omega)) Has.ro rfl ?_
  refine SQ_rd rfl (RD_loadO (v := .int .i64 1) (cs := [3, 1, 2, 3, 4].map intV) Try.isAgg3 rfl rfl) Has.ro rfl ?_
  refine SQ_pu rfl (RD_move rfl) rfl ?_
  refine SQ_rd rfl (RD_ixO (cs := [3, 1, 2, 3, 4].map intV) Try.runUnderlying24 Try.sizeOf3 rfl rfl rfl (by omega) (by omega)) Has.ro rfl ?_
  refine SQ_rd rfl (RD_loadO (v := .int .i64 2) (cs := [3, 1, 2, 3, 4].map intV) Try.isAgg3 rfl rfl) Has.ro rfl ?_
  refine SQ_pu rfl (RD_move rfl) rfl ?_
  refine SQ_rd rfl (RD_ixO (cs := [3, 1, 2, 3, 4].map intV) Try.runUnderlying24 Try.sizeOf3 rfl rfl rfl (by omega) (by omega)) Has.ro rfl ?_
  refine SQ_rd rfl (RD_loadO (v := .int .i64 3) (cs := [3, 1, 2, 3, 4].map intV) Try.isAgg3 rfl rfl) Has.ro rfl ?_
  refine SQ_pu rfl (RD_move rfl) rfl ?_
  refine SQ_rd rfl (RD_ixO (cs := [3, 1, 2, 3, 4].map intV) Try.runUnderlying24 Try.sizeOf3 rfl rfl rfl (by omega) (by omega)) Has.ro rfl ?_
  refine SQ_rd rfl (RD_loadO (v := .int .i64 4) (cs := [3, 1, 2, 3, 4].map intV) Try.isAgg3 rfl rfl) Has.ro rfl ?_
  refine SQ_pu rfl (RD_build (.cons rfl (.cons rfl (.cons rfl (.cons rfl (.cons rfl (.nil)))))) built54_0_1_2_3_4) rfl ?_
  refine SQ_ox rfl (OX_alloc Try.zeroValue54 rfl) rfl ?_
  rintro _ _ ⟨b6, rfl, rfl⟩
  refine ⟨.h Has.ro (.h Has.ro (.h Has.ro (.h Has.ro (.h Has.ro (.h Has.ro (.h Has.ro (.h Has.ro (.h Has.ro (.h Has.ro (.nil)))))))))), ?_⟩
  refine SQ_ox0 rfl (OX_stA (vs := [.int .i64 (3), .int .i64 (1), .int .i64 (2), .int .i64 (3), .int .i64 (4), .int .i64 0, .int .i64 0, .slice none 0 0, .int .i64 0, .slice none 0 0, .slice none 0 0, .int .i64 0, .int .i64 0, .slice none 0 0, .int .i64 0, .int .u64 0, .int .u64 0, .int .i64 0, .slice none 0 0]) Try.sizeOf54 rfl rfl rfl rfl) ?_
  rintro _ _ rfl
  refine ⟨.w rfl (.w rfl (.w rfl (.w rfl (.w rfl (.w rfl (.w rfl (.w rfl (.w rfl (.w rfl (.nil)))))))))), ?_⟩
  refine SQ_nil ?_
  refine SN.le (l := [(0, _), (2, _), (4, _), (6, _)]) ?_ (.cons rfl (.cons rfl (.cons rfl (.cons rfl (.nil)))))
  refine SN_seq ?_
  refine SC_seq ?_
  refine SC_region ?_
  refine SR_rd (RD_loadA (vs := [.pointer (some ⟨rp, 0, none⟩), .int .i64 160]) Try.isAgg135 Try.sizeOf135 rfl rfl) Has.wh rfl ?_
  refine SR_call Try.call79 (.cons rfl (.nil)) (CallsK.at (mess_rqc rp (st 6) (st 7) (st 8) (st 9) (show rdNum (st 6) = (0, st 7) from rd0 6 (by omega)) (show rdNum (st 7) = (0, st 8) from rd0 7 (by omega)) (show rdNum (st 8) = (0, st 9) from rd0 8 (by omega)) (st_len _))) (lts rfl) ?_
  rintro _ L1 ⟨a1, c1, rfl, hL1⟩
  refine SR.lands hL1 ?_
  first
    | refine SR_pu (RD_fieldAddr 5 Try.runUnderlying54 rfl rfl Try.sizeOf26 rfl) rfl ?_
    | refine SR_rd (RD_fieldAddrO 5 Try.runUnderlying54 rfl rfl Try.sizeOf26 rfl (by simp <;> omega)) Has.ro rfl ?_
  refine SR_ox0 (OX_stM (vs := [.int .i64 0, .int .i64 0, .slice a1 0 c1]) (cs' := [.int .i64 (3), .int .i64 (1), .int .i64 (2), .int .i64 (3), .int .i64 (4), .int .i64 0, .int .i64 0, .slice a1 0 c1, .int .i64 0, .slice none 0 0, .slice none 0 0, .int .i64 0, .int .i64 0, .slice none 0 0, .int .i64 0, .int .u64 0, .int .u64 0, .int .i64 0, .slice none 0 0]) Try.sizeOf26 rfl rfl rfl (by show 5 + 3 ≤ 19; decide) rfl) ?_
  rintro _ _ rfl
  refine SR_nil ?_
  refine SN.le (l := [(0, _), (2, _), (4, _), (6, _)]) ?_ (.cons rfl (.cons rfl (.cons rfl (.cons rfl (.nil)))))
  refine SN_seq ?_
  refine SC_seq ?_
  refine SC_drawn (.cons 0 true (.cons 1 true (.cons 3 true (.cons 5 true (.cons 7 true (.cons 2 false (.cons 4 false (.cons 6 false (.cons 8 false (.cons 9 true (.cons 10 true (.cons 11 false (.nil))))))))))))) (by kernel_rfl) (by kernel_rfl) ?_
  first
    | refine SQ_pu rfl (RD_fieldAddr0 Try.runUnderlying135 rfl rfl Try.sizeOf132 rfl) rfl ?_
    | refine SQ_rd rfl (RD_fieldAddrO 0 Try.runUnderlying135 rfl rfl Try.sizeOf132 rfl (by simp <;> omega)) Has.ro rfl ?_
  refine SQ_rd rfl (RD_load Try.isAgg132 rfl) (Has.ce rfl) rfl ?_
  refine SQ_rd rfl (RD_loadA (vs := [.pointer (some ⟨rp, 0, none⟩), .int .i64 160]) Try.isAgg135 Try.sizeOf135 rfl rfl) Has.wh rfl ?_
  refine SQ_rd rfl (RD_loadA (vs := [.pointer (some ⟨rp, 0, none⟩), .int .i64 160]) Try.isAgg135 Try.sizeOf135 rfl rfl) Has.wh rfl ?_
  refine SQ_rd rfl (RD_loadA (vs := [.pointer (some ⟨rp, 0, none⟩), .int .i64 160]) Try.isAgg135 Try.sizeOf135 rfl rfl) Has.wh rfl ?_
  refine SQ_call rfl Try.call80 (.cons rfl (.nil)) (CallsK.at (reader_Int rp (st 9) (by have := st_len 9; omega))) (lts rfl) ?_
  rintro _ L5 ⟨rfl, hL5⟩
  rw [(show rdNum (st 9) = (0, st 10) from rd0 9 (by omega))] at hL5
  refine ⟨.lands hL5 (.h Has.wh (.h Has.wh (.h Has.wh (.w rfl (.nil))))), ?_⟩
  rw [(show rdNum (st 9) = (0, st 10) from rd0 9 (by omega))]
  refine SQ.lands hL5 ?_
  refine SQ_call rfl Try.call78 (.cons rfl (.nil)) (CallsK.at (mess_rints rp (st 10) (st 11) 0 (show rdNum (st 10) = (0, st 11) from rd0 10 (by omega)) (by omega) (st_len _))) (lts rfl) ?_
  rintro _ L2 ⟨a2, c2, rfl, hL2⟩
  change Lands L2 (rowP 3 1 a2 0 c2 [] :: At readerI rp (st 11) :: _) at hL2
  refine ⟨.lands hL2 (.h Has.wh (.h Has.wh (.w rfl (.h (Has.ce rfl) (.nil))))), ?_⟩
  refine SQ.lands hL2 ?_
  refine SQ_call rfl Try.call78 (.cons rfl (.nil)) (CallsK.at (mess_rints rp (st 11) (st 12) 0 (show rdNum (st 11) = (0, st 12) from rd0 11 (by omega)) (by omega) (st_len _))) (lts rfl) ?_
  rintro _ L3 ⟨a3, c3, rfl, hL3⟩
  change Lands L3 (rowP 3 1 a3 0 c3 [] :: At readerI rp (st 12) :: _) at hL3
  refine ⟨.lands hL3 (.h Has.wh (.w rfl (.h Has.wh (.h (Has.ce rfl) (.nil))))), ?_⟩
  refine SQ.lands hL3 ?_
  refine SQ_call rfl Try.call79 (.cons rfl (.nil)) (CallsK.at (mess_rqc rp (st 12) (st 13) (st 14) (st 15) (show rdNum (st 12) = (0, st 13) from rd0 12 (by omega)) (show rdNum (st 13) = (0, st 14) from rd0 13 (by omega)) (show rdNum (st 14) = (0, st 15) from rd0 14 (by omega)) (st_len _))) (lts rfl) ?_
  rintro _ L4 ⟨a4, c4, rfl, hL4⟩
  refine ⟨.lands hL4 (.w rfl (.h Has.wh (.h Has.wh (.h (Has.ce rfl) (.nil))))), ?_⟩
  refine SQ.lands hL4 ?_
  refine SQ_pu rfl (RD_build (.cons rfl (.cons rfl (.cons rfl (.cons rfl (.nil))))) built28_0_1_2_3) rfl ?_
  first
    | refine SQ_pu rfl (RD_fieldAddr 8 Try.runUnderlying54 rfl rfl Try.sizeOf28 rfl) rfl ?_
    | refine SQ_rd rfl (RD_fieldAddrO 8 Try.runUnderlying54 rfl rfl Try.sizeOf28 rfl (by simp <;> omega)) Has.ro rfl ?_
  refine SQ_ox0 rfl (OX_stM (vs := [.int .i64 0, .slice a2 0 c2, .slice a3 0 c3, .int .i64 0, .int .i64 0, .slice a4 0 c4]) (cs' := [.int .i64 (3), .int .i64 (1), .int .i64 (2), .int .i64 (3), .int .i64 (4), .int .i64 0, .int .i64 0, .slice a1 0 c1, .int .i64 0, .slice a2 0 c2, .slice a3 0 c3, .int .i64 0, .int .i64 0, .slice a4 0 c4, .int .i64 0, .int .u64 0, .int .u64 0, .int .i64 0, .slice none 0 0]) Try.sizeOf28 rfl rfl rfl (by show 8 + 6 ≤ 19; decide) rfl) ?_
  rintro _ _ rfl
  refine ⟨.w rfl (.w rfl (.w rfl (.w rfl (.nil)))), ?_⟩
  refine SQ_nil ?_
  refine SN.le (l := [(0, _), (2, _), (4, _), (6, _)]) ?_ (.cons rfl (.cons rfl (.cons rfl (.cons rfl (.nil)))))
  refine SN_seq ?_
  refine SC_seq ?_
  refine SC_region ?_
  refine SR_rd (RD_loadA (vs := [.pointer (some ⟨rp, 0, none⟩), .int .i64 160]) Try.isAgg135 Try.sizeOf135 rfl rfl) Has.wh rfl ?_
  refine SR_call Try.call81 (.cons rfl (.nil)) (CallsK.at (mess_renv rp (st 15) (st 16) (st 17) (st 18) (st 19) (show rdNum (st 15) = (0, st 16) from rd0 15 (by omega)) (show rdNum (st 16) = (0, st 17) from rd0 16 (by omega)) (show rdNum (st 17) = (0, st 18) from rd0 17 (by omega)) (show rdNum (st 18) = (0, st 19) from rd0 18 (by omega)) (st_len _))) (lts rfl) ?_
  rintro _ L6 ⟨rfl, hL6⟩
  refine SR.lands hL6 ?_
  first
    | refine SR_pu (RD_fieldAddr 14 Try.runUnderlying54 rfl rfl Try.sizeOf51 rfl) rfl ?_
    | refine SR_rd (RD_fieldAddrO 14 Try.runUnderlying54 rfl rfl Try.sizeOf51 rfl (by simp <;> omega)) Has.ro rfl ?_
  refine SR_ox0 (OX_stM (vs := [.int .i64 0, .int .u64 0, .int .u64 0, .int .i64 0]) (cs' := [.int .i64 (3), .int .i64 (1), .int .i64 (2), .int .i64 (3), .int .i64 (4), .int .i64 0, .int .i64 0, .slice a1 0 c1, .int .i64 0, .slice a2 0 c2, .slice a3 0 c3, .int .i64 0, .int .i64 0, .slice a4 0 c4, .int .i64 0, .int .u64 0, .int .u64 0, .int .i64 0, .slice none 0 0]) Try.sizeOf51 rfl rfl rfl (by show 14 + 4 ≤ 19; decide) rfl) ?_
  rintro _ _ rfl
  refine SR_nil ?_
  refine SN.le (l := [(0, _), (2, _), (4, _), (6, _)]) ?_ (.cons rfl (.cons rfl (.cons rfl (.cons rfl (.nil)))))
  refine SN_seq ?_
  refine SC_seq ?_
  refine SC_region ?_
  refine SR_rd (RD_loadA (vs := [.pointer (some ⟨rp, 0, none⟩), .int .i64 160]) Try.isAgg135 Try.sizeOf135 rfl rfl) Has.wh rfl ?_
  refine SR_call Try.call82 (.cons rfl (.nil)) (CallsK.at (mess_count rp (st 19) (st 20) 0 (show rdNum (st 19) = (0, st 20) from rd0 19 (by omega)) (by omega) (st_len _))) (lts rfl) ?_
  rintro _ L7 ⟨rfl, hL7⟩
  refine SR.lands hL7 ?_
  refine SR_pu (RD_assign rfl) rfl ?_
  refine SR_nil ?_
  refine SN.le (l := [(0, _), (2, _), (4, _), (6, _), (7, _)]) ?_ (.cons rfl (.cons rfl (.cons rfl (.cons rfl (.cons rfl (.nil))))))
  refine SN_seq ?_
  refine SC_seq ?_
  refine SC_seq ?_
  refine SC_region ?_
  refine SR_pu (RD_assign rfl) rfl ?_
  refine SR_nil ?_
  refine SN.le (l := [(0, _), (2, _), (4, _), (6, _), (7, _), (8, _)]) ?_ (.cons rfl (.cons rfl (.cons rfl (.cons rfl (.cons rfl (.cons rfl (.nil)))))))
  refine SN_seq ?_
  refine SC_block ?_
  refine SC_loop ?_
  refine SC_seq ?_
  refine SC_seq ?_
  refine SC_region ?_
  refine SR_pu (RD_move rfl) rfl ?_
  refine SR_pu (RD_move rfl) rfl ?_
  refine SR_pu (RD_lss rfl rfl) rfl ?_
  refine SR_pu (RD_move rfl) rfl ?_
  refine SR_no rfl rfl (rfl) (lts rfl) ?_
  refine SR_no rfl rfl (rfl) (lts rfl) ?_
  refine SR_pu (RD_pick_f rfl (rfl) rfl) rfl ?_
  refine SR_nil ?_
  refine SN.le (l := [(0, _), (2, _), (4, _), (6, _), (7, _), (8, _), (63, _)]) ?_ (.cons rfl (.cons rfl (.cons rfl (.cons rfl (.cons rfl (.cons rfl (.cons rfl (.nil))))))))
  refine SN_seq ?_
  refine SC_cond_false rfl (rfl) ?_
  refine SC_exit rfl ?_
  refine SN_seq ?_
  refine SC_seq ?_
  haveI hX : ∀ R, MsgIn R (⟨3, 1, 2, 3, 4, ⟨0, 0, ⟨a1, 0, c1, []⟩⟩, ⟨0, ⟨a2, 0, c2, []⟩, ⟨a3, 0, c3, []⟩, ⟨0, 0, ⟨a4, 0, c4, []⟩⟩⟩, zE, zB⟩ : MsgD) := fun R => MsgIn.empty (by simp [I64]) zE_good a1 a2 a3 a4 c1 c2 c3 c4
  refine SC_region ?_
  refine SR_rd (RD_loadA (vs := [.int .i64 (3), .int .i64 (1), .int .i64 (2), .int .i64 (3), .int .i64 (4), .int .i64 0, .int .i64 0, .slice a1 0 c1, .int .i64 0, .slice a2 0 c2, .slice a3 0 c3, .int .i64 0, .int .i64 0, .slice a4 0 c4, .int .i64 0, .int .u64 0, .int .u64 0, .int .i64 0, .slice none 0 0]) Try.isAgg54 Try.sizeOf54 rfl rfl) Has.wh rfl ?_
  refine SR_call Try.call53 (.cons rfl (.nil)) (@mess_Code _ _ _ (⟨3, 1, 2, 3, 4, ⟨0, 0, ⟨a1, 0, c1, []⟩⟩, ⟨0, ⟨a2, 0, c2, []⟩, ⟨a3, 0, c3, []⟩, ⟨0, 0, ⟨a4, 0, c4, []⟩⟩⟩, zE, zB⟩ : MsgD) (hX _) rfl rfl) (lts rfl) ?_
  rintro _ L8 ⟨a8, c8, rfl, hl8, hL8⟩
  refine SR.lands hL8 ?_
  refine SR_pu (RD_move rfl) rfl ?_
  refine SR_pu (RD_extract (v := .slice a8 ((⟨3, 1, 2, 3, 4, ⟨0, 0, ⟨a1, 0, c1, []⟩⟩, ⟨0, ⟨a2, 0, c2, []⟩, ⟨a3, 0, c3, []⟩, ⟨0, 0, ⟨a4, 0, c4, []⟩⟩⟩, zE, zB⟩ : MsgD)).p.bytes.length c8) rfl rfl) rfl ?_
  refine SR_pu (RD_extract (v := .bool true) rfl rfl) rfl ?_
  refine SR_pu (RD_assign rfl) rfl ?_
  refine SR_pu (RD_assign rfl) rfl ?_
  refine SR_nil ?_
  refine SN.le (l := [(0, _), (2, _), (6, _), (9, _), (10, _)]) ?_ (.cons rfl (.cons rfl (.cons rfl (.cons rfl (.cons rfl (.nil))))))
  refine SN_seq ?_
  refine SC_seq ?_
  refine SC_seq ?_
  refine SC_region ?_
  refine SR_pu (RD_move rfl) rfl ?_
  refine SR_pu (RD_not rfl) rfl ?_
  refine SR_pu (RD_move rfl) rfl ?_
  refine SR_yes rfl rfl (rfl) ?_
  refine SR_pu (RD_move rfl) rfl ?_
  refine SR_yes rfl rfl (rfl) ?_
  refine SR_pu (RD_move rfl) rfl ?_
  refine SR_yes rfl rfl (rfl) ?_
  refine SR_call Try.call55 (.cons rfl (.cons rfl (.nil))) (go_EqualM a8 _ c8 ((⟨3, 1, 2, 3, 4, ⟨0, 0, ⟨a1, 0, c1, []⟩⟩, ⟨0, ⟨a2, 0, c2, []⟩, ⟨a3, 0, c3, []⟩, ⟨0, 0, ⟨a4, 0, c4, []⟩⟩⟩, zE, zB⟩ : MsgD)).p.bytes rfl rfl a 160 c (st 0).1 rfl (by decide +kernel)) (lts rfl) ?_
  rintro _ L10 ⟨rfl, hL10⟩
  refine SR.lands hL10 ?_
  refine SR_yes rfl rfl (rfl) ?_
  refine SR_pu (RD_not rfl) rfl ?_
  refine SR_pu (RD_pick_f rfl (rfl) rfl) rfl ?_
  refine SR_nil ?_
  refine SN.le (l := [(2, _), (6, _), (85, _)]) ?_ (.cons rfl (.cons rfl (.cons rfl (.nil))))
  refine SN_seq ?_
  refine SC_cond_false rfl (by rw [decide_eq_true (show ((⟨3, 1, 2, 3, 4, ⟨0, 0, ⟨a1, 0, c1, []⟩⟩, ⟨0, ⟨a2, 0, c2, []⟩, ⟨a3, 0, c3, []⟩, ⟨0, 0, ⟨a4, 0, c4, []⟩⟩⟩, zE, zB⟩ : MsgD)).p.bytes = (st 0).1 from m0_bytes)]; rfl) ?_
  refine SC_skip ?_
  refine SN_seq ?_
  refine SC_seq ?_
  refine SC_region ?_
  refine SR_rd (RD_loadA (vs := [.int .i64 (3), .int .i64 (1), .int .i64 (2), .int .i64 (3), .int .i64 (4), .int .i64 0, .int .i64 0, .slice a1 0 c1, .int .i64 0, .slice a2 0 c2, .slice a3 0 c3, .int .i64 0, .int .i64 0, .slice a4 0 c4, .int .i64 0, .int .u64 0, .int .u64 0, .int .i64 0, .slice none 0 0]) Try.isAgg54 Try.sizeOf54 rfl rfl) Has.wh rfl ?_
  refine SR_ox0 (OX_stA (vs := [.int .i64 (3), .int .i64 (1), .int .i64 (2), .int .i64 (3), .int .i64 (4), .int .i64 0, .int .i64 0, .slice a1 0 c1, .int .i64 0, .slice a2 0 c2, .slice a3 0 c3, .int .i64 0, .int .i64 0, .slice a4 0 c4, .int .i64 0, .int .u64 0, .int .u64 0, .int .i64 0, .slice none 0 0]) Try.sizeOf54 rfl rfl rfl rfl) ?_
  rintro _ _ rfl
  refine SR_pu (RD_assign rfl) rfl ?_
  refine SR_nil ?_
  refine SN.le (l := [(2, _), (3, _)]) ?_ (.cons rfl (.cons rfl (.nil)))
  refine SN_seq ?_
  refine SC_retCT rfl Try.isAgg54 Try.sizeOf54 rfl rfl rfl Has.wh ?_
  exact ⟨a1, c1, a2, c2, a3, c3, a4, c4, rfl, .fin⟩

theorem mess_awake {W : World} {F : List HProp} [Abs F] :
    CallsK W Try.prog 25 #[] (F) (fun v L => v = .bool true ∧ Lands L F) := by
  refine CallsK_enter (n := 55) Try.func25 rfl rfl rfl ?_
  refine SC_seq ?_
  refine SC_region ?_
  refine SR_pu (RD_assign rfl) rfl ?_
  refine SR_nil ?_
  refine SN.le (l := []) ?_ (.nil)
  refine SN_seq ?_
  refine SC_seq ?_
  refine SC_region ?_
  refine SR_pu (RD_build (.cons rfl (.cons rfl (.cons rfl (.cons rfl (.cons rfl (.nil)))))) built54_0_1_2_3_4) rfl ?_
  refine SR_ox (OX_alloc Try.zeroValue54 rfl) rfl ?_
  rintro _ _ ⟨b1, rfl, rfl⟩
  refine SR_ox0 (OX_stA (vs := [.int .i64 (3), .int .i64 (1), .int .i64 (2), .int .i64 (3), .int .i64 (4), .int .i64 0, .int .i64 0, .slice none 0 0, .int .i64 0, .slice none 0 0, .slice none 0 0, .int .i64 0, .int .i64 0, .slice none 0 0, .int .i64 0, .int .u64 0, .int .u64 0, .int .i64 0, .slice none 0 0]) Try.sizeOf54 rfl rfl rfl rfl) ?_
  rintro _ _ rfl
  refine SR_nil ?_
  refine SN.le (l := [(1, _)]) ?_ (.cons rfl (.nil))
  refine SN_seq ?_
  refine SC_seq ?_
  refine SC_region ?_
  refine SR_rd (RD_loadA (vs := [.int .i64 (3), .int .i64 (1), .int .i64 (2), .int .i64 (3), .int .i64 (4), .int .i64 0, .int .i64 0, .slice none 0 0, .int .i64 0, .slice none 0 0, .slice none 0 0, .int .i64 0, .int .i64 0, .slice none 0 0, .int .i64 0, .int .u64 0, .int .u64 0, .int .i64 0, .slice none 0 0]) Try.isAgg54 Try.sizeOf54 rfl rfl) Has.wh rfl ?_
  refine SR_call Try.call53 (.cons rfl (.nil)) (mess_Code m0 rfl rfl) (lts rfl) ?_
  rintro _ L1 ⟨a2, c2, rfl, _, hL1⟩
  rw [m0_bytes, show (st 0).1.length = 160 by decide +kernel] at hL1
  rw [m0_bytes, show (st 0).1.length = 160 by decide +kernel]
  refine SR.lands hL1 ?_
  refine SR_pu (RD_move rfl) rfl ?_
  refine SR_pu (RD_extract (v := .slice a2 160 c2) rfl rfl) rfl ?_
  refine SR_pu (RD_extract (v := .bool true) rfl rfl) rfl ?_
  refine SR_pu (RD_assign rfl) rfl ?_
  refine SR_pu (RD_assign rfl) rfl ?_
  refine SR_nil ?_
  refine SN.le (l := [(1, _), (2, _), (3, _)]) ?_ (.cons rfl (.cons rfl (.cons rfl (.nil))))
  refine SN_seq ?_
  refine SC_seq ?_
  refine SC_region ?_
  refine SR_pu (RD_move rfl) rfl ?_
  refine SR_call Try.call54 (.cons rfl (.nil)) (mess_Parse a2 c2 rfl) (lts rfl) ?_
  rintro _ L2 ⟨x1, y1, x2, y2, x3, y3, x4, y4, rfl, hL2⟩
  refine SR.lands hL2 ?_
  refine SR_pu (RD_move rfl) rfl ?_
  refine SR_pu (RD_extract (v := .agg ([.int .i64 (3), .int .i64 (1), .int .i64 (2), .int .i64 (3), .int .i64 (4), .int .i64 0, .int .i64 0, .slice x1 0 y1, .int .i64 0, .slice x2 0 y2, .slice x3 0 y3, .int .i64 0, .int .i64 0, .slice x4 0 y4, .int .i64 0, .int .u64 0, .int .u64 0, .int .i64 0, .slice none 0 0]).toArray) rfl rfl) rfl ?_
  refine SR_pu (RD_extract (v := .bool true) rfl rfl) rfl ?_
  refine SR_ox (OX_alloc Try.zeroValue54 rfl) rfl ?_
  rintro _ _ ⟨b4, rfl, rfl⟩
  refine SR_ox0 (OX_stA (vs := [.int .i64 (3), .int .i64 (1), .int .i64 (2), .int .i64 (3), .int .i64 (4), .int .i64 0, .int .i64 0, .slice x1 0 y1, .int .i64 0, .slice x2 0 y2, .slice x3 0 y3, .int .i64 0, .int .i64 0, .slice x4 0 y4, .int .i64 0, .int .u64 0, .int .u64 0, .int .i64 0, .slice none 0 0]) Try.sizeOf54 rfl rfl rfl rfl) ?_
  rintro _ _ rfl
  refine SR_pu (RD_assign rfl) rfl ?_
  refine SR_nil ?_
  refine SN.le (l := [(1, _), (3, _), (4, _), (5, _)]) ?_ (.cons rfl (.cons rfl (.cons rfl (.cons rfl (.nil)))))
  refine SN_seq ?_
  refine SC_seq ?_
  refine SC_region ?_
  refine SR_pu (RD_build (.cons rfl (.nil)) built51_2) rfl ?_
  refine SR_pu (RD_build (.cons rfl (.cons rfl (.nil))) built54_0_7) rfl ?_
  refine SR_call Try.call53 (.cons rfl (.nil)) (@mess_Code_no _ _ _ (⟨3, 0, 0, 0, 0, zQ, zT, ⟨0, 0, 1, 0⟩, zB⟩ : MsgD) (MsgIn.empty (by simp [I64]) ⟨i0, i0, by decide, by decide⟩ none none none none 0 0 0 0) rfl (fun h => by have h2 : (0 : Int) = 1 := congrArg (fun z : PMsg => z.env.fee) h; omega)) (lts rfl) ?_
  rintro _ L3 ⟨rfl, hL3⟩
  refine SR.lands hL3 ?_
  refine SR_pu (RD_move rfl) rfl ?_
  refine SR_pu (RD_extract (v := .slice none 0 0) rfl rfl) rfl ?_
  refine SR_pu (RD_extract (v := .bool false) rfl rfl) rfl ?_
  refine SR_pu (RD_assign rfl) rfl ?_
  refine SR_pu (RD_assign rfl) rfl ?_
  refine SR_nil ?_
  refine SN.le (l := [(1, _), (3, _), (4, _), (5, _), (7, _)]) ?_ (.cons rfl (.cons rfl (.cons rfl (.cons rfl (.cons rfl (.nil))))))
  refine SN_seq ?_
  refine SC_seq ?_
  refine SC_region ?_
  refine SR_pu (RD_build (.nil) built54) rfl ?_
  refine SR_call Try.call53 (.cons rfl (.nil)) (mess_Code_none (⟨0, 0, 0, 0, 0, zQ, zT, zE, zB⟩ : MsgD) rfl) (lts rfl) ?_
  rintro _ L4 ⟨rfl, hL4⟩
  refine SR.lands hL4 ?_
  refine SR_pu (RD_move rfl) rfl ?_
  refine SR_pu (RD_extract (v := .slice none 0 0) rfl rfl) rfl ?_
  refine SR_pu (RD_extract (v := .bool false) rfl rfl) rfl ?_
  refine SR_pu (RD_assign rfl) rfl ?_
  refine SR_pu (RD_assign rfl) rfl ?_
  refine SR_nil ?_
  refine SN.le (l := [(1, _), (3, _), (4, _), (5, _), (7, _), (9, _)]) ?_ (.cons rfl (.cons rfl (.cons rfl (.cons rfl (.cons rfl (.cons rfl (.nil)))))))
  refine SN_seq ?_
  refine SC_seq ?_
  refine SC_region ?_
  refine SR_pu (RD_move rfl) rfl ?_
  refine SR_pu (RD_move rfl) rfl ?_
  refine SR_yes rfl rfl (rfl) ?_
  refine SR_pu (RD_move rfl) rfl ?_
  refine SR_pu (RD_pick_t rfl (rfl) rfl) rfl ?_
  refine SR_pu (RD_move rfl) rfl ?_
  refine SR_yes rfl rfl (rfl) ?_
  refine SR_rd (RD_loadA (vs := [.int .i64 (3), .int .i64 (1), .int .i64 (2), .int .i64 (3), .int .i64 (4), .int .i64 0, .int .i64 0, .slice x1 0 y1, .int .i64 0, .slice x2 0 y2, .slice x3 0 y3, .int .i64 0, .int .i64 0, .slice x4 0 y4, .int .i64 0, .int .u64 0, .int .u64 0, .int .i64 0, .slice none 0 0]) Try.isAgg54 Try.sizeOf54 rfl rfl) Has.wh rfl ?_
  refine SR_yes rfl rfl (rfl) ?_
  refine SR_rd (RD_loadA (vs := [.int .i64 (3), .int .i64 (1), .int .i64 (2), .int .i64 (3), .int .i64 (4), .int .i64 0, .int .i64 0, .slice none 0 0, .int .i64 0, .slice none 0 0, .slice none 0 0, .int .i64 0, .int .i64 0, .slice none 0 0, .int .i64 0, .int .u64 0, .int .u64 0, .int .i64 0, .slice none 0 0]) Try.isAgg54 Try.sizeOf54 rfl rfl) Has.wh rfl ?_
  refine SR_yes rfl rfl (rfl) ?_
  refine SR_call Try.call26 (.cons rfl (.cons rfl (.nil))) (@mess_Same _ _ _ (⟨3, 1, 2, 3, 4, ⟨0, 0, ⟨x1, 0, y1, []⟩⟩, ⟨0, ⟨x2, 0, y2, []⟩, ⟨x3, 0, y3, []⟩, ⟨0, 0, ⟨x4, 0, y4, []⟩⟩⟩, zE, zB⟩ : MsgD) m0 (MsgIn.empty (by simp [I64]) zE_good x1 x2 x3 x4 y1 y2 y3 y4) _) (lts rfl) ?_
  rintro _ L5 ⟨rfl, hL5⟩
  refine SR.lands hL5 ?_
  refine SR_pu (RD_pick_t rfl (rfl) rfl) rfl ?_
  refine SR_pu (RD_move rfl) rfl ?_
  refine SR_yes rfl rfl (decide_eq_true rfl) ?_
  refine SR_pu (RD_move rfl) rfl ?_
  refine SR_yes rfl rfl (decide_eq_true rfl) ?_
  refine SR_pu (RD_not rfl) rfl ?_
  refine SR_pu (RD_pick_t rfl (decide_eq_true rfl) rfl) rfl ?_
  refine SR_pu (RD_move rfl) rfl ?_
  refine SR_yes rfl rfl (rfl) ?_
  refine SR_pu (RD_move rfl) rfl ?_
  refine SR_yes rfl rfl (rfl) ?_
  refine SR_pu (RD_not rfl) rfl ?_
  refine SR_pu (RD_pick_t rfl (rfl) rfl) rfl ?_
  refine SR_pu (RD_move rfl) rfl ?_
  refine SR_yes rfl rfl (rfl) ?_
  refine SR_rd (RD_loadA (vs := [.int .i64 (3), .int .i64 (1), .int .i64 (2), .int .i64 (3), .int .i64 (4), .int .i64 0, .int .i64 0, .slice none 0 0, .int .i64 0, .slice none 0 0, .slice none 0 0, .int .i64 0, .int .i64 0, .slice none 0 0, .int .i64 0, .int .u64 0, .int .u64 0, .int .i64 0, .slice none 0 0]) Try.isAgg54 Try.sizeOf54 rfl rfl) Has.wh rfl ?_
  refine SR_yes rfl rfl (rfl) ?_
  refine SR_pu (RD_build (.cons rfl (.nil)) built54_0) rfl ?_
  refine SR_yes rfl rfl (rfl) ?_
  refine SR_call Try.call26 (.cons rfl (.cons rfl (.nil))) (@mess_Same _ _ _ m0 (⟨3, 0, 0, 0, 0, zQ, zT, zE, zB⟩ : MsgD) _ (MsgIn.empty (by simp [I64]) zE_good none none none none 0 0 0 0)) (lts rfl) ?_
  rintro _ L6 ⟨rfl, hL6⟩
  refine SR.lands hL6 ?_
  refine SR_yes rfl rfl (rfl) ?_
  refine SR_pu (RD_not rfl) rfl ?_
  refine SR_pu (RD_pick_t rfl (rfl) rfl) rfl ?_
  refine SR_pu (RD_assign rfl) rfl ?_
  refine SR_nil ?_
  refine SN.le (l := [(0, _)]) ?_ (.cons rfl (.nil))
  refine SN_seq ?_
  refine SC_ret1 rfl rfl ?_
  refine ⟨?_, .fin⟩
  rw [decide_eq_false (fun h => by
    have h2 : [(3 : Int), 1, 2, 3, 4] = [3, 0, 0, 0, 0] := congrArg PMsg.head h
    revert h2; decide)]
  rfl

/-- A message as it came in. -/
structure MsgRaw (F : List HProp) (m : MsgD) : Prop where
  b : HasRow F m.bl.a (m.bl.l.flatMap BlkD.cells)
  n : m.bl.l.length = m.bl.n
  s : m.bl.n ≤ 140737488355328
  q : m.qc.by_.n ≤ 140737488355328
  t : m.tc.by_.n ≤ 140737488355328
  h : m.tc.highs.n ≤ 140737488355328
  k : m.tc.high.by_.n ≤ 140737488355328
  bs : ∀ b ∈ m.bl.l, b.by_.n ≤ 140737488355328 ∧ b.envs.n ≤ 140737488355328
/-- It is small. -/
structure Small (m : MsgD) : Prop where
  s : m.bl.n ≤ 12
  q : m.qc.by_.n ≤ 100
  t : m.tc.by_.n ≤ 100
  h : m.tc.highs.n ≤ 100
  k : m.tc.high.by_.n ≤ 100
  bs : ∀ b ∈ m.bl.l, b.by_.n ≤ 100 ∧ b.envs.n ≤ 100

theorem ref24_Few {W : World} {F : List HProp} [Abs F] (m : MsgD) (hM : MsgRaw F m) :
    CallsK W Try.prog 24 #[m.val] (F) (fun v L => (∃ f, v = .bool f ∧ (f = true → Small m) ∧ Lands L F)) := by
  refine CallsK_enter (n := 66) Try.func24 rfl rfl rfl ?_
  haveI := hM.b
  have nb1 := hM.n
  have nb2 := hM.s
  have q1 := hM.q
  have q2 := hM.t
  have q3 := hM.h
  have q4 := hM.k
  refine SC_seq ?_
  refine SC_region ?_
  refine SR_ox (OX_box rfl rfl) rfl ?_
  rintro _ _ ⟨b1, rfl, rfl⟩
  refine SR_pu (RD_assign rfl) rfl ?_
  refine SR_nil ?_
  refine SN.le (l := [(1, _)]) ?_ (.cons rfl (.nil))
  refine SN_seq ?_
  refine SC_seq ?_
  refine SC_region ?_
  first
    | refine SR_pu (RD_fieldAddr 5 Try.runUnderlying54 rfl rfl Try.sizeOf26 rfl) rfl ?_
    | refine SR_rd (RD_fieldAddrO 5 Try.runUnderlying54 rfl rfl Try.sizeOf26 rfl (by simp <;> omega)) Has.ro rfl ?_
  first
    | refine SR_pu (RD_fieldAddr 2 Try.runUnderlying26 rfl rfl Try.sizeOf24 rfl) rfl ?_
    | refine SR_rd (RD_fieldAddrO 2 Try.runUnderlying26 rfl rfl Try.sizeOf24 rfl (by simp <;> omega)) Has.ro rfl ?_
  refine SR_rd (RD_load Try.isAgg24 rfl) (Has.ce rfl) rfl ?_
  refine SR_pu (RD_len Try.runUnderlying24 rfl) rfl ?_
  first
    | refine SR_pu (RD_fieldAddr 8 Try.runUnderlying54 rfl rfl Try.sizeOf28 rfl) rfl ?_
    | refine SR_rd (RD_fieldAddrO 8 Try.runUnderlying54 rfl rfl Try.sizeOf28 rfl (by simp <;> omega)) Has.ro rfl ?_
  first
    | refine SR_pu (RD_fieldAddr 1 Try.runUnderlying28 rfl rfl Try.sizeOf24 rfl) rfl ?_
    | refine SR_rd (RD_fieldAddrO 1 Try.runUnderlying28 rfl rfl Try.sizeOf24 rfl (by simp <;> omega)) Has.ro rfl ?_
  refine SR_rd (RD_load Try.isAgg24 rfl) (Has.ce rfl) rfl ?_
  refine SR_pu (RD_len Try.runUnderlying24 rfl) rfl ?_
  refine SR_pu (RD_addi rfl rfl (by omega) (by omega)) rfl ?_
  first
    | refine SR_pu (RD_fieldAddr 8 Try.runUnderlying54 rfl rfl Try.sizeOf28 rfl) rfl ?_
    | refine SR_rd (RD_fieldAddrO 8 Try.runUnderlying54 rfl rfl Try.sizeOf28 rfl (by simp <;> omega)) Has.ro rfl ?_
  first
    | refine SR_pu (RD_fieldAddr 2 Try.runUnderlying28 rfl rfl Try.sizeOf24 rfl) rfl ?_
    | refine SR_rd (RD_fieldAddrO 2 Try.runUnderlying28 rfl rfl Try.sizeOf24 rfl (by simp <;> omega)) Has.ro rfl ?_
  refine SR_rd (RD_load Try.isAgg24 rfl) (Has.ce rfl) rfl ?_
  refine SR_pu (RD_len Try.runUnderlying24 rfl) rfl ?_
  refine SR_pu (RD_addi rfl rfl (by omega) (by omega)) rfl ?_
  first
    | refine SR_pu (RD_fieldAddr 8 Try.runUnderlying54 rfl rfl Try.sizeOf28 rfl) rfl ?_
    | refine SR_rd (RD_fieldAddrO 8 Try.runUnderlying54 rfl rfl Try.sizeOf28 rfl (by simp <;> omega)) Has.ro rfl ?_
  first
    | refine SR_pu (RD_fieldAddr 3 Try.runUnderlying28 rfl rfl Try.sizeOf26 rfl) rfl ?_
    | refine SR_rd (RD_fieldAddrO 3 Try.runUnderlying28 rfl rfl Try.sizeOf26 rfl (by simp <;> omega)) Has.ro rfl ?_
  first
    | refine SR_pu (RD_fieldAddr 2 Try.runUnderlying26 rfl rfl Try.sizeOf24 rfl) rfl ?_
    | refine SR_rd (RD_fieldAddrO 2 Try.runUnderlying26 rfl rfl Try.sizeOf24 rfl (by simp <;> omega)) Has.ro rfl ?_
  refine SR_rd (RD_load Try.isAgg24 rfl) (Has.ce rfl) rfl ?_
  refine SR_pu (RD_len Try.runUnderlying24 rfl) rfl ?_
  refine SR_pu (RD_addi rfl rfl (by omega) (by omega)) rfl ?_
  first
    | refine SR_pu (RD_fieldAddr 18 Try.runUnderlying54 rfl rfl Try.sizeOf52 rfl) rfl ?_
    | refine SR_rd (RD_fieldAddrO 18 Try.runUnderlying54 rfl rfl Try.sizeOf52 rfl (by simp <;> omega)) Has.ro rfl ?_
  refine SR_rd (RD_load Try.isAgg52 rfl) (Has.ce rfl) rfl ?_
  refine SR_pu (RD_len Try.runUnderlying52 rfl) rfl ?_
  refine SR_pu (RD_addi rfl rfl (by omega) (by omega)) rfl ?_
  refine SR_pu (RD_assign rfl) rfl ?_
  refine SR_nil ?_
  refine SN.le (l := [(1, _), (3, _)]) ?_ (.cons rfl (.cons rfl (.nil)))
  refine SN_seq ?_
  refine SC_seq ?_
  refine SC_seq ?_
  refine SC_region ?_
  refine SR_pu (RD_assign rfl) rfl ?_
  refine SR_nil ?_
  refine SN.le (l := [(1, _), (3, _), (4, _)]) ?_ (.cons rfl (.cons rfl (.cons rfl (.nil))))
  refine SN_seq ?_
  refine SC_block ?_
  refine SC_ind (X := Nat × Int) (fun x => (x.1 ≤ m.bl.n ∧ x.1 ≤ 20) ∧ ((m.qc.by_.n : Int) + (m.tc.by_.n : Int) + (m.tc.highs.n : Int) + (m.tc.high.by_.n : Int) + (m.bl.n : Int)) ≤ x.2 ∧ x.2 ≤ ((m.qc.by_.n : Int) + (m.tc.by_.n : Int) + (m.tc.highs.n : Int) + (m.tc.high.by_.n : Int) + (m.bl.n : Int)) + (x.1 : Int) * 281474976710656 ∧ ∀ b ∈ m.bl.l.take x.1, (b.by_.n : Int) + (b.envs.n : Int) ≤ x.2) (fun x => 20 - x.1) (fun x => [(1, .pointer (some ⟨b1, 0, none⟩)), (3, .int .i64 x.2), (4, .int .i64 (x.1 : Nat))]) (fun x => pt b1 (.cells m.cells.toArray 54) :: F) ((0, ((m.qc.by_.n : Int) + (m.tc.by_.n : Int) + (m.tc.highs.n : Int) + (m.tc.high.by_.n : Int) + (m.bl.n : Int)))) (⟨by simp, by dsimp only; omega, by dsimp only; omega, by simp⟩) (.cons rfl (.cons rfl (.cons rfl (.nil)))) (.fin) ?_
  intro ⟨i, t⟩ hi ih
  obtain ⟨⟨hi1, hi2⟩, hi3, hi4, hi5⟩ := hi
  dsimp only at hi1 hi2 hi3 hi4 hi5 ih ⊢
  refine SC_seq ?_
  refine SC_seq ?_
  refine SC_region ?_
  refine SR_pu (RD_move rfl) rfl ?_
  first
    | refine SR_pu (RD_fieldAddr 18 Try.runUnderlying54 rfl rfl Try.sizeOf52 rfl) rfl ?_
    | refine SR_rd (RD_fieldAddrO 18 Try.runUnderlying54 rfl rfl Try.sizeOf52 rfl (by simp <;> omega)) Has.ro rfl ?_
  refine SR_rd (RD_load Try.isAgg52 rfl) (Has.ce rfl) rfl ?_
  refine SR_pu (RD_len Try.runUnderlying52 rfl) rfl ?_
  refine SR_pu (RD_lss rfl rfl) rfl ?_
  refine SR_pu (RD_move rfl) rfl ?_
  refine SR_guard rfl rfl (fun hg3_5 => ?_) (fun hg3_5 => ?_)
  · refine SR_yes rfl rfl (hg3_5) ?_
    refine SR_pu (RD_move rfl) rfl ?_
    refine SR_yes rfl rfl (hg3_5) ?_
    refine SR_pu (RD_lss rfl rfl) rfl ?_
    refine SR_pu (RD_pick_t rfl (hg3_5) rfl) rfl ?_
    refine SR_nil ?_
    refine SN.le (l := [(1, _), (3, _), (4, _), (37, _)]) ?_ (.cons rfl (.cons rfl (.cons rfl (.cons rfl (.nil)))))
    refine SN_seq ?_
    refine SC_cond rfl (fun hc37 => ?_) (fun hc37 => ?_)
    · have hin : i < m.bl.n := by simp at hg3_5; omega
      have hi20 : i < 20 := by simp at hc37; omega
      obtain ⟨x, hx⟩ : ∃ x, m.bl.l[i]? = some x := ⟨_, List.getElem?_eq_getElem (by omega)⟩
      have hxb := hM.bs x (List.mem_of_getElem? hx)
      refine SC_skip ?_
      refine SN_seq ?_
      refine SC_seq ?_
      refine SC_block ?_
      refine SC_drawn (.cons 0 true (.cons 1 true (.cons 2 true (.cons 3 true (.cons 4 true (.cons 5 true (.cons 6 true (.cons 7 true (.cons 8 true (.cons 9 true (.cons 10 true (.cons 11 true (.cons 12 true (.cons 13 true (.cons 14 true (.cons 15 true (.cons 16 true (.cons 17 true (.cons 18 true (.nil)))))))))))))))))))) (by kernel_rfl) (by kernel_rfl) ?_
      refine SQ_pu rfl (RD_move rfl) rfl ?_
      first
        | refine SQ_pu rfl (RD_fieldAddr 18 Try.runUnderlying54 rfl rfl Try.sizeOf52 rfl) rfl ?_
        | refine SQ_rd rfl (RD_fieldAddrO 18 Try.runUnderlying54 rfl rfl Try.sizeOf52 rfl (by simp <;> omega)) Has.ro rfl ?_
      refine SQ_rd rfl (RD_load Try.isAgg52 rfl) (Has.ce rfl) rfl ?_
      refine SQ_pu rfl (RD_move rfl) rfl ?_
      refine SQ_rd rfl (RD_ixO (cs := m.bl.l.flatMap BlkD.cells) Try.runUnderlying52 Try.sizeOf58 rfl rfl (by rw [blkds_len, nb1]) (by omega) (by omega)) Has.ro rfl ?_
      refine SQ_rd rfl (RD_fieldAddrO (cs := m.bl.l.flatMap BlkD.cells) 2 Try.runUnderlying58 rfl rfl Try.sizeOf26 rfl (by rw [blkds_len]; omega)) Has.ro rfl ?_
      refine SQ_rd rfl (RD_fieldAddrO (cs := m.bl.l.flatMap BlkD.cells) 2 Try.runUnderlying26 rfl rfl Try.sizeOf24 rfl (by rw [blkds_len]; omega)) Has.ro rfl ?_
      refine SQ_rd rfl (RD_loadO (v := .slice x.by_.a x.by_.n x.by_.c) (cs := m.bl.l.flatMap BlkD.cells) Try.isAgg24 rfl ((fun q hq => by rw [hq]; exact blkd_get hx 4 (by omega) : ∀ q : Nat, q = i * 6 + 4 → (m.bl.l.flatMap BlkD.cells)[q]? = some (.slice x.by_.a x.by_.n x.by_.c)) _ (by omega))) Has.ro rfl ?_
      refine SQ_pu rfl (RD_len Try.runUnderlying24 rfl) rfl ?_
      refine SQ_pu rfl (RD_addi rfl rfl (by omega) (by omega)) rfl ?_
      first
        | refine SQ_pu rfl (RD_fieldAddr 18 Try.runUnderlying54 rfl rfl Try.sizeOf52 rfl) rfl ?_
        | refine SQ_rd rfl (RD_fieldAddrO 18 Try.runUnderlying54 rfl rfl Try.sizeOf52 rfl (by simp <;> omega)) Has.ro rfl ?_
      refine SQ_rd rfl (RD_load Try.isAgg52 rfl) (Has.ce rfl) rfl ?_
      refine SQ_pu rfl (RD_move rfl) rfl ?_
      refine SQ_rd rfl (RD_ixO (cs := m.bl.l.flatMap BlkD.cells) Try.runUnderlying52 Try.sizeOf58 rfl rfl (by rw [blkds_len, nb1]) (by omega) (by omega)) Has.ro rfl ?_
      refine SQ_rd rfl (RD_fieldAddrO (cs := m.bl.l.flatMap BlkD.cells) 5 Try.runUnderlying58 rfl rfl Try.sizeOf56 rfl (by rw [blkds_len]; omega)) Has.ro rfl ?_
      refine SQ_rd rfl (RD_loadO (v := .slice x.envs.a x.envs.n x.envs.c) (cs := m.bl.l.flatMap BlkD.cells) Try.isAgg56 rfl ((fun q hq => by rw [hq]; exact blkd_get hx 5 (by omega) : ∀ q : Nat, q = i * 6 + 5 → (m.bl.l.flatMap BlkD.cells)[q]? = some (.slice x.envs.a x.envs.n x.envs.c)) _ (by omega))) Has.ro rfl ?_
      refine SQ_pu rfl (RD_len Try.runUnderlying56 rfl) rfl ?_
      refine SQ_pu rfl (RD_addi rfl rfl (by omega) (by omega)) rfl ?_
      refine SQ_pu rfl (RD_assign rfl) rfl ?_
      refine SQ_nil ?_
      refine SN.le (l := [(1, _), (3, _), (4, _)]) ?_ (.cons rfl (.cons rfl (.cons rfl (.nil))))
      refine SN_block ?_
      refine SN_seq ?_
      refine SC_region ?_
      refine SR_pu (RD_move rfl) rfl ?_
      refine SR_pu (RD_addi rfl rfl (by omega) (by omega)) rfl ?_
      refine SR_pu (RD_assign rfl) rfl ?_
      refine SR_nil ?_
      refine SN.le (l := [(1, _), (3, _), (4, _)]) ?_ (.cons rfl (.cons rfl (.cons rfl (.nil))))
      refine SC_again (ih ((i + 1, t + (x.by_.n : Int) + (x.envs.n : Int))) (⟨⟨by dsimp only; omega, by dsimp only; omega⟩, by dsimp only; omega, by dsimp only; omega, fun b hb => by dsimp only at hb ⊢; rw [List.take_add_one, hx] at hb; rcases List.mem_append.1 hb with h | h; (have := hi5 b h; omega); (simp at h; subst h; omega)⟩) (by dsimp only; omega)) (.fin) (.cons rfl (.cons rfl (.cons' rfl (ie (by dsimp only; omega)) (.nil))))
    · have hge : 20 ≤ i := by simp at hc37; omega
      have hex : 12 < m.bl.n ∨ m.bl.l.take i = m.bl.l := by
        by_cases h : 12 < m.bl.n
        · exact .inl h
        · exact .inr (List.take_of_length_le (by omega))
      refine SC_exit rfl ?_
      refine SN_seq ?_
      refine SC_seq ?_
      refine SC_region ?_
      refine SR_pu (RD_move rfl) rfl ?_
      refine SR_pu (RD_leq rfl rfl) rfl ?_
      refine SR_pu (RD_move rfl) rfl ?_
      refine SR_guard rfl rfl (fun hg6_2 => ?_) (fun hg6_2 => ?_)
      · refine SR_yes rfl rfl (hg6_2) ?_
        first
          | refine SR_pu (RD_fieldAddr 18 Try.runUnderlying54 rfl rfl Try.sizeOf52 rfl) rfl ?_
          | refine SR_rd (RD_fieldAddrO 18 Try.runUnderlying54 rfl rfl Try.sizeOf52 rfl (by simp <;> omega)) Has.ro rfl ?_
        refine SR_yes rfl rfl (hg6_2) ?_
        refine SR_rd (RD_load Try.isAgg52 rfl) (Has.ce rfl) rfl ?_
        refine SR_yes rfl rfl (hg6_2) ?_
        refine SR_pu (RD_len Try.runUnderlying52 rfl) rfl ?_
        refine SR_yes rfl rfl (hg6_2) ?_
        refine SR_pu (RD_leq rfl rfl) rfl ?_
        refine SR_pu (RD_pick_t rfl (hg6_2) rfl) rfl ?_
        refine SR_pu (RD_assign rfl) rfl ?_
        refine SR_nil ?_
        refine SN.le (l := [(2, _)]) ?_ (.cons rfl (.nil))
        refine SN_seq ?_
        refine SC_ret1 rfl rfl ?_
        refine ⟨_, rfl, fun hf => ?_, .fin⟩
        have ht : t ≤ 100 := by simp at * <;> omega
        have h12 : m.bl.n ≤ 12 := by simp at hf <;> omega
        have htk : m.bl.l.take i = m.bl.l := hex.elim (fun h => absurd h (by omega)) id
        rw [htk] at hi5
        exact ⟨h12, by omega, by omega, by omega, by omega, fun b hb => by have := hi5 b hb; omega⟩
      · refine SR_no rfl rfl (hg6_2) (lts rfl) ?_
        refine SR_no rfl rfl (hg6_2) (lts rfl) ?_
        refine SR_no rfl rfl (hg6_2) (lts rfl) ?_
        refine SR_no rfl rfl (hg6_2) (lts rfl) ?_
        refine SR_pu (RD_pick_f rfl (hg6_2) rfl) rfl ?_
        refine SR_pu (RD_assign rfl) rfl ?_
        refine SR_nil ?_
        refine SN.le (l := [(2, _)]) ?_ (.cons rfl (.nil))
        refine SN_seq ?_
        refine SC_ret1 rfl rfl ?_
        refine ⟨_, rfl, fun hf => ?_, .fin⟩
        have ht : t ≤ 100 := by simp at * <;> omega
        have h12 : m.bl.n ≤ 12 := by simp at hf <;> omega
        have htk : m.bl.l.take i = m.bl.l := hex.elim (fun h => absurd h (by omega)) id
        rw [htk] at hi5
        exact ⟨h12, by omega, by omega, by omega, by omega, fun b hb => by have := hi5 b hb; omega⟩
  · refine SR_no rfl rfl (hg3_5) (lts rfl) ?_
    refine SR_no rfl rfl (hg3_5) (lts rfl) ?_
    refine SR_pu (RD_pick_f rfl (hg3_5) rfl) rfl ?_
    refine SR_nil ?_
    refine SN.le (l := [(1, _), (3, _), (4, _), (37, _)]) ?_ (.cons rfl (.cons rfl (.cons rfl (.cons rfl (.nil)))))
    refine SN_seq ?_
    have hge : m.bl.n ≤ i := by simp at hg3_5; omega
    have hex : 12 < m.bl.n ∨ m.bl.l.take i = m.bl.l := by
      by_cases h : 12 < m.bl.n
      · exact .inl h
      · exact .inr (List.take_of_length_le (by omega))
    refine SC_cond_false rfl (rfl) ?_
    refine SC_exit rfl ?_
    refine SN_seq ?_
    refine SC_seq ?_
    refine SC_region ?_
    refine SR_pu (RD_move rfl) rfl ?_
    refine SR_pu (RD_leq rfl rfl) rfl ?_
    refine SR_pu (RD_move rfl) rfl ?_
    refine SR_guard rfl rfl (fun hg6_2 => ?_) (fun hg6_2 => ?_)
    · refine SR_yes rfl rfl (hg6_2) ?_
      first
        | refine SR_pu (RD_fieldAddr 18 Try.runUnderlying54 rfl rfl Try.sizeOf52 rfl) rfl ?_
        | refine SR_rd (RD_fieldAddrO 18 Try.runUnderlying54 rfl rfl Try.sizeOf52 rfl (by simp <;> omega)) Has.ro rfl ?_
      refine SR_yes rfl rfl (hg6_2) ?_
      refine SR_rd (RD_load Try.isAgg52 rfl) (Has.ce rfl) rfl ?_
      refine SR_yes rfl rfl (hg6_2) ?_
      refine SR_pu (RD_len Try.runUnderlying52 rfl) rfl ?_
      refine SR_yes rfl rfl (hg6_2) ?_
      refine SR_pu (RD_leq rfl rfl) rfl ?_
      refine SR_pu (RD_pick_t rfl (hg6_2) rfl) rfl ?_
      refine SR_pu (RD_assign rfl) rfl ?_
      refine SR_nil ?_
      refine SN.le (l := [(2, _)]) ?_ (.cons rfl (.nil))
      refine SN_seq ?_
      refine SC_ret1 rfl rfl ?_
      refine ⟨_, rfl, fun hf => ?_, .fin⟩
      have ht : t ≤ 100 := by simp at * <;> omega
      have h12 : m.bl.n ≤ 12 := by simp at hf <;> omega
      have htk : m.bl.l.take i = m.bl.l := hex.elim (fun h => absurd h (by omega)) id
      rw [htk] at hi5
      exact ⟨h12, by omega, by omega, by omega, by omega, fun b hb => by have := hi5 b hb; omega⟩
    · refine SR_no rfl rfl (hg6_2) (lts rfl) ?_
      refine SR_no rfl rfl (hg6_2) (lts rfl) ?_
      refine SR_no rfl rfl (hg6_2) (lts rfl) ?_
      refine SR_no rfl rfl (hg6_2) (lts rfl) ?_
      refine SR_pu (RD_pick_f rfl (hg6_2) rfl) rfl ?_
      refine SR_pu (RD_assign rfl) rfl ?_
      refine SR_nil ?_
      refine SN.le (l := [(2, _)]) ?_ (.cons rfl (.nil))
      refine SN_seq ?_
      refine SC_ret1 rfl rfl ?_
      refine ⟨_, rfl, fun hf => ?_, .fin⟩
      have ht : t ≤ 100 := by simp at * <;> omega
      have h12 : m.bl.n ≤ 12 := by simp at hf <;> omega
      have htk : m.bl.l.take i = m.bl.l := hex.elim (fun h => absurd h (by omega)) id
      rw [htk] at hi5
      exact ⟨h12, by omega, by omega, by omega, by omega, fun b hb => by have := hi5 b hb; omega⟩

end Go.Proofs.Ytmigjpmadhebfaa
