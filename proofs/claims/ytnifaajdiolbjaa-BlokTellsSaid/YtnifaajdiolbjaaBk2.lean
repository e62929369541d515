/- Blocks: what the document fixes; each leads in its turn: the statement. -/
import Derived.Test.YtnifaajdiolbjaaBk1
import Derived.Test.YtnifaajdiolbjaaMk
import Derived.Test.YtnifaajdiolbjaaSl16
namespace Go.Proofs.Ytnifaajdiolbjaa
open Go Go.Proofs
set_option maxRecDepth 100000
def zE : EnvD := ⟨1, 0, 1, 1⟩
def zB : Blk := ⟨6, 2, 0, 1, [], [zE]⟩
def zD : Blk := ⟨6, 3, 0, 1, [], [zE]⟩
def zC : CfgD := ⟨1, 4, 0, 0, 0, 1, 0, 0⟩
def zl0 : List (List UInt8) := [rootB, envB zE]
def zl1 : List (List UInt8) := zB.leadL zl0
def zl2 : List (List UInt8) := zD.leadL zl1
def zS0 : List (Int × List Int) := [(2, [1001])]
def zS1 : List (Int × List Int) := addTo zS0 2 4
def zS2 : List (Int × List Int) := addTo zS1 3 6
theorem zok : ∀ e ∈ [zE], e.Ok := fun e he => by simp at he; subst he; exact ⟨by decide, by decide⟩
theorem zm1 : dput [rootB] (envB zE) = zl0 := by decide +kernel
theorem zm2 : addTo [] (1000 + 1) (dnum zl0 (envB zE) : Nat) = zS0 := by decide +kernel
theorem zo1 : zB.ok zC zl0 zS0 = (false, zl1) := by decide +kernel
theorem zs1 : zB.leadL zl1 = zl1 := by decide +kernel
theorem zs2 : zB.leadD zl1 = 4 := by decide +kernel
theorem zo2 : zB.ok zC zl1 zS1 = (true, zl1) := by decide +kernel
theorem zs4 : zD.leadD zl1 = 6 := by decide +kernel
theorem zo3 : zD.ok zC zl2 zS2 = (false, zl2) := by decide +kernel
theorem zd1 : blkD zl2 zB = 3 ∧ blkL zl2 zB = zl2 := by decide +kernel
theorem zd2 : blkD zl2 zD = 5 ∧ blkL zl2 zD = zl2 := by decide +kernel
theorem zlen : zl0.length = 2 ∧ zl1.length = 4 ∧ zl2.length = 6 := by decide +kernel

theorem blok_awake {W : World} {F : List HProp} [Abs F] :
    CallsK W Try.prog 14 #[] (F) (fun v L => v = .bool true ∧ Lands L F) := by
  refine CallsK_enter (n := 70) Try.func14 rfl rfl rfl ?_
  refine SC_seq ?_
  refine SC_region ?_
  refine SR_pu (RD_assign rfl) rfl ?_
  refine SR_nil ?_
  refine SN.le (l := []) ?_ (.nil)
  refine SN_seq ?_
  refine SC_seq ?_
  refine SC_region ?_
  refine SR_call Try.call16 (.cons rfl (.nil)) (enve_New 1) (lts rfl) ?_
  rintro _ L0 ⟨k, rfl, hL0⟩
  refine SR.lands (hL0.trans (Lands.cons vault_new)) ?_
  refine SR_pu (RD_assign rfl) rfl ?_
  refine SR_nil ?_
  refine SN.le (l := [(1, _)]) ?_ (.cons rfl (.nil))
  refine SN_seq ?_
  refine SC_seq ?_
  refine SC_seq ?_
  refine SC_region ?_
  refine SR_pu (RD_move rfl) rfl ?_
  refine SR_pu (RD_eqlP Try.underlying35 rfl rfl) rfl ?_
  refine SR_nil ?_
  refine SN.le (l := [(1, _), (9, _)]) ?_ (.cons rfl (.cons rfl (.nil)))
  refine SN_seq ?_
  refine SC_cond_false rfl (rfl) ?_
  refine SC_skip ?_
  refine SN_seq ?_
  refine SC_seq ?_
  refine SC_region ?_
  refine SR_pu (RD_build (.cons rfl (.cons rfl (.cons rfl (.nil)))) built24_0_1_5) rfl ?_
  refine SR_ox (OX_alloc Try.zeroValue24 rfl) rfl ?_
  rintro _ _ ⟨b2, rfl, rfl⟩
  refine SR_ox0 (OX_stA Try.sizeOf24 rfl rfl rfl rfl) ?_
  rintro _ _ rfl
  refine SR_nil ?_
  refine SN.le (l := [(1, _), (2, _)]) ?_ (.cons rfl (.cons rfl (.nil)))
  refine SN_seq ?_
  refine SC_seq ?_
  refine SC_region ?_
  refine SR_pu (RD_move rfl) rfl ?_
  refine SR_call Try.call34 (.cons rfl (.nil)) (CallsK.at (cert_Root k ⟨[], []⟩ (by simp) [rootB] 1 (by decide +kernel) (by decide +kernel))) (lts rfl) ?_
  rintro _ L1 ⟨rfl, hL1⟩
  try dsimp only at hL1
  refine SR.lands hL1 ?_
  refine SR_pu (RD_build (.cons rfl (.nil)) built30_1) rfl ?_
  refine SR_pu (RD_move rfl) rfl ?_
  refine SR_call Try.call35 (.cons rfl (.cons rfl (.cons rfl (.cons rfl (.cons rfl (.nil)))))) (CallsK.at2 (w_Make k ⟨[rootB], []⟩ 0 (by omega) 1 0 1 (by omega) (by omega) (by omega) none 0 0 [] rfl (by simp) (by simp))) (lts rfl) ?_
  rintro _ L2 ⟨rfl, hL2⟩
  change Lands L2 (At worldI k ⟨dput [rootB] (envB zE), addTo [] (1000 + 1) (dnum (dput [rootB] (envB zE)) (envB zE) : Nat)⟩ :: _) at hL2
  rw [zm1, zm2] at hL2
  refine SR.lands hL2 ?_
  refine SR_ox (OX_lit Try.underlying31 Try.type39 rfl rfl rfl rfl (.cons rfl (.nil)) (.cons rfl rfl (.nil))) rfl ?_
  rintro _ _ ⟨b16, rfl, rfl⟩
  refine SR_pu (RD_build (.cons rfl (.cons rfl (.cons rfl (.cons rfl (.nil))))) built33_0_1_2_3) rfl ?_
  refine SR_ox (OX_alloc Try.zeroValue33 rfl) rfl ?_
  rintro _ _ ⟨b3, rfl, rfl⟩
  refine SR_ox0 (OX_stA Try.sizeOf33 rfl rfl rfl rfl) ?_
  rintro _ _ rfl
  refine SR_nil ?_
  refine SN.le (l := [(1, _), (2, _), (3, _)]) ?_ (.cons rfl (.cons rfl (.cons rfl (.nil))))
  refine SN_seq ?_
  refine SC_seq ?_
  change SC _ _ _ _ _ _ (pt b3 (.cells (BlkD.cells (⟨6, 2, 0, 1, ⟨none, 0, 0, []⟩, ⟨some ⟨b16, 0, none⟩, 1, 1, [zE]⟩⟩ : BlkD)).toArray 33) :: pt b16 (.cells ([zE].flatMap EnvD.cells).toArray 39) :: At worldI k ⟨zl0, zS0⟩ :: At vaultI k.v 1 :: pt b2 (.cells zC.cells.toArray 24) :: F)
  refine SC.lands (Lands.trans (.fin : Lands _ (pt b16 (.cells ([zE].flatMap EnvD.cells).toArray 39) :: pt b3 (.cells (BlkD.cells (⟨6, 2, 0, 1, ⟨none, 0, 0, []⟩, ⟨some ⟨b16, 0, none⟩, 1, 1, [zE]⟩⟩ : BlkD)).toArray 33) :: pt b2 (.cells zC.cells.toArray 24) :: At worldI k ⟨zl0, zS0⟩ :: F)) (lit_row (E := 39) (z := 4) (b := b16) (cs := [zE].flatMap EnvD.cells) 1 rfl)) ?_
  refine SC_region ?_
  refine SR_pu (RD_move rfl) rfl ?_
  refine SR_rd (RD_loadA (vs := zC.cells) Try.isAgg24 Try.sizeOf24 rfl rfl) Has.wh rfl ?_
  refine SR_rd (RD_loadA (vs := BlkD.cells (⟨6, 2, 0, 1, ⟨none, 0, 0, []⟩, ⟨some ⟨b16, 0, none⟩, 1, 1, [zE]⟩⟩ : BlkD)) Try.isAgg33 Try.sizeOf33 rfl rfl) Has.wh rfl ?_
  refine SR_call Try.call33 (.cons rfl (.cons rfl (.cons rfl (.nil)))) (CallsK.at (blok_Ok k ⟨zl0, zS0⟩ zC (by decide) (⟨6, 2, 0, 1, ⟨none, 0, 0, []⟩, ⟨some ⟨b16, 0, none⟩, 1, 1, [zE]⟩⟩ : BlkD) rfl rfl ⟨rfl, rfl, by simp, by simp, zok⟩ (by simp [zlen]))) (lts rfl) ?_
  rintro _ L3 ⟨rfl, hL3⟩
  rw [show Blk.ok zC zl0 zS0 (BlkD.pure (⟨6, 2, 0, 1, ⟨none, 0, 0, []⟩, ⟨some ⟨b16, 0, none⟩, 1, 1, [zE]⟩⟩ : BlkD)) = _ from zo1] at hL3 ⊢
  try dsimp only at hL3
  refine SR.lands hL3 ?_
  refine SR_pu (RD_assign rfl) rfl ?_
  refine SR_nil ?_
  refine SN.le (l := [(1, _), (2, _), (3, _), (4, _)]) ?_ (.cons rfl (.cons rfl (.cons rfl (.cons rfl (.nil)))))
  refine SN_seq ?_
  refine SC_seq ?_
  refine SC_region ?_
  refine SR_pu (RD_move rfl) rfl ?_
  refine SR_rd (RD_loadA (vs := BlkD.cells (⟨6, 2, 0, 1, ⟨none, 0, 0, []⟩, ⟨some ⟨b16, 0, none⟩, 1, 1, [zE]⟩⟩ : BlkD)) Try.isAgg33 Try.sizeOf33 rfl rfl) Has.wh rfl ?_
  refine SR_call Try.call36 (.cons rfl (.cons rfl (.nil))) (CallsK.at (blok_Sign k ⟨zl1, zS0⟩ (⟨6, 2, 0, 1, ⟨none, 0, 0, []⟩, ⟨some ⟨b16, 0, none⟩, 1, 1, [zE]⟩⟩ : BlkD) rfl rfl ⟨rfl, rfl, by simp, by simp, zok⟩ (by simp [zlen]))) (lts rfl) ?_
  rintro _ L4 ⟨rfl, hL4⟩
  rw [show Blk.leadL zl1 (BlkD.pure (⟨6, 2, 0, 1, ⟨none, 0, 0, []⟩, ⟨some ⟨b16, 0, none⟩, 1, 1, [zE]⟩⟩ : BlkD)) = zl1 from zs1, show Blk.leadD zl1 (BlkD.pure (⟨6, 2, 0, 1, ⟨none, 0, 0, []⟩, ⟨some ⟨b16, 0, none⟩, 1, 1, [zE]⟩⟩ : BlkD)) = _ from zs2] at hL4
  change Lands L4 (At worldI k ⟨zl1, zS1⟩ :: _) at hL4
  refine SR.lands hL4 ?_
  refine SR_nil ?_
  refine SN.le (l := [(1, _), (2, _), (3, _), (4, _)]) ?_ (.cons rfl (.cons rfl (.cons rfl (.cons rfl (.nil)))))
  refine SN_seq ?_
  refine SC_seq ?_
  refine SC_region ?_
  refine SR_pu (RD_move rfl) rfl ?_
  refine SR_rd (RD_loadA (vs := zC.cells) Try.isAgg24 Try.sizeOf24 rfl rfl) Has.wh rfl ?_
  refine SR_rd (RD_loadA (vs := BlkD.cells (⟨6, 2, 0, 1, ⟨none, 0, 0, []⟩, ⟨some ⟨b16, 0, none⟩, 1, 1, [zE]⟩⟩ : BlkD)) Try.isAgg33 Try.sizeOf33 rfl rfl) Has.wh rfl ?_
  refine SR_call Try.call33 (.cons rfl (.cons rfl (.cons rfl (.nil)))) (CallsK.at (blok_Ok k ⟨zl1, zS1⟩ zC (by decide) (⟨6, 2, 0, 1, ⟨none, 0, 0, []⟩, ⟨some ⟨b16, 0, none⟩, 1, 1, [zE]⟩⟩ : BlkD) rfl rfl ⟨rfl, rfl, by simp, by simp, zok⟩ (by simp [zlen]))) (lts rfl) ?_
  rintro _ L5 ⟨rfl, hL5⟩
  rw [show Blk.ok zC zl1 zS1 (BlkD.pure (⟨6, 2, 0, 1, ⟨none, 0, 0, []⟩, ⟨some ⟨b16, 0, none⟩, 1, 1, [zE]⟩⟩ : BlkD)) = _ from zo2] at hL5 ⊢
  try dsimp only at hL5
  refine SR.lands hL5 ?_
  refine SR_pu (RD_assign rfl) rfl ?_
  refine SR_nil ?_
  refine SN.le (l := [(1, _), (2, _), (3, _), (4, _), (5, _)]) ?_ (.cons rfl (.cons rfl (.cons rfl (.cons rfl (.cons rfl (.nil))))))
  refine SN_seq ?_
  refine SC_seq ?_
  refine SC_region ?_
  refine SR_rd (RD_loadA (vs := BlkD.cells (⟨6, 2, 0, 1, ⟨none, 0, 0, []⟩, ⟨some ⟨b16, 0, none⟩, 1, 1, [zE]⟩⟩ : BlkD)) Try.isAgg33 Try.sizeOf33 rfl rfl) Has.wh rfl ?_
  refine SR_ox (OX_alloc Try.zeroValue33 rfl) rfl ?_
  rintro _ _ ⟨b6, rfl, rfl⟩
  refine SR_ox0 (OX_stA Try.sizeOf33 rfl rfl rfl rfl) ?_
  rintro _ _ rfl
  refine SR_nil ?_
  refine SN.le (l := [(1, _), (2, _), (3, _), (4, _), (5, _), (6, _)]) ?_ (.cons rfl (.cons rfl (.cons rfl (.cons rfl (.cons rfl (.cons rfl (.nil)))))))
  refine SN_seq ?_
  refine SC_seq ?_
  change SC _ _ _ _ _ _ (pt b6 (.cells [.int .i64 6, .int .i64 2, .int .i64 0, .int .i64 1, .slice none 0 0, .slice (some ⟨b16, 0, none⟩) 1 1].toArray 33) :: _)
  refine SC_region ?_
  first
    | refine SR_pu (RD_fieldAddr 1 Try.runUnderlying33 rfl rfl Try.sizeOf3 rfl) rfl ?_
    | refine SR_rd (RD_fieldAddrO 1 Try.runUnderlying33 rfl rfl Try.sizeOf3 rfl (by simp <;> omega)) Has.ro rfl ?_
  refine SR_ox0 (OX_st Try.sizeOf3 rfl rfl) ?_
  rintro _ _ rfl
  refine SR_nil ?_
  refine SN.le (l := [(1, _), (2, _), (3, _), (4, _), (5, _), (6, _)]) ?_ (.cons rfl (.cons rfl (.cons rfl (.cons rfl (.cons rfl (.cons rfl (.nil)))))))
  refine SN_seq ?_
  refine SC_seq ?_
  change SC _ _ _ _ _ _ (pt b6 (.cells (BlkD.cells (⟨6, 3, 0, 1, ⟨none, 0, 0, []⟩, ⟨some ⟨b16, 0, none⟩, 1, 1, [zE]⟩⟩ : BlkD)).toArray 33) :: _)
  refine SC_region ?_
  refine SR_pu (RD_move rfl) rfl ?_
  refine SR_rd (RD_loadA (vs := BlkD.cells (⟨6, 3, 0, 1, ⟨none, 0, 0, []⟩, ⟨some ⟨b16, 0, none⟩, 1, 1, [zE]⟩⟩ : BlkD)) Try.isAgg33 Try.sizeOf33 rfl rfl) Has.wh rfl ?_
  refine SR_call Try.call36 (.cons rfl (.cons rfl (.nil))) (CallsK.at (blok_Sign k ⟨zl1, zS1⟩ (⟨6, 3, 0, 1, ⟨none, 0, 0, []⟩, ⟨some ⟨b16, 0, none⟩, 1, 1, [zE]⟩⟩ : BlkD) rfl rfl ⟨rfl, rfl, by simp, by simp, zok⟩ (by simp [zlen]))) (lts rfl) ?_
  rintro _ L6 ⟨rfl, hL6⟩
  rw [show Blk.leadL zl1 (BlkD.pure (⟨6, 3, 0, 1, ⟨none, 0, 0, []⟩, ⟨some ⟨b16, 0, none⟩, 1, 1, [zE]⟩⟩ : BlkD)) = zl2 from rfl, show Blk.leadD zl1 (BlkD.pure (⟨6, 3, 0, 1, ⟨none, 0, 0, []⟩, ⟨some ⟨b16, 0, none⟩, 1, 1, [zE]⟩⟩ : BlkD)) = _ from zs4] at hL6
  change Lands L6 (At worldI k ⟨zl2, zS2⟩ :: _) at hL6
  refine SR.lands hL6 ?_
  refine SR_nil ?_
  refine SN.le (l := [(1, _), (2, _), (3, _), (4, _), (5, _), (6, _)]) ?_ (.cons rfl (.cons rfl (.cons rfl (.cons rfl (.cons rfl (.cons rfl (.nil)))))))
  refine SN_seq ?_
  refine SC_seq ?_
  refine SC_drawn (.cons 0 true (.cons 1 false (.cons 2 true (.cons 3 true (.cons 4 true (.cons 5 false (.cons 6 true (.cons 7 true (.cons 8 true (.cons 9 true (.cons 10 false (.cons 11 true (.cons 12 true (.cons 13 true (.cons 14 true (.cons 15 true (.cons 16 true (.cons 17 true (.cons 18 true (.cons 19 true (.cons 20 true (.cons 21 true (.cons 22 true (.cons 23 true (.cons 24 false (.cons 25 true (.cons 26 true (.cons 27 true (.cons 28 true (.cons 29 true (.cons 31 true (.cons 32 true (.cons 30 false (.cons 33 false (.cons 34 true (.cons 35 true (.cons 36 true (.nil)))))))))))))))))))))))))))))))))))))) (by kernel_rfl) (by kernel_rfl) ?_
  refine SQ_rd rfl (RD_loadA (vs := zC.cells) Try.isAgg24 Try.sizeOf24 rfl rfl) Has.wh rfl ?_
  refine SQ_call rfl Try.call13 (.cons rfl (.cons rfl (.nil))) (blok_Lead ⟨1, 4, 0, 0, 0, 1, 0, 0⟩ 6) (lts rfl) ?_
  rintro _ L7 ⟨rfl, hL7⟩
  refine ⟨.lands hL7 (.w rfl (.nil)), ?_⟩
  rw [show CfgD.lead ⟨1, 4, 0, 0, 0, 1, 0, 0⟩ 6 = 2 by decide +kernel]
  refine SQ.lands hL7 ?_
  refine SQ_pu rfl (RD_eql rfl rfl) rfl ?_
  refine SQ_pu rfl (RD_move rfl) rfl ?_
  refine SQ_yes rfl rfl rfl (by first | rfl | exact decide_eq_true (by omega) | exact decide_eq_false (by omega) | decide | (simp; done) | (simp; omega)) (RD_loadA (vs := zC.cells) Try.isAgg24 Try.sizeOf24 rfl rfl) Has.wh rfl ?_
  refine SQ_one (SA_call rfl (.mk rfl rfl (by first | rfl | exact decide_eq_true (by omega) | exact decide_eq_false (by omega) | decide | (simp; done) | (simp; omega))) Try.call13 (.cons rfl (.cons rfl (.nil))) (blok_Lead ⟨1, 4, 0, 0, 0, 1, 0, 0⟩ (-1)) (lts rfl) ?_)
  rintro _ L8 ⟨rfl, hL8⟩
  refine ⟨.lands hL8 (.w rfl (.h Has.wh (.nil))), ?_⟩
  rw [show CfgD.lead ⟨1, 4, 0, 0, 0, 1, 0, 0⟩ (-1) = 0 by decide +kernel]
  refine SQ.lands hL8 ?_
  refine SQ_pyes rfl rfl rfl (by first | rfl | exact decide_eq_true (by omega) | exact decide_eq_false (by omega) | decide | (simp; done) | (simp; omega)) (RD_eql rfl rfl) rfl ?_
  refine SQ_pu rfl (RD_pick_t rfl (by first | rfl | exact decide_eq_true (by omega) | exact decide_eq_false (by omega) | decide | (simp; done) | (simp; omega)) rfl) rfl ?_
  refine SQ_pu rfl (RD_move rfl) rfl ?_
  refine SQ_pyes rfl rfl rfl (by first | rfl | exact decide_eq_true (by omega) | exact decide_eq_false (by omega) | decide | (simp; done) | (simp; omega)) (RD_build (.nil) built24) rfl ?_
  refine SQ_one (SA_call rfl (.mk rfl rfl (by first | rfl | exact decide_eq_true (by omega) | exact decide_eq_false (by omega) | decide | (simp; done) | (simp; omega))) Try.call13 (.cons rfl (.cons rfl (.nil))) (blok_Lead ⟨0, 0, 0, 0, 0, 0, 0, 0⟩ 3) (lts rfl) ?_)
  rintro _ L9 ⟨rfl, hL9⟩
  refine ⟨.lands hL9 (.h Has.wh (.h Has.wh (.nil))), ?_⟩
  rw [show CfgD.lead ⟨0, 0, 0, 0, 0, 0, 0, 0⟩ 3 = 0 by decide +kernel]
  refine SQ.lands hL9 ?_
  refine SQ_pyes rfl rfl rfl (by first | rfl | exact decide_eq_true (by omega) | exact decide_eq_false (by omega) | decide | (simp; done) | (simp; omega)) (RD_eql rfl rfl) rfl ?_
  refine SQ_pu rfl (RD_pick_t rfl (by first | rfl | exact decide_eq_true (by omega) | exact decide_eq_false (by omega) | decide | (simp; done) | (simp; omega)) rfl) rfl ?_
  refine SQ_pu rfl (RD_move rfl) rfl ?_
  refine SQ_pyes rfl rfl rfl (by first | rfl | exact decide_eq_true (by omega) | exact decide_eq_false (by omega) | decide | (simp; done) | (simp; omega)) (RD_move rfl) rfl ?_
  refine SQ_pyes rfl rfl rfl (by first | rfl | exact decide_eq_true (by omega) | exact decide_eq_false (by omega) | decide | (simp; done) | (simp; omega)) (RD_not rfl) rfl ?_
  refine SQ_pu rfl (RD_pick_t rfl (by first | rfl | exact decide_eq_true (by omega) | exact decide_eq_false (by omega) | decide | (simp; done) | (simp; omega)) rfl) rfl ?_
  refine SQ_pu rfl (RD_move rfl) rfl ?_
  refine SQ_pyes rfl rfl rfl (by first | rfl | exact decide_eq_true (by omega) | exact decide_eq_false (by omega) | decide | (simp; done) | (simp; omega)) (RD_move rfl) rfl ?_
  refine SQ_pu rfl (RD_pick_t rfl (by first | rfl | exact decide_eq_true (by omega) | exact decide_eq_false (by omega) | decide | (simp; done) | (simp; omega)) rfl) rfl ?_
  refine SQ_pu rfl (RD_move rfl) rfl ?_
  refine SQ_pyes rfl rfl rfl (by first | rfl | exact decide_eq_true (by omega) | exact decide_eq_false (by omega) | decide | (simp; done) | (simp; omega)) (RD_move rfl) rfl ?_
  refine SQ_yes rfl rfl rfl (by first | rfl | exact decide_eq_true (by omega) | exact decide_eq_false (by omega) | decide | (simp; done) | (simp; omega)) (RD_loadA (vs := zC.cells) Try.isAgg24 Try.sizeOf24 rfl rfl) Has.wh rfl ?_
  refine SQ_yes rfl rfl rfl (by first | rfl | exact decide_eq_true (by omega) | exact decide_eq_false (by omega) | decide | (simp; done) | (simp; omega)) (RD_loadA (vs := BlkD.cells (⟨6, 3, 0, 1, ⟨none, 0, 0, []⟩, ⟨some ⟨b16, 0, none⟩, 1, 1, [zE]⟩⟩ : BlkD)) Try.isAgg33 Try.sizeOf33 rfl rfl) Has.wh rfl ?_
  refine SQ_one (SA_call rfl (.mk rfl rfl (by first | rfl | exact decide_eq_true (by omega) | exact decide_eq_false (by omega) | decide | (simp; done) | (simp; omega))) Try.call33 (.cons rfl (.cons rfl (.cons rfl (.nil)))) (CallsK.at (blok_Ok k ⟨zl2, zS2⟩ zC (by decide) (⟨6, 3, 0, 1, ⟨none, 0, 0, []⟩, ⟨some ⟨b16, 0, none⟩, 1, 1, [zE]⟩⟩ : BlkD) rfl rfl ⟨rfl, rfl, by simp, by simp, zok⟩ (by simp [zlen]))) (lts rfl) ?_)
  rintro _ L10 ⟨rfl, hL10⟩
  refine ⟨.lands hL10 (.w rfl (.w rfl (.h Has.wh (.h Has.wh (.nil))))), ?_⟩
  rw [show Blk.ok zC zl2 zS2 (BlkD.pure (⟨6, 3, 0, 1, ⟨none, 0, 0, []⟩, ⟨some ⟨b16, 0, none⟩, 1, 1, [zE]⟩⟩ : BlkD)) = _ from zo3] at hL10 ⊢
  try dsimp only at hL10
  refine SQ.lands hL10 ?_
  refine SQ_pyes rfl rfl rfl (by first | rfl | exact decide_eq_true (by omega) | exact decide_eq_false (by omega) | decide | (simp; done) | (simp; omega)) (RD_not rfl) rfl ?_
  refine SQ_pu rfl (RD_pick_t rfl (by first | rfl | exact decide_eq_true (by omega) | exact decide_eq_false (by omega) | decide | (simp; done) | (simp; omega)) rfl) rfl ?_
  refine SQ_pu rfl (RD_move rfl) rfl ?_
  refine SQ_pyes rfl rfl rfl (by first | rfl | exact decide_eq_true (by omega) | exact decide_eq_false (by omega) | decide | (simp; done) | (simp; omega)) (RD_move rfl) rfl ?_
  refine SQ_yes rfl rfl rfl (by first | rfl | exact decide_eq_true (by omega) | exact decide_eq_false (by omega) | decide | (simp; done) | (simp; omega)) (RD_loadA (vs := BlkD.cells (⟨6, 2, 0, 1, ⟨none, 0, 0, []⟩, ⟨some ⟨b16, 0, none⟩, 1, 1, [zE]⟩⟩ : BlkD)) Try.isAgg33 Try.sizeOf33 rfl rfl) Has.wh rfl ?_
  refine SQ_pyes rfl rfl rfl (by first | rfl | exact decide_eq_true (by omega) | exact decide_eq_false (by omega) | decide | (simp; done) | (simp; omega)) (RD_move rfl) rfl ?_
  refine SQ_yes rfl rfl rfl (by first | rfl | exact decide_eq_true (by omega) | exact decide_eq_false (by omega) | decide | (simp; done) | (simp; omega)) (RD_loadA (vs := BlkD.cells (⟨6, 3, 0, 1, ⟨none, 0, 0, []⟩, ⟨some ⟨b16, 0, none⟩, 1, 1, [zE]⟩⟩ : BlkD)) Try.isAgg33 Try.sizeOf33 rfl rfl) Has.wh rfl ?_
  refine SQ_one (SA_call rfl (.mk rfl rfl (by first | rfl | exact decide_eq_true (by omega) | exact decide_eq_false (by omega) | decide | (simp; done) | (simp; omega))) Try.call19 (.cons rfl (.cons rfl (.nil))) (CallsK.at (blok_Digest k ⟨zl2, zS2⟩ (⟨6, 2, 0, 1, ⟨none, 0, 0, []⟩, ⟨some ⟨b16, 0, none⟩, 1, 1, [zE]⟩⟩ : BlkD) rfl rfl rfl rfl zok (by simp) (by simp) (by simp [zlen]))) (lts rfl) ?_)
  rintro _ L11 ⟨rfl, hL11⟩
  rw [show blkL zl2 (BlkD.pure (⟨6, 2, 0, 1, ⟨none, 0, 0, []⟩, ⟨some ⟨b16, 0, none⟩, 1, 1, [zE]⟩⟩ : BlkD)) = zl2 from zd1.2] at hL11
  refine ⟨.lands hL11 (.h Has.wh (.w rfl (.h Has.wh (.h Has.wh (.h Has.wh (.h Has.wh (.nil))))))), ?_⟩
  rw [show blkD zl2 (BlkD.pure (⟨6, 2, 0, 1, ⟨none, 0, 0, []⟩, ⟨some ⟨b16, 0, none⟩, 1, 1, [zE]⟩⟩ : BlkD)) = _ from zd1.1]
  refine SQ.lands hL11 ?_
  refine SQ_one (SA_call rfl (.mk rfl rfl (by first | rfl | exact decide_eq_true (by omega) | exact decide_eq_false (by omega) | decide | (simp; done) | (simp; omega))) Try.call19 (.cons rfl (.cons rfl (.nil))) (CallsK.at (blok_Digest k ⟨zl2, zS2⟩ (⟨6, 3, 0, 1, ⟨none, 0, 0, []⟩, ⟨some ⟨b16, 0, none⟩, 1, 1, [zE]⟩⟩ : BlkD) rfl rfl rfl rfl zok (by simp) (by simp) (by simp [zlen]))) (lts rfl) ?_)
  rintro _ L12 ⟨rfl, hL12⟩
  rw [show blkL zl2 (BlkD.pure (⟨6, 3, 0, 1, ⟨none, 0, 0, []⟩, ⟨some ⟨b16, 0, none⟩, 1, 1, [zE]⟩⟩ : BlkD)) = zl2 from zd2.2] at hL12
  refine ⟨.lands hL12 (.w rfl (.h Has.wh (.h Has.wh (.h Has.wh (.h Has.wh (.h Has.wh (.nil))))))), ?_⟩
  rw [show blkD zl2 (BlkD.pure (⟨6, 3, 0, 1, ⟨none, 0, 0, []⟩, ⟨some ⟨b16, 0, none⟩, 1, 1, [zE]⟩⟩ : BlkD)) = _ from zd2.1]
  refine SQ.lands hL12 ?_
  refine SQ_pyes rfl rfl rfl (by first | rfl | exact decide_eq_true (by omega) | exact decide_eq_false (by omega) | decide | (simp; done) | (simp; omega)) (RD_neq rfl rfl) rfl ?_
  refine SQ_pu rfl (RD_pick_t rfl (by first | rfl | exact decide_eq_true (by omega) | exact decide_eq_false (by omega) | decide | (simp; done) | (simp; omega)) rfl) rfl ?_
  refine SQ_pu rfl (RD_assign rfl) rfl ?_
  refine SQ_nil ?_
  refine SN.le (l := [(0, _)]) ?_ (.cons rfl (.nil))
  refine SN_seq ?_
  refine SC_ret1 rfl rfl ?_
  exact ⟨rfl, .fin⟩

end Go.Proofs.Ytnifaajdiolbjaa
