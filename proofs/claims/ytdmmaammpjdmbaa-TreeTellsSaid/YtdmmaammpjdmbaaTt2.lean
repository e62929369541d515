/- The tree tells: the statement. -/
import Derived.Test.YtdmmaammpjdmbaaTt
namespace Go.Proofs.Ytdmmaammpjdmbaa
open Go Go.Proofs
set_option maxRecDepth 100000
theorem toD_pure {b : Blk} (h1 : b.by_ = []) (h2 : b.envs = []) : b.toD.pure = b := by
  obtain ⟨v, a, j, k, by_, es⟩ := b
  dsimp only at h1 h2
  subst h1; subst h2; rfl

theorem law_TreeTells {W : World} {F : List HProp} [Abs F] (a0 : Option Addr) (n0 c0 : Nat) (l0 : List Int) [HasRow F a0 (l0.map intV)] (hn0 : l0.length = n0) (a b raw : Int) :
    CallsK W Try.prog 9 #[.slice a0 n0 c0, .int .i64 a, .int .i64 b, .int .i64 raw] (F) (fun v L => v = .bool true ∧ Lands L F) := by
  refine CallsK_enter (n := 258) Try.func9 rfl rfl rfl ?_
  refine SC_seq ?_
  refine SC_region ?_
  refine SR_pu (RD_assign rfl) rfl ?_
  refine SR_nil ?_
  refine SN.le (l := [(0, _), (1, _), (2, _), (3, _)]) ?_ (.cons rfl (.cons rfl (.cons rfl (.cons rfl (.nil)))))
  refine SN_seq ?_
  refine SC_seq ?_
  refine SC_region ?_
  refine SR_call Try.call15 (.cons rfl (.nil)) (enve_New 1) (lts rfl) ?_
  rintro _ L0 ⟨k, rfl, hL0⟩
  refine SR.lands hL0 ?_
  refine SR_pu (RD_assign rfl) rfl ?_
  refine SR_nil ?_
  refine SN.le (l := [(0, _), (1, _), (2, _), (3, _), (9, _)]) ?_ (.cons rfl (.cons rfl (.cons rfl (.cons rfl (.cons rfl (.nil))))))
  refine SN_seq ?_
  refine SC_seq ?_
  refine SC_seq ?_
  refine SC_region ?_
  refine SR_pu (RD_move rfl) rfl ?_
  refine SR_pu (RD_eqlP Try.underlying25 rfl rfl) rfl ?_
  refine SR_nil ?_
  refine SN.le (l := [(0, _), (1, _), (2, _), (3, _), (9, _), (33, _)]) ?_ (.cons rfl (.cons rfl (.cons rfl (.cons rfl (.cons rfl (.cons rfl (.nil)))))))
  refine SN_seq ?_
  refine SC_cond_false rfl (rfl) ?_
  refine SC_skip ?_
  refine SN_seq ?_
  refine SC_seq ?_
  refine SC_region ?_
  refine SR_pu (RD_move rfl) rfl ?_
  refine SR_call Try.call33 (.cons rfl (.nil)) (CallsK.at (tree_New k ⟨[], []⟩ (by simp) [rootB] 1 (by decide +kernel) (by decide +kernel))) (lts rfl) ?_
  rintro _ L1 ⟨p, rfl, hL1⟩
  try dsimp only at hL1
  change Lands L1 (At treeI p (tS0 k.p) :: _) at hL1
  refine SR.lands hL1 ?_
  refine SR_pu (RD_assign rfl) rfl ?_
  refine SR_nil ?_
  refine SN.le (l := [(0, _), (1, _), (2, _), (3, _), (9, _), (10, _)]) ?_ (.cons rfl (.cons rfl (.cons rfl (.cons rfl (.cons rfl (.cons rfl (.nil)))))))
  refine SN_seq ?_
  refine SC_seq ?_
  refine SC_seq ?_
  refine SC_region ?_
  refine SR_pu (RD_move rfl) rfl ?_
  refine SR_pu (RD_eqlP Try.underlying54 rfl rfl) rfl ?_
  refine SR_nil ?_
  refine SN.le (l := [(0, _), (1, _), (2, _), (3, _), (9, _), (10, _), (37, _)]) ?_ (.cons rfl (.cons rfl (.cons rfl (.cons rfl (.cons rfl (.cons rfl (.cons rfl (.nil))))))))
  refine SN_seq ?_
  refine SC_cond_false rfl (rfl) ?_
  refine SC_skip ?_
  refine SN_seq ?_
  refine SC_seq ?_
  refine SC_region ?_
  refine SR_pu (RD_move rfl) rfl ?_
  refine SR_pu (RD_move rfl) rfl ?_
  refine SR_pu (RD_move rfl) rfl ?_
  refine SR_call Try.call34 (.cons rfl (.cons rfl (.cons rfl (.nil)))) (CallsK.at2 (law17_Blocks k p a0 n0 c0 l0 rfl hn0)) (lts rfl) ?_
  rintro _ L2 ⟨⟨i, s, l, ra, rc, ra2, rc2, ds, bs⟩, rfl, ⟨m, hm, hBI⟩, hL2⟩
  dsimp only at hBI hL2 ⊢
  refine SR.lands hL2 ?_
  refine SR_pu (RD_move rfl) rfl ?_
  refine SR_pu (RD_extract rfl rfl) rfl ?_
  refine SR_pu (RD_extract rfl rfl) rfl ?_
  refine SR_pu (RD_extract rfl rfl) rfl ?_
  refine SR_pu (RD_assign rfl) rfl ?_
  refine SR_pu (RD_assign rfl) rfl ?_
  refine SR_pu (RD_assign rfl) rfl ?_
  refine SR_nil ?_
  refine SN.le (l := [(1, _), (2, _), (3, _), (9, _), (10, _), (11, _), (12, _), (13, _)]) ?_ (.cons rfl (.cons rfl (.cons rfl (.cons rfl (.cons rfl (.cons rfl (.cons rfl (.cons rfl (.nil)))))))))
  refine SN_seq ?_
  refine SC_seq ?_
  refine SC_seq ?_
  refine SC_region ?_
  refine SR_pu (RD_move rfl) rfl ?_
  refine SR_pu (RD_not rfl) rfl ?_
  refine SR_pu (RD_move rfl) rfl ?_
  refine SR_yes rfl rfl (by first | rfl | (simp; done) | (simp [hag.2.1]; done) | (rw [hT3]; simp; done)) ?_
  refine SR_pu (RD_move rfl) rfl ?_
  refine SR_yes rfl rfl (by first | rfl | (simp; done) | (simp [hag.2.1]; done) | (rw [hT3]; simp; done)) ?_
  refine SR_call Try.call41 (.cons rfl (.nil)) (CallsK.at (tree_Len p s)) (lts rfl) ?_
  rintro _ L3 ⟨rfl, hL3⟩
  refine SR.lands hL3 ?_
  refine SR_yes rfl rfl (by first | rfl | (simp; done) | (simp [hag.2.1]; done) | (rw [hT3]; simp; done)) ?_
  refine SR_pu (RD_move rfl) rfl ?_
  refine SR_yes rfl rfl (by first | rfl | (simp; done) | (simp [hag.2.1]; done) | (rw [hT3]; simp; done)) ?_
  refine SR_pu (RD_len Try.runUnderlying22 rfl) rfl ?_
  refine SR_yes rfl rfl (by first | rfl | (simp; done) | (simp [hag.2.1]; done) | (rw [hT3]; simp; done)) ?_
  refine SR_pu (RD_neq rfl rfl) rfl ?_
  refine SR_pu (RD_pick_f rfl (by first | rfl | (simp; done) | (simp [hag.2.1]; done) | (rw [hT3]; simp; done)) rfl) rfl ?_
  refine SR_nil ?_
  refine SN.le (l := [(1, _), (2, _), (3, _), (9, _), (10, _), (11, _), (12, _), (54, _)]) ?_ (.cons rfl (.cons rfl (.cons rfl (.cons rfl (.cons rfl (.cons rfl (.cons rfl (.cons rfl (.nil)))))))))
  refine SN_seq ?_
  refine SC_cond_false rfl (by have h := hBI.tlen; simp [h]) ?_
  refine SC_skip ?_
  refine SN_seq ?_
  refine SC_seq ?_
  refine SC_seq ?_
  refine SC_region ?_
  refine SR_pu (RD_assign rfl) rfl ?_
  refine SR_nil ?_
  refine SN.le (l := [(1, _), (2, _), (3, _), (9, _), (10, _), (11, _), (12, _), (14, _)]) ?_ (.cons rfl (.cons rfl (.cons rfl (.cons rfl (.cons rfl (.cons rfl (.cons rfl (.cons rfl (.nil)))))))))
  refine SN_seq ?_
  refine SC_block ?_
  have hlen := hBI.len
  have hsz := hBI.size
  have har := hBI.arena
  have hpos : 0 < ds.length := (List.getElem?_eq_some_iff.1 hBI.first).1
  refine SC_ind (X := Nat × List (List UInt8)) (fun x => x.1 ≤ ds.length ∧ x.2.length ≤ 30 + x.1) (fun x => ds.length - x.1) (fun x => [(1, .int .i64 a), (2, .int .i64 b), (3, .int .i64 raw), (9, .pointer (some ⟨k.p, 0, none⟩)), (10, .pointer (some ⟨p, 0, none⟩)), (11, .slice ra ds.length rc), (12, .slice ra2 bs.length rc2), (14, .int .i64 (x.1 : Nat))]) (fun x => rowP 3 1 ra ds.length rc (ds.map intV) :: rowP 69 6 ra2 bs.length rc2 (bs.flatMap Blk.cells0) :: At treeI p s :: At worldI k ⟨x.2, []⟩ :: F) ((0, l)) (⟨by simp, by dsimp only; omega⟩) (.cons rfl (.cons rfl (.cons rfl (.cons rfl (.cons rfl (.cons rfl (.cons rfl (.cons rfl (.nil))))))))) (.fin) ?_
  intro ⟨j, l1⟩ hi ih0
  obtain ⟨hj1, hl1⟩ := hi
  dsimp only at hj1 hl1 ih0 ⊢
  refine SC_seq ?_
  refine SC_seq ?_
  refine SC_region ?_
  refine SR_pu (RD_move rfl) rfl ?_
  refine SR_pu (RD_move rfl) rfl ?_
  refine SR_pu (RD_len Try.runUnderlying22 rfl) rfl ?_
  refine SR_pu (RD_lss rfl rfl) rfl ?_
  refine SR_nil ?_
  refine SN.le (l := [(1, _), (2, _), (3, _), (9, _), (10, _), (11, _), (12, _), (14, _), (58, _)]) ?_ (.cons rfl (.cons rfl (.cons rfl (.cons rfl (.cons rfl (.cons rfl (.cons rfl (.cons rfl (.cons rfl (.nil))))))))))
  refine SN_seq ?_
  refine SC_cond rfl (fun hc58 => ?_) (fun hc58 => ?_)
  · have hjn : j < ds.length := by simp at hc58; omega
    obtain ⟨d, hd⟩ : ∃ d, ds[j]? = some d := ⟨_, List.getElem?_eq_getElem hjn⟩
    obtain ⟨q, hq⟩ : ∃ x, bs[j]? = some x := ⟨_, List.getElem?_eq_getElem (by omega)⟩
    have hg := hBI.get j d q hd hq
    have hqf := hBI.flat q (List.mem_of_getElem? hq)
    have htp := toD_pure hqf.1 hqf.2.1
    have hag := again0 hqf.2.1 l1
    haveI : ∀ R, HasRow R q.toD.by_.a (q.toD.by_.l.map intV) := fun R => (HasRow.nil : HasRow R none [])
    haveI : ∀ R, HasRow R q.toD.envs.a (q.toD.envs.l.flatMap EnvD.cells) := fun R => (HasRow.nil : HasRow R none [])
    refine SC_skip ?_
    refine SN_seq ?_
    refine SC_seq ?_
    refine SC_block ?_
    refine SC_seq ?_
    refine SC_region ?_
    refine SR_pu (RD_move rfl) rfl ?_
    refine SR_pu (RD_move rfl) rfl ?_
    refine SR_pu (RD_move rfl) rfl ?_
    refine SR_rd (RD_ixO Try.runUnderlying22 Try.sizeOf3 rfl rfl (by first | assumption | (simp; done) | (simp; omega)) (by omega) (by omega)) Has.ro rfl ?_
    refine SR_rd (RD_loadO (v := intV d) (cs := ds.map intV) Try.isAgg3 rfl (by simp [hd])) Has.ro rfl ?_
    refine SR_call Try.call42 (.cons rfl (.cons rfl (.nil))) (CallsK.at (tree_Block p s d)) (lts rfl) ?_
    rintro _ L10 ⟨b', rfl, hp', hf', hL10⟩
    rw [hg] at hp' ⊢
    have hp2 : b'.pure = q := hp'
    refine SR.lands hL10 ?_
    refine SR_pu (RD_move rfl) rfl ?_
    refine SR_pu (RD_extract rfl rfl) rfl ?_
    refine SR_pu (RD_extract rfl rfl) rfl ?_
    refine SR_ox (OX_alloc Try.zeroValue69 rfl) rfl ?_
    rintro _ _ ⟨b15, rfl, rfl⟩
    refine SR_ox0 (OX_stA (vs := b'.cells) Try.sizeOf69 rfl rfl rfl rfl) ?_
    rintro _ _ rfl
    refine SR_pu (RD_assign rfl) rfl ?_
    refine SR_nil ?_
    refine SN.le (l := [(1, _), (2, _), (3, _), (9, _), (10, _), (11, _), (12, _), (14, _), (15, _), (16, _)]) ?_ (.cons rfl (.cons rfl (.cons rfl (.cons rfl (.cons rfl (.cons rfl (.cons rfl (.cons rfl (.cons rfl (.cons rfl (.nil)))))))))))
    refine SN_seq ?_
    refine SC_seq ?_
    refine SC_drawn (.cons 0 true (.cons 1 true (.cons 2 true (.cons 3 true (.cons 4 true (.cons 5 true (.cons 6 true (.cons 7 true (.cons 8 false (.cons 9 true (.cons 10 true (.cons 11 true (.cons 12 true (.cons 13 true (.cons 14 true (.cons 15 true (.cons 16 true (.cons 18 true (.cons 19 true (.cons 20 true (.cons 21 true (.cons 22 true (.cons 17 false (.cons 23 true (.cons 24 true (.cons 25 true (.cons 26 true (.cons 27 true (.cons 29 true (.cons 30 true (.cons 31 true (.cons 32 true (.cons 33 true (.cons 28 false (.cons 34 false (.cons 35 true (.cons 36 true (.cons 37 true (.cons 38 true (.cons 39 true (.cons 40 true (.cons 41 true (.cons 42 true (.cons 44 true (.cons 45 true (.cons 46 true (.cons 47 true (.cons 48 true (.cons 49 true (.cons 43 false (.cons 50 true (.cons 51 true (.nil))))))))))))))))))))))))))))))))))))))))))))))))))))) (by kernel_rfl) (by kernel_rfl) ?_
    refine SQ_pu rfl (RD_move rfl) rfl ?_
    refine SQ_pu rfl (RD_not rfl) rfl ?_
    refine SQ_pu rfl (RD_move rfl) rfl ?_
    refine SQ_pyes rfl rfl rfl (by first | rfl | (simp; done) | (simp [hag.2.1]; done) | (rw [hT3]; simp; done)) (RD_move rfl) rfl ?_
    refine SQ_pyes rfl rfl rfl (by first | rfl | (simp; done) | (simp [hag.2.1]; done) | (rw [hT3]; simp; done)) (RD_move rfl) rfl ?_
    refine SQ_pyes rfl rfl rfl (by first | rfl | (simp; done) | (simp [hag.2.1]; done) | (rw [hT3]; simp; done)) (RD_move rfl) rfl ?_
    refine SQ_yes rfl rfl rfl (by first | rfl | (simp; done) | (simp [hag.2.1]; done) | (rw [hT3]; simp; done)) (RD_ixO Try.runUnderlying22 Try.sizeOf3 rfl rfl (by first | assumption | (simp; done) | (simp; omega)) (by omega) (by omega)) Has.ro rfl ?_
    refine SQ_yes rfl rfl rfl (by first | rfl | (simp; done) | (simp [hag.2.1]; done) | (rw [hT3]; simp; done)) (RD_loadO (v := intV d) (cs := ds.map intV) Try.isAgg3 rfl (by simp [hd])) Has.ro rfl ?_
    refine SQ_one (SA_call rfl (.mk rfl rfl (by first | rfl | (simp; done) | (simp [hag.2.1]; done) | (rw [hT3]; simp; done))) Try.call43 (.cons rfl (.cons rfl (.nil))) (CallsK.at (tree_Has p s d)) (lts rfl) ?_)
    rintro _ L11 ⟨rfl, hL11⟩
    rw [hg]
    refine ⟨.lands hL11 (.w rfl (.h Has.ro (.nil))), ?_⟩
    refine SQ.lands hL11 ?_
    refine SQ_pyes rfl rfl rfl (by first | rfl | (simp; done) | (simp [hag.2.1]; done) | (rw [hT3]; simp; done)) (RD_not rfl) rfl ?_
    refine SQ_pu rfl (RD_pick_f rfl (by first | rfl | (simp; done) | (simp [hag.2.1]; done) | (rw [hT3]; simp; done)) rfl) rfl ?_
    refine SQ_pu rfl (RD_move rfl) rfl ?_
    refine SQ_pyes rfl rfl rfl (by first | rfl | (simp; done) | (simp [hag.2.1]; done) | (rw [hT3]; simp; done)) (RD_move rfl) rfl ?_
    refine SQ_pyes rfl rfl rfl (by first | rfl | (simp; done) | (simp [hag.2.1]; done) | (rw [hT3]; simp; done)) (RD_move rfl) rfl ?_
    refine SQ_pyes rfl rfl rfl (by first | rfl | (simp; done) | (simp [hag.2.1]; done) | (rw [hT3]; simp; done)) (RD_move rfl) rfl ?_
    refine SQ_yes rfl rfl rfl (by first | rfl | (simp; done) | (simp [hag.2.1]; done) | (rw [hT3]; simp; done)) (RD_ixO Try.runUnderlying22 Try.sizeOf3 rfl rfl (by first | assumption | (simp; done) | (simp; omega)) (by omega) (by omega)) Has.ro rfl ?_
    refine SQ_yes rfl rfl rfl (by first | rfl | (simp; done) | (simp [hag.2.1]; done) | (rw [hT3]; simp; done)) (RD_loadO (v := intV d) (cs := ds.map intV) Try.isAgg3 rfl (by simp [hd])) Has.ro rfl ?_
    refine SQ_pyes rfl rfl rfl (by first | rfl | (simp; done) | (simp [hag.2.1]; done) | (rw [hT3]; simp; done)) (RD_move rfl) rfl ?_
    refine SQ_pyes rfl rfl rfl (by first | rfl | (simp; done) | (simp [hag.2.1]; done) | (rw [hT3]; simp; done)) (RD_move rfl) rfl ?_
    refine SQ_yes rfl rfl rfl (by first | rfl | (simp; done) | (simp [hag.2.1]; done) | (rw [hT3]; simp; done)) (RD_ixO (i := (j : Nat)) (cs := bs.flatMap Blk.cells0) Try.runUnderlying56 Try.sizeOf69 rfl rfl (by rw [blks_len]) (by omega) (by omega)) Has.ro rfl ?_
    refine SQ_yes rfl rfl rfl (by first | rfl | (simp; done) | (simp [hag.2.1]; done) | (rw [hT3]; simp; done)) (RD_fieldAddrO (cs := bs.flatMap Blk.cells0) 0 Try.runUnderlying69 rfl rfl Try.sizeOf3 rfl (by rw [blks_len]; omega)) Has.ro rfl ?_
    refine SQ_yes rfl rfl rfl (by first | rfl | (simp; done) | (simp [hag.2.1]; done) | (rw [hT3]; simp; done)) (RD_loadO (v := .int .i64 q.view) (cs := bs.flatMap Blk.cells0) Try.isAgg3 rfl (blk_get hq 0 (by omega))) Has.ro rfl ?_
    refine SQ_one (SA_call rfl (.mk rfl rfl (by first | rfl | (simp; done) | (simp [hag.2.1]; done) | (rw [hT3]; simp; done))) Try.call38 (.cons rfl (.cons rfl (.nil))) (CallsK.at (tree_View p s d)) (lts rfl) ?_)
    rintro _ L12 ⟨rfl, hL12⟩
    rw [hg, show viewOf (some q) = q.view from rfl]
    refine ⟨.lands hL12 (.h Has.ro (.h Has.ro (.h Has.ro (.w rfl (.h Has.ro (.h Has.ro (.h Has.ro (.nil)))))))), ?_⟩
    refine SQ.lands hL12 ?_
    refine SQ_pyes rfl rfl rfl (by first | rfl | (simp; done) | (simp [hag.2.1]; done) | (rw [hT3]; simp; done)) (RD_neq rfl rfl) rfl ?_
    refine SQ_pu rfl (RD_pick_f rfl (by first | rfl | (simp; done) | (simp [hag.2.1]; done) | (rw [hT3]; simp; done)) rfl) rfl ?_
    refine SQ_pu rfl (RD_move rfl) rfl ?_
    refine SQ_pyes rfl rfl rfl (by first | rfl | (simp; done) | (simp [hag.2.1]; done) | (rw [hT3]; simp; done)) (RD_move rfl) rfl ?_
    refine SQ_yes rfl rfl rfl (by first | rfl | (simp; done) | (simp [hag.2.1]; done) | (rw [hT3]; simp; done)) (RD_loadA Try.isAgg69 Try.sizeOf69 rfl rfl) Has.wh rfl ?_
    refine SQ_pyes rfl rfl rfl (by first | rfl | (simp; done) | (simp [hag.2.1]; done) | (rw [hT3]; simp; done)) (RD_move rfl) rfl ?_
    refine SQ_pyes rfl rfl rfl (by first | rfl | (simp; done) | (simp [hag.2.1]; done) | (rw [hT3]; simp; done)) (RD_move rfl) rfl ?_
    refine SQ_pyes rfl rfl rfl (by first | rfl | (simp; done) | (simp [hag.2.1]; done) | (rw [hT3]; simp; done)) (RD_move rfl) rfl ?_
    refine SQ_yes rfl rfl rfl (by first | rfl | (simp; done) | (simp [hag.2.1]; done) | (rw [hT3]; simp; done)) (RD_ixO (i := (j : Nat)) (cs := bs.flatMap Blk.cells0) Try.runUnderlying56 Try.sizeOf69 rfl rfl (by rw [blks_len]) (by omega) (by omega)) Has.ro rfl ?_
    refine SQ_yes rfl rfl rfl (by first | rfl | (simp; done) | (simp [hag.2.1]; done) | (rw [hT3]; simp; done)) (RD_loadAO (vs := q.cells0) (cs := bs.flatMap Blk.cells0) Try.isAgg69 Try.sizeOf69 rfl rfl (by decide) (fun o v h => by have ho : o < 6 := (List.getElem?_eq_some_iff.1 h).1; rw [show ((j : Nat) : Int).toNat * (5 + 1) + o = j * 6 + o by omega, blk_get hq o ho]; exact h)) Has.ro rfl ?_
    refine SQ_one (SA_call rfl (.mk rfl rfl (by first | rfl | (simp; done) | (simp [hag.2.1]; done) | (rw [hT3]; simp; done))) Try.call44 (.cons rfl (.cons rfl (.nil))) (CallsK.at (blok_Digest k ⟨l1, []⟩ b' rfl rfl hf'.1 hf'.2.1 hf'.2.2.2.2 hf'.2.2.1 hf'.2.2.2.1 (by dsimp only; omega))) (lts rfl) ?_)
    rintro _ L13 ⟨rfl, hL13⟩
    refine ⟨.lands hL13 (.h Has.ro (.h Has.ro (.w rfl (.h Has.ro (.h Has.ro (.h Has.ro (.h Has.ro (.h Has.ro (.h Has.ro (.h Has.ro (.nil))))))))))), ?_⟩
    try dsimp only at hL13
    rw [hp2] at hL13
    rw [hp2]
    refine SQ.lands hL13 ?_
    refine SQ_one (SA_call rfl (.mk rfl rfl (by first | rfl | (simp; done) | (simp [hag.2.1]; done) | (rw [hT3]; simp; done))) Try.call44 (.cons rfl (.cons rfl (.nil))) (CallsK.at (blok_Digest k ⟨blkL l1 q, []⟩ q.toD rfl rfl rfl rfl (fun e he => nomatch he) (by simp [Blk.toD]) (by simp [Blk.toD]) (by dsimp only; omega))) (lts rfl) ?_)
    rintro _ L14 ⟨rfl, hL14⟩
    refine ⟨.lands hL14 (.w rfl (.h Has.ro (.h Has.wh (.h Has.ro (.h Has.ro (.h Has.ro (.h Has.ro (.h Has.ro (.h Has.ro (.h Has.ro (.nil))))))))))), ?_⟩
    try dsimp only at hL14
    rw [htp, hag.1] at hL14
    rw [htp]
    refine SQ.lands hL14 ?_
    refine SQ_pyes rfl rfl rfl (by first | rfl | (simp; done) | (simp [hag.2.1]; done) | (rw [hT3]; simp; done)) (RD_neq rfl rfl) rfl ?_
    refine SQ_pu rfl (RD_pick_f rfl (by first | rfl | (simp; done) | (simp [hag.2.1]; done) | (rw [hT3]; simp; done)) rfl) rfl ?_
    refine SQ_pu rfl (RD_move rfl) rfl ?_
    refine SQ_pyes rfl rfl rfl (by first | rfl | (simp; done) | (simp [hag.2.1]; done) | (rw [hT3]; simp; done)) (RD_move rfl) rfl ?_
    refine SQ_pyes rfl rfl rfl (by first | rfl | (simp; done) | (simp [hag.2.1]; done) | (rw [hT3]; simp; done)) (RD_move rfl) rfl ?_
    refine SQ_pyes rfl rfl rfl (by first | rfl | (simp; done) | (simp [hag.2.1]; done) | (rw [hT3]; simp; done)) (RD_move rfl) rfl ?_
    refine SQ_yes rfl rfl rfl (by first | rfl | (simp; done) | (simp [hag.2.1]; done) | (rw [hT3]; simp; done)) (RD_ixO Try.runUnderlying22 Try.sizeOf3 rfl rfl (by first | assumption | (simp; done) | (simp; omega)) (by omega) (by omega)) Has.ro rfl ?_
    refine SQ_yes rfl rfl rfl (by first | rfl | (simp; done) | (simp [hag.2.1]; done) | (rw [hT3]; simp; done)) (RD_loadO (v := intV d) (cs := ds.map intV) Try.isAgg3 rfl (by simp [hd])) Has.ro rfl ?_
    refine SQ_pyes rfl rfl rfl (by first | rfl | (simp; done) | (simp [hag.2.1]; done) | (rw [hT3]; simp; done)) (RD_move rfl) rfl ?_
    refine SQ_pyes rfl rfl rfl (by first | rfl | (simp; done) | (simp [hag.2.1]; done) | (rw [hT3]; simp; done)) (RD_move rfl) rfl ?_
    refine SQ_yes rfl rfl rfl (by first | rfl | (simp; done) | (simp [hag.2.1]; done) | (rw [hT3]; simp; done)) (RD_ixO (i := (j : Nat)) (cs := bs.flatMap Blk.cells0) Try.runUnderlying56 Try.sizeOf69 rfl rfl (by rw [blks_len]) (by omega) (by omega)) Has.ro rfl ?_
    refine SQ_yes rfl rfl rfl (by first | rfl | (simp; done) | (simp [hag.2.1]; done) | (rw [hT3]; simp; done)) (RD_fieldAddrO (cs := bs.flatMap Blk.cells0) 2 Try.runUnderlying69 rfl rfl Try.sizeOf34 rfl (by rw [blks_len]; omega)) Has.ro rfl ?_
    refine SQ_yes rfl rfl rfl (by first | rfl | (simp; done) | (simp [hag.2.1]; done) | (rw [hT3]; simp; done)) (RD_fieldAddrO (cs := bs.flatMap Blk.cells0) 1 Try.runUnderlying34 rfl rfl Try.sizeOf3 rfl (by rw [blks_len]; omega)) Has.ro rfl ?_
    refine SQ_yes rfl rfl rfl (by first | rfl | (simp; done) | (simp [hag.2.1]; done) | (rw [hT3]; simp; done)) (RD_loadO (v := .int .i64 q.jb) (cs := bs.flatMap Blk.cells0) Try.isAgg3 rfl (blk_get hq 3 (by omega))) Has.ro rfl ?_
    refine SQ_one (SA_call rfl (.mk rfl rfl (by first | rfl | (simp; done) | (simp [hag.2.1]; done) | (rw [hT3]; simp; done))) Try.call37 (.cons rfl (.cons rfl (.nil))) (CallsK.at (tree_Parent p s d)) (lts rfl) ?_)
    rintro _ L15 ⟨rfl, hL15⟩
    rw [hg, show (some q).elim 0 Blk.jb = q.jb from rfl]
    refine ⟨.lands hL15 (.h Has.ro (.h Has.ro (.h Has.ro (.h Has.ro (.w rfl (.h Has.ro (.h Has.ro (.h Has.ro (.h Has.wh (.h Has.ro (.h Has.ro (.h Has.ro (.h Has.ro (.h Has.ro (.h Has.ro (.h Has.ro (.nil))))))))))))))))), ?_⟩
    refine SQ.lands hL15 ?_
    refine SQ_pyes rfl rfl rfl (by first | rfl | (simp; done) | (simp [hag.2.1]; done) | (rw [hT3]; simp; done)) (RD_neq rfl rfl) rfl ?_
    refine SQ_pu rfl (RD_pick_f rfl (by first | rfl | (simp; done) | (simp [hag.2.1]; done) | (rw [hT3]; simp; done)) rfl) rfl ?_
    refine SQ_nil ?_
    refine SN.le (l := [(1, _), (2, _), (3, _), (9, _), (10, _), (11, _), (12, _), (14, _), (121, _)]) ?_ (.cons rfl (.cons rfl (.cons rfl (.cons rfl (.cons rfl (.cons rfl (.cons rfl (.cons rfl (.cons rfl (.nil))))))))))
    refine SN_seq ?_
    refine SC_cond_false rfl (by simp) ?_
    refine SC_skip ?_
    refine SN_block ?_
    refine SN_seq ?_
    refine SC_region ?_
    refine SR_pu (RD_move rfl) rfl ?_
    refine SR_pu (RD_addi rfl rfl (by omega) (by omega)) rfl ?_
    refine SR_pu (RD_assign rfl) rfl ?_
    refine SR_nil ?_
    refine SN.le (l := [(1, _), (2, _), (3, _), (9, _), (10, _), (11, _), (12, _), (14, _)]) ?_ (.cons rfl (.cons rfl (.cons rfl (.cons rfl (.cons rfl (.cons rfl (.cons rfl (.cons rfl (.nil)))))))))
    refine SC_again (ih0 ((j + 1, blkL l1 q)) (⟨by dsimp only; omega, by have := hag.2.2; dsimp only; omega⟩) (by dsimp only; omega)) (.fin) (.cons rfl (.cons rfl (.cons rfl (.cons rfl (.cons rfl (.cons rfl (.cons rfl (.cons' rfl (ie (by dsimp only; omega)) (.nil)))))))))
  · clear ih0
    obtain ⟨o1, da, ba, ho1, hol1, hda, hba, hga, hva⟩ := hBI.at hm a
    obtain ⟨o2, db, bb, ho2, hol2, hdb, hbb, hgb, hvb⟩ := hBI.at hm b
    refine SC_exit rfl ?_
    refine SN_seq ?_
    refine SC_seq ?_
    refine SC_drawn (.cons 0 true (.cons 1 true (.cons 2 true (.cons 3 true (.cons 4 true (.cons 5 true (.cons 6 true (.cons 7 true (.cons 8 true (.cons 9 true (.cons 10 true (.cons 11 true (.nil))))))))))))) (by kernel_rfl) (by kernel_rfl) ?_
    refine SQ_pu rfl (RD_move rfl) rfl ?_
    refine SQ_pu rfl (RD_mask 8 rfl rfl rfl (by decide) 256 rfl) rfl ?_
    refine SQ_pu rfl (RD_move rfl) rfl ?_
    refine SQ_pu rfl (RD_len Try.runUnderlying22 rfl) rfl ?_
    refine SQ_pu rfl (RD_remi rfl rfl (by omega) (by omega)) rfl ?_
    refine SQ_pu rfl (RD_move rfl) rfl ?_
    refine SQ_pu rfl (RD_mask 8 rfl rfl rfl (by decide) 256 rfl) rfl ?_
    refine SQ_pu rfl (RD_move rfl) rfl ?_
    refine SQ_pu rfl (RD_len Try.runUnderlying22 rfl) rfl ?_
    refine SQ_pu rfl (RD_remi rfl rfl (by omega) (by omega)) rfl ?_
    refine SQ_pu rfl (RD_assign rfl) rfl ?_
    refine SQ_pu rfl (RD_assign rfl) rfl ?_
    refine SQ_nil ?_
    refine SN.le (l := [(1, _), (2, _), (3, _), (10, _), (11, _), (12, _)]) ?_ (.cons rfl (.cons rfl (.cons rfl (.cons rfl (.cons rfl (.cons rfl (.nil)))))))
    rw [ho1, ho2]
    refine SN_seq ?_
    refine SC_seq ?_
    refine SC_region ?_
    refine SR_pu (RD_move rfl) rfl ?_
    refine SR_pu (RD_move rfl) rfl ?_
    refine SR_pu (RD_move rfl) rfl ?_
    refine SR_call Try.call45 (.cons rfl (.cons rfl (.cons rfl (.nil)))) (law17_Way hBI hm ra ds.length rc rfl rfl ra2 bs.length rc2 rfl rfl o2 hol2) (lts rfl) ?_
    rintro _ L4 ⟨W, wa, wc, hWC, hWl, rfl, hL4⟩
    refine SR.lands hL4 ?_
    refine SR_pu (RD_assign rfl) rfl ?_
    refine SR_nil ?_
    refine SN.le (l := [(1, _), (2, _), (3, _), (10, _), (11, _), (17, _)]) ?_ (.cons rfl (.cons rfl (.cons rfl (.cons rfl (.cons rfl (.cons rfl (.nil)))))))
    refine SN_seq ?_
    refine SC_seq ?_
    refine SC_region ?_
    refine SR_pu (RD_assign rfl) rfl ?_
    refine SR_nil ?_
    refine SN.le (l := [(1, _), (2, _), (3, _), (10, _), (11, _), (17, _), (18, _)]) ?_ (.cons rfl (.cons rfl (.cons rfl (.cons rfl (.cons rfl (.cons rfl (.cons rfl (.nil))))))))
    refine SN_seq ?_
    refine SC_seq ?_
    refine SC_seq ?_
    refine SC_region ?_
    refine SR_pu (RD_assign rfl) rfl ?_
    refine SR_nil ?_
    refine SN.le (l := [(1, _), (2, _), (3, _), (10, _), (11, _), (17, _), (18, _), (19, _)]) ?_ (.cons rfl (.cons rfl (.cons rfl (.cons rfl (.cons rfl (.cons rfl (.cons rfl (.cons rfl (.nil)))))))))
    refine SN_seq ?_
    refine SC_block ?_
    refine SC_ind (X := Nat × Int) (fun x => x.1 ≤ W.length ∧ ((x.2 = -1 ∧ o1 ∉ W.take x.1) ∨ ∃ t : Nat, x.2 = t ∧ W[t]? = some o1)) (fun x => W.length - x.1) (fun x => [(1, .int .i64 (o1 : Nat)), (2, .int .i64 (o2 : Nat)), (3, .int .i64 raw), (10, .pointer (some ⟨p, 0, none⟩)), (11, .slice ra ds.length rc), (17, .slice wa W.length wc), (18, .int .i64 x.2), (19, .int .i64 (x.1 : Nat))]) (fun x => rowP 3 1 wa W.length wc (W.map natV) :: rowP 3 1 ra ds.length rc (ds.map intV) :: rowP 69 6 ra2 bs.length rc2 (bs.flatMap Blk.cells0) :: At treeI p s :: At worldI k ⟨l1, []⟩ :: F) ((0, -1)) (⟨by simp, .inl ⟨rfl, by simp⟩⟩) (.cons rfl (.cons rfl (.cons rfl (.cons rfl (.cons rfl (.cons rfl (.cons rfl (.cons rfl (.nil))))))))) (.fin) ?_
    intro ⟨j, on⟩ hi ih1
    obtain ⟨hj2, hon⟩ := hi
    dsimp only at hj2 hon ih1 ⊢
    refine SC_seq ?_
    refine SC_seq ?_
    refine SC_region ?_
    refine SR_pu (RD_move rfl) rfl ?_
    refine SR_pu (RD_move rfl) rfl ?_
    refine SR_pu (RD_len Try.runUnderlying22 rfl) rfl ?_
    refine SR_pu (RD_lss rfl rfl) rfl ?_
    refine SR_nil ?_
    refine SN.le (l := [(1, _), (2, _), (3, _), (10, _), (11, _), (17, _), (18, _), (19, _), (139, _)]) ?_ (.cons rfl (.cons rfl (.cons rfl (.cons rfl (.cons rfl (.cons rfl (.cons rfl (.cons rfl (.cons rfl (.nil))))))))))
    refine SN_seq ?_
    refine SC_cond rfl (fun hc139 => ?_) (fun hc139 => ?_)
    · have hjn : j < W.length := by simp at hc139; omega
      obtain ⟨z, hz⟩ : ∃ z, W[j]? = some z := ⟨_, List.getElem?_eq_getElem hjn⟩
      have htk : W.take (j + 1) = W.take j ++ [z] := by rw [List.take_add_one, hz]; rfl
      refine SC_skip ?_
      refine SN_seq ?_
      refine SC_seq ?_
      refine SC_block ?_
      refine SC_seq ?_
      refine SC_region ?_
      refine SR_pu (RD_move rfl) rfl ?_
      refine SR_pu (RD_move rfl) rfl ?_
      refine SR_rd (RD_ixO (cs := W.map natV) Try.runUnderlying22 Try.sizeOf3 rfl rfl (by simp) (by omega) (by omega)) Has.ro rfl ?_
      refine SR_rd (RD_loadO (v := natV z) (cs := W.map natV) Try.isAgg3 rfl (by simp [hz])) Has.ro rfl ?_
      refine SR_pu (RD_move rfl) rfl ?_
      refine SR_pu (RD_eql rfl rfl) rfl ?_
      refine SR_nil ?_
      refine SN.le (l := [(1, _), (2, _), (3, _), (10, _), (11, _), (17, _), (18, _), (19, _), (147, _)]) ?_ (.cons rfl (.cons rfl (.cons rfl (.cons rfl (.cons rfl (.cons rfl (.cons rfl (.cons rfl (.cons rfl (.nil))))))))))
      refine SN_seq ?_
      refine SC_cond rfl (fun hc147 => ?_) (fun hc147 => ?_)
      · have he : z = o1 := by simp at hc147; omega
        refine SC_region ?_
        refine SR_pu (RD_move rfl) rfl ?_
        refine SR_pu (RD_assign rfl) rfl ?_
        refine SR_nil ?_
        refine SN.le (l := [(1, _), (2, _), (3, _), (10, _), (11, _), (17, _), (18, _), (19, _)]) ?_ (.cons rfl (.cons rfl (.cons rfl (.cons rfl (.cons rfl (.cons rfl (.cons rfl (.cons rfl (.nil)))))))))
        refine SN_block ?_
        refine SN_seq ?_
        refine SC_region ?_
        refine SR_pu (RD_move rfl) rfl ?_
        refine SR_pu (RD_addi rfl rfl (by omega) (by omega)) rfl ?_
        refine SR_pu (RD_assign rfl) rfl ?_
        refine SR_nil ?_
        refine SN.le (l := [(1, _), (2, _), (3, _), (10, _), (11, _), (17, _), (18, _), (19, _)]) ?_ (.cons rfl (.cons rfl (.cons rfl (.cons rfl (.cons rfl (.cons rfl (.cons rfl (.cons rfl (.nil)))))))))
        refine SC_again (ih1 ((j + 1, (j : Int))) (⟨by dsimp only; omega, .inr ⟨j, rfl, by rw [hz, he]⟩⟩) (by dsimp only; omega)) (.fin) (.cons rfl (.cons rfl (.cons rfl (.cons rfl (.cons rfl (.cons rfl (.cons rfl (.cons' rfl (ie (by dsimp only; omega)) (.nil)))))))))
      · have he : ¬ z = o1 := by simp at hc147; omega
        refine SC_skip ?_
        refine SN_block ?_
        refine SN_seq ?_
        refine SC_region ?_
        refine SR_pu (RD_move rfl) rfl ?_
        refine SR_pu (RD_addi rfl rfl (by omega) (by omega)) rfl ?_
        refine SR_pu (RD_assign rfl) rfl ?_
        refine SR_nil ?_
        refine SN.le (l := [(1, _), (2, _), (3, _), (10, _), (11, _), (17, _), (18, _), (19, _)]) ?_ (.cons rfl (.cons rfl (.cons rfl (.cons rfl (.cons rfl (.cons rfl (.cons rfl (.cons rfl (.nil)))))))))
        refine SC_again (ih1 ((j + 1, on)) (⟨by dsimp only; omega, hon.imp (fun h => ⟨h.1, fun hx => by dsimp only at hx; rw [htk] at hx; rcases List.mem_append.1 hx with h2 | h2; exact h.2 h2; simp at h2; exact he h2.symm⟩) id⟩) (by dsimp only; omega)) (.fin) (.cons rfl (.cons rfl (.cons rfl (.cons rfl (.cons rfl (.cons rfl (.cons rfl (.cons' rfl (ie (by dsimp only; omega)) (.nil)))))))))
    · have hjn : j = W.length := by simp at hc139; omega
      rw [hjn, List.take_length] at hon
      clear ih1
      have hway := hWC.way hBI hda db hdb
      have hWlt := hWC.lt hlen hpos
      obtain ⟨T0, hT1, hT2, hT3, hT4, hT5⟩ : ∃ T0 : List Nat, (on = T0.length ∨ (on = -1 ∧ T0 = [])) ∧ ((s.way da db).getD [] = T0.reverse.map (dsF ds)) ∧ (s.way da db).isSome = decide (0 ≤ on) ∧ (∀ t z, T0[t]? = some z → W[t]? = some z) ∧ T0.length ≤ 101 := by
        rcases hon with ⟨h1, h2⟩ | ⟨t, h1, h2⟩
        · refine ⟨[], .inr ⟨h1, rfl⟩, by rw [hway.1 h2]; rfl, by rw [hway.1 h2, h1]; rfl, fun t z h => ?_, by simp⟩
          rw [List.getElem?_nil] at h; cases h
        · have h3 := (List.getElem?_eq_some_iff.1 h2).1
          refine ⟨W.take t, .inl (by rw [h1]; simp; omega), by rw [hway.2 t h2]; rfl, by rw [hway.2 t h2, h1]; simp, fun t2 z h => ?_, by simp; omega⟩
          rw [List.getElem?_take] at h
          split at h
          · exact h
          · cases h
      refine SC_exit rfl ?_
      refine SN_seq ?_
      refine SC_seq ?_
      refine SC_region ?_
      refine SR_pu (RD_assign rfl) rfl ?_
      refine SR_nil ?_
      refine SN.le (l := [(1, _), (2, _), (3, _), (10, _), (11, _), (17, _), (18, _), (20, _)]) ?_ (.cons rfl (.cons rfl (.cons rfl (.cons rfl (.cons rfl (.cons rfl (.cons rfl (.cons rfl (.nil)))))))))
      refine SN_seq ?_
      refine SC_seq ?_
      refine SC_seq ?_
      refine SC_region ?_
      refine SR_pu (RD_move rfl) rfl ?_
      refine SR_pu (RD_subi rfl rfl (by omega) (by omega)) rfl ?_
      refine SR_pu (RD_assign rfl) rfl ?_
      refine SR_nil ?_
      refine SN.le (l := [(1, _), (2, _), (3, _), (10, _), (11, _), (17, _), (18, _), (20, _), (21, _)]) ?_ (.cons rfl (.cons rfl (.cons rfl (.cons rfl (.cons rfl (.cons rfl (.cons rfl (.cons rfl (.cons rfl (.nil))))))))))
      refine SN_seq ?_
      refine SC_block ?_
      refine SC_ind (X := Int × Option Addr × Nat × List Int) (fun x => -2 ≤ x.1 ∧ x.1 ≤ T0.length - 1 ∧ x.2.2.2 = (((T0.drop (x.1 + 1).toNat).reverse).map (dsF ds))) (fun x => (x.1 + 2).toNat) (fun x => [(1, .int .i64 (o1 : Nat)), (2, .int .i64 (o2 : Nat)), (3, .int .i64 raw), (10, .pointer (some ⟨p, 0, none⟩)), (11, .slice ra ds.length rc), (17, .slice wa W.length wc), (18, .int .i64 on), (20, .slice x.2.1 x.2.2.2.length x.2.2.1), (21, .int .i64 x.1)]) (fun x => rowP 3 1 x.2.1 x.2.2.2.length x.2.2.1 (x.2.2.2.map intV) :: rowP 3 1 wa W.length wc (W.map natV) :: rowP 3 1 ra ds.length rc (ds.map intV) :: rowP 69 6 ra2 bs.length rc2 (bs.flatMap Blk.cells0) :: At treeI p s :: At worldI k ⟨l1, []⟩ :: F) ((on - 1, none, 0, [])) (⟨by dsimp only; omega, by dsimp only; rcases hT1 with h | ⟨h, h2⟩; omega; (rw [h2]; simp; omega), by dsimp only; rcases hT1 with h | ⟨h, h2⟩; (rw [h]; simp); (rw [h2]; simp)⟩) (.cons rfl (.cons rfl (.cons rfl (.cons rfl (.cons rfl (.cons rfl (.cons rfl (.cons rfl (.cons rfl (.nil)))))))))) ((row_new 3 1 none).trans (show Lands _ (rowP 3 1 none 0 0 [] :: rowP 3 1 wa W.length wc (W.map natV) :: rowP 3 1 ra ds.length rc (ds.map intV) :: rowP 69 6 ra2 bs.length rc2 (bs.flatMap Blk.cells0) :: At treeI p s :: At worldI k ⟨l1, []⟩ :: F) from .fin)) ?_
      intro ⟨i, ta, tc, wl⟩ hi ih2
      obtain ⟨hi1, hi2, hwl⟩ := hi
      dsimp only at hi1 hi2 hwl ih2 ⊢
      refine SC_seq ?_
      refine SC_seq ?_
      refine SC_region ?_
      refine SR_pu (RD_move rfl) rfl ?_
      refine SR_pu (RD_geq rfl rfl) rfl ?_
      refine SR_nil ?_
      refine SN.le (l := [(1, _), (2, _), (3, _), (10, _), (11, _), (17, _), (18, _), (20, _), (21, _), (152, _)]) ?_ (.cons rfl (.cons rfl (.cons rfl (.cons rfl (.cons rfl (.cons rfl (.cons rfl (.cons rfl (.cons rfl (.cons rfl (.nil)))))))))))
      refine SN_seq ?_
      refine SC_cond rfl (fun hc152 => ?_) (fun hc152 => ?_)
      · have hi0 : 0 ≤ i := by simpa using hc152
        obtain ⟨r, rfl⟩ : ∃ r : Nat, i = (r : Int) := ⟨i.toNat, by omega⟩
        have hrl : r < T0.length := by omega
        obtain ⟨z, hz⟩ : ∃ z, T0[r]? = some z := ⟨_, List.getElem?_eq_getElem hrl⟩
        have hzW := hT4 r z hz
        have hrW := (List.getElem?_eq_some_iff.1 hzW).1
        have hzl := hWlt z (List.mem_of_getElem? hzW)
        obtain ⟨d, hd⟩ : ∃ d, ds[z]? = some d := ⟨_, List.getElem?_eq_getElem hzl⟩
        have hwll : wl.length ≤ 101 := by rw [hwl]; simp; omega
        have hdrop : ((T0.drop r).reverse).map (dsF ds) = wl ++ [d] := by
          rw [hwl, List.drop_eq_getElem_cons hrl, show (((r : Nat) : Int) + 1).toNat = r + 1 by omega]
          have e : T0[r] = z := (List.getElem?_eq_some_iff.1 hz).2
          rw [e]
          simp [dsF, List.getD, hd]
        refine SC_skip ?_
        refine SN_seq ?_
        refine SC_seq ?_
        refine SC_block ?_
        refine SC_region ?_
        refine SR_pu (RD_move rfl) rfl ?_
        refine SR_pu (RD_move rfl) rfl ?_
        refine SR_pu (RD_move rfl) rfl ?_
        refine SR_pu (RD_move rfl) rfl ?_
        refine SR_rd (RD_ixO (i := (r : Nat)) (cs := W.map natV) Try.runUnderlying22 Try.sizeOf3 rfl rfl (by simp) (by omega) (by omega)) Has.ro rfl ?_
        refine SR_rd (RD_loadO (v := natV z) (cs := W.map natV) Try.isAgg3 rfl (by simp [hzW])) Has.ro rfl ?_
        refine SR_rd (RD_ixO (i := (z : Nat)) (cs := ds.map intV) Try.runUnderlying22 Try.sizeOf3 rfl rfl (by simp) (by omega) (by omega)) Has.ro rfl ?_
        refine SR_rd (RD_loadO (v := intV d) (cs := ds.map intV) Try.isAgg3 rfl (by simp [hd])) Has.ro rfl ?_
        refine SR_ox (OX_lit1 Try.underlying22 Try.type3 rfl rfl rfl rfl (.cons rfl (.nil)) (.cons rfl (.nil))) rfl ?_
        rintro _ _ ⟨b163, rfl, rfl⟩
        refine SR_ox (OX_app 1 Try.underlying22 Try.underlying22 Try.type3 rfl rfl rfl rfl rfl (by first | rfl | simp; done | (simp; omega)) 8 rfl (by omega) (by omega)) rfl ?_
        rintro _ _ ⟨a164, c164, rfl, rfl⟩
        refine SR_pu (RD_assign rfl) rfl ?_
        refine SR_nil ?_
        refine SN.le (l := [(1, _), (2, _), (3, _), (10, _), (11, _), (17, _), (18, _), (20, _), (21, _)]) ?_ (.cons rfl (.cons rfl (.cons rfl (.cons rfl (.cons rfl (.cons rfl (.cons rfl (.cons rfl (.cons rfl (.nil))))))))))
        refine SN_block ?_
        refine SN_seq ?_
        refine SC_region ?_
        refine SR_pu (RD_move rfl) rfl ?_
        refine SR_pu (RD_subi rfl rfl (by omega) (by omega)) rfl ?_
        refine SR_pu (RD_assign rfl) rfl ?_
        refine SR_nil ?_
        refine SN.le (l := [(1, _), (2, _), (3, _), (10, _), (11, _), (17, _), (18, _), (20, _), (21, _)]) ?_ (.cons rfl (.cons rfl (.cons rfl (.cons rfl (.cons rfl (.cons rfl (.cons rfl (.cons rfl (.cons rfl (.nil))))))))))
        refine SC_again (ih2 (((r : Int) - 1, a164, c164, wl ++ [d])) (⟨by dsimp only; omega, by dsimp only; omega, by dsimp only; rw [show ((r : Nat) : Int) - 1 + 1 = (r : Int) by omega, Int.toNat_natCast]; exact hdrop.symm⟩) (by dsimp only; omega)) (by dsimp only; simp only [List.map_append, List.map_cons, List.map_nil, List.length_append, List.length_cons, List.length_nil, Nat.zero_add, intV]; exact .fin) (.cons rfl (.cons rfl (.cons rfl (.cons rfl (.cons rfl (.cons rfl (.cons rfl (.cons' rfl (by dsimp only; simp) (.cons rfl (.nil))))))))))
      · have hi0 : i < 0 := by simpa using hc152
        have hwl2 : wl = T0.reverse.map (dsF ds) := by rw [hwl, show (i + 1).toNat = 0 by omega]; rfl
        have hwll : wl.length ≤ 101 := by rw [hwl2]; simpa using hT5
        clear ih2
        refine SC_exit rfl ?_
        refine SN_seq ?_
        refine SC_seq ?_
        refine SC_drawn (.cons 0 true (.cons 1 true (.cons 2 true (.cons 3 true (.cons 4 true (.cons 5 true (.cons 6 true (.cons 7 true (.cons 8 true (.cons 9 false (.cons 10 true (.cons 11 true (.cons 12 true (.cons 13 true (.cons 14 true (.nil)))))))))))))))) (by kernel_rfl) (by kernel_rfl) ?_
        refine SQ_pu rfl (RD_move rfl) rfl ?_
        refine SQ_pu rfl (RD_move rfl) rfl ?_
        refine SQ_pu rfl (RD_move rfl) rfl ?_
        refine SQ_rd rfl (RD_ixO (i := (o1 : Nat)) (cs := ds.map intV) Try.runUnderlying22 Try.sizeOf3 rfl rfl (by simp) (by omega) (by omega)) Has.ro rfl ?_
        refine SQ_rd rfl (RD_loadO (v := intV da) (cs := ds.map intV) Try.isAgg3 rfl (by simp [hda])) Has.ro rfl ?_
        refine SQ_pu rfl (RD_move rfl) rfl ?_
        refine SQ_pu rfl (RD_move rfl) rfl ?_
        refine SQ_rd rfl (RD_ixO (i := (o2 : Nat)) (cs := ds.map intV) Try.runUnderlying22 Try.sizeOf3 rfl rfl (by simp) (by omega) (by omega)) Has.ro rfl ?_
        refine SQ_rd rfl (RD_loadO (v := intV db) (cs := ds.map intV) Try.isAgg3 rfl (by simp [hdb])) Has.ro rfl ?_
        refine SQ_call rfl Try.call35 (.cons rfl (.cons rfl (.cons rfl (.nil)))) (CallsK.at (tree_Path_yes p s hBI.ok da db ⟨_, hga⟩ ⟨_, hgb⟩ hvb)) (lts rfl) ?_
        rintro _ L5 ⟨pa5, pc5, rfl, hL5⟩
        rw [hT2]
        rw [hT2] at hL5
        refine ⟨.lands hL5 (.w rfl (.h Has.ro (.w rfl (.h Has.ro (.nil))))), ?_⟩
        refine SQ.lands hL5 ?_
        refine SQ_pu rfl (RD_move rfl) rfl ?_
        refine SQ_pu rfl (RD_extract rfl rfl) rfl ?_
        refine SQ_pu rfl (RD_extract rfl rfl) rfl ?_
        refine SQ_pu rfl (RD_assign rfl) rfl ?_
        refine SQ_pu rfl (RD_assign rfl) rfl ?_
        refine SQ_nil ?_
        refine SN.le (l := [(1, _), (2, _), (3, _), (10, _), (11, _), (18, _), (20, _), (22, _), (23, _)]) ?_ (.cons rfl (.cons rfl (.cons rfl (.cons rfl (.cons rfl (.cons rfl (.cons rfl (.cons rfl (.cons rfl (.nil))))))))))
        refine SN_seq ?_
        refine SC_seq ?_
        refine SC_seq ?_
        refine SC_region ?_
        refine SR_pu (RD_move rfl) rfl ?_
        refine SR_pu (RD_move rfl) rfl ?_
        refine SR_pu (RD_geq rfl rfl) rfl ?_
        refine SR_pu (RD_neqB Try.underlying4 rfl rfl) rfl ?_
        refine SR_pu (RD_move rfl) rfl ?_
        refine SR_yes rfl rfl (by first | rfl | (simp; done) | (simp [hag.2.1]; done) | (rw [hT3]; simp; done)) ?_
        refine SR_pu (RD_move rfl) rfl ?_
        refine SR_yes rfl rfl (by first | rfl | (simp; done) | (simp [hag.2.1]; done) | (rw [hT3]; simp; done)) ?_
        refine SR_pu (RD_move rfl) rfl ?_
        refine SR_yes rfl rfl (by first | rfl | (simp; done) | (simp [hag.2.1]; done) | (rw [hT3]; simp; done)) ?_
        refine SR_call Try.call36 (.cons rfl (.cons rfl (.nil))) (ref_SameInts _ _ _ (T0.reverse.map (dsF ds)) rfl rfl _ _ _ wl rfl rfl (by simp; omega)) (lts rfl) ?_
        rintro _ L6 ⟨rfl, hL6⟩
        refine SR.lands hL6 ?_
        refine SR_yes rfl rfl (by first | rfl | (simp; done) | (simp [hag.2.1]; done) | (rw [hT3]; simp; done)) ?_
        refine SR_pu (RD_not rfl) rfl ?_
        refine SR_pu (RD_pick_f rfl (by first | rfl | (simp; done) | (simp [hag.2.1]; done) | (rw [hT3]; simp; done)) rfl) rfl ?_
        refine SR_nil ?_
        refine SN.le (l := [(1, _), (2, _), (3, _), (10, _), (11, _), (187, _)]) ?_ (.cons rfl (.cons rfl (.cons rfl (.cons rfl (.cons rfl (.cons rfl (.nil)))))))
        refine SN_seq ?_
        refine SC_cond_false rfl (by simp [hwl2]) ?_
        refine SC_skip ?_
        refine SN_seq ?_
        refine SC_seq ?_
        refine SC_seq ?_
        refine SC_region ?_
        refine SR_pu (RD_assign rfl) rfl ?_
        refine SR_nil ?_
        refine SN.le (l := [(1, _), (2, _), (3, _), (10, _), (11, _), (24, _)]) ?_ (.cons rfl (.cons rfl (.cons rfl (.cons rfl (.cons rfl (.cons rfl (.nil)))))))
        refine SN_seq ?_
        refine SC_block ?_
        refine SC_ind (X := Nat) (fun j => j ≤ ds.length ∧ ∀ t, t < j → ds[t]? ≠ some raw) (fun j => ds.length - j) (fun j => [(1, .int .i64 (o1 : Nat)), (2, .int .i64 (o2 : Nat)), (3, .int .i64 raw), (10, .pointer (some ⟨p, 0, none⟩)), (11, .slice ra ds.length rc), (24, .int .i64 (j : Nat))]) (fun j => rowP 3 1 ra ds.length rc (ds.map intV) :: rowP 69 6 ra2 bs.length rc2 (bs.flatMap Blk.cells0) :: At treeI p s :: At worldI k ⟨l1, []⟩ :: F) (0) (⟨by omega, fun t ht => by omega⟩) (.cons rfl (.cons rfl (.cons rfl (.cons rfl (.cons rfl (.cons rfl (.nil))))))) (.fin) ?_
        intro j hi ih3
        obtain ⟨hj3, hne⟩ := hi
        refine SC_seq ?_
        refine SC_seq ?_
        refine SC_region ?_
        refine SR_pu (RD_move rfl) rfl ?_
        refine SR_pu (RD_move rfl) rfl ?_
        refine SR_pu (RD_len Try.runUnderlying22 rfl) rfl ?_
        refine SR_pu (RD_lss rfl rfl) rfl ?_
        refine SR_nil ?_
        refine SN.le (l := [(1, _), (2, _), (3, _), (10, _), (11, _), (24, _), (191, _)]) ?_ (.cons rfl (.cons rfl (.cons rfl (.cons rfl (.cons rfl (.cons rfl (.cons rfl (.nil))))))))
        refine SN_seq ?_
        refine SC_cond rfl (fun hc191 => ?_) (fun hc191 => ?_)
        · have hjn : j < ds.length := by simp at hc191; omega
          obtain ⟨d, hd⟩ : ∃ d, ds[j]? = some d := ⟨_, List.getElem?_eq_getElem hjn⟩
          refine SC_skip ?_
          refine SN_seq ?_
          refine SC_seq ?_
          refine SC_block ?_
          refine SC_seq ?_
          refine SC_region ?_
          refine SR_pu (RD_move rfl) rfl ?_
          refine SR_pu (RD_move rfl) rfl ?_
          refine SR_rd (RD_ixO Try.runUnderlying22 Try.sizeOf3 rfl rfl (by first | assumption | (simp; done) | (simp; omega)) (by omega) (by omega)) Has.ro rfl ?_
          refine SR_rd (RD_loadO (v := intV d) (cs := ds.map intV) Try.isAgg3 rfl (by simp [hd])) Has.ro rfl ?_
          refine SR_pu (RD_move rfl) rfl ?_
          refine SR_pu (RD_eql rfl rfl) rfl ?_
          refine SR_nil ?_
          refine SN.le (l := [(1, _), (2, _), (3, _), (10, _), (11, _), (24, _), (199, _)]) ?_ (.cons rfl (.cons rfl (.cons rfl (.cons rfl (.cons rfl (.cons rfl (.cons rfl (.nil))))))))
          refine SN_seq ?_
          refine SC_cond rfl (fun hc199 => ?_) (fun hc199 => ?_)
          · refine SC_seq ?_
            refine SC_region ?_
            refine SR_call Try.call39 (.nil) (tree_awake) (lts rfl) ?_
            rintro _ L9 ⟨rfl, hL9⟩
            refine SR.lands hL9 ?_
            refine SR_pu (RD_assign rfl) rfl ?_
            refine SR_nil ?_
            refine SN.le (l := [(8, _)]) ?_ (.cons rfl (.nil))
            refine SN_seq ?_
            refine SC_ret1 rfl rfl ?_
            exact ⟨rfl, .fin⟩
          · have hdr : ¬ d = raw := by simpa using hc199
            refine SC_skip ?_
            refine SN_block ?_
            refine SN_seq ?_
            refine SC_region ?_
            refine SR_pu (RD_move rfl) rfl ?_
            refine SR_pu (RD_addi rfl rfl (by omega) (by omega)) rfl ?_
            refine SR_pu (RD_assign rfl) rfl ?_
            refine SR_nil ?_
            refine SN.le (l := [(1, _), (2, _), (3, _), (10, _), (11, _), (24, _)]) ?_ (.cons rfl (.cons rfl (.cons rfl (.cons rfl (.cons rfl (.cons rfl (.nil)))))))
            refine SC_again (ih3 (j + 1) (⟨by omega, fun t ht => by rcases Nat.lt_succ_iff_lt_or_eq.1 ht with h | h; exact hne t h; subst h; rw [hd]; exact fun e => hdr (Option.some.inj e)⟩) (by omega)) (.fin) (.cons rfl (.cons rfl (.cons rfl (.cons rfl (.cons rfl (.cons' rfl (ie (by omega)) (.nil)))))))
        · have hjn : j = ds.length := by simp at hc191; omega
          have hno : mget s.T raw = none := by
            cases h : mget s.T raw with
            | none => rfl
            | some x =>
              obtain ⟨t, ht, e⟩ := List.getElem_of_mem (hBI.mem _ _ h)
              exact absurd (by rw [List.getElem?_eq_getElem ht, e]) (hne t (by omega))
          clear ih3
          refine SC_exit rfl ?_
          refine SN_seq ?_
          refine SC_seq ?_
          refine SC_region ?_
          refine SR_pu (RD_move rfl) rfl ?_
          refine SR_pu (RD_move rfl) rfl ?_
          refine SR_call Try.call42 (.cons rfl (.cons rfl (.nil))) (CallsK.at (tree_Block p s raw)) (lts rfl) ?_
          rintro _ L16 ⟨b', rfl, hp', hf', hL16⟩
          rw [hno]
          refine SR.lands hL16 ?_
          refine SR_pu (RD_move rfl) rfl ?_
          refine SR_pu (RD_extract rfl rfl) rfl ?_
          refine SR_pu (RD_extract rfl rfl) rfl ?_
          refine SR_ox (OX_alloc Try.zeroValue69 rfl) rfl ?_
          rintro _ _ ⟨b25, rfl, rfl⟩
          refine SR_ox0 (OX_stA (vs := b'.cells) Try.sizeOf69 rfl rfl rfl rfl) ?_
          rintro _ _ rfl
          refine SR_pu (RD_assign rfl) rfl ?_
          refine SR_nil ?_
          refine SN.le (l := [(1, _), (2, _), (3, _), (10, _), (11, _), (26, _)]) ?_ (.cons rfl (.cons rfl (.cons rfl (.cons rfl (.cons rfl (.cons rfl (.nil)))))))
          refine SN_seq ?_
          refine SC_seq ?_
          refine SC_region ?_
          refine SR_pu (RD_move rfl) rfl ?_
          refine SR_pu (RD_move rfl) rfl ?_
          refine SR_pu (RD_move rfl) rfl ?_
          refine SR_pu (RD_move rfl) rfl ?_
          refine SR_rd (RD_ixO (i := (o2 : Nat)) (cs := ds.map intV) Try.runUnderlying22 Try.sizeOf3 rfl rfl (by simp) (by omega) (by omega)) Has.ro rfl ?_
          refine SR_rd (RD_loadO (v := intV db) (cs := ds.map intV) Try.isAgg3 rfl (by simp [hdb])) Has.ro rfl ?_
          refine SR_call Try.call35 (.cons rfl (.cons rfl (.cons rfl (.nil)))) (CallsK.at (tree_Path_no p s hBI.ok raw db (.inl hno))) (lts rfl) ?_
          rintro _ L17 ⟨rfl, hL17⟩
          refine SR.lands hL17 ?_
          refine SR_pu (RD_move rfl) rfl ?_
          refine SR_pu (RD_extract rfl rfl) rfl ?_
          refine SR_pu (RD_extract rfl rfl) rfl ?_
          refine SR_pu (RD_assign rfl) rfl ?_
          refine SR_pu (RD_assign rfl) rfl ?_
          refine SR_nil ?_
          refine SN.le (l := [(1, _), (3, _), (10, _), (11, _), (26, _), (28, _)]) ?_ (.cons rfl (.cons rfl (.cons rfl (.cons rfl (.cons rfl (.cons rfl (.nil)))))))
          refine SN_seq ?_
          refine SC_seq ?_
          refine SC_region ?_
          refine SR_pu (RD_move rfl) rfl ?_
          refine SR_pu (RD_move rfl) rfl ?_
          refine SR_pu (RD_move rfl) rfl ?_
          refine SR_rd (RD_ixO (i := (o1 : Nat)) (cs := ds.map intV) Try.runUnderlying22 Try.sizeOf3 rfl rfl (by simp) (by omega) (by omega)) Has.ro rfl ?_
          refine SR_rd (RD_loadO (v := intV da) (cs := ds.map intV) Try.isAgg3 rfl (by simp [hda])) Has.ro rfl ?_
          refine SR_pu (RD_move rfl) rfl ?_
          refine SR_call Try.call35 (.cons rfl (.cons rfl (.cons rfl (.nil)))) (CallsK.at (tree_Path_no p s hBI.ok da raw (.inr hno))) (lts rfl) ?_
          rintro _ L18 ⟨rfl, hL18⟩
          refine SR.lands hL18 ?_
          refine SR_pu (RD_move rfl) rfl ?_
          refine SR_pu (RD_extract rfl rfl) rfl ?_
          refine SR_pu (RD_extract rfl rfl) rfl ?_
          refine SR_pu (RD_assign rfl) rfl ?_
          refine SR_pu (RD_assign rfl) rfl ?_
          refine SR_nil ?_
          refine SN.le (l := [(3, _), (10, _), (26, _), (28, _), (30, _)]) ?_ (.cons rfl (.cons rfl (.cons rfl (.cons rfl (.cons rfl (.nil))))))
          refine SN_seq ?_
          refine SC_seq ?_
          refine SC_region ?_
          refine SR_pu (RD_move rfl) rfl ?_
          refine SR_pu (RD_not rfl) rfl ?_
          refine SR_pu (RD_move rfl) rfl ?_
          refine SR_yes rfl rfl (by first | rfl | exact decide_eq_true (by omega) | exact decide_eq_false (by omega) | decide | (simp; done) | (simp; omega)) ?_
          refine SR_pu (RD_move rfl) rfl ?_
          refine SR_yes rfl rfl (by first | rfl | exact decide_eq_true (by omega) | exact decide_eq_false (by omega) | decide | (simp; done) | (simp; omega)) ?_
          refine SR_pu (RD_not rfl) rfl ?_
          refine SR_pu (RD_pick_t rfl (by first | rfl | exact decide_eq_true (by omega) | exact decide_eq_false (by omega) | decide | (simp; done) | (simp; omega)) rfl) rfl ?_
          refine SR_pu (RD_move rfl) rfl ?_
          refine SR_yes rfl rfl (by first | rfl | exact decide_eq_true (by omega) | exact decide_eq_false (by omega) | decide | (simp; done) | (simp; omega)) ?_
          refine SR_pu (RD_move rfl) rfl ?_
          refine SR_yes rfl rfl (by first | rfl | exact decide_eq_true (by omega) | exact decide_eq_false (by omega) | decide | (simp; done) | (simp; omega)) ?_
          refine SR_pu (RD_not rfl) rfl ?_
          refine SR_pu (RD_pick_t rfl (by first | rfl | exact decide_eq_true (by omega) | exact decide_eq_false (by omega) | decide | (simp; done) | (simp; omega)) rfl) rfl ?_
          refine SR_pu (RD_move rfl) rfl ?_
          refine SR_yes rfl rfl (by first | rfl | exact decide_eq_true (by omega) | exact decide_eq_false (by omega) | decide | (simp; done) | (simp; omega)) ?_
          refine SR_pu (RD_move rfl) rfl ?_
          refine SR_yes rfl rfl (by first | rfl | exact decide_eq_true (by omega) | exact decide_eq_false (by omega) | decide | (simp; done) | (simp; omega)) ?_
          refine SR_pu (RD_move rfl) rfl ?_
          refine SR_yes rfl rfl (by first | rfl | exact decide_eq_true (by omega) | exact decide_eq_false (by omega) | decide | (simp; done) | (simp; omega)) ?_
          refine SR_call Try.call43 (.cons rfl (.cons rfl (.nil))) (CallsK.at (tree_Has p s raw)) (lts rfl) ?_
          rintro _ L19 ⟨rfl, hL19⟩
          rw [hno]
          refine SR.lands hL19 ?_
          refine SR_yes rfl rfl (by first | rfl | exact decide_eq_true (by omega) | exact decide_eq_false (by omega) | decide | (simp; done) | (simp; omega)) ?_
          refine SR_pu (RD_not rfl) rfl ?_
          refine SR_pu (RD_pick_t rfl (by first | rfl | exact decide_eq_true (by omega) | exact decide_eq_false (by omega) | decide | (simp; done) | (simp; omega)) rfl) rfl ?_
          refine SR_pu (RD_move rfl) rfl ?_
          refine SR_yes rfl rfl (by first | rfl | exact decide_eq_true (by omega) | exact decide_eq_false (by omega) | decide | (simp; done) | (simp; omega)) ?_
          refine SR_pu (RD_move rfl) rfl ?_
          refine SR_yes rfl rfl (by first | rfl | exact decide_eq_true (by omega) | exact decide_eq_false (by omega) | decide | (simp; done) | (simp; omega)) ?_
          refine SR_pu (RD_move rfl) rfl ?_
          refine SR_yes rfl rfl (by first | rfl | exact decide_eq_true (by omega) | exact decide_eq_false (by omega) | decide | (simp; done) | (simp; omega)) ?_
          refine SR_call Try.call38 (.cons rfl (.cons rfl (.nil))) (CallsK.at (tree_View p s raw)) (lts rfl) ?_
          rintro _ L20 ⟨rfl, hL20⟩
          rw [hno]
          refine SR.lands hL20 ?_
          refine SR_yes rfl rfl (by first | rfl | exact decide_eq_true (by omega) | exact decide_eq_false (by omega) | decide | (simp; done) | (simp; omega)) ?_
          refine SR_pu (RD_eql rfl rfl) rfl ?_
          refine SR_pu (RD_pick_t rfl (by first | rfl | exact decide_eq_true (by omega) | exact decide_eq_false (by omega) | decide | (simp; done) | (simp; omega)) rfl) rfl ?_
          refine SR_pu (RD_move rfl) rfl ?_
          refine SR_yes rfl rfl (by first | rfl | exact decide_eq_true (by omega) | exact decide_eq_false (by omega) | decide | (simp; done) | (simp; omega)) ?_
          refine SR_pu (RD_move rfl) rfl ?_
          refine SR_yes rfl rfl (by first | rfl | exact decide_eq_true (by omega) | exact decide_eq_false (by omega) | decide | (simp; done) | (simp; omega)) ?_
          refine SR_pu (RD_move rfl) rfl ?_
          refine SR_yes rfl rfl (by first | rfl | exact decide_eq_true (by omega) | exact decide_eq_false (by omega) | decide | (simp; done) | (simp; omega)) ?_
          refine SR_call Try.call37 (.cons rfl (.cons rfl (.nil))) (CallsK.at (tree_Parent p s raw)) (lts rfl) ?_
          rintro _ L21 ⟨rfl, hL21⟩
          rw [hno]
          refine SR.lands hL21 ?_
          refine SR_yes rfl rfl (by first | rfl | exact decide_eq_true (by omega) | exact decide_eq_false (by omega) | decide | (simp; done) | (simp; omega)) ?_
          refine SR_pu (RD_eql rfl rfl) rfl ?_
          refine SR_pu (RD_pick_t rfl (by first | rfl | exact decide_eq_true (by omega) | exact decide_eq_false (by omega) | decide | (simp; done) | (simp; omega)) rfl) rfl ?_
          refine SR_pu (RD_move rfl) rfl ?_
          refine SR_yes rfl rfl (by first | rfl | exact decide_eq_true (by omega) | exact decide_eq_false (by omega) | decide | (simp; done) | (simp; omega)) ?_
          refine SR_call Try.call39 (.nil) (tree_awake) (lts rfl) ?_
          rintro _ L9 ⟨rfl, hL9⟩
          refine SR.lands hL9 ?_
          refine SR_pu (RD_pick_t rfl (by first | rfl | exact decide_eq_true (by omega) | exact decide_eq_false (by omega) | decide | (simp; done) | (simp; omega)) rfl) rfl ?_
          refine SR_pu (RD_assign rfl) rfl ?_
          refine SR_nil ?_
          refine SN.le (l := [(8, _)]) ?_ (.cons rfl (.nil))
          refine SN_seq ?_
          refine SC_ret1 rfl rfl ?_
          exact ⟨rfl, .fin⟩

end Go.Proofs.Ytdmmaammpjdmbaa
