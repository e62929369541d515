/- Ways: the statement. -/
import Derived.Test.YtdmmaammpjdmbaaTw
namespace Go.Proofs.Ytdmmaammpjdmbaa
open Go Go.Proofs
set_option maxRecDepth 100000
theorem BI.rootD {w : Nat} {s : TS} {l : List (List UInt8)} {ds : List Int} {bs : List Blk} {m : Nat} (h : BI w s l ds bs m) : dnum l rootB = 1 := by
  have h1 := h.tl.root
  rw [h.root] at h1; omega
theorem BI.at {w : Nat} {s : TS} {l : List (List UInt8)} {ds : List Int} {bs : List Blk} {m : Nat} (h : BI w s l ds bs m) (hm : m ≤ 24) (z : Int) : ∃ (o : Nat) (d : Int) (b : Blk), z % 256 % (ds.length : Int) = (o : Int) ∧ o < ds.length ∧ ds[o]? = some d ∧ bs[o]? = some b ∧ mget s.T d = some b ∧ (viewOf (mget s.T d)).toNat ≤ 1000000 := by
  have hpos : 0 < ds.length := (List.getElem?_eq_some_iff.1 h.first).1
  have h1 := Int.emod_nonneg (z % 256) (show (ds.length : Int) ≠ 0 by omega)
  have h2 := Int.emod_lt_of_pos (z % 256) (show (0 : Int) < (ds.length : Int) by omega)
  have ho : (z % 256 % (ds.length : Int)).toNat < ds.length := by omega
  have hb : (z % 256 % (ds.length : Int)).toNat < bs.length := by rw [← h.len]; exact ho
  refine ⟨(z % 256 % (ds.length : Int)).toNat, ds[(z % 256 % (ds.length : Int)).toNat], bs[(z % 256 % (ds.length : Int)).toNat], by omega, ho, List.getElem?_eq_getElem ho, List.getElem?_eq_getElem hb, h.get _ _ _ (List.getElem?_eq_getElem ho) (List.getElem?_eq_getElem hb), ?_⟩
  rw [h.get _ _ _ (List.getElem?_eq_getElem ho) (List.getElem?_eq_getElem hb)]
  have := (h.flat _ (List.getElem_mem hb)).2.2.2
  show Int.toNat (Blk.view _) ≤ _
  omega

theorem law_TreeWays {W : World} {F : List HProp} [Abs F] (a0 : Option Addr) (n0 c0 : Nat) (l0 : List Int) [HasRow F a0 (l0.map intV)] (hn0 : l0.length = n0) (a b c : Int) :
    CallsK W Try.prog 7 #[.slice a0 n0 c0, .int .i64 a, .int .i64 b, .int .i64 c] (F) (fun v L => v = .bool true ∧ Lands L F) := by
  refine CallsK_enter (n := 181) Try.func7 rfl rfl rfl ?_
  refine SC_seq ?_
  refine SC_region ?_
  refine SR_pu (RD_assign rfl) rfl ?_
  refine SR_nil ?_
  refine SN.le (l := [(0, _), (1, _), (2, _), (3, _)]) ?_ (.cons rfl (.cons rfl (.cons rfl (.cons rfl (.nil)))))
  refine SN_seq ?_
  refine SC_seq ?_
  refine SC_region ?_
  refine SR_call Try.call15 (.cons rfl (.nil)) (enve_New 1) (lts rfl) ?_
  rintro _ L0 ⟨k, rfl, hL0⟩
  refine SR.lands hL0 ?_
  refine SR_pu (RD_assign rfl) rfl ?_
  refine SR_nil ?_
  refine SN.le (l := [(0, _), (1, _), (2, _), (3, _), (9, _)]) ?_ (.cons rfl (.cons rfl (.cons rfl (.cons rfl (.cons rfl (.nil))))))
  refine SN_seq ?_
  refine SC_seq ?_
  refine SC_seq ?_
  refine SC_region ?_
  refine SR_pu (RD_move rfl) rfl ?_
  refine SR_pu (RD_eqlP Try.underlying25 rfl rfl) rfl ?_
  refine SR_nil ?_
  refine SN.le (l := [(0, _), (1, _), (2, _), (3, _), (9, _), (32, _)]) ?_ (.cons rfl (.cons rfl (.cons rfl (.cons rfl (.cons rfl (.cons rfl (.nil)))))))
  refine SN_seq ?_
  refine SC_cond_false rfl (rfl) ?_
  refine SC_skip ?_
  refine SN_seq ?_
  refine SC_seq ?_
  refine SC_region ?_
  refine SR_pu (RD_move rfl) rfl ?_
  refine SR_call Try.call33 (.cons rfl (.nil)) (CallsK.at (tree_New k ⟨[], []⟩ (by simp) [rootB] 1 (by decide +kernel) (by decide +kernel))) (lts rfl) ?_
  rintro _ L1 ⟨p, rfl, hL1⟩
  try dsimp only at hL1
  change Lands L1 (At treeI p (tS0 k.p) :: _) at hL1
  refine SR.lands hL1 ?_
  refine SR_pu (RD_assign rfl) rfl ?_
  refine SR_nil ?_
  refine SN.le (l := [(0, _), (1, _), (2, _), (3, _), (9, _), (10, _)]) ?_ (.cons rfl (.cons rfl (.cons rfl (.cons rfl (.cons rfl (.cons rfl (.nil)))))))
  refine SN_seq ?_
  refine SC_seq ?_
  refine SC_seq ?_
  refine SC_region ?_
  refine SR_pu (RD_move rfl) rfl ?_
  refine SR_pu (RD_eqlP Try.underlying54 rfl rfl) rfl ?_
  refine SR_nil ?_
  refine SN.le (l := [(0, _), (1, _), (2, _), (3, _), (9, _), (10, _), (36, _)]) ?_ (.cons rfl (.cons rfl (.cons rfl (.cons rfl (.cons rfl (.cons rfl (.cons rfl (.nil))))))))
  refine SN_seq ?_
  refine SC_cond_false rfl (rfl) ?_
  refine SC_skip ?_
  refine SN_seq ?_
  refine SC_seq ?_
  refine SC_region ?_
  refine SR_pu (RD_move rfl) rfl ?_
  refine SR_pu (RD_move rfl) rfl ?_
  refine SR_pu (RD_move rfl) rfl ?_
  refine SR_call Try.call34 (.cons rfl (.cons rfl (.cons rfl (.nil)))) (CallsK.at2 (law17_Blocks k p a0 n0 c0 l0 rfl hn0)) (lts rfl) ?_
  rintro _ L2 ⟨⟨i, s, l, ra, rc, ra2, rc2, ds, bs⟩, rfl, ⟨m, hm, hBI⟩, hL2⟩
  dsimp only at hBI hL2 ⊢
  refine SR.lands hL2 ?_
  refine SR_pu (RD_move rfl) rfl ?_
  refine SR_pu (RD_extract rfl rfl) rfl ?_
  refine SR_pu (RD_extract rfl rfl) rfl ?_
  refine SR_pu (RD_extract rfl rfl) rfl ?_
  refine SR_pu (RD_assign rfl) rfl ?_
  refine SR_pu (RD_assign rfl) rfl ?_
  refine SR_pu (RD_assign rfl) rfl ?_
  refine SR_nil ?_
  refine SN.le (l := [(1, _), (2, _), (3, _), (9, _), (10, _), (11, _), (13, _)]) ?_ (.cons rfl (.cons rfl (.cons rfl (.cons rfl (.cons rfl (.cons rfl (.cons rfl (.nil))))))))
  refine SN_seq ?_
  refine SC_seq ?_
  refine SC_seq ?_
  refine SC_region ?_
  refine SR_pu (RD_move rfl) rfl ?_
  refine SR_pu (RD_not rfl) rfl ?_
  refine SR_nil ?_
  refine SN.le (l := [(1, _), (2, _), (3, _), (9, _), (10, _), (11, _), (46, _)]) ?_ (.cons rfl (.cons rfl (.cons rfl (.cons rfl (.cons rfl (.cons rfl (.cons rfl (.nil))))))))
  refine SN_seq ?_
  refine SC_cond_false rfl (rfl) ?_
  refine SC_skip ?_
  refine SN_seq ?_
  refine SC_seq ?_
  have hlen := hBI.len
  have hpos : 0 < ds.length := (List.getElem?_eq_some_iff.1 hBI.first).1
  obtain ⟨o1, dx, bx, ho1, hl1, hdx, hbx, hgx, hvx⟩ := hBI.at hm a
  obtain ⟨o2, dy, b1, ho2, hl2, hdy, hby, hgy, hvy⟩ := hBI.at hm b
  obtain ⟨o3, dz, bz, ho3, hl3, hdz, hbz, hgz, hvz⟩ := hBI.at hm c
  obtain ⟨rb, hrb, hrb0, _⟩ := hBI.ok.root
  rw [hBI.root] at hrb
  refine SC_drawn (.cons 0 true (.cons 1 true (.cons 2 true (.cons 3 true (.cons 4 true (.cons 5 true (.cons 6 true (.cons 7 true (.cons 8 true (.cons 9 true (.cons 10 true (.cons 11 true (.cons 12 true (.cons 13 true (.cons 14 true (.cons 15 true (.cons 16 true (.cons 17 true (.cons 18 true (.cons 19 true (.cons 20 true (.cons 21 true (.cons 22 true (.cons 23 true (.cons 24 true (.cons 25 true (.cons 26 true (.nil)))))))))))))))))))))))))))) (by kernel_rfl) (by kernel_rfl) ?_
  refine SQ_pu rfl (RD_move rfl) rfl ?_
  refine SQ_pu rfl (RD_move rfl) rfl ?_
  refine SQ_pu rfl (RD_mask 8 rfl rfl rfl (by decide) 256 rfl) rfl ?_
  refine SQ_pu rfl (RD_move rfl) rfl ?_
  refine SQ_pu rfl (RD_len Try.runUnderlying22 rfl) rfl ?_
  refine SQ_pu rfl (RD_remi rfl rfl (by omega) (by omega)) rfl ?_
  refine SQ_rd rfl (RD_ixO (i := (o1 : Nat)) (cs := ds.map intV) Try.runUnderlying22 Try.sizeOf3 rfl (congrArg some (ie ho1)) (by simp) (by omega) (by omega)) Has.ro rfl ?_
  refine SQ_rd rfl (RD_loadO (v := intV dx) (cs := ds.map intV) Try.isAgg3 rfl (by simp [hdx])) Has.ro rfl ?_
  refine SQ_pu rfl (RD_move rfl) rfl ?_
  refine SQ_pu rfl (RD_move rfl) rfl ?_
  refine SQ_pu rfl (RD_mask 8 rfl rfl rfl (by decide) 256 rfl) rfl ?_
  refine SQ_pu rfl (RD_move rfl) rfl ?_
  refine SQ_pu rfl (RD_len Try.runUnderlying22 rfl) rfl ?_
  refine SQ_pu rfl (RD_remi rfl rfl (by omega) (by omega)) rfl ?_
  refine SQ_rd rfl (RD_ixO (i := (o2 : Nat)) (cs := ds.map intV) Try.runUnderlying22 Try.sizeOf3 rfl (congrArg some (ie ho2)) (by simp) (by omega) (by omega)) Has.ro rfl ?_
  refine SQ_rd rfl (RD_loadO (v := intV dy) (cs := ds.map intV) Try.isAgg3 rfl (by simp [hdy])) Has.ro rfl ?_
  refine SQ_pu rfl (RD_move rfl) rfl ?_
  refine SQ_pu rfl (RD_move rfl) rfl ?_
  refine SQ_pu rfl (RD_mask 8 rfl rfl rfl (by decide) 256 rfl) rfl ?_
  refine SQ_pu rfl (RD_move rfl) rfl ?_
  refine SQ_pu rfl (RD_len Try.runUnderlying22 rfl) rfl ?_
  refine SQ_pu rfl (RD_remi rfl rfl (by omega) (by omega)) rfl ?_
  refine SQ_rd rfl (RD_ixO (i := (o3 : Nat)) (cs := ds.map intV) Try.runUnderlying22 Try.sizeOf3 rfl (congrArg some (ie ho3)) (by simp) (by omega) (by omega)) Has.ro rfl ?_
  refine SQ_rd rfl (RD_loadO (v := intV dz) (cs := ds.map intV) Try.isAgg3 rfl (by simp [hdz])) Has.ro rfl ?_
  refine SQ_pu rfl (RD_assign rfl) rfl ?_
  refine SQ_pu rfl (RD_assign rfl) rfl ?_
  refine SQ_pu rfl (RD_assign rfl) rfl ?_
  refine SQ_nil ?_
  refine SN.le (l := [(9, _), (10, _), (14, _), (15, _), (16, _)]) ?_ (.cons rfl (.cons rfl (.cons rfl (.cons rfl (.cons rfl (.nil))))))
  refine SN_seq ?_
  refine SC_seq ?_
  refine SC_region ?_
  refine SR_pu (RD_move rfl) rfl ?_
  refine SR_pu (RD_move rfl) rfl ?_
  refine SR_pu (RD_move rfl) rfl ?_
  refine SR_call Try.call35 (.cons rfl (.cons rfl (.cons rfl (.nil)))) (CallsK.at (tree_Path_yes p s hBI.ok dx dy ⟨_, hgx⟩ ⟨_, hgy⟩ hvy)) (lts rfl) ?_
  rintro _ L3 ⟨pa3, pc3, rfl, hL3⟩
  obtain ⟨P1, hP1⟩ : ∃ w, s.way dx dy = w := ⟨_, rfl⟩
  rw [hP1]
  rw [hP1] at hL3
  refine SR.lands hL3 ?_
  refine SR_pu (RD_move rfl) rfl ?_
  refine SR_pu (RD_extract rfl rfl) rfl ?_
  refine SR_pu (RD_extract rfl rfl) rfl ?_
  refine SR_pu (RD_assign rfl) rfl ?_
  refine SR_pu (RD_assign rfl) rfl ?_
  refine SR_nil ?_
  refine SN.le (l := [(9, _), (10, _), (14, _), (15, _), (16, _), (17, _), (18, _)]) ?_ (.cons rfl (.cons rfl (.cons rfl (.cons rfl (.cons rfl (.cons rfl (.cons rfl (.nil))))))))
  refine SN_seq ?_
  refine SC_seq ?_
  refine SC_region ?_
  refine SR_pu (RD_move rfl) rfl ?_
  refine SR_pu (RD_move rfl) rfl ?_
  refine SR_pu (RD_move rfl) rfl ?_
  refine SR_call Try.call35 (.cons rfl (.cons rfl (.cons rfl (.nil)))) (CallsK.at (tree_Path_yes p s hBI.ok dy dz ⟨_, hgy⟩ ⟨_, hgz⟩ hvz)) (lts rfl) ?_
  rintro _ L4 ⟨pa4, pc4, rfl, hL4⟩
  obtain ⟨P2, hP2⟩ : ∃ w, s.way dy dz = w := ⟨_, rfl⟩
  rw [hP2]
  rw [hP2] at hL4
  refine SR.lands hL4 ?_
  refine SR_pu (RD_move rfl) rfl ?_
  refine SR_pu (RD_extract rfl rfl) rfl ?_
  refine SR_pu (RD_extract rfl rfl) rfl ?_
  refine SR_pu (RD_assign rfl) rfl ?_
  refine SR_pu (RD_assign rfl) rfl ?_
  refine SR_nil ?_
  refine SN.le (l := [(9, _), (10, _), (14, _), (15, _), (16, _), (17, _), (18, _), (19, _), (20, _)]) ?_ (.cons rfl (.cons rfl (.cons rfl (.cons rfl (.cons rfl (.cons rfl (.cons rfl (.cons rfl (.cons rfl (.nil))))))))))
  refine SN_seq ?_
  refine SC_seq ?_
  refine SC_region ?_
  refine SR_pu (RD_move rfl) rfl ?_
  refine SR_pu (RD_move rfl) rfl ?_
  refine SR_pu (RD_move rfl) rfl ?_
  refine SR_call Try.call35 (.cons rfl (.cons rfl (.cons rfl (.nil)))) (CallsK.at (tree_Path_yes p s hBI.ok dx dz ⟨_, hgx⟩ ⟨_, hgz⟩ hvz)) (lts rfl) ?_
  rintro _ L5 ⟨pa5, pc5, rfl, hL5⟩
  obtain ⟨P3, hP3⟩ : ∃ w, s.way dx dz = w := ⟨_, rfl⟩
  rw [hP3]
  rw [hP3] at hL5
  refine SR.lands hL5 ?_
  refine SR_pu (RD_move rfl) rfl ?_
  refine SR_pu (RD_extract rfl rfl) rfl ?_
  refine SR_pu (RD_extract rfl rfl) rfl ?_
  refine SR_pu (RD_assign rfl) rfl ?_
  refine SR_pu (RD_assign rfl) rfl ?_
  refine SR_nil ?_
  refine SN.le (l := [(9, _), (10, _), (14, _), (15, _), (17, _), (18, _), (19, _), (20, _), (21, _), (22, _)]) ?_ (.cons rfl (.cons rfl (.cons rfl (.cons rfl (.cons rfl (.cons rfl (.cons rfl (.cons rfl (.cons rfl (.cons rfl (.nil)))))))))))
  refine SN_seq ?_
  refine SC_seq ?_
  refine SC_region ?_
  refine SR_pu (RD_move rfl) rfl ?_
  refine SR_pu (RD_move rfl) rfl ?_
  refine SR_pu (RD_move rfl) rfl ?_
  refine SR_call Try.call35 (.cons rfl (.cons rfl (.cons rfl (.nil)))) (CallsK.at (tree_Path_yes p s hBI.ok dy dx ⟨_, hgy⟩ ⟨_, hgx⟩ hvx)) (lts rfl) ?_
  rintro _ L6 ⟨pa6, pc6, rfl, hL6⟩
  obtain ⟨P4, hP4⟩ : ∃ w, s.way dy dx = w := ⟨_, rfl⟩
  rw [hP4]
  rw [hP4] at hL6
  refine SR.lands hL6 ?_
  refine SR_pu (RD_move rfl) rfl ?_
  refine SR_pu (RD_extract rfl rfl) rfl ?_
  refine SR_pu (RD_extract rfl rfl) rfl ?_
  refine SR_pu (RD_assign rfl) rfl ?_
  refine SR_pu (RD_assign rfl) rfl ?_
  refine SR_nil ?_
  refine SN.le (l := [(9, _), (10, _), (14, _), (15, _), (17, _), (18, _), (19, _), (20, _), (21, _), (22, _), (24, _)]) ?_ (.cons rfl (.cons rfl (.cons rfl (.cons rfl (.cons rfl (.cons rfl (.cons rfl (.cons rfl (.cons rfl (.cons rfl (.cons rfl (.nil))))))))))))
  refine SN_seq ?_
  refine SC_seq ?_
  refine SC_region ?_
  refine SR_pu (RD_move rfl) rfl ?_
  refine SR_pu (RD_move rfl) rfl ?_
  refine SR_call Try.call21 (.cons rfl (.nil)) (CallsK.at (cert_Root k ⟨l, []⟩ (by have := hBI.arena; dsimp only; omega) l 1 (dput_idem hBI.tl.rmem) hBI.rootD)) (lts rfl) ?_
  rintro _ L7 ⟨rfl, hL7⟩
  try dsimp only at hL7
  refine SR.lands hL7 ?_
  refine SR_pu (RD_move rfl) rfl ?_
  refine SR_call Try.call35 (.cons rfl (.cons rfl (.cons rfl (.nil)))) (CallsK.at (tree_Path_yes p s hBI.ok 1 dy ⟨_, hrb⟩ ⟨_, hgy⟩ hvy)) (lts rfl) ?_
  rintro _ L8 ⟨pa8, pc8, rfl, hL8⟩
  obtain ⟨P5, hP5⟩ : ∃ w, s.way 1 dy = w := ⟨_, rfl⟩
  rw [hP5]
  rw [hP5] at hL8
  refine SR.lands hL8 ?_
  refine SR_pu (RD_move rfl) rfl ?_
  refine SR_pu (RD_extract rfl rfl) rfl ?_
  refine SR_pu (RD_extract rfl rfl) rfl ?_
  refine SR_pu (RD_assign rfl) rfl ?_
  refine SR_pu (RD_assign rfl) rfl ?_
  refine SR_nil ?_
  refine SN.le (l := [(9, _), (10, _), (14, _), (15, _), (17, _), (18, _), (19, _), (20, _), (21, _), (22, _), (24, _), (25, _), (26, _)]) ?_ (.cons rfl (.cons rfl (.cons rfl (.cons rfl (.cons rfl (.cons rfl (.cons rfl (.cons rfl (.cons rfl (.cons rfl (.cons rfl (.cons rfl (.cons rfl (.nil))))))))))))))
  refine SN_seq ?_
  refine SC_seq ?_
  refine SC_seq ?_
  obtain ⟨r, hr⟩ := way_some hBI.ok b1.view.toNat dy b1 hgy rfl
  rw [hBI.root] at hr
  rw [hr] at hP5
  subst hP5
  have hrl : r.length ≤ 1000000 := by
    have h1 := (way_view hBI.ok hrb b1.view.toNat dy b1 hgy rfl r hr).1
    have h2 : b1.view.toNat ≤ 1000000 := by have h := hvy; rw [hgy] at h; exact h
    omega
  have h3 : ∀ p1 p2, P1 = some p1 → P2 = some p2 → P3 = some (p1 ++ p2) := fun p1 p2 e1 e2 => by rw [← hP3]; exact way_comp hBI.ok hgx hgy (hP1.trans e1) bz.view.toNat dz bz hgz rfl p2 (hP2.trans e2)
  have h4 : ∀ p1 p2, P1 = some p1 → P4 = some p2 → dx = dy := fun p1 p2 e1 e2 => way_anti hBI.ok hgx hgy (hP1.trans e1) (hP4.trans e2)
  have h6 : ∀ p2, P2 = some p2 → p2.length ≤ 1000000 := fun p2 e2 => by
    have h1 := (way_view hBI.ok hgy bz.view.toNat dz bz hgz rfl p2 (hP2.trans e2)).1
    have h2 : bz.view.toNat ≤ 1000000 := by have h := hvz; rw [hgz] at h; exact h
    have := hBI.ok.pos _ _ hgy
    omega
  have h5 : ∀ p1, P1 = some p1 → p1.length ≤ r.length := fun p1 e1 => way_len hBI.ok hgx hgy (hP1.trans e1) (by rw [hBI.root]; exact hr)
  refine SC_join2 (X := Unit) (fun x => [(9, .pointer (some ⟨k.p, 0, none⟩)), (10, .pointer (some ⟨p, 0, none⟩)), (15, .int .i64 dy), (17, .slice pa3 (P1.getD []).length pc3), (18, .bool P1.isSome), (25, .slice pa8 r.length pc8)]) (fun x => rowP 3 1 pa8 r.length pc8 (r.map intV) :: At treeI p s :: At worldI k ⟨l, []⟩ :: F) (fun x => ?_) (fun J0 => ?_)
  · refine SN_seq ?_
    refine SC_seq ?_
    refine SC_region ?_
    refine SR_pu (RD_move rfl) rfl ?_
    refine SR_call Try.call21 (.cons rfl (.nil)) (CallsK.at (cert_Root k ⟨l, []⟩ (by have := hBI.arena; dsimp only; omega) l 1 (dput_idem hBI.tl.rmem) hBI.rootD)) (lts rfl) ?_
    rintro _ L10 ⟨rfl, hL10⟩
    try dsimp only at hL10
    refine SR.lands hL10 ?_
    refine SR_pu (RD_assign rfl) rfl ?_
    refine SR_nil ?_
    refine SN.le (l := [(10, _), (15, _), (17, _), (18, _), (25, _), (27, _)]) ?_ (.cons rfl (.cons rfl (.cons rfl (.cons rfl (.cons rfl (.cons rfl (.nil)))))))
    refine SN_seq ?_
    refine SC_seq ?_
    refine SC_seq ?_
    refine SC_region ?_
    refine SR_pu (RD_move rfl) rfl ?_
    refine SR_pu (RD_len Try.runUnderlying22 rfl) rfl ?_
    refine SR_pu (RD_move rfl) rfl ?_
    refine SR_nil ?_
    refine SN.le (l := [(10, _), (15, _), (17, _), (18, _), (25, _), (27, _), (142, _), (143, _), (144, _)]) ?_ (.cons rfl (.cons rfl (.cons rfl (.cons rfl (.cons rfl (.cons rfl (.cons rfl (.cons rfl (.cons rfl (.nil))))))))))
    refine SN_seq ?_
    refine SC_block ?_
    have hch := way_chain hBI.ok (f := 1) b1.view.toNat dy b1 hgy rfl r hr
    refine SC_ind (X := Nat × Int) (fun x => x.1 ≤ r.length ∧ ((1 : Int) :: r)[x.1]? = some x.2) (fun x => r.length - x.1) (fun x => [(10, .pointer (some ⟨p, 0, none⟩)), (15, .int .i64 dy), (17, .slice pa3 (P1.getD []).length pc3), (18, .bool P1.isSome), (25, .slice pa8 r.length pc8), (27, .int .i64 x.2), (142, .slice pa8 r.length pc8), (143, .int .i64 (r.length : Nat)), (144, .int .i64 (x.1 : Nat))]) (fun x => rowP 3 1 pa8 r.length pc8 (r.map intV) :: At treeI p s :: At worldI k ⟨l, []⟩ :: F) ((0, 1)) (⟨by simp, by simp⟩) (.cons rfl (.cons rfl (.cons rfl (.cons rfl (.cons rfl (.cons rfl (.cons rfl (.cons rfl (.cons rfl (.nil)))))))))) (.fin) ?_
    intro ⟨j, at_⟩ hi ih
    obtain ⟨hj1, hat⟩ := hi
    dsimp only at hj1 hat ih ⊢
    refine SC_seq ?_
    refine SC_region ?_
    refine SR_pu (RD_lss rfl rfl) rfl ?_
    refine SR_nil ?_
    refine SN.le (l := [(10, _), (15, _), (17, _), (18, _), (25, _), (27, _), (142, _), (143, _), (144, _), (145, _)]) ?_ (.cons rfl (.cons rfl (.cons rfl (.cons rfl (.cons rfl (.cons rfl (.cons rfl (.cons rfl (.cons rfl (.cons rfl (.nil)))))))))))
    refine SN_seq ?_
    refine SC_seq ?_
    refine SC_cond rfl (fun hc145 => ?_) (fun hc145 => ?_)
    · have hjn : j < r.length := by simp at hc145; omega
      obtain ⟨d, hd⟩ : ∃ d, r[j]? = some d := ⟨_, List.getElem?_eq_getElem hjn⟩
      obtain ⟨cd, hcd, hcj, q, hq, hqv⟩ := hch.1 j d hd
      have hje : cd.jb = at_ := by rw [hat] at hcj; exact (Option.some.inj hcj).symm
      rw [hje] at hq
      refine SC_skip ?_
      refine SN_seq ?_
      refine SC_seq ?_
      refine SC_block ?_
      refine SC_seq ?_
      refine SC_region ?_
      refine SR_rd (RD_ixO Try.runUnderlying22 Try.sizeOf3 rfl rfl (by first | assumption | (simp; done) | (simp; omega)) (by omega) (by omega)) Has.ro rfl ?_
      refine SR_rd (RD_loadO (v := intV d) (cs := r.map intV) Try.isAgg3 rfl (by simp [hd])) Has.ro rfl ?_
      refine SR_pu (RD_assign rfl) rfl ?_
      refine SR_nil ?_
      refine SN.le (l := [(10, _), (15, _), (17, _), (18, _), (25, _), (27, _), (29, _), (142, _), (143, _), (144, _)]) ?_ (.cons rfl (.cons rfl (.cons rfl (.cons rfl (.cons rfl (.cons rfl (.cons rfl (.cons rfl (.cons rfl (.cons rfl (.nil)))))))))))
      refine SN_seq ?_
      refine SC_seq ?_
      refine SC_seq ?_
      refine SC_region ?_
      refine SR_pu (RD_move rfl) rfl ?_
      refine SR_pu (RD_move rfl) rfl ?_
      refine SR_call Try.call37 (.cons rfl (.cons rfl (.nil))) (CallsK.at (tree_Parent p s d)) (lts rfl) ?_
      rintro _ L11 ⟨rfl, hL11⟩
      rw [hcd]
      refine SR.lands hL11 ?_
      refine SR_pu (RD_move rfl) rfl ?_
      refine SR_pu (RD_neq rfl rfl) rfl ?_
      refine SR_pu (RD_move rfl) rfl ?_
      refine SR_yes rfl rfl (by simp [hje]) ?_
      refine SR_pu (RD_move rfl) rfl ?_
      refine SR_yes rfl rfl (by simp [hje]) ?_
      refine SR_pu (RD_move rfl) rfl ?_
      refine SR_yes rfl rfl (by simp [hje]) ?_
      refine SR_call Try.call38 (.cons rfl (.cons rfl (.nil))) (CallsK.at (tree_View p s d)) (lts rfl) ?_
      rintro _ L12 ⟨rfl, hL12⟩
      rw [hcd]
      refine SR.lands hL12 ?_
      refine SR_yes rfl rfl (by simp [hje]) ?_
      refine SR_pu (RD_move rfl) rfl ?_
      refine SR_yes rfl rfl (by simp [hje]) ?_
      refine SR_pu (RD_move rfl) rfl ?_
      refine SR_yes rfl rfl (by simp [hje]) ?_
      refine SR_call Try.call38 (.cons rfl (.cons rfl (.nil))) (CallsK.at (tree_View p s at_)) (lts rfl) ?_
      rintro _ L13 ⟨rfl, hL13⟩
      rw [hq]
      refine SR.lands hL13 ?_
      refine SR_yes rfl rfl (by simp [hje]) ?_
      refine SR_pu (RD_leq rfl rfl) rfl ?_
      refine SR_pu (RD_pick_f rfl (by simp [hje]) rfl) rfl ?_
      refine SR_nil ?_
      refine SN.le (l := [(10, _), (15, _), (17, _), (18, _), (25, _), (29, _), (142, _), (143, _), (144, _), (161, _)]) ?_ (.cons rfl (.cons rfl (.cons rfl (.cons rfl (.cons rfl (.cons rfl (.cons rfl (.cons rfl (.cons rfl (.cons rfl (.nil)))))))))))
      refine SN_seq ?_
      refine SC_cond_false rfl (decide_eq_false (by show ¬ cd.view ≤ q.view; omega)) ?_
      refine SC_skip ?_
      refine SN_seq ?_
      refine SC_region ?_
      refine SR_pu (RD_move rfl) rfl ?_
      refine SR_pu (RD_assign rfl) rfl ?_
      refine SR_nil ?_
      refine SN.le (l := [(10, _), (15, _), (17, _), (18, _), (25, _), (27, _), (142, _), (143, _), (144, _)]) ?_ (.cons rfl (.cons rfl (.cons rfl (.cons rfl (.cons rfl (.cons rfl (.cons rfl (.cons rfl (.cons rfl (.nil))))))))))
      refine SN_block ?_
      refine SN_seq ?_
      refine SC_region ?_
      refine SR_pu (RD_addi rfl rfl (by omega) (by omega)) rfl ?_
      refine SR_pu (RD_move rfl) rfl ?_
      refine SR_nil ?_
      refine SN.le (l := [(10, _), (15, _), (17, _), (18, _), (25, _), (27, _), (142, _), (143, _), (144, _)]) ?_ (.cons rfl (.cons rfl (.cons rfl (.cons rfl (.cons rfl (.cons rfl (.cons rfl (.cons rfl (.cons rfl (.nil))))))))))
      refine SC_again (ih ((j + 1, d)) (⟨by dsimp only; omega, by simp [hd]⟩) (by dsimp only; omega)) (.fin) (.cons rfl (.cons rfl (.cons rfl (.cons rfl (.cons rfl (.cons rfl (.cons rfl (.cons rfl (.cons' rfl (ie (by dsimp only; omega)) (.nil))))))))))
    · have hjn : j = r.length := by simp at hc145; omega
      have hay : at_ = dy := by have := hch.2; rw [← hjn, hat] at this; exact Option.some.inj this
      subst hay
      refine SC_exit rfl ?_
      refine SN_seq ?_
      refine SC_seq ?_
      rcases P1 with _ | p1
      · simp only [Option.getD_some, Option.getD_none, Option.isSome_some, Option.isSome_none]
        refine SC_region ?_
        refine SR_pu (RD_move rfl) rfl ?_
        refine SR_pu (RD_move rfl) rfl ?_
        refine SR_pu (RD_eql rfl rfl) rfl ?_
        refine SR_pu (RD_move rfl) rfl ?_
        refine SR_yes rfl rfl (by first | rfl | exact decide_eq_true (by omega) | exact decide_eq_false (by omega) | decide | (simp; done) | (simp; omega)) ?_
        refine SR_pu (RD_move rfl) rfl ?_
        refine SR_yes rfl rfl (by first | rfl | exact decide_eq_true (by omega) | exact decide_eq_false (by omega) | decide | (simp; done) | (simp; omega)) ?_
        refine SR_pu (RD_not rfl) rfl ?_
        refine SR_yes rfl rfl (by first | rfl | exact decide_eq_true (by omega) | exact decide_eq_false (by omega) | decide | (simp; done) | (simp; omega)) ?_
        refine SR_pu (RD_move rfl) rfl ?_
        refine SR_no rfl rfl (rfl) (lts rfl) ?_
        refine SR_no rfl rfl (rfl) (lts rfl) ?_
        refine SR_no rfl rfl (rfl) (lts rfl) ?_
        refine SR_no rfl rfl (rfl) (lts rfl) ?_
        refine SR_no rfl rfl (rfl) (lts rfl) ?_
        refine SR_yes rfl rfl (by first | rfl | exact decide_eq_true (by omega) | exact decide_eq_false (by omega) | decide | (simp; done) | (simp; omega)) ?_
        refine SR_pu (RD_pick_t rfl (rfl) rfl) rfl ?_
        refine SR_pu (RD_pick_t rfl (by first | rfl | exact decide_eq_true (by omega) | exact decide_eq_false (by omega) | decide | (simp; done) | (simp; omega)) rfl) rfl ?_
        refine SR_pu (RD_move rfl) rfl ?_
        refine SR_yes rfl rfl (by first | rfl | exact decide_eq_true (by omega) | exact decide_eq_false (by omega) | decide | (simp; done) | (simp; omega)) ?_
        refine SR_call Try.call39 (.nil) (tree_awake) (lts rfl) ?_
        rintro _ L14 ⟨rfl, hL14⟩
        refine SR.lands hL14 ?_
        refine SR_pu (RD_pick_t rfl (by first | rfl | exact decide_eq_true (by omega) | exact decide_eq_false (by omega) | decide | (simp; done) | (simp; omega)) rfl) rfl ?_
        refine SR_pu (RD_assign rfl) rfl ?_
        refine SR_nil ?_
        refine SN.le (l := [(8, _)]) ?_ (.cons rfl (.nil))
        refine SN_seq ?_
        refine SC_ret1 rfl rfl ?_
        exact ⟨rfl, .fin⟩
      · have hle := h5 p1 rfl
        simp only [Option.getD_some, Option.getD_none, Option.isSome_some, Option.isSome_none]
        refine SC_region ?_
        refine SR_pu (RD_move rfl) rfl ?_
        refine SR_pu (RD_move rfl) rfl ?_
        refine SR_pu (RD_eql rfl rfl) rfl ?_
        refine SR_pu (RD_move rfl) rfl ?_
        refine SR_yes rfl rfl (by first | rfl | exact decide_eq_true (by omega) | exact decide_eq_false (by omega) | decide | (simp; done) | (simp; omega)) ?_
        refine SR_pu (RD_move rfl) rfl ?_
        refine SR_yes rfl rfl (by first | rfl | exact decide_eq_true (by omega) | exact decide_eq_false (by omega) | decide | (simp; done) | (simp; omega)) ?_
        refine SR_pu (RD_not rfl) rfl ?_
        refine SR_yes rfl rfl (by first | rfl | exact decide_eq_true (by omega) | exact decide_eq_false (by omega) | decide | (simp; done) | (simp; omega)) ?_
        refine SR_pu (RD_move rfl) rfl ?_
        refine SR_yes rfl rfl (rfl) ?_
        refine SR_pu (RD_move rfl) rfl ?_
        refine SR_yes rfl rfl (rfl) ?_
        refine SR_pu (RD_len Try.runUnderlying22 rfl) rfl ?_
        refine SR_yes rfl rfl (rfl) ?_
        refine SR_pu (RD_move rfl) rfl ?_
        refine SR_yes rfl rfl (rfl) ?_
        refine SR_pu (RD_len Try.runUnderlying22 rfl) rfl ?_
        refine SR_yes rfl rfl (rfl) ?_
        refine SR_pu (RD_leq rfl rfl) rfl ?_
        refine SR_yes rfl rfl (by first | rfl | exact decide_eq_true (by omega) | exact decide_eq_false (by omega) | decide | (simp; done) | (simp; omega)) ?_
        refine SR_pu (RD_pick_f rfl (rfl) rfl) rfl ?_
        refine SR_pu (RD_pick_t rfl (by first | rfl | exact decide_eq_true (by omega) | exact decide_eq_false (by omega) | decide | (simp; done) | (simp; omega)) rfl) rfl ?_
        refine SR_pu (RD_move rfl) rfl ?_
        refine SR_yes rfl rfl (by first | rfl | exact decide_eq_true (by omega) | exact decide_eq_false (by omega) | decide | (simp; done) | (simp; omega)) ?_
        refine SR_call Try.call39 (.nil) (tree_awake) (lts rfl) ?_
        rintro _ L14 ⟨rfl, hL14⟩
        refine SR.lands hL14 ?_
        refine SR_pu (RD_pick_t rfl (by first | rfl | exact decide_eq_true (by omega) | exact decide_eq_false (by omega) | decide | (simp; done) | (simp; omega)) rfl) rfl ?_
        refine SR_pu (RD_assign rfl) rfl ?_
        refine SR_nil ?_
        refine SN.le (l := [(8, _)]) ?_ (.cons rfl (.nil))
        refine SN_seq ?_
        refine SC_ret1 rfl rfl ?_
        exact ⟨rfl, .fin⟩
  · clear hP1 hP2 hP3 hP4
    rcases P1 with _ | p1 <;> rcases P2 with _ | p2 <;> rcases P4 with _ | p4
    · simp only [Option.getD_some, Option.getD_none, Option.isSome_some, Option.isSome_none]
      refine SC_region ?_
      refine SR_pu (RD_move rfl) rfl ?_
      refine SR_pu (RD_not rfl) rfl ?_
      refine SR_pu (RD_move rfl) rfl ?_
      refine SR_yes rfl rfl (by first | rfl | simp) ?_
      refine SR_pu (RD_move rfl) rfl ?_
      refine SR_yes rfl rfl (by first | rfl | simp) ?_
      refine SR_pu (RD_move rfl) rfl ?_
      refine SR_no rfl rfl (by first | rfl | simp) (lts rfl) ?_
      refine SR_yes rfl rfl (by first | rfl | simp) ?_
      refine SR_pu (RD_pick_f rfl (by first | rfl | simp) rfl) rfl ?_
      refine SR_yes rfl rfl (by first | rfl | simp) ?_
      refine SR_pu (RD_move rfl) rfl ?_
      refine SR_no rfl rfl (by first | rfl | simp) (lts rfl) ?_
      refine SR_no rfl rfl (by first | rfl | simp) (lts rfl) ?_
      refine SR_no rfl rfl (by first | rfl | simp) (lts rfl) ?_
      refine SR_nou  rfl rfl (lts rfl) ?_
      refine SR_nou  rfl rfl (lts rfl) ?_
      refine SR_nou  rfl rfl (lts rfl) ?_
      refine SR_nou  rfl rfl (lts rfl) ?_
      refine SR_nou  rfl rfl (lts rfl) ?_
      refine SR_nou  rfl rfl (lts rfl) ?_
      refine SR_nou  rfl rfl (lts rfl) ?_
      refine SR_nou  rfl rfl (lts rfl) ?_
      refine SR_no rfl rfl (by first | rfl | simp) (lts rfl) ?_
      refine SR_yes rfl rfl (by first | rfl | simp) ?_
      refine SR_pu (RD_pick_f rfl (by first | rfl | simp) rfl) rfl ?_
      refine SR_pu (RD_pick_f rfl (by first | rfl | simp) rfl) rfl ?_
      refine SR_pu (RD_move rfl) rfl ?_
      refine SR_yes rfl rfl (by first | rfl | simp) ?_
      refine SR_pu (RD_move rfl) rfl ?_
      refine SR_yes rfl rfl (by first | rfl | simp) ?_
      refine SR_pu (RD_move rfl) rfl ?_
      refine SR_no rfl rfl (by first | rfl | simp) (lts rfl) ?_
      refine SR_yes rfl rfl (by first | rfl | simp) ?_
      refine SR_pu (RD_pick_f rfl (by first | rfl | simp) rfl) rfl ?_
      refine SR_yes rfl rfl (by first | rfl | simp) ?_
      refine SR_pu (RD_move rfl) rfl ?_
      refine SR_no rfl rfl (by first | rfl | simp) (lts rfl) ?_
      refine SR_no rfl rfl (by first | rfl | simp) (lts rfl) ?_
      refine SR_no rfl rfl (by first | rfl | simp) (lts rfl) ?_
      refine SR_yes rfl rfl (by first | rfl | simp) ?_
      refine SR_pu (RD_pick_f rfl (by first | rfl | simp) rfl) rfl ?_
      refine SR_pu (RD_pick_f rfl (by first | rfl | simp) rfl) rfl ?_
      refine SR_nil ?_
      refine SN.le (l := [(9, _), (10, _), (15, _), (17, _), (18, _), (25, _), (139, _)]) ?_ (.cons rfl (.cons rfl (.cons rfl (.cons rfl (.cons rfl (.cons rfl (.cons rfl (.nil))))))))
      refine SN_seq ?_
      refine SC_cond_false rfl (by first | rfl | (simp [hxy]; done) | (simp; done)) ?_
      refine SC_skip ?_
      exact J0 (()) _ _ (.cons rfl (.cons rfl (.cons rfl (.cons rfl (.cons rfl (.cons rfl (.nil))))))) (.fin)
    · simp only [Option.getD_some, Option.getD_none, Option.isSome_some, Option.isSome_none]
      refine SC_region ?_
      refine SR_pu (RD_move rfl) rfl ?_
      refine SR_pu (RD_not rfl) rfl ?_
      refine SR_pu (RD_move rfl) rfl ?_
      refine SR_yes rfl rfl (by first | rfl | simp) ?_
      refine SR_pu (RD_move rfl) rfl ?_
      refine SR_yes rfl rfl (by first | rfl | simp) ?_
      refine SR_pu (RD_move rfl) rfl ?_
      refine SR_no rfl rfl (by first | rfl | simp) (lts rfl) ?_
      refine SR_yes rfl rfl (by first | rfl | simp) ?_
      refine SR_pu (RD_pick_f rfl (by first | rfl | simp) rfl) rfl ?_
      refine SR_yes rfl rfl (by first | rfl | simp) ?_
      refine SR_pu (RD_move rfl) rfl ?_
      refine SR_no rfl rfl (by first | rfl | simp) (lts rfl) ?_
      refine SR_no rfl rfl (by first | rfl | simp) (lts rfl) ?_
      refine SR_no rfl rfl (by first | rfl | simp) (lts rfl) ?_
      refine SR_nou  rfl rfl (lts rfl) ?_
      refine SR_nou  rfl rfl (lts rfl) ?_
      refine SR_nou  rfl rfl (lts rfl) ?_
      refine SR_nou  rfl rfl (lts rfl) ?_
      refine SR_nou  rfl rfl (lts rfl) ?_
      refine SR_nou  rfl rfl (lts rfl) ?_
      refine SR_nou  rfl rfl (lts rfl) ?_
      refine SR_nou  rfl rfl (lts rfl) ?_
      refine SR_no rfl rfl (by first | rfl | simp) (lts rfl) ?_
      refine SR_yes rfl rfl (by first | rfl | simp) ?_
      refine SR_pu (RD_pick_f rfl (by first | rfl | simp) rfl) rfl ?_
      refine SR_pu (RD_pick_f rfl (by first | rfl | simp) rfl) rfl ?_
      refine SR_pu (RD_move rfl) rfl ?_
      refine SR_yes rfl rfl (by first | rfl | simp) ?_
      refine SR_pu (RD_move rfl) rfl ?_
      refine SR_yes rfl rfl (by first | rfl | simp) ?_
      refine SR_pu (RD_move rfl) rfl ?_
      refine SR_no rfl rfl (by first | rfl | simp) (lts rfl) ?_
      refine SR_yes rfl rfl (by first | rfl | simp) ?_
      refine SR_pu (RD_pick_f rfl (by first | rfl | simp) rfl) rfl ?_
      refine SR_yes rfl rfl (by first | rfl | simp) ?_
      refine SR_pu (RD_move rfl) rfl ?_
      refine SR_no rfl rfl (by first | rfl | simp) (lts rfl) ?_
      refine SR_no rfl rfl (by first | rfl | simp) (lts rfl) ?_
      refine SR_no rfl rfl (by first | rfl | simp) (lts rfl) ?_
      refine SR_yes rfl rfl (by first | rfl | simp) ?_
      refine SR_pu (RD_pick_f rfl (by first | rfl | simp) rfl) rfl ?_
      refine SR_pu (RD_pick_f rfl (by first | rfl | simp) rfl) rfl ?_
      refine SR_nil ?_
      refine SN.le (l := [(9, _), (10, _), (15, _), (17, _), (18, _), (25, _), (139, _)]) ?_ (.cons rfl (.cons rfl (.cons rfl (.cons rfl (.cons rfl (.cons rfl (.cons rfl (.nil))))))))
      refine SN_seq ?_
      refine SC_cond_false rfl (by first | rfl | (simp [hxy]; done) | (simp; done)) ?_
      refine SC_skip ?_
      exact J0 (()) _ _ (.cons rfl (.cons rfl (.cons rfl (.cons rfl (.cons rfl (.cons rfl (.nil))))))) (.fin)
    · simp only [Option.getD_some, Option.getD_none, Option.isSome_some, Option.isSome_none]
      refine SC_region ?_
      refine SR_pu (RD_move rfl) rfl ?_
      refine SR_pu (RD_not rfl) rfl ?_
      refine SR_pu (RD_move rfl) rfl ?_
      refine SR_yes rfl rfl (by first | rfl | simp) ?_
      refine SR_pu (RD_move rfl) rfl ?_
      refine SR_yes rfl rfl (by first | rfl | simp) ?_
      refine SR_pu (RD_move rfl) rfl ?_
      refine SR_no rfl rfl (by first | rfl | simp) (lts rfl) ?_
      refine SR_yes rfl rfl (by first | rfl | simp) ?_
      refine SR_pu (RD_pick_f rfl (by first | rfl | simp) rfl) rfl ?_
      refine SR_yes rfl rfl (by first | rfl | simp) ?_
      refine SR_pu (RD_move rfl) rfl ?_
      refine SR_no rfl rfl (by first | rfl | simp) (lts rfl) ?_
      refine SR_no rfl rfl (by first | rfl | simp) (lts rfl) ?_
      refine SR_no rfl rfl (by first | rfl | simp) (lts rfl) ?_
      refine SR_nou  rfl rfl (lts rfl) ?_
      refine SR_nou  rfl rfl (lts rfl) ?_
      refine SR_nou  rfl rfl (lts rfl) ?_
      refine SR_nou  rfl rfl (lts rfl) ?_
      refine SR_nou  rfl rfl (lts rfl) ?_
      refine SR_nou  rfl rfl (lts rfl) ?_
      refine SR_nou  rfl rfl (lts rfl) ?_
      refine SR_nou  rfl rfl (lts rfl) ?_
      refine SR_no rfl rfl (by first | rfl | simp) (lts rfl) ?_
      refine SR_yes rfl rfl (by first | rfl | simp) ?_
      refine SR_pu (RD_pick_f rfl (by first | rfl | simp) rfl) rfl ?_
      refine SR_pu (RD_pick_f rfl (by first | rfl | simp) rfl) rfl ?_
      refine SR_pu (RD_move rfl) rfl ?_
      refine SR_yes rfl rfl (by first | rfl | simp) ?_
      refine SR_pu (RD_move rfl) rfl ?_
      refine SR_yes rfl rfl (by first | rfl | simp) ?_
      refine SR_pu (RD_move rfl) rfl ?_
      refine SR_no rfl rfl (by first | rfl | simp) (lts rfl) ?_
      refine SR_yes rfl rfl (by first | rfl | simp) ?_
      refine SR_pu (RD_pick_f rfl (by first | rfl | simp) rfl) rfl ?_
      refine SR_yes rfl rfl (by first | rfl | simp) ?_
      refine SR_pu (RD_move rfl) rfl ?_
      refine SR_no rfl rfl (by first | rfl | simp) (lts rfl) ?_
      refine SR_no rfl rfl (by first | rfl | simp) (lts rfl) ?_
      refine SR_no rfl rfl (by first | rfl | simp) (lts rfl) ?_
      refine SR_yes rfl rfl (by first | rfl | simp) ?_
      refine SR_pu (RD_pick_f rfl (by first | rfl | simp) rfl) rfl ?_
      refine SR_pu (RD_pick_f rfl (by first | rfl | simp) rfl) rfl ?_
      refine SR_nil ?_
      refine SN.le (l := [(9, _), (10, _), (15, _), (17, _), (18, _), (25, _), (139, _)]) ?_ (.cons rfl (.cons rfl (.cons rfl (.cons rfl (.cons rfl (.cons rfl (.cons rfl (.nil))))))))
      refine SN_seq ?_
      refine SC_cond_false rfl (by first | rfl | (simp [hxy]; done) | (simp; done)) ?_
      refine SC_skip ?_
      exact J0 (()) _ _ (.cons rfl (.cons rfl (.cons rfl (.cons rfl (.cons rfl (.cons rfl (.nil))))))) (.fin)
    · simp only [Option.getD_some, Option.getD_none, Option.isSome_some, Option.isSome_none]
      refine SC_region ?_
      refine SR_pu (RD_move rfl) rfl ?_
      refine SR_pu (RD_not rfl) rfl ?_
      refine SR_pu (RD_move rfl) rfl ?_
      refine SR_yes rfl rfl (by first | rfl | simp) ?_
      refine SR_pu (RD_move rfl) rfl ?_
      refine SR_yes rfl rfl (by first | rfl | simp) ?_
      refine SR_pu (RD_move rfl) rfl ?_
      refine SR_no rfl rfl (by first | rfl | simp) (lts rfl) ?_
      refine SR_yes rfl rfl (by first | rfl | simp) ?_
      refine SR_pu (RD_pick_f rfl (by first | rfl | simp) rfl) rfl ?_
      refine SR_yes rfl rfl (by first | rfl | simp) ?_
      refine SR_pu (RD_move rfl) rfl ?_
      refine SR_no rfl rfl (by first | rfl | simp) (lts rfl) ?_
      refine SR_no rfl rfl (by first | rfl | simp) (lts rfl) ?_
      refine SR_no rfl rfl (by first | rfl | simp) (lts rfl) ?_
      refine SR_nou  rfl rfl (lts rfl) ?_
      refine SR_nou  rfl rfl (lts rfl) ?_
      refine SR_nou  rfl rfl (lts rfl) ?_
      refine SR_nou  rfl rfl (lts rfl) ?_
      refine SR_nou  rfl rfl (lts rfl) ?_
      refine SR_nou  rfl rfl (lts rfl) ?_
      refine SR_nou  rfl rfl (lts rfl) ?_
      refine SR_nou  rfl rfl (lts rfl) ?_
      refine SR_no rfl rfl (by first | rfl | simp) (lts rfl) ?_
      refine SR_yes rfl rfl (by first | rfl | simp) ?_
      refine SR_pu (RD_pick_f rfl (by first | rfl | simp) rfl) rfl ?_
      refine SR_pu (RD_pick_f rfl (by first | rfl | simp) rfl) rfl ?_
      refine SR_pu (RD_move rfl) rfl ?_
      refine SR_yes rfl rfl (by first | rfl | simp) ?_
      refine SR_pu (RD_move rfl) rfl ?_
      refine SR_yes rfl rfl (by first | rfl | simp) ?_
      refine SR_pu (RD_move rfl) rfl ?_
      refine SR_no rfl rfl (by first | rfl | simp) (lts rfl) ?_
      refine SR_yes rfl rfl (by first | rfl | simp) ?_
      refine SR_pu (RD_pick_f rfl (by first | rfl | simp) rfl) rfl ?_
      refine SR_yes rfl rfl (by first | rfl | simp) ?_
      refine SR_pu (RD_move rfl) rfl ?_
      refine SR_no rfl rfl (by first | rfl | simp) (lts rfl) ?_
      refine SR_no rfl rfl (by first | rfl | simp) (lts rfl) ?_
      refine SR_no rfl rfl (by first | rfl | simp) (lts rfl) ?_
      refine SR_yes rfl rfl (by first | rfl | simp) ?_
      refine SR_pu (RD_pick_f rfl (by first | rfl | simp) rfl) rfl ?_
      refine SR_pu (RD_pick_f rfl (by first | rfl | simp) rfl) rfl ?_
      refine SR_nil ?_
      refine SN.le (l := [(9, _), (10, _), (15, _), (17, _), (18, _), (25, _), (139, _)]) ?_ (.cons rfl (.cons rfl (.cons rfl (.cons rfl (.cons rfl (.cons rfl (.cons rfl (.nil))))))))
      refine SN_seq ?_
      refine SC_cond_false rfl (by first | rfl | (simp [hxy]; done) | (simp; done)) ?_
      refine SC_skip ?_
      exact J0 (()) _ _ (.cons rfl (.cons rfl (.cons rfl (.cons rfl (.cons rfl (.cons rfl (.nil))))))) (.fin)
    · simp only [Option.getD_some, Option.getD_none, Option.isSome_some, Option.isSome_none]
      refine SC_region ?_
      refine SR_pu (RD_move rfl) rfl ?_
      refine SR_pu (RD_not rfl) rfl ?_
      refine SR_pu (RD_move rfl) rfl ?_
      refine SR_yes rfl rfl (by first | rfl | simp) ?_
      refine SR_pu (RD_move rfl) rfl ?_
      refine SR_yes rfl rfl (by first | rfl | simp) ?_
      refine SR_pu (RD_move rfl) rfl ?_
      refine SR_yes rfl rfl (by first | rfl | simp) ?_
      refine SR_pu (RD_move rfl) rfl ?_
      refine SR_yes rfl rfl (by first | rfl | simp) ?_
      refine SR_pu (RD_pick_t rfl (by first | rfl | simp) rfl) rfl ?_
      refine SR_yes rfl rfl (by first | rfl | simp) ?_
      refine SR_pu (RD_move rfl) rfl ?_
      refine SR_no rfl rfl (by first | rfl | simp) (lts rfl) ?_
      refine SR_no rfl rfl (by first | rfl | simp) (lts rfl) ?_
      refine SR_no rfl rfl (by first | rfl | simp) (lts rfl) ?_
      refine SR_nou  rfl rfl (lts rfl) ?_
      refine SR_nou  rfl rfl (lts rfl) ?_
      refine SR_nou  rfl rfl (lts rfl) ?_
      refine SR_nou  rfl rfl (lts rfl) ?_
      refine SR_nou  rfl rfl (lts rfl) ?_
      refine SR_nou  rfl rfl (lts rfl) ?_
      refine SR_nou  rfl rfl (lts rfl) ?_
      refine SR_nou  rfl rfl (lts rfl) ?_
      refine SR_no rfl rfl (by first | rfl | simp) (lts rfl) ?_
      refine SR_yes rfl rfl (by first | rfl | simp) ?_
      refine SR_pu (RD_pick_f rfl (by first | rfl | simp) rfl) rfl ?_
      refine SR_pu (RD_pick_f rfl (by first | rfl | simp) rfl) rfl ?_
      refine SR_pu (RD_move rfl) rfl ?_
      refine SR_yes rfl rfl (by first | rfl | simp) ?_
      refine SR_pu (RD_move rfl) rfl ?_
      refine SR_yes rfl rfl (by first | rfl | simp) ?_
      refine SR_pu (RD_move rfl) rfl ?_
      refine SR_yes rfl rfl (by first | rfl | simp) ?_
      refine SR_pu (RD_move rfl) rfl ?_
      refine SR_yes rfl rfl (by first | rfl | simp) ?_
      refine SR_pu (RD_pick_t rfl (by first | rfl | simp) rfl) rfl ?_
      refine SR_yes rfl rfl (by first | rfl | simp) ?_
      refine SR_pu (RD_move rfl) rfl ?_
      refine SR_no rfl rfl (by first | rfl | simp) (lts rfl) ?_
      refine SR_no rfl rfl (by first | rfl | simp) (lts rfl) ?_
      refine SR_no rfl rfl (by first | rfl | simp) (lts rfl) ?_
      refine SR_yes rfl rfl (by first | rfl | simp) ?_
      refine SR_pu (RD_pick_f rfl (by first | rfl | simp) rfl) rfl ?_
      refine SR_pu (RD_pick_f rfl (by first | rfl | simp) rfl) rfl ?_
      refine SR_nil ?_
      refine SN.le (l := [(9, _), (10, _), (15, _), (17, _), (18, _), (25, _), (139, _)]) ?_ (.cons rfl (.cons rfl (.cons rfl (.cons rfl (.cons rfl (.cons rfl (.cons rfl (.nil))))))))
      refine SN_seq ?_
      refine SC_cond_false rfl (by first | rfl | (simp [hxy]; done) | (simp; done)) ?_
      refine SC_skip ?_
      exact J0 (()) _ _ (.cons rfl (.cons rfl (.cons rfl (.cons rfl (.cons rfl (.cons rfl (.nil))))))) (.fin)
    · have hxy := h4 p1 p4 rfl rfl
      simp only [Option.getD_some, Option.getD_none, Option.isSome_some, Option.isSome_none]
      refine SC_region ?_
      refine SR_pu (RD_move rfl) rfl ?_
      refine SR_pu (RD_not rfl) rfl ?_
      refine SR_pu (RD_move rfl) rfl ?_
      refine SR_yes rfl rfl (by first | rfl | simp) ?_
      refine SR_pu (RD_move rfl) rfl ?_
      refine SR_yes rfl rfl (by first | rfl | simp) ?_
      refine SR_pu (RD_move rfl) rfl ?_
      refine SR_yes rfl rfl (by first | rfl | simp) ?_
      refine SR_pu (RD_move rfl) rfl ?_
      refine SR_yes rfl rfl (by first | rfl | simp) ?_
      refine SR_pu (RD_pick_t rfl (by first | rfl | simp) rfl) rfl ?_
      refine SR_yes rfl rfl (by first | rfl | simp) ?_
      refine SR_pu (RD_move rfl) rfl ?_
      refine SR_no rfl rfl (by first | rfl | simp) (lts rfl) ?_
      refine SR_no rfl rfl (by first | rfl | simp) (lts rfl) ?_
      refine SR_no rfl rfl (by first | rfl | simp) (lts rfl) ?_
      refine SR_nou  rfl rfl (lts rfl) ?_
      refine SR_nou  rfl rfl (lts rfl) ?_
      refine SR_nou  rfl rfl (lts rfl) ?_
      refine SR_nou  rfl rfl (lts rfl) ?_
      refine SR_nou  rfl rfl (lts rfl) ?_
      refine SR_nou  rfl rfl (lts rfl) ?_
      refine SR_nou  rfl rfl (lts rfl) ?_
      refine SR_nou  rfl rfl (lts rfl) ?_
      refine SR_no rfl rfl (by first | rfl | simp) (lts rfl) ?_
      refine SR_yes rfl rfl (by first | rfl | simp) ?_
      refine SR_pu (RD_pick_f rfl (by first | rfl | simp) rfl) rfl ?_
      refine SR_pu (RD_pick_f rfl (by first | rfl | simp) rfl) rfl ?_
      refine SR_pu (RD_move rfl) rfl ?_
      refine SR_yes rfl rfl (by first | rfl | simp) ?_
      refine SR_pu (RD_move rfl) rfl ?_
      refine SR_yes rfl rfl (by first | rfl | simp) ?_
      refine SR_pu (RD_move rfl) rfl ?_
      refine SR_yes rfl rfl (by first | rfl | simp) ?_
      refine SR_pu (RD_move rfl) rfl ?_
      refine SR_yes rfl rfl (by first | rfl | simp) ?_
      refine SR_pu (RD_pick_t rfl (by first | rfl | simp) rfl) rfl ?_
      refine SR_yes rfl rfl (by first | rfl | simp) ?_
      refine SR_pu (RD_move rfl) rfl ?_
      refine SR_yes rfl rfl (by first | rfl | simp) ?_
      refine SR_pu (RD_move rfl) rfl ?_
      refine SR_yes rfl rfl (by first | rfl | simp) ?_
      refine SR_pu (RD_move rfl) rfl ?_
      refine SR_yes rfl rfl (by first | rfl | simp) ?_
      refine SR_pu (RD_neq rfl rfl) rfl ?_
      refine SR_yes rfl rfl (by first | rfl | simp) ?_
      refine SR_pu (RD_pick_t rfl (by first | rfl | simp) rfl) rfl ?_
      refine SR_pu (RD_pick_f rfl (by first | rfl | simp) rfl) rfl ?_
      refine SR_nil ?_
      refine SN.le (l := [(9, _), (10, _), (15, _), (17, _), (18, _), (25, _), (139, _)]) ?_ (.cons rfl (.cons rfl (.cons rfl (.cons rfl (.cons rfl (.cons rfl (.cons rfl (.nil))))))))
      refine SN_seq ?_
      refine SC_cond_false rfl (by first | rfl | (simp [hxy]; done) | (simp; done)) ?_
      refine SC_skip ?_
      exact J0 (()) _ _ (.cons rfl (.cons rfl (.cons rfl (.cons rfl (.cons rfl (.cons rfl (.nil))))))) (.fin)
    · obtain rfl := h3 p1 p2 rfl rfl
      have hb1 := h5 p1 rfl
      have hb2 := h6 p2 rfl
      have hb3 : (p1 ++ p2).length ≤ 2000000 := by rw [List.length_append]; omega
      simp only [Option.getD_some, Option.getD_none, Option.isSome_some, Option.isSome_none]
      refine SC_region ?_
      refine SR_pu (RD_move rfl) rfl ?_
      refine SR_pu (RD_not rfl) rfl ?_
      refine SR_pu (RD_move rfl) rfl ?_
      refine SR_yes rfl rfl (by first | rfl | simp) ?_
      refine SR_pu (RD_move rfl) rfl ?_
      refine SR_yes rfl rfl (by first | rfl | simp) ?_
      refine SR_pu (RD_move rfl) rfl ?_
      refine SR_yes rfl rfl (by first | rfl | simp) ?_
      refine SR_pu (RD_move rfl) rfl ?_
      refine SR_yes rfl rfl (by first | rfl | simp) ?_
      refine SR_pu (RD_pick_t rfl (by first | rfl | simp) rfl) rfl ?_
      refine SR_yes rfl rfl (by first | rfl | simp) ?_
      refine SR_pu (RD_move rfl) rfl ?_
      refine SR_yes rfl rfl (by first | rfl | simp) ?_
      refine SR_pu (RD_move rfl) rfl ?_
      refine SR_yes rfl rfl (by first | rfl | simp) ?_
      refine SR_pu (RD_not rfl) rfl ?_
      refine SR_yes rfl rfl (by first | rfl | simp) ?_
      refine SR_pu (RD_move rfl) rfl ?_
      refine SR_yes rfl rfl (by first | rfl | simp) ?_
      refine SR_pu (RD_move rfl) rfl ?_
      refine SR_yes rfl rfl (by first | rfl | simp) ?_
      refine SR_ox (OX_buildSlice0 Try.runUnderlying22 Try.sizeOf3) rfl ?_
      rintro _ _ ⟨b119, rfl, rfl⟩
      refine SR.lands (lit_row (E := 3) (z := 1) (b := b119) (cs := []) 0 rfl) ?_
      refine SR_yes rfl rfl (by first | rfl | simp) ?_
      refine SR_pu (RD_move rfl) rfl ?_
      refine SR_yes rfl rfl (by first | rfl | simp) ?_
      refine SR_ox (OX_app 1 Try.underlying22 Try.underlying22 Try.type3 rfl rfl rfl rfl rfl (by first | rfl | simp; done | (simp; omega)) 8 rfl (by omega) (by omega)) rfl ?_
      rintro _ _ ⟨a121, c121, rfl, rfl⟩
      refine SR_yes rfl rfl (by first | rfl | simp) ?_
      refine SR_pu (RD_move rfl) rfl ?_
      refine SR_yes rfl rfl (by first | rfl | simp) ?_
      refine SR_ox (OX_app 1 Try.underlying22 Try.underlying22 Try.type3 rfl rfl rfl rfl rfl (by first | rfl | simp; done | (simp; omega)) 8 rfl (by omega) (by omega)) rfl ?_
      rintro _ _ ⟨a123, c123, rfl, rfl⟩
      refine SR_yes rfl rfl (by first | rfl | simp) ?_
      refine SR_call Try.call36 (.cons rfl (.cons rfl (.nil))) (ref_SameInts _ _ _ (p1 ++ p2) rfl rfl _ _ _ (p1 ++ p2) (by simp) (by simp) (by have := h5 p1 rfl; omega)) (lts rfl) ?_
      rintro _ L9 ⟨rfl, hL9⟩
      refine SR.lands hL9 ?_
      refine SR_yes rfl rfl (by first | rfl | simp) ?_
      refine SR_pu (RD_not rfl) rfl ?_
      refine SR_yes rfl rfl (by first | rfl | simp) ?_
      refine SR_pu (RD_pick_f rfl (by first | rfl | simp) rfl) rfl ?_
      refine SR_yes rfl rfl (by first | rfl | simp) ?_
      refine SR_pu (RD_pick_t rfl (by first | rfl | simp) rfl) rfl ?_
      refine SR_pu (RD_pick_f rfl (by first | rfl | simp) rfl) rfl ?_
      refine SR_pu (RD_move rfl) rfl ?_
      refine SR_yes rfl rfl (by first | rfl | simp) ?_
      refine SR_pu (RD_move rfl) rfl ?_
      refine SR_yes rfl rfl (by first | rfl | simp) ?_
      refine SR_pu (RD_move rfl) rfl ?_
      refine SR_yes rfl rfl (by first | rfl | simp) ?_
      refine SR_pu (RD_move rfl) rfl ?_
      refine SR_yes rfl rfl (by first | rfl | simp) ?_
      refine SR_pu (RD_pick_t rfl (by first | rfl | simp) rfl) rfl ?_
      refine SR_yes rfl rfl (by first | rfl | simp) ?_
      refine SR_pu (RD_move rfl) rfl ?_
      refine SR_no rfl rfl (by first | rfl | simp) (lts rfl) ?_
      refine SR_no rfl rfl (by first | rfl | simp) (lts rfl) ?_
      refine SR_no rfl rfl (by first | rfl | simp) (lts rfl) ?_
      refine SR_yes rfl rfl (by first | rfl | simp) ?_
      refine SR_pu (RD_pick_f rfl (by first | rfl | simp) rfl) rfl ?_
      refine SR_pu (RD_pick_f rfl (by first | rfl | simp) rfl) rfl ?_
      refine SR_nil ?_
      refine SN.le (l := [(9, _), (10, _), (15, _), (17, _), (18, _), (25, _), (139, _)]) ?_ (.cons rfl (.cons rfl (.cons rfl (.cons rfl (.cons rfl (.cons rfl (.cons rfl (.nil))))))))
      refine SN_seq ?_
      refine SC_cond_false rfl (by first | rfl | (simp [hxy]; done) | (simp; done)) ?_
      refine SC_skip ?_
      exact J0 (()) _ _ (.cons rfl (.cons rfl (.cons rfl (.cons rfl (.cons rfl (.cons rfl (.nil))))))) (.fin)
    · obtain rfl := h3 p1 p2 rfl rfl
      have hb1 := h5 p1 rfl
      have hb2 := h6 p2 rfl
      have hb3 : (p1 ++ p2).length ≤ 2000000 := by rw [List.length_append]; omega
      have hxy := h4 p1 p4 rfl rfl
      simp only [Option.getD_some, Option.getD_none, Option.isSome_some, Option.isSome_none]
      refine SC_region ?_
      refine SR_pu (RD_move rfl) rfl ?_
      refine SR_pu (RD_not rfl) rfl ?_
      refine SR_pu (RD_move rfl) rfl ?_
      refine SR_yes rfl rfl (by first | rfl | simp) ?_
      refine SR_pu (RD_move rfl) rfl ?_
      refine SR_yes rfl rfl (by first | rfl | simp) ?_
      refine SR_pu (RD_move rfl) rfl ?_
      refine SR_yes rfl rfl (by first | rfl | simp) ?_
      refine SR_pu (RD_move rfl) rfl ?_
      refine SR_yes rfl rfl (by first | rfl | simp) ?_
      refine SR_pu (RD_pick_t rfl (by first | rfl | simp) rfl) rfl ?_
      refine SR_yes rfl rfl (by first | rfl | simp) ?_
      refine SR_pu (RD_move rfl) rfl ?_
      refine SR_yes rfl rfl (by first | rfl | simp) ?_
      refine SR_pu (RD_move rfl) rfl ?_
      refine SR_yes rfl rfl (by first | rfl | simp) ?_
      refine SR_pu (RD_not rfl) rfl ?_
      refine SR_yes rfl rfl (by first | rfl | simp) ?_
      refine SR_pu (RD_move rfl) rfl ?_
      refine SR_yes rfl rfl (by first | rfl | simp) ?_
      refine SR_pu (RD_move rfl) rfl ?_
      refine SR_yes rfl rfl (by first | rfl | simp) ?_
      refine SR_ox (OX_buildSlice0 Try.runUnderlying22 Try.sizeOf3) rfl ?_
      rintro _ _ ⟨b119, rfl, rfl⟩
      refine SR.lands (lit_row (E := 3) (z := 1) (b := b119) (cs := []) 0 rfl) ?_
      refine SR_yes rfl rfl (by first | rfl | simp) ?_
      refine SR_pu (RD_move rfl) rfl ?_
      refine SR_yes rfl rfl (by first | rfl | simp) ?_
      refine SR_ox (OX_app 1 Try.underlying22 Try.underlying22 Try.type3 rfl rfl rfl rfl rfl (by first | rfl | simp; done | (simp; omega)) 8 rfl (by omega) (by omega)) rfl ?_
      rintro _ _ ⟨a121, c121, rfl, rfl⟩
      refine SR_yes rfl rfl (by first | rfl | simp) ?_
      refine SR_pu (RD_move rfl) rfl ?_
      refine SR_yes rfl rfl (by first | rfl | simp) ?_
      refine SR_ox (OX_app 1 Try.underlying22 Try.underlying22 Try.type3 rfl rfl rfl rfl rfl (by first | rfl | simp; done | (simp; omega)) 8 rfl (by omega) (by omega)) rfl ?_
      rintro _ _ ⟨a123, c123, rfl, rfl⟩
      refine SR_yes rfl rfl (by first | rfl | simp) ?_
      refine SR_call Try.call36 (.cons rfl (.cons rfl (.nil))) (ref_SameInts _ _ _ (p1 ++ p2) rfl rfl _ _ _ (p1 ++ p2) (by simp) (by simp) (by have := h5 p1 rfl; omega)) (lts rfl) ?_
      rintro _ L9 ⟨rfl, hL9⟩
      refine SR.lands hL9 ?_
      refine SR_yes rfl rfl (by first | rfl | simp) ?_
      refine SR_pu (RD_not rfl) rfl ?_
      refine SR_yes rfl rfl (by first | rfl | simp) ?_
      refine SR_pu (RD_pick_f rfl (by first | rfl | simp) rfl) rfl ?_
      refine SR_yes rfl rfl (by first | rfl | simp) ?_
      refine SR_pu (RD_pick_t rfl (by first | rfl | simp) rfl) rfl ?_
      refine SR_pu (RD_pick_f rfl (by first | rfl | simp) rfl) rfl ?_
      refine SR_pu (RD_move rfl) rfl ?_
      refine SR_yes rfl rfl (by first | rfl | simp) ?_
      refine SR_pu (RD_move rfl) rfl ?_
      refine SR_yes rfl rfl (by first | rfl | simp) ?_
      refine SR_pu (RD_move rfl) rfl ?_
      refine SR_yes rfl rfl (by first | rfl | simp) ?_
      refine SR_pu (RD_move rfl) rfl ?_
      refine SR_yes rfl rfl (by first | rfl | simp) ?_
      refine SR_pu (RD_pick_t rfl (by first | rfl | simp) rfl) rfl ?_
      refine SR_yes rfl rfl (by first | rfl | simp) ?_
      refine SR_pu (RD_move rfl) rfl ?_
      refine SR_yes rfl rfl (by first | rfl | simp) ?_
      refine SR_pu (RD_move rfl) rfl ?_
      refine SR_yes rfl rfl (by first | rfl | simp) ?_
      refine SR_pu (RD_move rfl) rfl ?_
      refine SR_yes rfl rfl (by first | rfl | simp) ?_
      refine SR_pu (RD_neq rfl rfl) rfl ?_
      refine SR_yes rfl rfl (by first | rfl | simp) ?_
      refine SR_pu (RD_pick_t rfl (by first | rfl | simp) rfl) rfl ?_
      refine SR_pu (RD_pick_f rfl (by first | rfl | simp) rfl) rfl ?_
      refine SR_nil ?_
      refine SN.le (l := [(9, _), (10, _), (15, _), (17, _), (18, _), (25, _), (139, _)]) ?_ (.cons rfl (.cons rfl (.cons rfl (.cons rfl (.cons rfl (.cons rfl (.cons rfl (.nil))))))))
      refine SN_seq ?_
      refine SC_cond_false rfl (by first | rfl | (simp [hxy]; done) | (simp; done)) ?_
      refine SC_skip ?_
      exact J0 (()) _ _ (.cons rfl (.cons rfl (.cons rfl (.cons rfl (.cons rfl (.cons rfl (.nil))))))) (.fin)

end Go.Proofs.Ytdmmaammpjdmbaa
