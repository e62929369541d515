/- What is seen never falls: the statement. -/
import Derived.Test.YtdmmaammpjdmbaaSa2
import Derived.Test.YtdmmaammpjdmbaaTw2
namespace Go.Proofs.Ytdmmaammpjdmbaa
open Go Go.Proofs
set_option maxRecDepth 100000
theorem BI.views {w : Nat} {s : TS} {l : List (List UInt8)} {ds : List Int} {bs : List Blk} {m : Nat} (h : BI w s l ds bs m) (hm : m ≤ 24) (d : Int) : -1 ≤ viewOf (mget s.T d) ∧ viewOf (mget s.T d) ≤ 1000000000 := by
  cases hg : mget s.T d with
  | none => simp [viewOf]
  | some b =>
    obtain ⟨j, hj, e⟩ := List.getElem_of_mem (h.mem d b hg)
    have hb : j < bs.length := by rw [← h.len]; exact hj
    have h2 := h.get j d _ (by rw [List.getElem?_eq_getElem hj, e]) (List.getElem?_eq_getElem hb)
    rw [hg] at h2; cases h2
    obtain ⟨_, _, h3, h4⟩ := h.flat _ (List.getElem_mem hb)
    show -1 ≤ Blk.view _ ∧ Blk.view _ ≤ 1000000000
    omega
theorem BI.zero {w : Nat} {s : TS} {l : List (List UInt8)} {ds : List Int} {bs : List Blk} {m : Nat} (h : BI w s l ds bs m) : mget s.T 0 = none := by
  cases hg : mget s.T 0 with
  | none => rfl
  | some b => have := (h.dig 0 (h.mem 0 b hg)).1; omega
structure RInv (st : TS) (s : SS) : Prop where
  lock : ∃ c, mget st.T s.lock = some c
  below : viewOf (mget st.T s.lock) ≤ s.hv
  last : s.last = 0
theorem see_rises {st : TS} (ho : st.Ok) (h0 : mget st.T 0 = none) {s : SS} (h : RInv st s) {b : Int} {q : Blk} (hb : mget st.T b = some q) :
    (s.see st q.view b).2.t = s.t ∧ RInv st (s.see st q.view b).2 ∧ s.hv ≤ (s.see st q.view b).2.hv ∧ viewOf (mget st.T s.lock) ≤ viewOf (mget st.T (s.see st q.view b).2.lock) ∧ (s.see st q.view b).2.see st q.view b = s.see st q.view b ∧ ((s.see st q.view b).1 ≠ 0 → viewOf (mget st.T (s.see st q.view b).1) < viewOf (mget st.T (s.see st q.view b).2.lock)) := by
  have hvq : viewOf (mget st.T b) = q.view := by rw [hb]; rfl
  have hsee : ∀ s : SS, s.see st q.view b = (if fixes st b then parOf st (parOf st b) else 0, ⟨s.t, (s.see1 q.view b).hv, (s.see1 q.view b).hb, s.lock2 st (parOf st b), s.last⟩) := fun s => by
    unfold SS.see
    exact if_neg (fun h => by rcases h with h | h; (rw [hb] at h; cases h); exact h hvq.symm)
  have hpar : viewOf (mget st.T (parOf st b)) ≤ q.view := by
    have hq0 := ho.pos _ _ hb
    by_cases hr : b = st.root
    · obtain ⟨r, h1, h2, h3⟩ := ho.root
      rw [← hr, hb] at h1; cases h1
      have : parOf st b = 0 := by unfold parOf; rw [hb]; exact h3
      rw [this, h0]; simp [viewOf]; omega
    · obtain ⟨p, h1, h2, h3⟩ := ho.up b q hb hr
      have : parOf st b = q.jb := by unfold parOf; rw [hb]; rfl
      rw [this, h1]
      show p.view ≤ q.view
      omega
  obtain ⟨c, hc⟩ := h.lock
  have hc0 : 0 ≤ viewOf (mget st.T s.lock) := by rw [hc]; exact ho.pos _ _ hc
  have h1a : s.hv ≤ (s.see1 q.view b).hv ∧ q.view ≤ (s.see1 q.view b).hv := by unfold SS.see1; split <;> (try dsimp only) <;> omega
  have h2a : viewOf (mget st.T s.lock) ≤ viewOf (mget st.T (s.lock2 st (parOf st b))) ∧ viewOf (mget st.T (parOf st b)) ≤ viewOf (mget st.T (s.lock2 st (parOf st b))) := by unfold SS.lock2; split <;> omega
  have h3a : (∃ c, mget st.T (s.lock2 st (parOf st b)) = some c) ∧ viewOf (mget st.T (s.lock2 st (parOf st b))) ≤ (s.see1 q.view b).hv := by
    unfold SS.lock2
    split
    · rename_i hgt
      refine ⟨?_, by omega⟩
      cases hg : mget st.T (parOf st b) with
      | none =>
        rw [hg] at hgt
        have : viewOf (none : Option Blk) = -1 := rfl
        omega
      | some x => exact ⟨x, rfl⟩
    · exact ⟨⟨c, hc⟩, by have := h.below; omega⟩
  rw [hsee s]
  refine ⟨rfl, ⟨h3a.1, h3a.2, h.last⟩, h1a.1, h2a.1, ?_, ?_⟩
  · rw [hsee]
    have e1 : (SS.see1 ⟨s.t, (s.see1 q.view b).hv, (s.see1 q.view b).hb, s.lock2 st (parOf st b), s.last⟩ q.view b) = ⟨s.t, (s.see1 q.view b).hv, (s.see1 q.view b).hb, s.lock2 st (parOf st b), s.last⟩ := if_neg (show ¬ (q.view > (s.see1 q.view b).hv) by omega)
    have e2 : (SS.lock2 ⟨s.t, (s.see1 q.view b).hv, (s.see1 q.view b).hb, s.lock2 st (parOf st b), s.last⟩ st (parOf st b)) = s.lock2 st (parOf st b) := if_neg (show ¬ (viewOf (mget st.T (parOf st b)) > viewOf (mget st.T (s.lock2 st (parOf st b)))) by omega)
    rw [e1, e2]
  · intro hne
    by_cases hf : fixes st b
    · rw [if_pos hf]
      unfold fixes at hf
      have : viewOf (mget st.T (parOf st b)) = viewOf (mget st.T (parOf st (parOf st b))) + 1 := Classical.byContradiction fun h => hf (.inr (.inr (.inr h)))
      dsimp only
      omega
    · rw [if_neg hf] at hne; exact absurd rfl hne

theorem law_SafeRises {W : World} {F : List HProp} [Abs F] (a0 : Option Addr) (n0 c0 : Nat) (l0 : List Int) [HasRow F a0 (l0.map intV)] (hn0 : l0.length = n0) (a1 : Option Addr) (n1 c1 : Nat) (l1 : List Int) [HasRow F a1 (l1.map intV)] (hn1 : l1.length = n1) :
    CallsK W Try.prog 14 #[.slice a0 n0 c0, .slice a1 n1 c1] (F) (fun v L => v = .bool true ∧ Lands L F) := by
  refine CallsK_enter (n := 149) Try.func14 rfl rfl rfl ?_
  refine SC_seq ?_
  refine SC_region ?_
  refine SR_pu (RD_assign rfl) rfl ?_
  refine SR_nil ?_
  refine SN.le (l := [(0, _), (1, _)]) ?_ (.cons rfl (.cons rfl (.nil)))
  refine SN_seq ?_
  refine SC_seq ?_
  refine SC_region ?_
  refine SR_call Try.call15 (.cons rfl (.nil)) (enve_New 1) (lts rfl) ?_
  rintro _ L0 ⟨k, rfl, hL0⟩
  refine SR.lands hL0 ?_
  refine SR_pu (RD_assign rfl) rfl ?_
  refine SR_nil ?_
  refine SN.le (l := [(0, _), (1, _), (5, _)]) ?_ (.cons rfl (.cons rfl (.cons rfl (.nil))))
  refine SN_seq ?_
  refine SC_seq ?_
  refine SC_seq ?_
  refine SC_region ?_
  refine SR_pu (RD_move rfl) rfl ?_
  refine SR_pu (RD_eqlP Try.underlying25 rfl rfl) rfl ?_
  refine SR_nil ?_
  refine SN.le (l := [(0, _), (1, _), (5, _), (22, _)]) ?_ (.cons rfl (.cons rfl (.cons rfl (.cons rfl (.nil)))))
  refine SN_seq ?_
  refine SC_cond_false rfl (rfl) ?_
  refine SC_skip ?_
  refine SN_seq ?_
  refine SC_seq ?_
  refine SC_region ?_
  refine SR_pu (RD_move rfl) rfl ?_
  refine SR_call Try.call33 (.cons rfl (.nil)) (CallsK.at (tree_New k ⟨[], []⟩ (by simp) [rootB] 1 (by decide +kernel) (by decide +kernel))) (lts rfl) ?_
  rintro _ L1 ⟨p, rfl, hL1⟩
  try dsimp only at hL1
  change Lands L1 (At treeI p (tS0 k.p) :: _) at hL1
  refine SR.lands hL1 ?_
  refine SR_pu (RD_assign rfl) rfl ?_
  refine SR_nil ?_
  refine SN.le (l := [(0, _), (1, _), (5, _), (6, _)]) ?_ (.cons rfl (.cons rfl (.cons rfl (.cons rfl (.nil)))))
  refine SN_seq ?_
  refine SC_seq ?_
  refine SC_region ?_
  refine SR_pu (RD_move rfl) rfl ?_
  refine SR_call Try.call51 (.cons rfl (.nil)) (CallsK.at (safe_New p (tS0 k.p))) (lts rfl) ?_
  rintro _ L3 ⟨y, rfl, hL3⟩
  change Lands L3 (At safeI y ⟨p, 0, 1, 1, 0⟩ :: _) at hL3
  refine SR.lands hL3 ?_
  refine SR_pu (RD_assign rfl) rfl ?_
  refine SR_nil ?_
  refine SN.le (l := [(0, _), (1, _), (5, _), (6, _), (7, _)]) ?_ (.cons rfl (.cons rfl (.cons rfl (.cons rfl (.cons rfl (.nil))))))
  refine SN_seq ?_
  refine SC_seq ?_
  refine SC_seq ?_
  refine SC_region ?_
  refine SR_pu (RD_move rfl) rfl ?_
  refine SR_pu (RD_eqlP Try.underlying54 rfl rfl) rfl ?_
  refine SR_pu (RD_move rfl) rfl ?_
  refine SR_yes rfl rfl (rfl) ?_
  refine SR_pu (RD_move rfl) rfl ?_
  refine SR_yes rfl rfl (rfl) ?_
  refine SR_pu (RD_eqlP Try.underlying86 rfl rfl) rfl ?_
  refine SR_pu (RD_pick_f rfl (rfl) rfl) rfl ?_
  refine SR_nil ?_
  refine SN.le (l := [(0, _), (1, _), (5, _), (6, _), (7, _), (32, _)]) ?_ (.cons rfl (.cons rfl (.cons rfl (.cons rfl (.cons rfl (.cons rfl (.nil)))))))
  refine SN_seq ?_
  refine SC_cond_false rfl (rfl) ?_
  refine SC_skip ?_
  refine SN_seq ?_
  refine SC_seq ?_
  refine SC_region ?_
  refine SR_pu (RD_move rfl) rfl ?_
  refine SR_pu (RD_move rfl) rfl ?_
  refine SR_pu (RD_move rfl) rfl ?_
  refine SR_call Try.call34 (.cons rfl (.cons rfl (.cons rfl (.nil)))) (CallsK.at2 (law17_Blocks k p a0 n0 c0 l0 rfl hn0)) (lts rfl) ?_
  rintro _ L2 ⟨⟨i, s, l, ra, rc, ra2, rc2, ds, bs⟩, rfl, ⟨m, hm, hBI⟩, hL2⟩
  dsimp only at hBI hL2 ⊢
  refine SR.lands hL2 ?_
  refine SR_pu (RD_move rfl) rfl ?_
  refine SR_pu (RD_extract rfl rfl) rfl ?_
  refine SR_pu (RD_extract rfl rfl) rfl ?_
  refine SR_pu (RD_extract rfl rfl) rfl ?_
  refine SR_pu (RD_assign rfl) rfl ?_
  refine SR_pu (RD_assign rfl) rfl ?_
  refine SR_pu (RD_assign rfl) rfl ?_
  refine SR_nil ?_
  refine SN.le (l := [(1, _), (5, _), (6, _), (7, _), (8, _), (9, _), (10, _)]) ?_ (.cons rfl (.cons rfl (.cons rfl (.cons rfl (.cons rfl (.cons rfl (.cons rfl (.nil))))))))
  refine SN_seq ?_
  refine SC_seq ?_
  refine SC_seq ?_
  refine SC_region ?_
  refine SR_pu (RD_move rfl) rfl ?_
  refine SR_pu (RD_not rfl) rfl ?_
  refine SR_nil ?_
  refine SN.le (l := [(1, _), (5, _), (6, _), (7, _), (8, _), (9, _), (42, _)]) ?_ (.cons rfl (.cons rfl (.cons rfl (.cons rfl (.cons rfl (.cons rfl (.cons rfl (.nil))))))))
  refine SN_seq ?_
  refine SC_cond_false rfl (rfl) ?_
  refine SC_skip ?_
  refine SN_seq ?_
  refine SC_seq ?_
  refine SC_region ?_
  refine SR_pu (RD_assign rfl) rfl ?_
  refine SR_pu (RD_assign rfl) rfl ?_
  refine SR_nil ?_
  refine SN.le (l := [(1, _), (5, _), (6, _), (7, _), (8, _), (9, _), (11, _), (12, _)]) ?_ (.cons rfl (.cons rfl (.cons rfl (.cons rfl (.cons rfl (.cons rfl (.cons rfl (.cons rfl (.nil)))))))))
  refine SN_seq ?_
  refine SC_seq ?_
  refine SC_seq ?_
  refine SC_region ?_
  refine SR_pu (RD_assign rfl) rfl ?_
  refine SR_nil ?_
  refine SN.le (l := [(1, _), (5, _), (6, _), (7, _), (8, _), (9, _), (11, _), (12, _), (13, _)]) ?_ (.cons rfl (.cons rfl (.cons rfl (.cons rfl (.cons rfl (.cons rfl (.cons rfl (.cons rfl (.cons rfl (.nil))))))))))
  refine SN_seq ?_
  refine SC_block ?_
  have hlen := hBI.len
  have hpos : 0 < ds.length := (List.getElem?_eq_some_iff.1 hBI.first).1
  have hz := hBI.zero
  obtain ⟨rb, hrb, hrb0, _⟩ := hBI.ok.root
  have hrv : viewOf (mget s.T 1) = 0 := by rw [← hBI.root, hrb]; exact hrb0
  refine SC_ind (X := Nat × SS × Int × Int) (fun x => x.1 ≤ 40 ∧ x.2.1.t = p ∧ RInv s x.2.1 ∧ x.2.2.1 ≤ x.2.1.hv ∧ x.2.2.2 ≤ viewOf (mget s.T x.2.1.lock)) (fun x => 40 - x.1) (fun x => [(1, .slice a1 n1 c1), (5, .pointer (some ⟨k.p, 0, none⟩)), (6, .pointer (some ⟨p, 0, none⟩)), (7, .pointer (some ⟨y, 0, none⟩)), (8, .slice ra ds.length rc), (9, .slice ra2 bs.length rc2), (11, .int .i64 x.2.2.1), (12, .int .i64 x.2.2.2), (13, .int .i64 (x.1 : Nat))]) (fun x => At safeI y x.2.1 :: rowP 3 1 ra ds.length rc (ds.map intV) :: rowP 69 6 ra2 bs.length rc2 (bs.flatMap Blk.cells0) :: At treeI p s :: At worldI k ⟨l, []⟩ :: F) ((0, ⟨p, 0, 1, 1, 0⟩, 0, 0)) (⟨by simp, rfl, ⟨⟨rb, by rw [← hBI.root]; exact hrb⟩, by dsimp only; omega, rfl⟩, by simp, by dsimp only; omega⟩) (.cons rfl (.cons rfl (.cons rfl (.cons rfl (.cons rfl (.cons rfl (.cons rfl (.cons rfl (.cons rfl (.nil)))))))))) (.fin) ?_
  intro ⟨i, ss, hi_, lo⟩ hi ih
  obtain ⟨hi1, hst, hR, hhi, hlo⟩ := hi
  dsimp only at hi1 hst hR hhi hlo ih ⊢
  refine SC_seq ?_
  refine SC_seq ?_
  refine SC_region ?_
  refine SR_pu (RD_move rfl) rfl ?_
  refine SR_pu (RD_move rfl) rfl ?_
  refine SR_pu (RD_len Try.runUnderlying22 rfl) rfl ?_
  refine SR_pu (RD_lss rfl rfl) rfl ?_
  refine SR_pu (RD_move rfl) rfl ?_
  refine SR_guard rfl rfl (fun hg13_4 => ?_) (fun hg13_4 => ?_)
  · refine SR_yes rfl rfl (hg13_4) ?_
    refine SR_pu (RD_move rfl) rfl ?_
    refine SR_yes rfl rfl (hg13_4) ?_
    refine SR_pu (RD_lss rfl rfl) rfl ?_
    refine SR_pu (RD_pick_t rfl (hg13_4) rfl) rfl ?_
    refine SR_nil ?_
    refine SN.le (l := [(1, _), (5, _), (6, _), (7, _), (8, _), (9, _), (11, _), (12, _), (13, _), (50, _)]) ?_ (.cons rfl (.cons rfl (.cons rfl (.cons rfl (.cons rfl (.cons rfl (.cons rfl (.cons rfl (.cons rfl (.cons rfl (.nil)))))))))))
    refine SN_seq ?_
    refine SC_cond rfl (fun hc50 => ?_) (fun hc50 => ?_)
    · have hin : i < n1 := by simp at hg13_4; omega
      have hi40 : i < 40 := by simp at hc50; omega
      obtain ⟨z, hz2⟩ : ∃ z, l1[i]? = some z := ⟨_, List.getElem?_eq_getElem (by omega)⟩
      obtain ⟨o, d, b, ho, hol, hd, hb, hg, hvd⟩ := hBI.at hm z
      obtain ⟨r1, r2, r3, r4, r5, r6⟩ := see_rises hBI.ok hz hR hg
      obtain ⟨rv, s2, hsee⟩ : ∃ r s2, ss.see s b.view d = (r, s2) := ⟨_, _, rfl⟩
      rw [hsee] at r1 r2 r3 r4 r5 r6
      dsimp only at r1 r2 r3 r4 r5 r6
      have hs2 : s2.t = p := r1.trans hst
      refine SC_skip ?_
      refine SN_seq ?_
      refine SC_seq ?_
      refine SC_block ?_
      refine SC_seq ?_
      refine SC_region ?_
      refine SR_pu (RD_move rfl) rfl ?_
      refine SR_pu (RD_move rfl) rfl ?_
      refine SR_rd (RD_ixO Try.runUnderlying22 Try.sizeOf3 rfl rfl (by first | assumption | (simp; done) | (simp; omega)) (by omega) (by omega)) Has.ro rfl ?_
      refine SR_rd (RD_loadO (v := intV z) (cs := l1.map intV) Try.isAgg3 rfl (by simp [hz2])) Has.ro rfl ?_
      refine SR_pu (RD_mask 8 rfl rfl rfl (by decide) 256 rfl) rfl ?_
      refine SR_pu (RD_move rfl) rfl ?_
      refine SR_pu (RD_len Try.runUnderlying22 rfl) rfl ?_
      refine SR_pu (RD_remi rfl rfl (by omega) (by omega)) rfl ?_
      refine SR_pu (RD_assign rfl) rfl ?_
      refine SR_nil ?_
      refine SN.le (l := [(1, _), (5, _), (6, _), (7, _), (8, _), (9, _), (11, _), (12, _), (13, _), (14, _)]) ?_ (.cons rfl (.cons rfl (.cons rfl (.cons rfl (.cons rfl (.cons rfl (.cons rfl (.cons rfl (.cons rfl (.cons rfl (.nil)))))))))))
      rw [ho]
      refine SN_seq ?_
      refine SC_seq ?_
      refine SC_drawn (.cons 0 true (.cons 1 true (.cons 2 true (.cons 3 true (.cons 4 true (.cons 5 true (.cons 6 true (.cons 7 true (.cons 8 true (.cons 9 true (.cons 10 false (.cons 11 false (.nil))))))))))))) (by kernel_rfl) (by kernel_rfl) ?_
      refine SQ_pu rfl (RD_move rfl) rfl ?_
      refine SQ_pu rfl (RD_move rfl) rfl ?_
      refine SQ_rd rfl (RD_ixO (i := (o : Nat)) (cs := bs.flatMap Blk.cells0) Try.runUnderlying56 Try.sizeOf69 rfl rfl (by rw [blks_len]) (by omega) (by omega)) Has.ro rfl ?_
      refine SQ_rd rfl (RD_fieldAddrO (cs := bs.flatMap Blk.cells0) 0 Try.runUnderlying69 rfl rfl Try.sizeOf3 rfl (by rw [blks_len]; omega)) Has.ro rfl ?_
      refine SQ_rd rfl (RD_loadO (v := .int .i64 b.view) (cs := bs.flatMap Blk.cells0) Try.isAgg3 rfl (blk_get hb 0 (by omega))) Has.ro rfl ?_
      refine SQ_pu rfl (RD_move rfl) rfl ?_
      refine SQ_pu rfl (RD_move rfl) rfl ?_
      refine SQ_rd rfl (RD_ixO Try.runUnderlying22 Try.sizeOf3 rfl rfl (by first | assumption | (simp; done) | (simp; omega)) (by omega) (by omega)) Has.ro rfl ?_
      refine SQ_rd rfl (RD_loadO (v := intV d) (cs := ds.map intV) Try.isAgg3 rfl (by simp [hd])) Has.ro rfl ?_
      refine SQ_pu rfl (RD_build (.cons rfl (.cons rfl (.nil))) built34_0_1) rfl ?_
      refine SQ_ox rfl (OX_alloc Try.zeroValue34 rfl) rfl ?_
      rintro _ _ ⟨b15, rfl, rfl⟩
      refine ⟨.h Has.ro (.h Has.ro (.h Has.ro (.h Has.ro (.h Has.ro (.nil))))), ?_⟩
      refine SQ_ox0 rfl (OX_stA Try.sizeOf34 rfl rfl rfl rfl) ?_
      rintro _ _ rfl
      refine ⟨.w rfl (.w rfl (.w rfl (.w rfl (.w rfl (.nil))))), ?_⟩
      refine SQ_nil ?_
      refine SN.le (l := [(1, _), (5, _), (6, _), (7, _), (8, _), (9, _), (11, _), (12, _), (13, _), (15, _)]) ?_ (.cons rfl (.cons rfl (.cons rfl (.cons rfl (.cons rfl (.cons rfl (.cons rfl (.cons rfl (.cons rfl (.cons rfl (.nil)))))))))))
      refine SN_seq ?_
      refine SC_seq ?_
      refine SC_region ?_
      refine SR_pu (RD_move rfl) rfl ?_
      refine SR_rd (RD_loadA (vs := [.int .i64 b.view, .int .i64 d, .slice none 0 0]) Try.isAgg34 Try.sizeOf34 rfl rfl) Has.wh rfl ?_
      refine SR_call Try.call53 (.cons rfl (.cons rfl (.nil))) (CallsK.at2 (safe_See' y p ss hst s (hBI.views hm) b.view d)) (lts rfl) ?_
      rintro _ L10 ⟨rfl, hL10⟩
      rw [hsee] at hL10 ⊢
      refine SR.lands hL10 ?_
      dsimp only
      refine SR_pu (RD_assign rfl) rfl ?_
      refine SR_nil ?_
      refine SN.le (l := [(1, _), (5, _), (6, _), (7, _), (8, _), (9, _), (11, _), (12, _), (13, _), (15, _), (16, _)]) ?_ (.cons rfl (.cons rfl (.cons rfl (.cons rfl (.cons rfl (.cons rfl (.cons rfl (.cons rfl (.cons rfl (.cons rfl (.cons rfl (.nil))))))))))))
      refine SN_seq ?_
      refine SC_seq ?_
      refine SC_region ?_
      refine SR_pu (RD_move rfl) rfl ?_
      refine SR_call Try.call58 (.cons rfl (.nil)) (CallsK.at (safe_High y s2)) (lts rfl) ?_
      rintro _ L11 ⟨⟨ha11, hc11, rfl⟩, hL11⟩
      refine SR.lands hL11 ?_
      refine SR_pu (RD_move rfl) rfl ?_
      refine SR_call Try.call57 (.cons rfl (.nil)) (CallsK.at (safe_Lock y s2)) (lts rfl) ?_
      rintro _ L12 ⟨rfl, hL12⟩
      refine SR.lands hL12 ?_
      refine SR_ox (OX_alloc Try.zeroValue34 rfl) rfl ?_
      rintro _ _ ⟨b17, rfl, rfl⟩
      refine SR_ox0 (OX_stA (vs := [.int .i64 s2.hv, .int .i64 s2.hb, .slice ha11 0 hc11]) Try.sizeOf34 rfl rfl rfl rfl) ?_
      rintro _ _ rfl
      refine SR_pu (RD_assign rfl) rfl ?_
      refine SR_nil ?_
      refine SN.le (l := [(1, _), (5, _), (6, _), (7, _), (8, _), (9, _), (11, _), (12, _), (13, _), (15, _), (16, _), (17, _), (18, _)]) ?_ (.cons rfl (.cons rfl (.cons rfl (.cons rfl (.cons rfl (.cons rfl (.cons rfl (.cons rfl (.cons rfl (.cons rfl (.cons rfl (.cons rfl (.cons rfl (.nil))))))))))))))
      refine SN_seq ?_
      refine SC_seq ?_
      refine SC_region ?_
      refine SR_pu (RD_move rfl) rfl ?_
      refine SR_rd (RD_loadA (vs := [.int .i64 b.view, .int .i64 d, .slice none 0 0]) Try.isAgg34 Try.sizeOf34 rfl rfl) Has.wh rfl ?_
      refine SR_call Try.call53 (.cons rfl (.cons rfl (.nil))) (CallsK.at2 (safe_See' y p s2 hs2 s (hBI.views hm) b.view d)) (lts rfl) ?_
      rintro _ L13 ⟨rfl, hL13⟩
      rw [r5] at hL13 ⊢
      refine SR.lands hL13 ?_
      dsimp only
      refine SR_pu (RD_assign rfl) rfl ?_
      refine SR_nil ?_
      refine SN.le (l := [(1, _), (5, _), (6, _), (7, _), (8, _), (9, _), (11, _), (12, _), (13, _), (16, _), (17, _), (18, _), (19, _)]) ?_ (.cons rfl (.cons rfl (.cons rfl (.cons rfl (.cons rfl (.cons rfl (.cons rfl (.cons rfl (.cons rfl (.cons rfl (.cons rfl (.cons rfl (.cons rfl (.nil))))))))))))))
      refine SN_seq ?_
      refine SC_seq ?_
      refine SC_seq ?_
      refine SC_drawn (.cons 0 true (.cons 1 true (.cons 2 true (.cons 3 true (.cons 4 true (.cons 6 true (.cons 5 false (.cons 7 true (.cons 8 true (.cons 9 true (.cons 10 true (.cons 13 true (.cons 14 true (.cons 11 false (.cons 12 true (.cons 15 true (.cons 16 true (.cons 17 true (.cons 18 true (.cons 19 true (.cons 20 true (.cons 21 true (.cons 22 true (.cons 23 true (.cons 24 true (.cons 25 true (.cons 27 true (.cons 26 false (.cons 28 true (.cons 29 true (.cons 30 true (.cons 31 true (.cons 32 true (.cons 34 true (.cons 35 true (.cons 33 false (.cons 36 true (.cons 37 true (.cons 38 true (.cons 39 true (.cons 40 true (.cons 41 true (.cons 42 true (.cons 43 true (.cons 45 true (.cons 46 true (.cons 44 false (.cons 47 false (.cons 48 true (.cons 49 true (.cons 50 true (.cons 51 true (.cons 52 true (.cons 53 false (.cons 54 true (.cons 55 true (.cons 56 true (.nil)))))))))))))))))))))))))))))))))))))))))))))))))))))))))) (by kernel_rfl) (by kernel_rfl) ?_
      refine SQ_pu rfl (RD_move rfl) rfl ?_
      refine SQ_pu rfl (RD_move rfl) rfl ?_
      refine SQ_pu rfl (RD_neq rfl rfl) rfl ?_
      refine SQ_pu rfl (RD_move rfl) rfl ?_
      refine SQ_pyes rfl rfl rfl (by simp) (RD_move rfl) rfl ?_
      refine SQ_pyes rfl rfl rfl (by simp) (RD_move rfl) rfl ?_
      refine SQ_one (SA_call rfl (.mk rfl rfl (by simp)) Try.call57 (.cons rfl (.nil)) (CallsK.at (safe_Lock y s2)) (lts rfl) ?_)
      rintro _ L14 ⟨rfl, hL14⟩
      refine ⟨.nil, ?_⟩
      refine SQ.lands hL14 ?_
      refine SQ_pyes rfl rfl rfl (by simp) (RD_neq rfl rfl) rfl ?_
      refine SQ_pu rfl (RD_pick_f rfl (by simp) rfl) rfl ?_
      refine SQ_pu rfl (RD_move rfl) rfl ?_
      refine SQ_pyes rfl rfl rfl (by simp) (RD_move rfl) rfl ?_
      first
        | refine SQ_pyes rfl rfl rfl (by simp) (RD_fieldAddr 1 Try.runUnderlying34 rfl rfl Try.sizeOf3 rfl) rfl ?_
        | refine SQ_yes rfl rfl rfl (by simp) (RD_fieldAddrO 1 Try.runUnderlying34 rfl rfl Try.sizeOf3 rfl (by simp <;> omega)) Has.ro rfl ?_
      refine SQ_yes rfl rfl rfl (by simp) (RD_load Try.isAgg3 rfl) (Has.ce rfl) rfl ?_
      refine SQ_one (SA_call rfl (.mk rfl rfl (by simp)) Try.call58 (.cons rfl (.nil)) (CallsK.at (safe_High y s2)) (lts rfl) ?_)
      rintro _ L15 ⟨⟨ha15, hc15, rfl⟩, hL15⟩
      refine ⟨.lands hL15 (.h (Has.ce rfl) (.nil)), ?_⟩
      refine SQ.lands hL15 ?_
      refine SQ_pyes rfl rfl rfl (by simp) (RD_field Try.runUnderlying34 rfl Try.isAgg3 rfl rfl) rfl ?_
      refine SQ_pyes rfl rfl rfl (by simp) (RD_neq rfl rfl) rfl ?_
      refine SQ_pu rfl (RD_pick_f rfl (by simp) rfl) rfl ?_
      refine SQ_pu rfl (RD_move rfl) rfl ?_
      first
        | refine SQ_pyes rfl rfl rfl (by simp) (RD_fieldAddr0 Try.runUnderlying34 rfl rfl Try.sizeOf3 rfl) rfl ?_
        | refine SQ_yes rfl rfl rfl (by simp) (RD_fieldAddrO 0 Try.runUnderlying34 rfl rfl Try.sizeOf3 rfl (by simp <;> omega)) Has.ro rfl ?_
      refine SQ_yes rfl rfl rfl (by simp) (RD_load Try.isAgg3 rfl) (Has.ce rfl) rfl ?_
      refine SQ_pyes rfl rfl rfl (by simp) (RD_move rfl) rfl ?_
      refine SQ_pyes rfl rfl rfl (by simp) (RD_lss rfl rfl) rfl ?_
      refine SQ_pu rfl (RD_pick_f rfl (by simp) rfl) rfl ?_
      refine SQ_pu rfl (RD_move rfl) rfl ?_
      refine SQ_pyes rfl rfl rfl (decide_eq_false (by have := r3; omega)) (RD_move rfl) rfl ?_
      refine SQ_pyes rfl rfl rfl (decide_eq_false (by have := r3; omega)) (RD_move rfl) rfl ?_
      refine SQ_pyes rfl rfl rfl (decide_eq_false (by have := r3; omega)) (RD_move rfl) rfl ?_
      refine SQ_one (SA_call rfl (.mk rfl rfl (decide_eq_false (by have := r3; omega))) Try.call38 (.cons rfl (.cons rfl (.nil))) (CallsK.at (tree_View p s s2.lock)) (lts rfl) ?_)
      rintro _ L16 ⟨rfl, hL16⟩
      refine ⟨.lands hL16 (.h (Has.ce rfl) (.h (Has.ce rfl) (.nil))), ?_⟩
      refine SQ.lands hL16 ?_
      refine SQ_pyes rfl rfl rfl (decide_eq_false (by have := r3; omega)) (RD_lss rfl rfl) rfl ?_
      refine SQ_pu rfl (RD_pick_f rfl (decide_eq_false (by have := r3; omega)) rfl) rfl ?_
      refine SQ_pu rfl (RD_move rfl) rfl ?_
      refine SQ_pyes rfl rfl rfl (decide_eq_false (by have := r4; omega)) (RD_move rfl) rfl ?_
      refine SQ_pyes rfl rfl rfl (decide_eq_false (by have := r4; omega)) (RD_move rfl) rfl ?_
      first
        | refine SQ_pyes rfl rfl rfl (decide_eq_false (by have := r4; omega)) (RD_fieldAddr0 Try.runUnderlying34 rfl rfl Try.sizeOf3 rfl) rfl ?_
        | refine SQ_yes rfl rfl rfl (decide_eq_false (by have := r4; omega)) (RD_fieldAddrO 0 Try.runUnderlying34 rfl rfl Try.sizeOf3 rfl (by simp <;> omega)) Has.ro rfl ?_
      refine SQ_yes rfl rfl rfl (decide_eq_false (by have := r4; omega)) (RD_load Try.isAgg3 rfl) (Has.ce rfl) rfl ?_
      refine SQ_one (SA_call rfl (.mk rfl rfl (decide_eq_false (by have := r4; omega))) Try.call38 (.cons rfl (.cons rfl (.nil))) (CallsK.at (tree_View p s s2.lock)) (lts rfl) ?_)
      rintro _ L17 ⟨rfl, hL17⟩
      refine ⟨.lands hL17 (.h (Has.ce rfl) (.h (Has.ce rfl) (.h (Has.ce rfl) (.nil)))), ?_⟩
      refine SQ.lands hL17 ?_
      refine SQ_pyes rfl rfl rfl (decide_eq_false (by have := r4; omega)) (RD_gtr rfl rfl) rfl ?_
      refine SQ_pu rfl (RD_pick_f rfl (decide_eq_false (by have := r4; omega)) rfl) rfl ?_
      refine SQ_pu rfl (RD_move rfl) rfl ?_
      refine SQ_pyes rfl rfl rfl (decide_eq_false (by have := r2.below; omega)) (RD_move rfl) rfl ?_
      refine SQ_pyes rfl rfl rfl (decide_eq_false (by have := r2.below; omega)) (RD_neq rfl rfl) rfl ?_
      refine SQ_pyes rfl rfl rfl (decide_eq_false (by have := r2.below; omega)) (RD_move rfl) rfl ?_
      refine SQ_guard (i := 42) rfl rfl rfl (fun hg20_41 => ?_) (fun hg20_41 => ?_)
      · refine SQ_pyes rfl rfl rfl (hg20_41) (RD_move rfl) rfl ?_
        refine SQ_pyes rfl rfl rfl (hg20_41) (RD_move rfl) rfl ?_
        refine SQ_pyes rfl rfl rfl (hg20_41) (RD_move rfl) rfl ?_
        refine SQ_pyes rfl rfl rfl (hg20_41) (RD_move rfl) rfl ?_
        refine SQ_one (SA_call rfl (.mk rfl rfl (hg20_41)) Try.call38 (.cons rfl (.cons rfl (.nil))) (CallsK.at (tree_View p s rv)) (lts rfl) ?_)
        rintro _ L18 ⟨rfl, hL18⟩
        refine ⟨.lands hL18 (.h (Has.ce rfl) (.h (Has.ce rfl) (.h (Has.ce rfl) (.nil)))), ?_⟩
        refine SQ.lands hL18 ?_
        refine SQ_one (SA_call rfl (.mk rfl rfl (hg20_41)) Try.call38 (.cons rfl (.cons rfl (.nil))) (CallsK.at (tree_View p s s2.lock)) (lts rfl) ?_)
        rintro _ L19 ⟨rfl, hL19⟩
        refine ⟨.lands hL19 (.h (Has.ce rfl) (.h (Has.ce rfl) (.h (Has.ce rfl) (.nil)))), ?_⟩
        refine SQ.lands hL19 ?_
        refine SQ_pyes rfl rfl rfl (hg20_41) (RD_geq rfl rfl) rfl ?_
        refine SQ_pyes rfl rfl rfl (decide_eq_false (by have := r2.below; omega)) (RD_pick_t rfl (hg20_41) rfl) rfl ?_
        refine SQ_pyes rfl rfl rfl (decide_eq_false (by have := r2.below; omega)) (RD_move rfl) rfl ?_
        refine SQ_no rfl rfl rfl (decide_eq_false (by have h2 := r6 (by simpa using hg20_41); omega)) (lts rfl) ?_
        refine SQ_no rfl rfl rfl (decide_eq_false (by have h2 := r6 (by simpa using hg20_41); omega)) (lts rfl) ?_
        refine SQ_no1 rfl rfl rfl (decide_eq_false (by have h2 := r6 (by simpa using hg20_41); omega)) (lts rfl) ?_
        refine SQ_no rfl rfl rfl (decide_eq_false (by have h2 := r6 (by simpa using hg20_41); omega)) (lts rfl) ?_
        refine SQ_pyes rfl rfl rfl (decide_eq_false (by have := r2.below; omega)) (RD_pick_f rfl (decide_eq_false (by have h2 := r6 (by simpa using hg20_41); omega)) rfl) rfl ?_
        refine SQ_pu rfl (RD_pick_f rfl (decide_eq_false (by have := r2.below; omega)) rfl) rfl ?_
        refine SQ_nil ?_
        refine SN.le (l := [(1, _), (5, _), (6, _), (7, _), (8, _), (9, _), (13, _), (17, _), (18, _), (137, _)]) ?_ (.cons rfl (.cons rfl (.cons rfl (.cons rfl (.cons rfl (.cons rfl (.cons rfl (.cons rfl (.cons rfl (.cons rfl (.nil)))))))))))
        refine SN_seq ?_
        refine SC_cond_false rfl (rfl) ?_
        refine SC_skip ?_
        refine SN_seq ?_
        refine SC_drawn (.cons 0 true (.cons 1 true (.cons 2 true (.cons 3 true (.cons 4 false (.cons 5 true (.cons 6 true (.nil)))))))) (by kernel_rfl) (by kernel_rfl) ?_
        first
          | refine SQ_pu rfl (RD_fieldAddr0 Try.runUnderlying34 rfl rfl Try.sizeOf3 rfl) rfl ?_
          | refine SQ_rd rfl (RD_fieldAddrO 0 Try.runUnderlying34 rfl rfl Try.sizeOf3 rfl (by simp <;> omega)) Has.ro rfl ?_
        refine SQ_rd rfl (RD_load Try.isAgg3 rfl) (Has.ce rfl) rfl ?_
        refine SQ_pu rfl (RD_move rfl) rfl ?_
        refine SQ_pu rfl (RD_move rfl) rfl ?_
        refine SQ_call rfl Try.call38 (.cons rfl (.cons rfl (.nil))) (CallsK.at (tree_View p s s2.lock)) (lts rfl) ?_
        rintro _ L21 ⟨rfl, hL21⟩
        refine ⟨.lands hL21 (.h (Has.ce rfl) (.nil)), ?_⟩
        refine SQ.lands hL21 ?_
        refine SQ_pu rfl (RD_assign rfl) rfl ?_
        refine SQ_pu rfl (RD_assign rfl) rfl ?_
        refine SQ_nil ?_
        refine SN.le (l := [(1, _), (5, _), (6, _), (7, _), (8, _), (9, _), (11, _), (12, _), (13, _)]) ?_ (.cons rfl (.cons rfl (.cons rfl (.cons rfl (.cons rfl (.cons rfl (.cons rfl (.cons rfl (.cons rfl (.nil))))))))))
        refine SN_block ?_
        refine SN_seq ?_
        refine SC_region ?_
        refine SR_pu (RD_move rfl) rfl ?_
        refine SR_pu (RD_addi rfl rfl (by omega) (by omega)) rfl ?_
        refine SR_pu (RD_assign rfl) rfl ?_
        refine SR_nil ?_
        refine SN.le (l := [(1, _), (5, _), (6, _), (7, _), (8, _), (9, _), (11, _), (12, _), (13, _)]) ?_ (.cons rfl (.cons rfl (.cons rfl (.cons rfl (.cons rfl (.cons rfl (.cons rfl (.cons rfl (.cons rfl (.nil))))))))))
        refine SC_again (ih ((i + 1, s2, s2.hv, viewOf (mget s.T s2.lock))) (⟨by dsimp only; omega, hs2, r2, by simp, by simp⟩) (by dsimp only; omega)) (.fin) (.cons rfl (.cons rfl (.cons rfl (.cons rfl (.cons rfl (.cons rfl (.cons rfl (.cons rfl (.cons' rfl (ie (by dsimp only; omega)) (.nil))))))))))
      · refine SQ_no rfl rfl rfl (hg20_41) (lts rfl) ?_
        refine SQ_no rfl rfl rfl (hg20_41) (lts rfl) ?_
        refine SQ_no rfl rfl rfl (hg20_41) (lts rfl) ?_
        refine SQ_no rfl rfl rfl (hg20_41) (lts rfl) ?_
        refine SQ_no1 rfl rfl rfl (hg20_41) (lts rfl) ?_
        refine SQ_no1 rfl rfl rfl (hg20_41) (lts rfl) ?_
        refine SQ_no rfl rfl rfl (hg20_41) (lts rfl) ?_
        refine SQ_pyes rfl rfl rfl (decide_eq_false (by have := r2.below; omega)) (RD_pick_f rfl (hg20_41) rfl) rfl ?_
        refine SQ_pyes rfl rfl rfl (decide_eq_false (by have := r2.below; omega)) (RD_move rfl) rfl ?_
        refine SQ_no rfl rfl rfl (rfl) (lts rfl) ?_
        refine SQ_no rfl rfl rfl (rfl) (lts rfl) ?_
        refine SQ_no1 rfl rfl rfl (rfl) (lts rfl) ?_
        refine SQ_no rfl rfl rfl (rfl) (lts rfl) ?_
        refine SQ_pyes rfl rfl rfl (decide_eq_false (by have := r2.below; omega)) (RD_pick_f rfl (rfl) rfl) rfl ?_
        refine SQ_pu rfl (RD_pick_f rfl (decide_eq_false (by have := r2.below; omega)) rfl) rfl ?_
        refine SQ_nil ?_
        refine SN.le (l := [(1, _), (5, _), (6, _), (7, _), (8, _), (9, _), (13, _), (17, _), (18, _), (137, _)]) ?_ (.cons rfl (.cons rfl (.cons rfl (.cons rfl (.cons rfl (.cons rfl (.cons rfl (.cons rfl (.cons rfl (.cons rfl (.nil)))))))))))
        refine SN_seq ?_
        refine SC_cond_false rfl (rfl) ?_
        refine SC_skip ?_
        refine SN_seq ?_
        refine SC_drawn (.cons 0 true (.cons 1 true (.cons 2 true (.cons 3 true (.cons 4 false (.cons 5 true (.cons 6 true (.nil)))))))) (by kernel_rfl) (by kernel_rfl) ?_
        first
          | refine SQ_pu rfl (RD_fieldAddr0 Try.runUnderlying34 rfl rfl Try.sizeOf3 rfl) rfl ?_
          | refine SQ_rd rfl (RD_fieldAddrO 0 Try.runUnderlying34 rfl rfl Try.sizeOf3 rfl (by simp <;> omega)) Has.ro rfl ?_
        refine SQ_rd rfl (RD_load Try.isAgg3 rfl) (Has.ce rfl) rfl ?_
        refine SQ_pu rfl (RD_move rfl) rfl ?_
        refine SQ_pu rfl (RD_move rfl) rfl ?_
        refine SQ_call rfl Try.call38 (.cons rfl (.cons rfl (.nil))) (CallsK.at (tree_View p s s2.lock)) (lts rfl) ?_
        rintro _ L21 ⟨rfl, hL21⟩
        refine ⟨.lands hL21 (.h (Has.ce rfl) (.nil)), ?_⟩
        refine SQ.lands hL21 ?_
        refine SQ_pu rfl (RD_assign rfl) rfl ?_
        refine SQ_pu rfl (RD_assign rfl) rfl ?_
        refine SQ_nil ?_
        refine SN.le (l := [(1, _), (5, _), (6, _), (7, _), (8, _), (9, _), (11, _), (12, _), (13, _)]) ?_ (.cons rfl (.cons rfl (.cons rfl (.cons rfl (.cons rfl (.cons rfl (.cons rfl (.cons rfl (.cons rfl (.nil))))))))))
        refine SN_block ?_
        refine SN_seq ?_
        refine SC_region ?_
        refine SR_pu (RD_move rfl) rfl ?_
        refine SR_pu (RD_addi rfl rfl (by omega) (by omega)) rfl ?_
        refine SR_pu (RD_assign rfl) rfl ?_
        refine SR_nil ?_
        refine SN.le (l := [(1, _), (5, _), (6, _), (7, _), (8, _), (9, _), (11, _), (12, _), (13, _)]) ?_ (.cons rfl (.cons rfl (.cons rfl (.cons rfl (.cons rfl (.cons rfl (.cons rfl (.cons rfl (.cons rfl (.nil))))))))))
        refine SC_again (ih ((i + 1, s2, s2.hv, viewOf (mget s.T s2.lock))) (⟨by dsimp only; omega, hs2, r2, by simp, by simp⟩) (by dsimp only; omega)) (.fin) (.cons rfl (.cons rfl (.cons rfl (.cons rfl (.cons rfl (.cons rfl (.cons rfl (.cons rfl (.cons' rfl (ie (by dsimp only; omega)) (.nil))))))))))
    · refine SC_exit rfl ?_
      refine SN_seq ?_
      refine SC_seq ?_
      refine SC_region ?_
      refine SR_pu (RD_move rfl) rfl ?_
      refine SR_call Try.call59 (.cons rfl (.nil)) (CallsK.at (safe_Last y ss)) (lts rfl) ?_
      rintro _ L22 ⟨rfl, hL22⟩
      rw [hR.last]
      refine SR.lands hL22 ?_
      refine SR_pu (RD_eql rfl rfl) rfl ?_
      refine SR_pu (RD_move rfl) rfl ?_
      refine SR_yes rfl rfl (by first | rfl | exact decide_eq_true (by omega) | exact decide_eq_false (by omega) | decide | (simp; done) | (simp; omega)) ?_
      refine SR_call Try.call56 (.nil) (safe_awake) (lts rfl) ?_
      rintro _ L23 ⟨rfl, hL23⟩
      refine SR.lands hL23 ?_
      refine SR_pu (RD_pick_t rfl (by first | rfl | exact decide_eq_true (by omega) | exact decide_eq_false (by omega) | decide | (simp; done) | (simp; omega)) rfl) rfl ?_
      refine SR_pu (RD_assign rfl) rfl ?_
      refine SR_nil ?_
      refine SN.le (l := [(4, _)]) ?_ (.cons rfl (.nil))
      refine SN_seq ?_
      refine SC_ret1 rfl rfl ?_
      exact ⟨rfl, .fin⟩
  · refine SR_no rfl rfl (hg13_4) (lts rfl) ?_
    refine SR_no rfl rfl (hg13_4) (lts rfl) ?_
    refine SR_pu (RD_pick_f rfl (hg13_4) rfl) rfl ?_
    refine SR_nil ?_
    refine SN.le (l := [(1, _), (5, _), (6, _), (7, _), (8, _), (9, _), (11, _), (12, _), (13, _), (50, _)]) ?_ (.cons rfl (.cons rfl (.cons rfl (.cons rfl (.cons rfl (.cons rfl (.cons rfl (.cons rfl (.cons rfl (.cons rfl (.nil)))))))))))
    refine SN_seq ?_
    refine SC_cond_false rfl (rfl) ?_
    refine SC_exit rfl ?_
    refine SN_seq ?_
    refine SC_seq ?_
    refine SC_region ?_
    refine SR_pu (RD_move rfl) rfl ?_
    refine SR_call Try.call59 (.cons rfl (.nil)) (CallsK.at (safe_Last y ss)) (lts rfl) ?_
    rintro _ L22 ⟨rfl, hL22⟩
    rw [hR.last]
    refine SR.lands hL22 ?_
    refine SR_pu (RD_eql rfl rfl) rfl ?_
    refine SR_pu (RD_move rfl) rfl ?_
    refine SR_yes rfl rfl (by first | rfl | exact decide_eq_true (by omega) | exact decide_eq_false (by omega) | decide | (simp; done) | (simp; omega)) ?_
    refine SR_call Try.call56 (.nil) (safe_awake) (lts rfl) ?_
    rintro _ L23 ⟨rfl, hL23⟩
    refine SR.lands hL23 ?_
    refine SR_pu (RD_pick_t rfl (by first | rfl | exact decide_eq_true (by omega) | exact decide_eq_false (by omega) | decide | (simp; done) | (simp; omega)) rfl) rfl ?_
    refine SR_pu (RD_assign rfl) rfl ?_
    refine SR_nil ?_
    refine SN.le (l := [(4, _)]) ?_ (.cons rfl (.nil))
    refine SN_seq ?_
    refine SC_ret1 rfl rfl ?_
    exact ⟨rfl, .fin⟩

end Go.Proofs.Ytdmmaammpjdmbaa
