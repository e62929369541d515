/- Two envelopes have one digest just if they are the same: the statement. -/
import Derived.Test.YtnifaajdiolbjaaEn3
import Derived.Test.YtnifaajdiolbjaaTp
namespace Go.Proofs.Ytnifaajdiolbjaa
open Go Go.Proofs
set_option maxRecDepth 100000
theorem dig_env {l : List (List UInt8)} {x y : EnvD} (hx : x.Good) (hy : y.Good) (hm : envB x ∈ l) : dnum l (envB x) = dnum l (envB y) ↔ x = y := ⟨fun h => envB_inj hx hy (dnum_inj hm h), fun h => h ▸ rfl⟩
theorem num_one {l : List (List UInt8)} {e : EnvD} (hl : Ext [envB e] l) : dnum l (envB e) = 1 ∧ dput l (envB e) = l := ⟨by rw [hl.num (by simp)]; simp [dnum], dput_idem (hl.mem (by simp))⟩
theorem okL_ext (l : List (List UInt8)) (x : EnvD) : Ext l (okL l x) ∧ (okL l x).length ≤ l.length + 1 := by
  unfold okL; split
  · exact ⟨Ext.put _ _, dput_len _ _⟩
  · exact ⟨Ext.same, by omega⟩
theorem ok_env {l : List (List UInt8)} {e x : EnvD} (he : e.Good) (hx : x.Good) (hc : 0 ≤ e.client ∧ e.client ≤ 999) (hl : Ext [envB e] l) : decide (okE (okL l x) [(1, [1000 + e.client])] x) = decide (x = e) := by
  refine decide_eq_decide.2 ⟨?_, ?_⟩
  · rintro ⟨h1, h2, h3⟩
    have e1 : okL l x = dput l (envB x) := if_pos ⟨h1, h2⟩
    rw [e1] at h3
    have hk : ((dnum (dput l (envB x)) (envB x) : Nat) : Int) = 1 := by
      simp only [signers] at h3
      split at h3
      · assumption
      · simp at h3
    have h4 := (num_one (hl.trans (Ext.put l (envB x)))).1
    exact (dig_env (l := dput l (envB x)) hx he (dput_mem _ _)).1 (by omega)
  · rintro rfl
    have e1 : okL l x = l := (if_pos hc).trans (num_one hl).2
    rw [e1]
    refine ⟨hc.1, hc.2, ?_⟩
    rw [(num_one hl).1]
    simp [signers]

theorem law_EnveUnlike {W : World} {F : List HProp} [Abs F] (a b : EnvD) (ha : a.Good) (hb : b.Good) (cl nc fe : Int) (h1 : 0 ≤ nc ∧ nc < 18446744073709551616) (h2 : 0 ≤ fe ∧ fe < 18446744073709551616) :
    CallsK W Try.prog 9 #[a.val, b.val, .int .i64 cl, .int .u64 nc, .int .u64 fe] (F) (fun v L => v = .bool true ∧ Lands L F) := by
  refine CallsK_enter (n := 84) Try.func9 rfl rfl rfl ?_
  have heg : EnvD.Good ⟨cl % 256, nc, fe, 1⟩ := ⟨by unfold I64; dsimp only; omega, by unfold I64; dsimp only; omega, h1, h2⟩
  have hcg : EnvD.Good ⟨a.client, nc, fe, 1⟩ := ⟨ha.1, by unfold I64; dsimp only; omega, h1, h2⟩
  have hcr : 0 ≤ cl % 256 ∧ cl % 256 ≤ 999 := by omega
  refine SC_seq ?_
  refine SC_region ?_
  refine SR_ox (OX_box rfl rfl) rfl ?_
  rintro _ _ ⟨b5, rfl, rfl⟩
  refine SR_ox (OX_box rfl rfl) rfl ?_
  rintro _ _ ⟨b6, rfl, rfl⟩
  refine SR_pu (RD_assign rfl) rfl ?_
  refine SR_nil ?_
  refine SN.le (l := [(2, _), (3, _), (4, _), (5, _), (6, _)]) ?_ (.cons rfl (.cons rfl (.cons rfl (.cons rfl (.cons rfl (.nil))))))
  refine SN_seq ?_
  refine SC_seq ?_
  refine SC_region ?_
  refine SR_call Try.call16 (.cons rfl (.nil)) (enve_New 1) (lts rfl) ?_
  rintro _ L0 ⟨k, rfl, hL0⟩
  refine SR.lands hL0 ?_
  refine SR_pu (RD_assign rfl) rfl ?_
  refine SR_nil ?_
  refine SN.le (l := [(2, _), (3, _), (4, _), (5, _), (6, _), (11, _)]) ?_ (.cons rfl (.cons rfl (.cons rfl (.cons rfl (.cons rfl (.cons rfl (.nil)))))))
  refine SN_seq ?_
  refine SC_seq ?_
  refine SC_seq ?_
  refine SC_region ?_
  refine SR_pu (RD_move rfl) rfl ?_
  refine SR_pu (RD_eqlP Try.underlying35 rfl rfl) rfl ?_
  refine SR_pu (RD_move rfl) rfl ?_
  refine SR_yes rfl rfl (rfl) ?_
  refine SR_pu (RD_move rfl) rfl ?_
  refine SR_yes rfl rfl (rfl) ?_
  refine SR_call Try.call21 (.cons rfl (.nil)) (CallsK.at (w_Signs k ⟨[], []⟩)) (lts rfl) ?_
  rintro _ L2 ⟨rfl, hL2⟩
  refine SR.lands hL2 ?_
  refine SR_yes rfl rfl (rfl) ?_
  refine SR_pu (RD_eqlP Try.underlying47 rfl rfl) rfl ?_
  refine SR_pu (RD_pick_f rfl (rfl) rfl) rfl ?_
  refine SR_nil ?_
  refine SN.le (l := [(2, _), (3, _), (4, _), (5, _), (6, _), (11, _), (22, _)]) ?_ (.cons rfl (.cons rfl (.cons rfl (.cons rfl (.cons rfl (.cons rfl (.cons rfl (.nil))))))))
  refine SN_seq ?_
  refine SC_cond_false rfl (rfl) ?_
  refine SC_skip ?_
  refine SN_seq ?_
  refine SC_seq ?_
  refine SC_region ?_
  refine SR_pu (RD_move rfl) rfl ?_
  refine SR_pu (RD_move rfl) rfl ?_
  refine SR_pu (RD_mask 8 rfl rfl rfl (by decide) 256 rfl) rfl ?_
  refine SR_pu (RD_move rfl) rfl ?_
  refine SR_pu (RD_move rfl) rfl ?_
  refine SR_ox (OX_lit1 Try.underlying53 Try.type5 rfl rfl rfl rfl (.cons rfl (.nil)) (.cons rfl (.nil))) rfl ?_
  rintro _ _ ⟨b28, rfl, rfl⟩
  refine SR_ox (OX_mark Try.underlying53 Try.underlying5 rfl) rfl ?_
  rintro _ _ ⟨fz29, rfl, rfl⟩
  refine SR_call Try.call35 (.cons rfl (.cons rfl (.cons rfl (.cons rfl (.cons rfl (.nil)))))) (CallsK.lands (.fin : Lands _ (At worldI k ⟨[], []⟩ :: pt k.v (.cells [.int .i64 (vneed 1), .slice none 0 0].toArray 142) :: pt b28 (.cells [.int .u8 116].toArray 5 fz29) :: pt b5 (.cells a.cells.toArray 39) :: pt b6 (.cells b.cells.toArray 39) :: F)) (w_Make1 k ⟨[], []⟩ (vneed 1) (cl % 256) nc fe hcr h1 h2 (some ⟨b28, 0, none⟩) 1 1 [116] (cs0 := [.int .u8 116]) rfl rfl (by omega) (by simp))) (lts rfl) ?_
  rintro _ L3 ⟨rfl, hL3⟩
  have hz : dput [] (envB ⟨cl % 256, nc, fe, 1⟩) = [envB ⟨cl % 256, nc, fe, 1⟩] ∧ addTo [] (1000 + cl % 256) (dnum [envB ⟨cl % 256, nc, fe, 1⟩] (envB ⟨cl % 256, nc, fe, 1⟩) : Nat) = [(1, [1000 + cl % 256])] := ⟨rfl, by simp [dnum, addTo]⟩
  dsimp only at hL3
  rw [hz.1, hz.2] at hL3
  refine SR.lands hL3 ?_
  refine SR_ox (OX_alloc Try.zeroValue39 rfl) rfl ?_
  rintro _ _ ⟨b12, rfl, rfl⟩
  refine SR_ox0 (OX_stA (vs := EnvD.cells ⟨cl % 256, nc, fe, 1⟩) Try.sizeOf39 rfl rfl rfl rfl) ?_
  rintro _ _ rfl
  refine SR_nil ?_
  refine SN.le (l := [(2, _), (3, _), (4, _), (5, _), (6, _), (11, _), (12, _)]) ?_ (.cons rfl (.cons rfl (.cons rfl (.cons rfl (.cons rfl (.cons rfl (.cons rfl (.nil))))))))
  refine SN_seq ?_
  refine SC_seq ?_
  refine SC_seq ?_
  refine SC_region ?_
  refine SR_rd (RD_loadA (vs := EnvD.cells a) Try.isAgg39 Try.sizeOf39 rfl rfl) Has.wh rfl ?_
  refine SR_rd (RD_loadA (vs := EnvD.cells b) Try.isAgg39 Try.sizeOf39 rfl rfl) Has.wh rfl ?_
  first
    | refine SR_pu (RD_fieldAddr0 Try.runUnderlying39 rfl rfl Try.sizeOf3 rfl) rfl ?_
    | refine SR_rd (RD_fieldAddrO 0 Try.runUnderlying39 rfl rfl Try.sizeOf3 rfl (by simp <;> omega)) Has.ro rfl ?_
  refine SR_rd (RD_load Try.isAgg3 rfl) (Has.ce rfl) rfl ?_
  refine SR_pu (RD_move rfl) rfl ?_
  refine SR_pu (RD_move rfl) rfl ?_
  refine SR_pu (RD_build (.cons rfl (.cons rfl (.cons rfl (.cons rfl (.nil))))) built39_0_1_2_3) rfl ?_
  refine SR_pu (RD_move rfl) rfl ?_
  refine SR_pu (RD_mask 8 rfl rfl rfl (by decide) 256 rfl) rfl ?_
  refine SR_pu (RD_move rfl) rfl ?_
  refine SR_pu (RD_move rfl) rfl ?_
  refine SR_pu (RD_build (.cons rfl (.cons rfl (.cons rfl (.cons rfl (.nil))))) built39_0_1_2_3) rfl ?_
  refine SR_ox (OX_lit Try.underlying31 Try.type39 rfl rfl rfl rfl (.cons rfl (.cons rfl (.cons rfl (.cons rfl (.nil))))) (.cons rfl rfl (.cons rfl rfl (.cons rfl rfl (.cons rfl rfl (.nil)))))) rfl ?_
  rintro _ _ ⟨b43, rfl, rfl⟩
  refine SR_pu (RD_len Try.runUnderlying31 rfl) rfl ?_
  refine SR_pu (RD_move rfl) rfl ?_
  refine SR_nil ?_
  refine SN.le (l := [(5, _), (6, _), (11, _), (12, _), (43, _), (44, _), (45, _)]) ?_ (.cons rfl (.cons rfl (.cons rfl (.cons rfl (.cons rfl (.cons rfl (.cons rfl (.nil))))))))
  refine SN_seq ?_
  refine SC_block ?_
  refine SC_ind (X := Nat × List (List UInt8)) (fun x => x.1 ≤ 4 ∧ Ext [envB ⟨cl % 256, nc, fe, 1⟩] x.2 ∧ x.2.length ≤ 1 + 2 * x.1) (fun x => 4 - x.1) (fun x => [(5, .pointer (some ⟨b5, 0, none⟩)), (6, .pointer (some ⟨b6, 0, none⟩)), (11, .pointer (some ⟨k.p, 0, none⟩)), (12, .pointer (some ⟨b12, 0, none⟩)), (43, .slice (some ⟨b43, 0, none⟩) 4 4), (44, .int .i64 4), (45, .int .i64 (x.1 : Nat))]) (fun x => pt b5 (.cells a.cells.toArray 39) :: pt b6 (.cells b.cells.toArray 39) :: pt b12 (.cells (EnvD.cells ⟨cl % 256, nc, fe, 1⟩).toArray 39) :: pt b43 (.cells ([a, b, ⟨a.client, nc, fe, 1⟩, ⟨cl % 256, nc, fe, 1⟩].flatMap EnvD.cells).toArray 39) :: At worldI k ⟨x.2, [(1, [1000 + cl % 256])]⟩ :: F) ((0, [envB ⟨cl % 256, nc, fe, 1⟩])) (⟨by simp, Ext.same, by simp⟩) (.cons rfl (.cons rfl (.cons rfl (.cons rfl (.cons rfl (.cons rfl (.cons rfl (.nil)))))))) ((show Lands _ (pt b5 (.cells a.cells.toArray 39) :: pt b6 (.cells b.cells.toArray 39) :: pt b12 (.cells (EnvD.cells ⟨cl % 256, nc, fe, 1⟩).toArray 39) :: pt b43 (.cells (a.cells ++ (b.cells ++ ([Value.int .i64 a.client, .int .u64 nc, .int .u64 fe, .int .i64 1] ++ ([Value.int .i64 (cl % 256), .int .u64 nc, .int .u64 fe, .int .i64 1] ++ [])))).toArray 39) :: At worldI k ⟨[envB ⟨cl % 256, nc, fe, 1⟩], [(1, [1000 + cl % 256])]⟩ :: F) from .fin)) ?_
  intro ⟨i, l⟩ hi ih
  obtain ⟨hi1, hx, hll⟩ := hi
  dsimp only at hi1 hx hll ih ⊢
  refine SC_seq ?_
  refine SC_region ?_
  refine SR_pu (RD_lss rfl rfl) rfl ?_
  refine SR_nil ?_
  refine SN.le (l := [(5, _), (6, _), (11, _), (12, _), (43, _), (44, _), (45, _), (46, _)]) ?_ (.cons rfl (.cons rfl (.cons rfl (.cons rfl (.cons rfl (.cons rfl (.cons rfl (.cons rfl (.nil)))))))))
  refine SN_seq ?_
  refine SC_seq ?_
  refine SC_cond rfl (fun hc46 => ?_) (fun hc46 => ?_)
  · have hin : i < 4 := by simp at hc46; omega
    obtain ⟨x, hxi⟩ : ∃ x, [a, b, ⟨a.client, nc, fe, 1⟩, ⟨cl % 256, nc, fe, 1⟩][i]? = some x := ⟨_, List.getElem?_eq_getElem (by simp; omega)⟩
    have hxm := List.mem_of_getElem? hxi
    have hxg : x.Good := by
      simp only [List.mem_cons, List.not_mem_nil, or_false] at hxm
      rcases hxm with h | h | h | h <;> subst h
      · exact ha
      · exact hb
      · exact hcg
      · exact heg
    clear hxm
    have hok := ok_env heg hxg hcr hx
    dsimp only at hok
    obtain ⟨hx1, hl1⟩ := okL_ext l x
    obtain ⟨l1, hl1e⟩ : ∃ l1, okL l x = l1 := ⟨_, rfl⟩
    rw [hl1e] at hok hx1 hl1
    obtain ⟨l2, hl2e⟩ : ∃ l2, dput l1 (envB x) = l2 := ⟨_, rfl⟩
    have hx2 : Ext l1 l2 := by rw [← hl2e]; exact Ext.put _ _
    have hll2 : l2.length ≤ l.length + 2 := by rw [← hl2e]; have := dput_len l1 (envB x); omega
    have hm2 : envB x ∈ l2 := by rw [← hl2e]; exact dput_mem _ _
    have hxe := (hx.trans hx1).trans hx2
    obtain ⟨hn1, hn2⟩ := num_one hxe
    have hdx : decide (((dnum l2 (envB x) : Nat) : Int) = ((1 : Nat) : Int)) = decide (x = ⟨cl % 256, nc, fe, 1⟩) := decide_eq_decide.2 (by rw [← dig_env hxg heg hm2, hn1]; omega)
    have hl2s : l2.length ≤ 1 + 2 * (i + 1) := by omega
    refine SC_skip ?_
    refine SN_seq ?_
    refine SC_seq ?_
    refine SC_block ?_
    refine SC_seq ?_
    refine SC_region ?_
    refine SR_rd (RD_ixO (i := (i : Nat)) (cs := ([a, b, ⟨a.client, nc, fe, 1⟩, ⟨cl % 256, nc, fe, 1⟩].flatMap EnvD.cells)) Try.runUnderlying31 Try.sizeOf39 rfl rfl (by simp [EnvD.cells]) (by omega) (by omega)) Has.ro rfl ?_
    refine SR_rd (RD_loadAO (vs := EnvD.cells x) (cs := ([a, b, ⟨a.client, nc, fe, 1⟩, ⟨cl % 256, nc, fe, 1⟩].flatMap EnvD.cells)) Try.isAgg39 Try.sizeOf39 rfl rfl (by decide) (fun o v h => by have ho : o < 4 := (List.getElem?_eq_some_iff.1 h).1; rw [show ((i : Nat) : Int).toNat * (3 + 1) + o = i * 4 + o by omega, env_get hxi o ho]; exact h)) Has.ro rfl ?_
    refine SR_ox (OX_alloc Try.zeroValue39 rfl) rfl ?_
    rintro _ _ ⟨b14, rfl, rfl⟩
    refine SR_ox0 (OX_stA (vs := EnvD.cells x) Try.sizeOf39 rfl rfl rfl rfl) ?_
    rintro _ _ rfl
    refine SR_nil ?_
    refine SN.le (l := [(5, _), (6, _), (11, _), (12, _), (14, _), (43, _), (44, _), (45, _)]) ?_ (.cons rfl (.cons rfl (.cons rfl (.cons rfl (.cons rfl (.cons rfl (.cons rfl (.cons rfl (.nil)))))))))
    refine SN_seq ?_
    refine SC_seq ?_
    refine SC_drawn (.cons 0 true (.cons 1 true (.cons 3 true (.cons 4 true (.cons 5 true (.cons 2 false (.cons 6 true (.cons 7 true (.cons 8 true (.cons 9 true (.cons 11 true (.cons 12 true (.cons 15 true (.cons 16 true (.cons 17 true (.cons 10 false (.cons 13 false (.cons 14 true (.cons 18 true (.cons 19 true (.nil))))))))))))))))))))) (by kernel_rfl) (by kernel_rfl) ?_
    refine SQ_pu rfl (RD_move rfl) rfl ?_
    refine SQ_rd rfl (RD_loadA (vs := EnvD.cells x) Try.isAgg39 Try.sizeOf39 rfl rfl) Has.wh rfl ?_
    refine SQ_rd rfl (RD_loadA (vs := EnvD.cells x) Try.isAgg39 Try.sizeOf39 rfl rfl) Has.wh rfl ?_
    refine SQ_rd rfl (RD_loadA (vs := EnvD.cells ⟨cl % 256, nc, fe, 1⟩) Try.isAgg39 Try.sizeOf39 rfl rfl) Has.wh rfl ?_
    refine SQ_pu rfl (RD_eqlEnv x ⟨cl % 256, nc, fe, 1⟩ rfl rfl rfl) rfl ?_
    refine SQ_call rfl Try.call28 (.cons rfl (.cons rfl (.nil))) (CallsK.at (w_OkA k ⟨l, [(1, [1000 + cl % 256])]⟩ x hxg.2.2 (by dsimp only; omega) l1 _ hl1e hok)) (lts rfl) ?_
    rintro _ L4 ⟨rfl, hL4⟩
    refine ⟨.lands hL4 (.h Has.wh (.h Has.wh (.w rfl (.nil)))), ?_⟩
    refine SQ.lands hL4 ?_
    refine SQ_pu rfl (RD_neqB Try.underlying4 rfl rfl) rfl ?_
    refine SQ_pu rfl (RD_move rfl) rfl ?_
    refine SQ_pyes rfl rfl rfl (by simp) (RD_move rfl) rfl ?_
    refine SQ_yes rfl rfl rfl (by simp) (RD_loadA (vs := EnvD.cells x) Try.isAgg39 Try.sizeOf39 rfl rfl) Has.wh rfl ?_
    refine SQ_pyes rfl rfl rfl (by simp) (RD_move rfl) rfl ?_
    refine SQ_yes rfl rfl rfl (by simp) (RD_loadA (vs := EnvD.cells ⟨cl % 256, nc, fe, 1⟩) Try.isAgg39 Try.sizeOf39 rfl rfl) Has.wh rfl ?_
    refine SQ_yes rfl rfl rfl (by simp) (RD_loadA (vs := EnvD.cells x) Try.isAgg39 Try.sizeOf39 rfl rfl) Has.wh rfl ?_
    refine SQ_yes rfl rfl rfl (by simp) (RD_loadA (vs := EnvD.cells ⟨cl % 256, nc, fe, 1⟩) Try.isAgg39 Try.sizeOf39 rfl rfl) Has.wh rfl ?_
    refine SQ_pyes rfl rfl rfl (by simp) (RD_eqlEnv x ⟨cl % 256, nc, fe, 1⟩ rfl rfl rfl) rfl ?_
    refine SQ_one (SA_call rfl (.mk rfl rfl (by simp)) Try.call29 (.cons rfl (.cons rfl (.nil))) (CallsK.at (w_EnvDigest k ⟨l1, [(1, [1000 + cl % 256])]⟩ x hxg.2.2 (by dsimp only; omega) l2 (dnum l2 (envB x)) hl2e rfl)) (lts rfl) ?_)
    rintro _ L5 ⟨rfl, hL5⟩
    refine ⟨.lands hL5 (.h Has.wh (.h Has.wh (.h Has.wh (.w rfl (.h Has.wh (.h Has.wh (.h Has.wh (.nil)))))))), ?_⟩
    refine SQ.lands hL5 ?_
    refine SQ_one (SA_call rfl (.mk rfl rfl (by simp)) Try.call29 (.cons rfl (.cons rfl (.nil))) (CallsK.at (w_EnvDigest k ⟨l2, [(1, [1000 + cl % 256])]⟩ ⟨cl % 256, nc, fe, 1⟩ heg.2.2 (by dsimp only; omega) l2 1 hn2 hn1)) (lts rfl) ?_)
    rintro _ L6 ⟨rfl, hL6⟩
    refine ⟨.lands hL6 (.h Has.wh (.h Has.wh (.w rfl (.h Has.wh (.h Has.wh (.h Has.wh (.h Has.wh (.nil)))))))), ?_⟩
    refine SQ.lands hL6 ?_
    refine SQ_pyes rfl rfl rfl (by simp) (RD_eql rfl rfl) rfl ?_
    refine SQ_pyes rfl rfl rfl (by simp) (RD_neqB Try.underlying4 rfl rfl) rfl ?_
    refine SQ_pu rfl (RD_pick_f rfl (by simp) rfl) rfl ?_
    refine SQ_nil ?_
    refine SN.le (l := [(5, _), (6, _), (11, _), (12, _), (43, _), (44, _), (45, _), (68, _)]) ?_ (.cons rfl (.cons rfl (.cons rfl (.cons rfl (.cons rfl (.cons rfl (.cons rfl (.cons rfl (.nil)))))))))
    refine SN_seq ?_
    refine SC_cond_false rfl (by rw [hdx]; simp) ?_
    refine SC_skip ?_
    refine SN_block ?_
    refine SN_seq ?_
    refine SC_region ?_
    refine SR_pu (RD_addi rfl rfl (by omega) (by omega)) rfl ?_
    refine SR_pu (RD_move rfl) rfl ?_
    refine SR_nil ?_
    refine SN.le (l := [(5, _), (6, _), (11, _), (12, _), (43, _), (44, _), (45, _)]) ?_ (.cons rfl (.cons rfl (.cons rfl (.cons rfl (.cons rfl (.cons rfl (.cons rfl (.nil))))))))
    refine SC_again (ih ((i + 1, l2)) (⟨by dsimp only; omega, hxe, hl2s⟩) (by dsimp only; omega)) (.fin) (.cons rfl (.cons rfl (.cons rfl (.cons rfl (.cons rfl (.cons rfl (.cons' rfl (ie (by dsimp only; omega)) (.nil))))))))
  · clear ih
    obtain ⟨l1, hl1e⟩ : ∃ l1, dput l (envB a) = l1 := ⟨_, rfl⟩
    have hma : envB a ∈ l1 := by rw [← hl1e]; exact dput_mem _ _
    have hll1 := dput_len l (envB a)
    rw [hl1e] at hll1
    obtain ⟨l2, hl2e⟩ : ∃ l2, dput l1 (envB b) = l2 := ⟨_, rfl⟩
    have hx2 : Ext l1 l2 := by rw [← hl2e]; exact Ext.put _ _
    have hna : dnum l2 (envB a) = dnum l1 (envB a) := hx2.num hma
    have hab : decide (((dnum l1 (envB a) : Nat) : Int) = ((dnum l2 (envB b) : Nat) : Int)) = decide (a = b) := decide_eq_decide.2 (by rw [← dig_env ha hb (hx2.mem hma), hna]; omega)
    refine SC_exit rfl ?_
    refine SN_seq ?_
    refine SC_seq ?_
    refine SC_drawn (.cons 0 true (.cons 1 true (.cons 3 true (.cons 4 true (.cons 7 true (.cons 8 true (.cons 9 true (.cons 2 false (.cons 5 false (.cons 6 true (.cons 10 true (.cons 11 true (.cons 12 false (.cons 13 true (.cons 14 true (.nil)))))))))))))))) (by kernel_rfl) (by kernel_rfl) ?_
    refine SQ_pu rfl (RD_move rfl) rfl ?_
    refine SQ_rd rfl (RD_loadA (vs := EnvD.cells a) Try.isAgg39 Try.sizeOf39 rfl rfl) Has.wh rfl ?_
    refine SQ_pu rfl (RD_move rfl) rfl ?_
    refine SQ_rd rfl (RD_loadA (vs := EnvD.cells b) Try.isAgg39 Try.sizeOf39 rfl rfl) Has.wh rfl ?_
    refine SQ_rd rfl (RD_loadA (vs := EnvD.cells a) Try.isAgg39 Try.sizeOf39 rfl rfl) Has.wh rfl ?_
    refine SQ_rd rfl (RD_loadA (vs := EnvD.cells b) Try.isAgg39 Try.sizeOf39 rfl rfl) Has.wh rfl ?_
    refine SQ_pu rfl (RD_eqlEnv a b rfl rfl rfl) rfl ?_
    refine SQ_call rfl Try.call29 (.cons rfl (.cons rfl (.nil))) (CallsK.at (w_EnvDigest k ⟨l, [(1, [1000 + cl % 256])]⟩ a ha.2.2 (by dsimp only; omega) l1 (dnum l1 (envB a)) hl1e rfl)) (lts rfl) ?_
    rintro _ L7 ⟨rfl, hL7⟩
    refine ⟨.lands hL7 (.h Has.wh (.h Has.wh (.h Has.wh (.w rfl (.nil))))), ?_⟩
    refine SQ.lands hL7 ?_
    refine SQ_call rfl Try.call29 (.cons rfl (.cons rfl (.nil))) (CallsK.at (w_EnvDigest k ⟨l1, [(1, [1000 + cl % 256])]⟩ b hb.2.2 (by dsimp only; omega) l2 (dnum l2 (envB b)) hl2e rfl)) (lts rfl) ?_
    rintro _ L8 ⟨rfl, hL8⟩
    refine ⟨.lands hL8 (.h Has.wh (.h Has.wh (.w rfl (.h Has.wh (.nil))))), ?_⟩
    refine SQ.lands hL8 ?_
    refine SQ_pu rfl (RD_eql rfl rfl) rfl ?_
    refine SQ_pu rfl (RD_eqlB Try.underlying4 rfl rfl) rfl ?_
    refine SQ_pu rfl (RD_move rfl) rfl ?_
    refine SQ_one (SA_call rfl (.mk rfl rfl (by rw [hab]; simp)) Try.call48 (.nil) (enve_awake) (lts rfl) ?_)
    rintro _ L9 ⟨rfl, hL9⟩
    refine ⟨.lands hL9 (.h Has.wh (.h Has.wh (.h Has.wh (.h Has.wh (.nil))))), ?_⟩
    refine SQ.lands hL9 ?_
    refine SQ_pu rfl (RD_pick_t rfl (by rw [hab]; simp) rfl) rfl ?_
    refine SQ_pu rfl (RD_assign rfl) rfl ?_
    refine SQ_nil ?_
    refine SN.le (l := [(10, _)]) ?_ (.cons rfl (.nil))
    refine SN_seq ?_
    refine SC_ret1 rfl rfl ?_
    exact ⟨rfl, .fin⟩

end Go.Proofs.Ytnifaajdiolbjaa
