/- Envelopes are made, have digests, are signed and open as the document says: the statement. -/
import Derived.Test.YtnifaajdiolbjaaEn7
import Derived.Test.YtnifaajdiolbjaaEn5
namespace Go.Proofs.Ytnifaajdiolbjaa
open Go Go.Proofs
set_option maxRecDepth 100000
theorem w_Of1 {W : World} {F : List HProp} [Abs F] (k : WK) (x : List UInt8) (S : List (Int × List Int)) :
    CallsK W Try.prog 30 #[.pointer (some ⟨k.t, 0, none⟩), .int .i64 ((1 : Nat) : Int)] (At worldI k ⟨[x], S⟩ :: F) (fun v L => ∃ a c, v = .tuple #[.slice a x.length c, .bool true] ∧ Lands L (rowP 5 1 a x.length c (x.map byteV) :: At worldI k ⟨[x], S⟩ :: F)) :=
  CallsK.imp (CallsK.lands (open_world.trans fun m => Den_perm (List.Perm.swap _ _ _) m) (term_Of_ok k.t [x] 0 x rfl (by decide))) fun _ _ ⟨a, c, h1, h2⟩ => ⟨a, c, h1, h2.trans (Lands.cons ((show Lands _ _ from fun m => Den_perm (List.Perm.swap _ _ _) m).trans (shut_world (k := k) (s := ⟨[x], S⟩))))⟩
structure PX (F : List HProp) (a9 : Option Addr) (who : List Int) (x : BSl × List HProp) : Prop where
  abs : Abs x.2
  lands : Lands x.2 F
  row : HasRow x.2 x.1.a (x.1.bs.map byteV)
  hn : x.1.bs.length = x.1.n
  le : x.1.n ≤ 300
  who : HasRow x.2 a9 (who.map intV)
theorem vneed_four {f : Int} (h : 0 ≤ f ∧ f ≤ 3) : vneed f = f + 1 := by unfold vneed; omega
theorem openE_yes {s : V1} {e : EnvD} (h : s.label = e.client) : openE s e = ⟨e.client, e.nonce, e.fee, (parseTx s.plain).isSome, (parseTx s.plain).getD txZero⟩ := if_pos h
theorem openE_no {s : V1} {e : EnvD} (h : ¬ s.label = e.client ∨ parseTx s.plain = none) : openE s e = ⟨e.client, e.nonce, e.fee, false, txZero⟩ := by
  unfold openE
  rcases h with h | h
  · exact if_neg h
  · rw [h]; split <;> rfl

theorem law_EnveTells {W : World} {F : List HProp} [Abs F] (f cl nc fe : Int) (h2 : 0 ≤ nc ∧ nc < 18446744073709551616) (h3 : 0 ≤ fe ∧ fe < 18446744073709551616) (a4 : Option Addr) (n4 c4 : Nat) (ps : List UInt8) [HasRow F a4 (ps.map byteV)] (hn4 : ps.length = n4) (t : TxD) (hw : t.Wf) (right : Bool) (field to_ : Int) (h8 : 0 ≤ to_ ∧ to_ < 18446744073709551616) (a9 : Option Addr) (n9 c9 : Nat) (who : List Int) [HasRow F a9 (who.map intV)] (hn9 : who.length = n9) :
    CallsK W Try.prog 12 #[.int .i64 f, .int .i64 cl, .int .u64 nc, .int .u64 fe, .slice a4 n4 c4, t.val, .bool right, .int .i64 field, .int .u64 to_, .slice a9 n9 c9] (F) (fun v L => v = .bool true ∧ Lands L F) := by
  refine CallsK_enter (n := 237) Try.func12 rfl rfl rfl ?_
  refine SC_seq ?_
  refine SC_region ?_
  refine SR_ox (OX_box rfl rfl) rfl ?_
  rintro _ _ ⟨b15, rfl, rfl⟩
  refine SR_pu (RD_assign rfl) rfl ?_
  refine SR_nil ?_
  refine SN.le (l := [(0, _), (1, _), (2, _), (3, _), (4, _), (6, _), (7, _), (8, _), (9, _), (15, _)]) ?_ (.cons rfl (.cons rfl (.cons rfl (.cons rfl (.cons rfl (.cons rfl (.cons rfl (.cons rfl (.cons rfl (.cons rfl (.nil)))))))))))
  refine SN_seq ?_
  refine SC_seq ?_
  refine SC_seq ?_
  refine SC_region ?_
  refine SR_pu (RD_move rfl) rfl ?_
  refine SR_pu (RD_len Try.runUnderlying53 rfl) rfl ?_
  refine SR_pu (RD_gtr rfl rfl) rfl ?_
  refine SR_nil ?_
  refine SN.le (l := [(0, _), (1, _), (2, _), (3, _), (4, _), (6, _), (7, _), (8, _), (9, _), (15, _), (39, _)]) ?_ (.cons rfl (.cons rfl (.cons rfl (.cons rfl (.cons rfl (.cons rfl (.cons rfl (.cons rfl (.cons rfl (.cons rfl (.cons rfl (.nil))))))))))))
  refine SN_seq ?_
  refine SC_cond rfl (fun hc39 => ?_) (fun hc39 => ?_)
  · refine SC_seq ?_
    refine SC_region ?_
    refine SR_call Try.call48 (.nil) (enve_awake) (lts rfl) ?_
    rintro _ L0 ⟨rfl, hL0⟩
    refine SR.lands hL0 ?_
    refine SR_pu (RD_assign rfl) rfl ?_
    refine SR_nil ?_
    refine SN.le (l := [(20, _)]) ?_ (.cons rfl (.nil))
    refine SN_seq ?_
    refine SC_ret1 rfl rfl ?_
    exact ⟨rfl, .fin⟩
  · have hle4 : n4 ≤ 300 := by have := of_decide_eq_false hc39; omega
    refine SC_skip ?_
    refine SN_seq ?_
    refine SC_seq ?_
    refine SC_region ?_
    refine SR_pu (RD_move rfl) rfl ?_
    refine SR_pu (RD_mask 2 rfl rfl rfl (by decide) 4 rfl) rfl ?_
    refine SR_pu (RD_assign rfl) rfl ?_
    refine SR_nil ?_
    refine SN.le (l := [(0, _), (1, _), (2, _), (3, _), (4, _), (6, _), (7, _), (8, _), (9, _), (15, _)]) ?_ (.cons rfl (.cons rfl (.cons rfl (.cons rfl (.cons rfl (.cons rfl (.cons rfl (.cons rfl (.cons rfl (.cons rfl (.nil)))))))))))
    obtain ⟨ff, hf⟩ : ∃ ff, f % 4 = ff := ⟨_, rfl⟩
    rw [hf]
    have hff : 0 ≤ ff ∧ ff ≤ 3 := by omega
    clear hf
    refine SN_seq ?_
    refine SC_seq ?_
    refine SC_region ?_
    refine SR_pu (RD_move rfl) rfl ?_
    refine SR_call Try.call16 (.cons rfl (.nil)) (enve_New ff) (lts rfl) ?_
    rintro _ L0 ⟨k, rfl, hL0⟩
    refine SR.lands hL0 ?_
    refine SR_pu (RD_assign rfl) rfl ?_
    refine SR_nil ?_
    refine SN.le (l := [(0, _), (1, _), (2, _), (3, _), (4, _), (6, _), (7, _), (8, _), (9, _), (15, _), (21, _)]) ?_ (.cons rfl (.cons rfl (.cons rfl (.cons rfl (.cons rfl (.cons rfl (.cons rfl (.cons rfl (.cons rfl (.cons rfl (.cons rfl (.nil))))))))))))
    refine SN_seq ?_
    refine SC_seq ?_
    refine SC_seq ?_
    refine SC_region ?_
    refine SR_pu (RD_move rfl) rfl ?_
    refine SR_pu (RD_eqlP Try.underlying35 rfl rfl) rfl ?_
    refine SR_nil ?_
    refine SN.le (l := [(0, _), (1, _), (2, _), (3, _), (4, _), (6, _), (7, _), (8, _), (9, _), (15, _), (21, _), (46, _)]) ?_ (.cons rfl (.cons rfl (.cons rfl (.cons rfl (.cons rfl (.cons rfl (.cons rfl (.cons rfl (.cons rfl (.cons rfl (.cons rfl (.cons rfl (.nil)))))))))))))
    refine SN_seq ?_
    refine SC_cond_false rfl (rfl) ?_
    refine SC_skip ?_
    refine SN_seq ?_
    refine SC_seq ?_
    refine SC_seq ?_
    refine SC_join2 (X := {x : BSl × List HProp // PX F a9 who x}) (fun x => [(0, .int .i64 ff), (1, .int .i64 cl), (2, .int .u64 nc), (3, .int .u64 fe), (4, x.1.1.val), (7, .int .i64 field), (8, .int .u64 to_), (9, .slice a9 n9 c9), (21, .pointer (some ⟨k.p, 0, none⟩))]) (fun x => At worldI k ⟨[], []⟩ :: pt k.v (.cells [.int .i64 (vneed ff), .slice none 0 0].toArray 142) :: x.1.2) (fun ⟨⟨p, G⟩, hX⟩ => ?_) (fun J0 => ?_)
    · dsimp only at hX ⊢
      haveI := hX.abs
      have hG : Lands G F := hX.lands
      haveI : HasRow G p.a (p.bs.map byteV) := hX.row
      haveI : HasRow G a9 (who.map intV) := hX.who
      have hpn : p.bs.length = p.n := hX.hn
      have hpl : p.n ≤ 300 := hX.le
      by_cases hcl : 0 ≤ cl ∧ cl ≤ 999
      · have heg : EnvD.Good ⟨cl, nc, fe, 1⟩ := ⟨by unfold I64; dsimp only; omega, by unfold I64; dsimp only; omega, h2, h3⟩
        have hk1 : okL [envB ⟨cl, nc, fe, 1⟩] ⟨cl, nc, fe, 1⟩ = [envB ⟨cl, nc, fe, 1⟩] ∧ decide (okE [envB ⟨cl, nc, fe, 1⟩] [(1, [1000 + cl])] ⟨cl, nc, fe, 1⟩) = true := ⟨(if_pos hcl).trans (num_one Ext.same).2, decide_eq_true ⟨hcl.1, hcl.2, by rw [(num_one Ext.same).1]; simp [signers]⟩⟩
        obtain ⟨hd1, hd2⟩ := num_one (l := [envB ⟨cl, nc, fe, 1⟩]) (e := ⟨cl, nc, fe, 1⟩) Ext.same
        refine SN_seq ?_
        refine SC_seq ?_
        refine SC_region ?_
        refine SR_pu (RD_move rfl) rfl ?_
        refine SR_pu (RD_move rfl) rfl ?_
        refine SR_pu (RD_move rfl) rfl ?_
        refine SR_pu (RD_move rfl) rfl ?_
        refine SR_pu (RD_move rfl) rfl ?_
        refine SR_call Try.call35 (.cons rfl (.cons rfl (.cons rfl (.cons rfl (.cons rfl (.nil)))))) (CallsK.lands (.fin : Lands _ (At worldI k ⟨[], []⟩ :: pt k.v (.cells [.int .i64 (vneed ff), .slice none 0 0].toArray 142) :: G)) (w_Make1 k ⟨[], []⟩ (vneed ff) cl nc fe hcl h2 h3 p.a p.n p.c p.bs rfl hpn (by omega) (by simp))) (lts rfl) ?_
        rintro _ L3 ⟨rfl, hL3⟩
        have hz : dput [] (envB ⟨cl, nc, fe, 1⟩) = [envB ⟨cl, nc, fe, 1⟩] ∧ addTo [] (1000 + cl) (dnum [envB ⟨cl, nc, fe, 1⟩] (envB ⟨cl, nc, fe, 1⟩) : Nat) = [(1, [1000 + cl])] := ⟨rfl, by simp [dnum, addTo]⟩
        dsimp only at hL3
        rw [hz.1, hz.2] at hL3
        refine SR.lands hL3 ?_
        refine SR_ox (OX_alloc Try.zeroValue39 rfl) rfl ?_
        rintro _ _ ⟨b24, rfl, rfl⟩
        refine SR_ox0 (OX_stA (vs := EnvD.cells ⟨cl, nc, fe, 1⟩) Try.sizeOf39 rfl rfl rfl rfl) ?_
        rintro _ _ rfl
        refine SR_nil ?_
        refine SN.le (l := [(0, _), (1, _), (2, _), (3, _), (4, _), (7, _), (8, _), (9, _), (21, _), (24, _)]) ?_ (.cons rfl (.cons rfl (.cons rfl (.cons rfl (.cons rfl (.cons rfl (.cons rfl (.cons rfl (.cons rfl (.cons rfl (.nil)))))))))))
        refine SN_seq ?_
        refine SC_seq ?_
        refine SC_join (X := Unit) (fun x => [(0, .int .i64 ff), (1, .int .i64 cl), (2, .int .u64 nc), (3, .int .u64 fe), (4, p.val), (7, .int .i64 field), (8, .int .u64 to_), (9, .slice a9 n9 c9), (21, .pointer (some ⟨k.p, 0, none⟩)), (24, .pointer (some ⟨b24, 0, none⟩)), (25, .bool (decide (0 ≤ cl ∧ cl ≤ 999)))]) (fun x => pt b24 (.cells (EnvD.cells ⟨cl, nc, fe, 1⟩).toArray 39) :: At worldI k ⟨[envB ⟨cl, nc, fe, 1⟩], [(1, [1000 + cl])]⟩ :: At voneI k.v ⟨vneed ff, cl, p.bs, []⟩ :: G) (fun _ => ?_) (fun J0 => ?_)
        · refine SN_seq ?_
          refine SC_seq ?_
          refine SC_seq ?_
          refine SC_region ?_
          refine SR_pu (RD_move rfl) rfl ?_
          refine SR_pu (RD_not rfl) rfl ?_
          refine SR_nil ?_
          refine SN.le (l := [(0, _), (1, _), (2, _), (3, _), (4, _), (7, _), (8, _), (9, _), (21, _), (24, _), (70, _)]) ?_ (.cons rfl (.cons rfl (.cons rfl (.cons rfl (.cons rfl (.cons rfl (.cons rfl (.cons rfl (.cons rfl (.cons rfl (.cons rfl (.nil))))))))))))
          refine SN_seq ?_
          refine SC_cond_false rfl (by simp [hcl]) ?_
          refine SC_skip ?_
          refine SN_seq ?_
          refine SC_seq ?_
          refine SC_seq ?_
          refine SC_drawn (.cons 0 true (.cons 1 true (.cons 2 true (.cons 3 true (.cons 4 true (.cons 5 true (.cons 6 true (.cons 7 true (.cons 8 true (.cons 9 false (.cons 10 true (.cons 11 true (.cons 12 true (.cons 13 true (.cons 14 false (.cons 15 false (.cons 16 true (.cons 17 true (.cons 18 true (.cons 19 true (.cons 21 true (.cons 22 true (.cons 23 true (.cons 24 true (.cons 20 false (.cons 25 false (.cons 26 false (.cons 27 true (.cons 28 true (.nil)))))))))))))))))))))))))))))) (by kernel_rfl) (by kernel_rfl) ?_
          refine SQ_rd rfl (RD_loadA (vs := EnvD.cells ⟨cl, nc, fe, 1⟩) Try.isAgg39 Try.sizeOf39 rfl rfl) Has.wh rfl ?_
          refine SQ_pu rfl (RD_move rfl) rfl ?_
          refine SQ_pu rfl (RD_move rfl) rfl ?_
          refine SQ_pu rfl (RD_move rfl) rfl ?_
          refine SQ_pu rfl (RD_build (.cons rfl (.cons rfl (.cons rfl (.cons rfl (.nil))))) built39_0_1_2_3) rfl ?_
          refine SQ_pu rfl (RD_neqEnv ⟨cl, nc, fe, 1⟩ ⟨cl, nc, fe, 1⟩ rfl rfl rfl) rfl ?_
          refine SQ_pu rfl (RD_move rfl) rfl ?_
          refine SQ_pyes rfl rfl rfl (by simp) (RD_move rfl) rfl ?_
          refine SQ_yes rfl rfl rfl (by simp) (RD_loadA (vs := EnvD.cells ⟨cl, nc, fe, 1⟩) Try.isAgg39 Try.sizeOf39 rfl rfl) Has.wh rfl ?_
          refine SQ_one (SA_call rfl (.mk rfl rfl (by simp)) Try.call28 (.cons rfl (.cons rfl (.nil))) (CallsK.at (w_OkA k ⟨[envB ⟨cl, nc, fe, 1⟩], [(1, [1000 + cl])]⟩ ⟨cl, nc, fe, 1⟩ heg.2.2 (by simp) [envB ⟨cl, nc, fe, 1⟩] true hk1.1 hk1.2)) (lts rfl) ?_)
          rintro _ L7 ⟨rfl, hL7⟩
          refine ⟨.lands hL7 (.w rfl (.h Has.wh (.nil))), ?_⟩
          refine SQ.lands hL7 ?_
          refine SQ_pyes rfl rfl rfl (by simp) (RD_not rfl) rfl ?_
          refine SQ_pu rfl (RD_pick_f rfl (by simp) rfl) rfl ?_
          refine SQ_pu rfl (RD_move rfl) rfl ?_
          refine SQ_pyes rfl rfl rfl (rfl) (RD_move rfl) rfl ?_
          refine SQ_one (SA_call rfl (.mk rfl rfl (rfl)) Try.call49 (.cons rfl (.nil)) (CallsK.at (w_Vault k ⟨[envB ⟨cl, nc, fe, 1⟩], [(1, [1000 + cl])]⟩)) (lts rfl) ?_)
          rintro _ L8 ⟨rfl, hL8⟩
          refine ⟨.lands hL8 (.h Has.wh (.h Has.wh (.nil))), ?_⟩
          refine SQ.lands hL8 ?_
          refine SQ_one (SA_call rfl (.mk rfl rfl (rfl)) Try.call55 (.cons rfl (.nil)) (CallsK.at (seal_Len1 k.v ⟨vneed ff, cl, p.bs, []⟩)) (lts rfl) ?_)
          rintro _ L9 ⟨rfl, hL9⟩
          refine ⟨.lands hL9 (.h Has.wh (.h Has.wh (.nil))), ?_⟩
          refine SQ.lands hL9 ?_
          refine SQ_pyes rfl rfl rfl (rfl) (RD_neq rfl rfl) rfl ?_
          refine SQ_pu rfl (RD_pick_f rfl (rfl) rfl) rfl ?_
          refine SQ_pu rfl (RD_move rfl) rfl ?_
          refine SQ_pyes rfl rfl rfl (rfl) (RD_move rfl) rfl ?_
          refine SQ_pyes rfl rfl rfl (rfl) (RD_move rfl) rfl ?_
          refine SQ_pyes rfl rfl rfl (rfl) (RD_addi rfl rfl (by omega) (by omega)) rfl ?_
          refine SQ_pyes rfl rfl rfl (rfl) (RD_move rfl) rfl ?_
          refine SQ_yes rfl rfl rfl (rfl) (RD_loadA (vs := EnvD.cells ⟨cl, nc, fe, 1⟩) Try.isAgg39 Try.sizeOf39 rfl rfl) Has.wh rfl ?_
          refine SQ_one (SA_call rfl (.mk rfl rfl (rfl)) Try.call21 (.cons rfl (.nil)) (CallsK.at (w_Signs k ⟨[envB ⟨cl, nc, fe, 1⟩], [(1, [1000 + cl])]⟩)) (lts rfl) ?_)
          rintro _ L10 ⟨rfl, hL10⟩
          refine ⟨.lands hL10 (.h Has.wh (.h Has.wh (.h Has.wh (.nil)))), ?_⟩
          refine SQ.lands hL10 ?_
          refine SQ_one (SA_call rfl (.mk rfl rfl (rfl)) Try.call29 (.cons rfl (.cons rfl (.nil))) (CallsK.at (w_EnvDigest k ⟨[envB ⟨cl, nc, fe, 1⟩], [(1, [1000 + cl])]⟩ ⟨cl, nc, fe, 1⟩ heg.2.2 (by simp) [envB ⟨cl, nc, fe, 1⟩] 1 hd2 hd1)) (lts rfl) ?_)
          rintro _ L11 ⟨rfl, hL11⟩
          refine ⟨.lands hL11 (.w rfl (.h Has.wh (.h Has.wh (.nil)))), ?_⟩
          refine SQ.lands hL11 ?_
          refine SQ_one (SA_call rfl (.mk rfl rfl (rfl)) Try.call22 (.cons rfl (.cons rfl (.cons rfl (.nil)))) (CallsK.at (w_Has k ⟨[envB ⟨cl, nc, fe, 1⟩], [(1, [1000 + cl])]⟩ (1000 + cl) 1)) (lts rfl) ?_)
          rintro _ L12 ⟨rfl, hL12⟩
          have hs : decide ((1000 + cl) ∈ signers [(1, [1000 + cl])] 1) = true := by simp [signers]
          dsimp only
          rw [hs]
          refine ⟨.lands hL12 (.h Has.wh (.h Has.wh (.h Has.wh (.nil)))), ?_⟩
          refine SQ.lands hL12 ?_
          refine SQ_pyes rfl rfl rfl (rfl) (RD_not rfl) rfl ?_
          refine SQ_pu rfl (RD_pick_f rfl (rfl) rfl) rfl ?_
          refine SQ_nil ?_
          refine SN.le (l := [(0, _), (1, _), (4, _), (7, _), (8, _), (9, _), (21, _), (24, _), (111, _)]) ?_ (.cons rfl (.cons rfl (.cons rfl (.cons rfl (.cons rfl (.cons rfl (.cons rfl (.cons rfl (.cons rfl (.nil))))))))))
          refine SN_seq ?_
          refine SC_cond_false rfl (rfl) ?_
          refine SC_skip ?_
          refine SN_seq ?_
          refine SC_seq ?_
          refine SC_seq ?_
          refine SC_drawn (.cons 0 true (.cons 2 true (.cons 3 true (.cons 1 false (.cons 4 false (.cons 5 false (.cons 6 true (.cons 7 true (.cons 8 true (.cons 9 true (.cons 10 true (.nil)))))))))))) (by kernel_rfl) (by kernel_rfl) ?_
          refine SQ_pu rfl (RD_move rfl) rfl ?_
          refine SQ_pu rfl (RD_move rfl) rfl ?_
          refine SQ_rd rfl (RD_loadA (vs := EnvD.cells ⟨cl, nc, fe, 1⟩) Try.isAgg39 Try.sizeOf39 rfl rfl) Has.wh rfl ?_
          refine SQ_call rfl Try.call23 (.cons rfl (.nil)) (CallsK.at (w_Terms k ⟨[envB ⟨cl, nc, fe, 1⟩], [(1, [1000 + cl])]⟩)) (lts rfl) ?_
          rintro _ L13 ⟨rfl, hL13⟩
          refine ⟨.lands hL13 (.h Has.wh (.nil)), ?_⟩
          refine SQ.lands hL13 ?_
          refine SQ_call rfl Try.call29 (.cons rfl (.cons rfl (.nil))) (CallsK.at (w_EnvDigest k ⟨[envB ⟨cl, nc, fe, 1⟩], [(1, [1000 + cl])]⟩ ⟨cl, nc, fe, 1⟩ heg.2.2 (by simp) [envB ⟨cl, nc, fe, 1⟩] 1 hd2 hd1)) (lts rfl) ?_
          rintro _ L14 ⟨rfl, hL14⟩
          refine ⟨.lands hL14 (.w rfl (.nil)), ?_⟩
          refine SQ.lands hL14 ?_
          refine SQ_call rfl Try.call30 (.cons rfl (.cons rfl (.nil))) (CallsK.at (w_Of1 k (envB ⟨cl, nc, fe, 1⟩) [(1, [1000 + cl])])) (lts rfl) ?_
          rintro _ L15 ⟨oa, oc, rfl, hL15⟩
          refine ⟨.lands hL15 (.h Has.wh (.nil)), ?_⟩
          refine SQ.lands hL15 ?_
          refine SQ_pu rfl (RD_move rfl) rfl ?_
          refine SQ_pu rfl (RD_extract rfl rfl) rfl ?_
          refine SQ_pu rfl (RD_extract rfl rfl) rfl ?_
          refine SQ_pu rfl (RD_assign rfl) rfl ?_
          refine SQ_pu rfl (RD_assign rfl) rfl ?_
          refine SQ_nil ?_
          refine SN.le (l := [(0, _), (1, _), (4, _), (7, _), (8, _), (9, _), (21, _), (24, _), (26, _), (27, _)]) ?_ (.cons rfl (.cons rfl (.cons rfl (.cons rfl (.cons rfl (.cons rfl (.cons rfl (.cons rfl (.cons rfl (.cons rfl (.nil)))))))))))
          refine SN_seq ?_
          refine SC_seq ?_
          refine SC_region ?_
          refine SR_pu (RD_move rfl) rfl ?_
          refine SR_pu (RD_not rfl) rfl ?_
          refine SR_pu (RD_move rfl) rfl ?_
          refine SR_yes rfl rfl (rfl) ?_
          refine SR_pu (RD_move rfl) rfl ?_
          refine SR_yes rfl rfl (rfl) ?_
          refine SR_rd (RD_loadA (vs := EnvD.cells ⟨cl, nc, fe, 1⟩) Try.isAgg39 Try.sizeOf39 rfl rfl) Has.wh rfl ?_
          refine SR_yes rfl rfl (rfl) ?_
          refine SR_call Try.call56 (.cons rfl (.nil)) (law13_Digest ⟨cl, nc, fe, 1⟩ heg.2.2) (lts rfl) ?_
          rintro _ L16 ⟨da, dc, rfl, hL16⟩
          refine SR.lands hL16 ?_
          refine SR_yes rfl rfl (rfl) ?_
          refine SR_call Try.call31 (.cons rfl (.cons rfl (.nil))) (ref_Same oa _ oc (envB ⟨cl, nc, fe, 1⟩) rfl rfl da _ dc (envB ⟨cl, nc, fe, 1⟩) rfl rfl) (lts rfl) ?_
          rintro _ L17 ⟨rfl, hL17⟩
          rw [decide_eq_true rfl]
          refine SR.lands hL17 ?_
          refine SR_yes rfl rfl (rfl) ?_
          refine SR_pu (RD_not rfl) rfl ?_
          refine SR_pu (RD_pick_f rfl (rfl) rfl) rfl ?_
          refine SR_nil ?_
          refine SN.le (l := [(0, _), (1, _), (4, _), (7, _), (8, _), (9, _), (21, _), (24, _), (129, _)]) ?_ (.cons rfl (.cons rfl (.cons rfl (.cons rfl (.cons rfl (.cons rfl (.cons rfl (.cons rfl (.cons rfl (.nil))))))))))
          refine SN_seq ?_
          refine SC_cond_false rfl (rfl) ?_
          refine SC_skip ?_
          refine SN_seq ?_
          refine SC_seq ?_
          refine SC_region ?_
          refine SR_rd (RD_loadA (vs := EnvD.cells ⟨cl, nc, fe, 1⟩) Try.isAgg39 Try.sizeOf39 rfl rfl) Has.wh rfl ?_
          refine SR_ox (OX_alloc Try.zeroValue39 rfl) rfl ?_
          rintro _ _ ⟨b28, rfl, rfl⟩
          refine SR_ox0 (OX_stA (vs := [.int .i64 cl, .int .u64 nc, .int .u64 fe, .int .i64 1]) Try.sizeOf39 rfl rfl rfl rfl) ?_
          rintro _ _ rfl
          refine SR_nil ?_
          refine SN.le (l := [(0, _), (1, _), (4, _), (7, _), (8, _), (9, _), (21, _), (24, _), (28, _)]) ?_ (.cons rfl (.cons rfl (.cons rfl (.cons rfl (.cons rfl (.cons rfl (.cons rfl (.cons rfl (.cons rfl (.nil))))))))))
          refine SN_seq ?_
          refine SC_seq ?_
          refine SC_seq ?_
          refine SC_region ?_
          refine SR_pu (RD_move rfl) rfl ?_
          refine SR_pu (RD_mask 2 rfl rfl rfl (by decide) 4 rfl) rfl ?_
          refine SR_nil ?_
          refine SN.le (l := [(0, _), (1, _), (4, _), (8, _), (9, _), (21, _), (24, _), (28, _), (132, _)]) ?_ (.cons rfl (.cons rfl (.cons rfl (.cons rfl (.cons rfl (.cons rfl (.cons rfl (.cons rfl (.cons rfl (.nil))))))))))
          refine SN_seq ?_
          refine SC_join (X := {x : EnvD // x.Good}) (fun x => [(0, .int .i64 ff), (1, .int .i64 cl), (4, p.val), (9, .slice a9 n9 c9), (21, .pointer (some ⟨k.p, 0, none⟩)), (24, .pointer (some ⟨b24, 0, none⟩)), (28, .pointer (some ⟨b28, 0, none⟩))]) (fun x => pt b28 (.cells x.1.cells.toArray 39) :: pt b24 (.cells (EnvD.cells ⟨cl, nc, fe, 1⟩).toArray 39) :: At worldI k ⟨[envB ⟨cl, nc, fe, 1⟩], [(1, [1000 + cl])]⟩ :: At voneI k.v ⟨vneed ff, cl, p.bs, []⟩ :: G) (fun ⟨x, hxg⟩ => ?_) (fun J0 => ?_)
          · have hok := ok_env heg hxg hcl Ext.same
            dsimp only at hok
            obtain ⟨hx1, hl1⟩ := okL_ext [envB ⟨cl, nc, fe, 1⟩] x
            obtain ⟨l2, hl2e⟩ : ∃ l2, okL [envB ⟨cl, nc, fe, 1⟩] x = l2 := ⟨_, rfl⟩
            rw [hl2e] at hok hx1 hl1
            dsimp only [List.length] at hl1
            refine SN_seq ?_
            refine SC_seq ?_
            refine SC_seq ?_
            refine SC_drawn (.cons 0 true (.cons 1 true (.cons 3 true (.cons 4 true (.cons 5 true (.cons 2 false (.cons 6 true (.nil)))))))) (by kernel_rfl) (by kernel_rfl) ?_
            refine SQ_pu rfl (RD_move rfl) rfl ?_
            refine SQ_rd rfl (RD_loadA (vs := EnvD.cells x) Try.isAgg39 Try.sizeOf39 rfl rfl) Has.wh rfl ?_
            refine SQ_rd rfl (RD_loadA (vs := EnvD.cells x) Try.isAgg39 Try.sizeOf39 rfl rfl) Has.wh rfl ?_
            refine SQ_rd rfl (RD_loadA (vs := EnvD.cells ⟨cl, nc, fe, 1⟩) Try.isAgg39 Try.sizeOf39 rfl rfl) Has.wh rfl ?_
            refine SQ_pu rfl (RD_eqlEnv x ⟨cl, nc, fe, 1⟩ rfl rfl rfl) rfl ?_
            refine SQ_call rfl Try.call28 (.cons rfl (.cons rfl (.nil))) (CallsK.at (w_OkA k ⟨[envB ⟨cl, nc, fe, 1⟩], [(1, [1000 + cl])]⟩ x hxg.2.2 (by simp) l2 _ hl2e hok)) (lts rfl) ?_
            rintro _ L18 ⟨rfl, hL18⟩
            refine ⟨.lands hL18 (.h Has.wh (.h Has.wh (.w rfl (.nil)))), ?_⟩
            refine SQ.lands hL18 ?_
            refine SQ_pu rfl (RD_neqB Try.underlying4 rfl rfl) rfl ?_
            refine SQ_nil ?_
            refine SN.le (l := [(0, _), (1, _), (4, _), (9, _), (21, _), (28, _), (155, _)]) ?_ (.cons rfl (.cons rfl (.cons rfl (.cons rfl (.cons rfl (.cons rfl (.cons rfl (.nil))))))))
            refine SN_seq ?_
            refine SC_cond_false rfl (by simp) ?_
            refine SC_skip ?_
            refine SN_seq ?_
            refine SC_seq ?_
            refine SC_region ?_
            refine SR_pu (RD_assign rfl) rfl ?_
            refine SR_nil ?_
            refine SN.le (l := [(0, _), (1, _), (4, _), (9, _), (21, _), (28, _), (29, _)]) ?_ (.cons rfl (.cons rfl (.cons rfl (.cons rfl (.cons rfl (.cons rfl (.cons rfl (.nil))))))))
            refine SN_seq ?_
            refine SC_seq ?_
            refine SC_seq ?_
            refine SC_region ?_
            refine SR_pu (RD_assign rfl) rfl ?_
            refine SR_nil ?_
            refine SN.le (l := [(0, _), (1, _), (4, _), (9, _), (21, _), (28, _), (29, _), (30, _)]) ?_ (.cons rfl (.cons rfl (.cons rfl (.cons rfl (.cons rfl (.cons rfl (.cons rfl (.cons rfl (.nil)))))))))
            refine SN_seq ?_
            refine SC_block ?_
            obtain ⟨N, hN⟩ : ∃ N : Nat, N = min n9 6 := ⟨_, rfl⟩
            refine SC_ind (X := Nat × List Int) (fun y => y.1 ≤ N ∧ y.2.length ≤ y.1) (fun y => N - y.1) (fun y => [(0, .int .i64 ff), (1, .int .i64 cl), (4, p.val), (9, .slice a9 n9 c9), (21, .pointer (some ⟨k.p, 0, none⟩)), (28, .pointer (some ⟨b28, 0, none⟩)), (29, .int .i64 (y.2.length : Nat)), (30, .int .i64 (y.1 : Nat))]) (fun y => pt b28 (.cells x.cells.toArray 39) :: At worldI k ⟨l2, [(1, [1000 + cl])]⟩ :: At voneI k.v ⟨vneed ff, cl, p.bs, y.2⟩ :: G) ((0, [])) (⟨by simp, by simp⟩) (.cons rfl (.cons rfl (.cons rfl (.cons rfl (.cons rfl (.cons rfl (.cons rfl (.cons rfl (.nil))))))))) (.fin) ?_
            intro ⟨i, sh⟩ hi ih
            obtain ⟨hi1, hi2⟩ := hi
            dsimp only at hi1 hi2 ih ⊢
            refine SC_seq ?_
            refine SC_seq ?_
            refine SC_join (X := Unit) (fun y => [(0, .int .i64 ff), (1, .int .i64 cl), (4, p.val), (9, .slice a9 n9 c9), (21, .pointer (some ⟨k.p, 0, none⟩)), (28, .pointer (some ⟨b28, 0, none⟩)), (29, .int .i64 (sh.length : Nat)), (30, .int .i64 (i : Nat)), (163, .bool (decide (i < N)))]) (fun y => pt b28 (.cells x.cells.toArray 39) :: At worldI k ⟨l2, [(1, [1000 + cl])]⟩ :: At voneI k.v ⟨vneed ff, cl, p.bs, sh⟩ :: G) (fun _ => ?_) (fun J0 => ?_)
            · refine SN_seq ?_
              refine SC_cond rfl (fun hc163 => ?_) (fun hc163 => ?_)
              · have hin : i < N := of_decide_eq_true hc163
                obtain ⟨z, hz⟩ : ∃ z, who[i]? = some z := ⟨_, List.getElem?_eq_getElem (by omega)⟩
                refine SC_skip ?_
                refine SN_seq ?_
                refine SC_seq ?_
                refine SC_block ?_
                refine SC_seq ?_
                refine SC_region ?_
                refine SR_pu (RD_move rfl) rfl ?_
                refine SR_pu (RD_move rfl) rfl ?_
                refine SR_rd (RD_ixO (i := (i : Nat)) (cs := who.map intV) Try.runUnderlying22 Try.sizeOf3 rfl rfl (by simpa using hn9) (by omega) (by omega)) Has.ro rfl ?_
                refine SR_rd (RD_loadO (v := intV z) (cs := who.map intV) Try.isAgg3 rfl (by simp [hz])) Has.ro rfl ?_
                refine SR_pu (RD_mask 2 rfl rfl rfl (by decide) 4 rfl) rfl ?_
                refine SR_pu (RD_assign rfl) rfl ?_
                refine SR_nil ?_
                refine SN.le (l := [(0, _), (1, _), (4, _), (9, _), (21, _), (28, _), (29, _), (30, _), (31, _)]) ?_ (.cons rfl (.cons rfl (.cons rfl (.cons rfl (.cons rfl (.cons rfl (.cons rfl (.cons rfl (.cons rfl (.nil))))))))))
                refine SN_seq ?_
                refine SC_seq ?_
                refine SC_seq ?_
                refine SC_region ?_
                refine SR_pu (RD_move rfl) rfl ?_
                refine SR_call Try.call49 (.cons rfl (.nil)) (CallsK.at (w_Vault k ⟨l2, [(1, [1000 + cl])]⟩)) (lts rfl) ?_
                rintro _ L19 ⟨rfl, hL19⟩
                refine SR.lands hL19 ?_
                refine SR_pu (RD_move rfl) rfl ?_
                refine SR_call Try.call57 (.cons rfl (.cons rfl (.cons rfl (.nil)))) (CallsK.at (seal_Shared k.v ⟨vneed ff, cl, p.bs, sh⟩ (z % 4))) (lts rfl) ?_
                rintro _ L20 ⟨rfl, hL20⟩
                dsimp only
                refine SR.lands hL20 ?_
                refine SR_pu (RD_not rfl) rfl ?_
                refine SR_nil ?_
                refine SN.le (l := [(0, _), (1, _), (4, _), (9, _), (21, _), (28, _), (29, _), (30, _), (31, _), (175, _)]) ?_ (.cons rfl (.cons rfl (.cons rfl (.cons rfl (.cons rfl (.cons rfl (.cons rfl (.cons rfl (.cons rfl (.cons rfl (.nil)))))))))))
                refine SN_seq ?_
                refine SC_cond rfl (fun hc175 => ?_) (fun hc175 => ?_)
                · have hns : z % 4 ∉ sh := by simpa using hc175
                  have hput : putW sh (z % 4) = sh ++ [z % 4] := by unfold putW; rw [if_neg hns]
                  refine SC_region ?_
                  refine SR_pu (RD_move rfl) rfl ?_
                  refine SR_pu (RD_addi rfl rfl (by omega) (by omega)) rfl ?_
                  refine SR_pu (RD_assign rfl) rfl ?_
                  refine SR_nil ?_
                  refine SN.le (l := [(0, _), (1, _), (4, _), (9, _), (21, _), (28, _), (29, _), (30, _), (31, _)]) ?_ (.cons rfl (.cons rfl (.cons rfl (.cons rfl (.cons rfl (.cons rfl (.cons rfl (.cons rfl (.cons rfl (.nil))))))))))
                  refine SN_seq ?_
                  refine SC_region ?_
                  refine SR_pu (RD_move rfl) rfl ?_
                  refine SR_call Try.call49 (.cons rfl (.nil)) (CallsK.at (w_Vault k ⟨l2, [(1, [1000 + cl])]⟩)) (lts rfl) ?_
                  rintro _ L21 ⟨rfl, hL21⟩
                  refine SR.lands hL21 ?_
                  refine SR_pu (RD_move rfl) rfl ?_
                  refine SR_call Try.call52 (.cons rfl (.cons rfl (.cons rfl (.nil)))) (CallsK.at (seal_Share k.v ⟨vneed ff, cl, p.bs, sh⟩ (z % 4))) (lts rfl) ?_
                  rintro _ L22 ⟨rfl, hL22⟩
                  dsimp only at hL22
                  refine SR.lands hL22 ?_
                  refine SR_nil ?_
                  refine SN.le (l := [(0, _), (1, _), (4, _), (9, _), (21, _), (28, _), (29, _), (30, _)]) ?_ (.cons rfl (.cons rfl (.cons rfl (.cons rfl (.cons rfl (.cons rfl (.cons rfl (.cons rfl (.nil)))))))))
                  refine SN_block ?_
                  refine SN_seq ?_
                  refine SC_region ?_
                  refine SR_pu (RD_move rfl) rfl ?_
                  refine SR_pu (RD_addi rfl rfl (by omega) (by omega)) rfl ?_
                  refine SR_pu (RD_assign rfl) rfl ?_
                  refine SR_nil ?_
                  refine SN.le (l := [(0, _), (1, _), (4, _), (9, _), (21, _), (28, _), (29, _), (30, _)]) ?_ (.cons rfl (.cons rfl (.cons rfl (.cons rfl (.cons rfl (.cons rfl (.cons rfl (.cons rfl (.nil)))))))))
                  refine SC_again (ih ((i + 1, sh ++ [z % 4])) (⟨by dsimp only; omega, by simp; omega⟩) (by dsimp only; omega)) (by dsimp only; rw [← hput]; exact .fin) (.cons rfl (.cons rfl (.cons rfl (.cons rfl (.cons rfl (.cons rfl (.cons' rfl (ie (by simp)) (.cons' rfl (ie (by dsimp only; omega)) (.nil)))))))))
                · have hns : z % 4 ∈ sh := by simpa using hc175
                  have hput : putW sh (z % 4) = sh := by unfold putW; rw [if_pos hns]
                  refine SC_skip ?_
                  refine SN_seq ?_
                  refine SC_region ?_
                  refine SR_pu (RD_move rfl) rfl ?_
                  refine SR_call Try.call49 (.cons rfl (.nil)) (CallsK.at (w_Vault k ⟨l2, [(1, [1000 + cl])]⟩)) (lts rfl) ?_
                  rintro _ L21 ⟨rfl, hL21⟩
                  refine SR.lands hL21 ?_
                  refine SR_pu (RD_move rfl) rfl ?_
                  refine SR_call Try.call52 (.cons rfl (.cons rfl (.cons rfl (.nil)))) (CallsK.at (seal_Share k.v ⟨vneed ff, cl, p.bs, sh⟩ (z % 4))) (lts rfl) ?_
                  rintro _ L22 ⟨rfl, hL22⟩
                  dsimp only at hL22
                  refine SR.lands hL22 ?_
                  refine SR_nil ?_
                  refine SN.le (l := [(0, _), (1, _), (4, _), (9, _), (21, _), (28, _), (29, _), (30, _)]) ?_ (.cons rfl (.cons rfl (.cons rfl (.cons rfl (.cons rfl (.cons rfl (.cons rfl (.cons rfl (.nil)))))))))
                  refine SN_block ?_
                  refine SN_seq ?_
                  refine SC_region ?_
                  refine SR_pu (RD_move rfl) rfl ?_
                  refine SR_pu (RD_addi rfl rfl (by omega) (by omega)) rfl ?_
                  refine SR_pu (RD_assign rfl) rfl ?_
                  refine SR_nil ?_
                  refine SN.le (l := [(0, _), (1, _), (4, _), (9, _), (21, _), (28, _), (29, _), (30, _)]) ?_ (.cons rfl (.cons rfl (.cons rfl (.cons rfl (.cons rfl (.cons rfl (.cons rfl (.cons rfl (.nil)))))))))
                  refine SC_again (ih ((i + 1, sh)) (⟨by dsimp only; omega, by dsimp only; omega⟩) (by dsimp only; omega)) ((by dsimp only; exact (Lands.trans (.fin : Lands _ (pt b28 (.cells x.cells.toArray 39) :: At worldI k ⟨l2, [(1, [1000 + cl])]⟩ :: At voneI k.v ⟨vneed ff, cl, p.bs, (putW sh (z % 4))⟩ :: G)) (by rw [hput]; exact .fin)))) (.cons rfl (.cons rfl (.cons rfl (.cons rfl (.cons rfl (.cons rfl (.cons rfl (.cons' rfl (ie (by dsimp only; omega)) (.nil)))))))))
              · clear ih
                have hvn := vneed_four hff
                have hEn : V1.enough ⟨vneed ff, cl, p.bs, sh⟩ x.cipher = (decide (x.cipher = 1) && decide ((sh.length : Int) > ff)) := by unfold V1.enough; dsimp only; rw [hvn, show decide (ff + 1 ≤ (sh.length : Int)) = decide ((sh.length : Int) > ff) from decide_eq_decide.2 (by omega)]
                by_cases hE : V1.enough ⟨vneed ff, cl, p.bs, sh⟩ x.cipher = true
                · have hE2 := hE
                  rw [hEn] at hE2
                  simp only [Bool.and_eq_true, decide_eq_true_eq] at hE2
                  have hor : openR ⟨vneed ff, cl, p.bs, sh⟩ x = .tuple #[(openE ⟨vneed ff, cl, p.bs, sh⟩ x).val, .bool true] := if_pos hE
                  obtain ⟨y, hy⟩ : ∃ y, openE ⟨vneed ff, cl, p.bs, sh⟩ x = y := ⟨_, rfl⟩
                  rw [hy] at hor
                  refine SC_exit rfl ?_
                  refine SN_seq ?_
                  refine SC_seq ?_
                  refine SC_region ?_
                  refine SR_pu (RD_move rfl) rfl ?_
                  refine SR_rd (RD_loadA (vs := EnvD.cells x) Try.isAgg39 Try.sizeOf39 rfl rfl) Has.wh rfl ?_
                  refine SR_call Try.call53 (.cons rfl (.cons rfl (.nil))) (CallsK.at2 (w_Open k ⟨l2, [(1, [1000 + cl])]⟩ ⟨vneed ff, cl, p.bs, sh⟩ x (by show p.bs.length ≤ _; omega))) (lts rfl) ?_
                  rintro _ L23 ⟨rfl, hL23⟩
                  rw [hor]
                  refine SR.lands hL23 ?_
                  refine SR_pu (RD_move rfl) rfl ?_
                  refine SR_pu (RD_extract (v := EntD.val y) rfl rfl) rfl ?_
                  refine SR_pu (RD_extract (v := .bool true) rfl rfl) rfl ?_
                  refine SR_ox (OX_alloc Try.zeroValue90 rfl) rfl ?_
                  rintro _ _ ⟨b32, rfl, rfl⟩
                  refine SR_ox0 (OX_stA (vs := EntD.cells y) Try.sizeOf90 rfl rfl rfl rfl) ?_
                  rintro _ _ rfl
                  refine SR_pu (RD_assign rfl) rfl ?_
                  refine SR_nil ?_
                  refine SN.le (l := [(0, _), (1, _), (4, _), (28, _), (29, _), (32, _), (33, _)]) ?_ (.cons rfl (.cons rfl (.cons rfl (.cons rfl (.cons rfl (.cons rfl (.cons rfl (.nil))))))))
                  refine SN_seq ?_
                  refine SC_seq ?_
                  refine SC_region ?_
                  refine SR_pu (RD_build (.nil) built90) rfl ?_
                  refine SR_ox (OX_alloc Try.zeroValue90 rfl) rfl ?_
                  rintro _ _ ⟨b34, rfl, rfl⟩
                  refine SR_ox0 (OX_stA (vs := zEnt.cells) Try.sizeOf90 rfl rfl rfl rfl) ?_
                  rintro _ _ rfl
                  refine SR_nil ?_
                  refine SN.le (l := [(0, _), (1, _), (4, _), (28, _), (29, _), (32, _), (33, _), (34, _)]) ?_ (.cons rfl (.cons rfl (.cons rfl (.cons rfl (.cons rfl (.cons rfl (.cons rfl (.cons rfl (.nil)))))))))
                  refine SN_seq ?_
                  refine SC_seq ?_
                  refine SC_seq ?_
                  refine SC_join (X := Unit) (fun u => [(0, .int .i64 ff), (1, .int .i64 cl), (4, p.val), (28, .pointer (some ⟨b28, 0, none⟩)), (29, .int .i64 (sh.length : Nat)), (32, .pointer (some ⟨b32, 0, none⟩)), (33, .bool true), (34, .pointer (some ⟨b34, 0, none⟩)), (196, .bool (V1.enough ⟨vneed ff, cl, p.bs, sh⟩ x.cipher))]) (fun u => pt b28 (.cells x.cells.toArray 39) :: pt b32 (.cells (EntD.cells y).toArray 90) :: pt b34 (.cells (EntD.cells zEnt).toArray 90) :: G) (fun _ => ?_) (fun J0 => ?_)
                  · refine SN_seq ?_
                    refine SC_join (X := Unit) (fun u => [(0, .int .i64 ff), (28, .pointer (some ⟨b28, 0, none⟩)), (29, .int .i64 (sh.length : Nat)), (32, .pointer (some ⟨b32, 0, none⟩)), (33, .bool true), (34, .pointer (some ⟨b34, 0, none⟩))]) (fun u => pt b28 (.cells x.cells.toArray 39) :: pt b32 (.cells (EntD.cells y).toArray 90) :: pt b34 (.cells (EntD.cells y).toArray 90) :: G) (fun _ => ?_) (fun J0 => ?_)
                    · refine SN_seq ?_
                      refine SC_seq ?_
                      refine SC_region ?_
                      refine SR_pu (RD_move rfl) rfl ?_
                      refine SR_pu (RD_move rfl) rfl ?_
                      refine SR_pu (RD_move rfl) rfl ?_
                      refine SR_pu (RD_gtr rfl rfl) rfl ?_
                      refine SR_pu (RD_move rfl) rfl ?_
                      refine SR_yes rfl rfl (decide_eq_true hE2.2) ?_
                      first
                        | refine SR_pu (RD_fieldAddr 3 Try.runUnderlying39 rfl rfl Try.sizeOf3 rfl) rfl ?_
                        | refine SR_rd (RD_fieldAddrO 3 Try.runUnderlying39 rfl rfl Try.sizeOf3 rfl (by simp <;> omega)) Has.ro rfl ?_
                      refine SR_yes rfl rfl (decide_eq_true hE2.2) ?_
                      refine SR_rd (RD_load Try.isAgg3 rfl) (Has.ce rfl) rfl ?_
                      refine SR_yes rfl rfl (decide_eq_true hE2.2) ?_
                      refine SR_pu (RD_eql rfl rfl) rfl ?_
                      refine SR_pu (RD_pick_t rfl (decide_eq_true hE2.2) rfl) rfl ?_
                      refine SR_pu (RD_eqlB Try.underlying4 rfl rfl) rfl ?_
                      refine SR_pu (RD_move rfl) rfl ?_
                      refine SR_yes rfl rfl (by rw [decide_eq_true hE2.1]; rfl) ?_
                      refine SR_rd (RD_loadA (vs := EntD.cells y) Try.isAgg90 Try.sizeOf90 rfl rfl) Has.wh rfl ?_
                      refine SR_yes rfl rfl (by rw [decide_eq_true hE2.1]; rfl) ?_
                      refine SR_rd (RD_loadA (vs := EntD.cells y) Try.isAgg90 Try.sizeOf90 rfl rfl) Has.wh rfl ?_
                      refine SR_yes rfl rfl (by rw [decide_eq_true hE2.1]; rfl) ?_
                      refine SR_pu (RD_eqlEnt y y rfl rfl rfl) rfl ?_
                      refine SR_pu (RD_pick_t rfl (by rw [decide_eq_true hE2.1]; rfl) rfl) rfl ?_
                      refine SR_pu (RD_move rfl) rfl ?_
                      refine SR_yes rfl rfl (EntD.same_iff.2 rfl) ?_
                      refine SR_call Try.call48 (.nil) (enve_awake) (lts rfl) ?_
                      rintro _ L25 ⟨rfl, hL25⟩
                      refine SR.lands hL25 ?_
                      refine SR_pu (RD_pick_t rfl (EntD.same_iff.2 rfl) rfl) rfl ?_
                      refine SR_pu (RD_assign rfl) rfl ?_
                      refine SR_nil ?_
                      refine SN.le (l := [(20, _)]) ?_ (.cons rfl (.nil))
                      refine SN_seq ?_
                      refine SC_ret1 rfl rfl ?_
                      exact ⟨rfl, Lands.trans (.fin : Lands _ G) hG⟩
                    · refine SC_cond_true rfl (hE) ?_
                      refine SC_seq ?_
                      refine SC_region ?_
                      first
                        | refine SR_pu (RD_fieldAddr0 Try.runUnderlying39 rfl rfl Try.sizeOf3 rfl) rfl ?_
                        | refine SR_rd (RD_fieldAddrO 0 Try.runUnderlying39 rfl rfl Try.sizeOf3 rfl (by simp <;> omega)) Has.ro rfl ?_
                      refine SR_rd (RD_load Try.isAgg3 rfl) (Has.ce rfl) rfl ?_
                      first
                        | refine SR_pu (RD_fieldAddr 1 Try.runUnderlying39 rfl rfl Try.sizeOf37 rfl) rfl ?_
                        | refine SR_rd (RD_fieldAddrO 1 Try.runUnderlying39 rfl rfl Try.sizeOf37 rfl (by simp <;> omega)) Has.ro rfl ?_
                      refine SR_rd (RD_load Try.isAgg37 rfl) (Has.ce rfl) rfl ?_
                      first
                        | refine SR_pu (RD_fieldAddr 2 Try.runUnderlying39 rfl rfl Try.sizeOf37 rfl) rfl ?_
                        | refine SR_rd (RD_fieldAddrO 2 Try.runUnderlying39 rfl rfl Try.sizeOf37 rfl (by simp <;> omega)) Has.ro rfl ?_
                      refine SR_rd (RD_load Try.isAgg37 rfl) (Has.ce rfl) rfl ?_
                      refine SR_pu (RD_build (.cons rfl (.cons rfl (.cons rfl (.nil)))) built90_0_1_2) rfl ?_
                      refine SR_ox0 (OX_stA (vs := EntD.cells ⟨x.client, x.nonce, x.fee, false, txZero⟩) Try.sizeOf90 rfl rfl rfl rfl) ?_
                      rintro _ _ rfl
                      refine SR_nil ?_
                      refine SN.le (l := [(0, _), (1, _), (4, _), (28, _), (29, _), (32, _), (33, _), (34, _)]) ?_ (.cons rfl (.cons rfl (.cons rfl (.cons rfl (.cons rfl (.cons rfl (.cons rfl (.cons rfl (.nil)))))))))
                      refine SN_seq ?_
                      refine SC_seq ?_
                      refine SC_region ?_
                      refine SR_pu (RD_move rfl) rfl ?_
                      refine SR_call Try.call58 (.cons rfl (.nil)) (ref_TxParse p.a p.n p.c p.bs hpn (by omega)) (lts rfl) ?_
                      rintro _ L24 ⟨rfl, hL24⟩
                      refine SR.lands hL24 ?_
                      refine SR_pu (RD_move rfl) rfl ?_
                      refine SR_pu (RD_extract (v := ((parseTx p.bs).getD txZero).val) rfl rfl) rfl ?_
                      refine SR_pu (RD_extract (v := .bool (parseTx p.bs).isSome) rfl rfl) rfl ?_
                      refine SR_ox (OX_alloc Try.zeroValue87 rfl) rfl ?_
                      rintro _ _ ⟨b35, rfl, rfl⟩
                      refine SR_ox0 (OX_stA (vs := ((parseTx p.bs).getD txZero).cells) Try.sizeOf87 rfl rfl rfl rfl) ?_
                      rintro _ _ rfl
                      refine SR_pu (RD_assign rfl) rfl ?_
                      refine SR_nil ?_
                      refine SN.le (l := [(0, _), (1, _), (28, _), (29, _), (32, _), (33, _), (34, _), (35, _), (36, _)]) ?_ (.cons rfl (.cons rfl (.cons rfl (.cons rfl (.cons rfl (.cons rfl (.cons rfl (.cons rfl (.cons rfl (.nil))))))))))
                      refine SN_seq ?_
                      refine SC_seq ?_
                      refine SC_region ?_
                      refine SR_pu (RD_move rfl) rfl ?_
                      refine SR_pu (RD_move rfl) rfl ?_
                      refine SR_guard rfl rfl (fun hg43_1 => ?_) (fun hg43_1 => ?_)
                      · refine SR_yes rfl rfl (hg43_1) ?_
                        first
                          | refine SR_pu (RD_fieldAddr0 Try.runUnderlying39 rfl rfl Try.sizeOf3 rfl) rfl ?_
                          | refine SR_rd (RD_fieldAddrO 0 Try.runUnderlying39 rfl rfl Try.sizeOf3 rfl (by simp <;> omega)) Has.ro rfl ?_
                        refine SR_yes rfl rfl (hg43_1) ?_
                        refine SR_rd (RD_load Try.isAgg3 rfl) (Has.ce rfl) rfl ?_
                        refine SR_yes rfl rfl (hg43_1) ?_
                        refine SR_pu (RD_move rfl) rfl ?_
                        refine SR_yes rfl rfl (hg43_1) ?_
                        refine SR_pu (RD_eql rfl rfl) rfl ?_
                        refine SR_pu (RD_pick_t rfl (hg43_1) rfl) rfl ?_
                        refine SR_nil ?_
                        refine SN.le (l := [(0, _), (28, _), (29, _), (32, _), (33, _), (34, _), (35, _), (215, _)]) ?_ (.cons rfl (.cons rfl (.cons rfl (.cons rfl (.cons rfl (.cons rfl (.cons rfl (.cons rfl (.nil)))))))))
                        refine SN_seq ?_
                        refine SC_cond rfl (fun hc215 => ?_) (fun hc215 => ?_)
                        · rw [show EntD.cells ⟨x.client, x.nonce, x.fee, false, txZero⟩ = (Value.int .i64 x.client :: .int .u64 x.nonce :: .int .u64 x.fee :: .bool false :: txZero.cells) from rfl]
                          refine SC_drawn (.cons 0 true (.cons 1 true (.cons 2 false (.cons 3 true (.cons 4 false (.nil)))))) (by kernel_rfl) (by kernel_rfl) ?_
                          refine SQ_rd rfl (RD_loadA (vs := ((parseTx p.bs).getD txZero).cells) Try.isAgg87 Try.sizeOf87 rfl rfl) Has.wh rfl ?_
                          first
                            | refine SQ_pu rfl (RD_fieldAddr 3 Try.runUnderlying90 rfl rfl Try.sizeOf4 rfl) rfl ?_
                            | refine SQ_rd rfl (RD_fieldAddrO 3 Try.runUnderlying90 rfl rfl Try.sizeOf4 rfl (by simp <;> omega)) Has.ro rfl ?_
                          refine SQ_ox0 rfl (OX_st Try.sizeOf4 rfl rfl) ?_
                          rintro _ _ rfl
                          refine ⟨.h Has.wh (.nil), ?_⟩
                          first
                            | refine SQ_pu rfl (RD_fieldAddr 4 Try.runUnderlying90 rfl rfl Try.sizeOf87 rfl) rfl ?_
                            | refine SQ_rd rfl (RD_fieldAddrO 4 Try.runUnderlying90 rfl rfl Try.sizeOf87 rfl (by simp <;> omega)) Has.ro rfl ?_
                          refine SQ_ox0 rfl (OX_stAt (cs' := EntD.cells ⟨x.client, x.nonce, x.fee, true, (parseTx p.bs).getD txZero⟩) Try.sizeOf87 rfl rfl rfl (by show 0 + 4 + 7 ≤ 11; decide) rfl) ?_
                          rintro _ _ rfl
                          refine ⟨.w rfl (.nil), ?_⟩
                          refine SQ_nil ?_
                          refine SN.le (l := [(0, _), (28, _), (29, _), (32, _), (33, _), (34, _)]) ?_ (.cons rfl (.cons rfl (.cons rfl (.cons rfl (.cons rfl (.cons rfl (.nil)))))))
                          exact J0 (()) _ _ (.cons rfl (.cons rfl (.cons rfl (.cons rfl (.cons rfl (.cons rfl (.nil))))))) ((by rw [← hy, openE_yes (show V1.label ⟨vneed ff, cl, p.bs, sh⟩ = x.client from (of_decide_eq_true hc215).symm), show (parseTx (V1.plain ⟨vneed ff, cl, p.bs, sh⟩)).isSome = true from hg43_1]; exact .fin))
                        · refine SC_skip ?_
                          exact J0 (()) _ _ (.cons rfl (.cons rfl (.cons rfl (.cons rfl (.cons rfl (.cons rfl (.nil))))))) ((by rw [← hy, openE_no (Or.inl (fun h => of_decide_eq_false hc215 h.symm))]; exact .fin))
                      · refine SR_no rfl rfl (hg43_1) (lts rfl) ?_
                        refine SR_no rfl rfl (hg43_1) (lts rfl) ?_
                        refine SR_no rfl rfl (hg43_1) (lts rfl) ?_
                        refine SR_no rfl rfl (hg43_1) (lts rfl) ?_
                        refine SR_pu (RD_pick_f rfl (hg43_1) rfl) rfl ?_
                        refine SR_nil ?_
                        refine SN.le (l := [(0, _), (28, _), (29, _), (32, _), (33, _), (34, _), (35, _), (215, _)]) ?_ (.cons rfl (.cons rfl (.cons rfl (.cons rfl (.cons rfl (.cons rfl (.cons rfl (.cons rfl (.nil)))))))))
                        refine SN_seq ?_
                        refine SC_cond_false rfl (rfl) ?_
                        refine SC_skip ?_
                        exact J0 (()) _ _ (.cons rfl (.cons rfl (.cons rfl (.cons rfl (.cons rfl (.cons rfl (.nil))))))) ((by rw [← hy, openE_no (s := ⟨vneed ff, cl, p.bs, sh⟩) (e := x) (Or.inr (by simpa using hg43_1))]; exact .fin))
                  · refine SC_region ?_
                    refine SR_pu (RD_move rfl) rfl ?_
                    refine SR_pu (RD_move rfl) rfl ?_
                    refine SR_pu (RD_gtr rfl rfl) rfl ?_
                    refine SR_pu (RD_move rfl) rfl ?_
                    refine SR_guard rfl rfl (fun hg40_3 => ?_) (fun hg40_3 => ?_)
                    · refine SR_yes rfl rfl (hg40_3) ?_
                      first
                        | refine SR_pu (RD_fieldAddr 3 Try.runUnderlying39 rfl rfl Try.sizeOf3 rfl) rfl ?_
                        | refine SR_rd (RD_fieldAddrO 3 Try.runUnderlying39 rfl rfl Try.sizeOf3 rfl (by simp <;> omega)) Has.ro rfl ?_
                      refine SR_yes rfl rfl (hg40_3) ?_
                      refine SR_rd (RD_load Try.isAgg3 rfl) (Has.ce rfl) rfl ?_
                      refine SR_yes rfl rfl (hg40_3) ?_
                      refine SR_pu (RD_eql rfl rfl) rfl ?_
                      refine SR_pu (RD_pick_t rfl (hg40_3) rfl) rfl ?_
                      refine SR_nil ?_
                      refine SN.le (l := [(0, _), (1, _), (4, _), (28, _), (29, _), (32, _), (33, _), (34, _), (196, _)]) ?_ (.cons rfl (.cons rfl (.cons rfl (.cons rfl (.cons rfl (.cons rfl (.cons rfl (.cons rfl (.cons rfl (.nil))))))))))
                      exact J0 (()) _ _ (.cons rfl (.cons rfl (.cons rfl (.cons rfl (.cons rfl (.cons rfl (.cons rfl (.cons rfl (.cons' rfl (congrArg Value.bool (by rw [hEn, show decide ((sh.length : Int) > ff) = true from hg40_3, Bool.and_true])) (.nil)))))))))) (.fin)
                    · refine SR_no rfl rfl (hg40_3) (lts rfl) ?_
                      refine SR_no rfl rfl (hg40_3) (lts rfl) ?_
                      refine SR_no rfl rfl (hg40_3) (lts rfl) ?_
                      refine SR_pu (RD_pick_f rfl (hg40_3) rfl) rfl ?_
                      refine SR_nil ?_
                      refine SN.le (l := [(0, _), (1, _), (4, _), (28, _), (29, _), (32, _), (33, _), (34, _), (196, _)]) ?_ (.cons rfl (.cons rfl (.cons rfl (.cons rfl (.cons rfl (.cons rfl (.cons rfl (.cons rfl (.cons rfl (.nil))))))))))
                      exact J0 (()) _ _ (.cons rfl (.cons rfl (.cons rfl (.cons rfl (.cons rfl (.cons rfl (.cons rfl (.cons rfl (.cons' rfl (congrArg Value.bool (by rw [hEn, show decide ((sh.length : Int) > ff) = false from hg40_3, Bool.and_false])) (.nil)))))))))) (.fin)
                · have hE' : V1.enough ⟨vneed ff, cl, p.bs, sh⟩ x.cipher = false := by simpa using hE
                  have hor : openR ⟨vneed ff, cl, p.bs, sh⟩ x = .tuple #[zEnt.val, .bool false] := if_neg hE
                  refine SC_exit rfl ?_
                  refine SN_seq ?_
                  refine SC_seq ?_
                  refine SC_region ?_
                  refine SR_pu (RD_move rfl) rfl ?_
                  refine SR_rd (RD_loadA (vs := EnvD.cells x) Try.isAgg39 Try.sizeOf39 rfl rfl) Has.wh rfl ?_
                  refine SR_call Try.call53 (.cons rfl (.cons rfl (.nil))) (CallsK.at2 (w_Open k ⟨l2, [(1, [1000 + cl])]⟩ ⟨vneed ff, cl, p.bs, sh⟩ x (by show p.bs.length ≤ _; omega))) (lts rfl) ?_
                  rintro _ L23 ⟨rfl, hL23⟩
                  rw [hor]
                  refine SR.lands hL23 ?_
                  refine SR_pu (RD_move rfl) rfl ?_
                  refine SR_pu (RD_extract (v := EntD.val zEnt) rfl rfl) rfl ?_
                  refine SR_pu (RD_extract (v := .bool false) rfl rfl) rfl ?_
                  refine SR_ox (OX_alloc Try.zeroValue90 rfl) rfl ?_
                  rintro _ _ ⟨b32, rfl, rfl⟩
                  refine SR_ox0 (OX_stA (vs := EntD.cells zEnt) Try.sizeOf90 rfl rfl rfl rfl) ?_
                  rintro _ _ rfl
                  refine SR_pu (RD_assign rfl) rfl ?_
                  refine SR_nil ?_
                  refine SN.le (l := [(0, _), (1, _), (4, _), (28, _), (29, _), (32, _), (33, _)]) ?_ (.cons rfl (.cons rfl (.cons rfl (.cons rfl (.cons rfl (.cons rfl (.cons rfl (.nil))))))))
                  refine SN_seq ?_
                  refine SC_seq ?_
                  refine SC_region ?_
                  refine SR_pu (RD_build (.nil) built90) rfl ?_
                  refine SR_ox (OX_alloc Try.zeroValue90 rfl) rfl ?_
                  rintro _ _ ⟨b34, rfl, rfl⟩
                  refine SR_ox0 (OX_stA (vs := zEnt.cells) Try.sizeOf90 rfl rfl rfl rfl) ?_
                  rintro _ _ rfl
                  refine SR_nil ?_
                  refine SN.le (l := [(0, _), (1, _), (4, _), (28, _), (29, _), (32, _), (33, _), (34, _)]) ?_ (.cons rfl (.cons rfl (.cons rfl (.cons rfl (.cons rfl (.cons rfl (.cons rfl (.cons rfl (.nil)))))))))
                  refine SN_seq ?_
                  refine SC_seq ?_
                  refine SC_seq ?_
                  refine SC_join (X := Unit) (fun u => [(0, .int .i64 ff), (1, .int .i64 cl), (4, p.val), (28, .pointer (some ⟨b28, 0, none⟩)), (29, .int .i64 (sh.length : Nat)), (32, .pointer (some ⟨b32, 0, none⟩)), (33, .bool false), (34, .pointer (some ⟨b34, 0, none⟩)), (196, .bool (V1.enough ⟨vneed ff, cl, p.bs, sh⟩ x.cipher))]) (fun u => pt b28 (.cells x.cells.toArray 39) :: pt b32 (.cells (EntD.cells zEnt).toArray 90) :: pt b34 (.cells (EntD.cells zEnt).toArray 90) :: G) (fun _ => ?_) (fun J0 => ?_)
                  · refine SN_seq ?_
                    refine SC_cond_false rfl (hE') ?_
                    refine SC_skip ?_
                    refine SN_seq ?_
                    refine SC_seq ?_
                    refine SC_region ?_
                    refine SR_pu (RD_move rfl) rfl ?_
                    refine SR_pu (RD_move rfl) rfl ?_
                    refine SR_pu (RD_move rfl) rfl ?_
                    refine SR_pu (RD_gtr rfl rfl) rfl ?_
                    refine SR_pu (RD_move rfl) rfl ?_
                    refine SR_guard rfl rfl (fun hg45_4 => ?_) (fun hg45_4 => ?_)
                    · refine SR_yes rfl rfl (hg45_4) ?_
                      first
                        | refine SR_pu (RD_fieldAddr 3 Try.runUnderlying39 rfl rfl Try.sizeOf3 rfl) rfl ?_
                        | refine SR_rd (RD_fieldAddrO 3 Try.runUnderlying39 rfl rfl Try.sizeOf3 rfl (by simp <;> omega)) Has.ro rfl ?_
                      refine SR_yes rfl rfl (hg45_4) ?_
                      refine SR_rd (RD_load Try.isAgg3 rfl) (Has.ce rfl) rfl ?_
                      refine SR_yes rfl rfl (hg45_4) ?_
                      refine SR_pu (RD_eql rfl rfl) rfl ?_
                      refine SR_pu (RD_pick_t rfl (hg45_4) rfl) rfl ?_
                      refine SR_pu (RD_eqlB Try.underlying4 rfl rfl) rfl ?_
                      refine SR_pu (RD_move rfl) rfl ?_
                      refine SR_yes rfl rfl (by rw [show decide (x.cipher = 1) = false by rw [hEn, show decide ((sh.length : Int) > ff) = true from hg45_4, Bool.and_true] at hE'; exact hE']; rfl) ?_
                      refine SR_rd (RD_loadA (vs := EntD.cells zEnt) Try.isAgg90 Try.sizeOf90 rfl rfl) Has.wh rfl ?_
                      refine SR_yes rfl rfl (by rw [show decide (x.cipher = 1) = false by rw [hEn, show decide ((sh.length : Int) > ff) = true from hg45_4, Bool.and_true] at hE'; exact hE']; rfl) ?_
                      refine SR_rd (RD_loadA (vs := EntD.cells zEnt) Try.isAgg90 Try.sizeOf90 rfl rfl) Has.wh rfl ?_
                      refine SR_yes rfl rfl (by rw [show decide (x.cipher = 1) = false by rw [hEn, show decide ((sh.length : Int) > ff) = true from hg45_4, Bool.and_true] at hE'; exact hE']; rfl) ?_
                      refine SR_pu (RD_eqlEnt zEnt zEnt rfl rfl rfl) rfl ?_
                      refine SR_pu (RD_pick_t rfl (by rw [show decide (x.cipher = 1) = false by rw [hEn, show decide ((sh.length : Int) > ff) = true from hg45_4, Bool.and_true] at hE'; exact hE']; rfl) rfl) rfl ?_
                      refine SR_pu (RD_move rfl) rfl ?_
                      refine SR_yes rfl rfl (EntD.same_iff.2 rfl) ?_
                      refine SR_call Try.call48 (.nil) (enve_awake) (lts rfl) ?_
                      rintro _ L25 ⟨rfl, hL25⟩
                      refine SR.lands hL25 ?_
                      refine SR_pu (RD_pick_t rfl (EntD.same_iff.2 rfl) rfl) rfl ?_
                      refine SR_pu (RD_assign rfl) rfl ?_
                      refine SR_nil ?_
                      refine SN.le (l := [(20, _)]) ?_ (.cons rfl (.nil))
                      refine SN_seq ?_
                      refine SC_ret1 rfl rfl ?_
                      exact ⟨rfl, Lands.trans (.fin : Lands _ G) hG⟩
                    · refine SR_no rfl rfl (hg45_4) (lts rfl) ?_
                      refine SR_no rfl rfl (hg45_4) (lts rfl) ?_
                      refine SR_no rfl rfl (hg45_4) (lts rfl) ?_
                      refine SR_pu (RD_pick_f rfl (hg45_4) rfl) rfl ?_
                      refine SR_pu (RD_eqlB Try.underlying4 rfl rfl) rfl ?_
                      refine SR_pu (RD_move rfl) rfl ?_
                      refine SR_yes rfl rfl (rfl) ?_
                      refine SR_rd (RD_loadA (vs := EntD.cells zEnt) Try.isAgg90 Try.sizeOf90 rfl rfl) Has.wh rfl ?_
                      refine SR_yes rfl rfl (rfl) ?_
                      refine SR_rd (RD_loadA (vs := EntD.cells zEnt) Try.isAgg90 Try.sizeOf90 rfl rfl) Has.wh rfl ?_
                      refine SR_yes rfl rfl (rfl) ?_
                      refine SR_pu (RD_eqlEnt zEnt zEnt rfl rfl rfl) rfl ?_
                      refine SR_pu (RD_pick_t rfl (rfl) rfl) rfl ?_
                      refine SR_pu (RD_move rfl) rfl ?_
                      refine SR_yes rfl rfl (EntD.same_iff.2 rfl) ?_
                      refine SR_call Try.call48 (.nil) (enve_awake) (lts rfl) ?_
                      rintro _ L25 ⟨rfl, hL25⟩
                      refine SR.lands hL25 ?_
                      refine SR_pu (RD_pick_t rfl (EntD.same_iff.2 rfl) rfl) rfl ?_
                      refine SR_pu (RD_assign rfl) rfl ?_
                      refine SR_nil ?_
                      refine SN.le (l := [(20, _)]) ?_ (.cons rfl (.nil))
                      refine SN_seq ?_
                      refine SC_ret1 rfl rfl ?_
                      exact ⟨rfl, Lands.trans (.fin : Lands _ G) hG⟩
                  · refine SC_region ?_
                    refine SR_pu (RD_move rfl) rfl ?_
                    refine SR_pu (RD_move rfl) rfl ?_
                    refine SR_pu (RD_gtr rfl rfl) rfl ?_
                    refine SR_pu (RD_move rfl) rfl ?_
                    refine SR_guard rfl rfl (fun hg40_3 => ?_) (fun hg40_3 => ?_)
                    · refine SR_yes rfl rfl (hg40_3) ?_
                      first
                        | refine SR_pu (RD_fieldAddr 3 Try.runUnderlying39 rfl rfl Try.sizeOf3 rfl) rfl ?_
                        | refine SR_rd (RD_fieldAddrO 3 Try.runUnderlying39 rfl rfl Try.sizeOf3 rfl (by simp <;> omega)) Has.ro rfl ?_
                      refine SR_yes rfl rfl (hg40_3) ?_
                      refine SR_rd (RD_load Try.isAgg3 rfl) (Has.ce rfl) rfl ?_
                      refine SR_yes rfl rfl (hg40_3) ?_
                      refine SR_pu (RD_eql rfl rfl) rfl ?_
                      refine SR_pu (RD_pick_t rfl (hg40_3) rfl) rfl ?_
                      refine SR_nil ?_
                      refine SN.le (l := [(0, _), (1, _), (4, _), (28, _), (29, _), (32, _), (33, _), (34, _), (196, _)]) ?_ (.cons rfl (.cons rfl (.cons rfl (.cons rfl (.cons rfl (.cons rfl (.cons rfl (.cons rfl (.cons rfl (.nil))))))))))
                      exact J0 (()) _ _ (.cons rfl (.cons rfl (.cons rfl (.cons rfl (.cons rfl (.cons rfl (.cons rfl (.cons rfl (.cons' rfl (congrArg Value.bool (by rw [hEn, show decide ((sh.length : Int) > ff) = true from hg40_3, Bool.and_true])) (.nil)))))))))) (.fin)
                    · refine SR_no rfl rfl (hg40_3) (lts rfl) ?_
                      refine SR_no rfl rfl (hg40_3) (lts rfl) ?_
                      refine SR_no rfl rfl (hg40_3) (lts rfl) ?_
                      refine SR_pu (RD_pick_f rfl (hg40_3) rfl) rfl ?_
                      refine SR_nil ?_
                      refine SN.le (l := [(0, _), (1, _), (4, _), (28, _), (29, _), (32, _), (33, _), (34, _), (196, _)]) ?_ (.cons rfl (.cons rfl (.cons rfl (.cons rfl (.cons rfl (.cons rfl (.cons rfl (.cons rfl (.cons rfl (.nil))))))))))
                      exact J0 (()) _ _ (.cons rfl (.cons rfl (.cons rfl (.cons rfl (.cons rfl (.cons rfl (.cons rfl (.cons rfl (.cons' rfl (congrArg Value.bool (by rw [hEn, show decide ((sh.length : Int) > ff) = false from hg40_3, Bool.and_false])) (.nil)))))))))) (.fin)
            · refine SC_region ?_
              refine SR_pu (RD_move rfl) rfl ?_
              refine SR_pu (RD_move rfl) rfl ?_
              refine SR_pu (RD_len Try.runUnderlying22 rfl) rfl ?_
              refine SR_pu (RD_lss rfl rfl) rfl ?_
              refine SR_pu (RD_move rfl) rfl ?_
              refine SR_guard rfl rfl (fun hg32_4 => ?_) (fun hg32_4 => ?_)
              · refine SR_yes rfl rfl (hg32_4) ?_
                refine SR_pu (RD_move rfl) rfl ?_
                refine SR_yes rfl rfl (hg32_4) ?_
                refine SR_pu (RD_lss rfl rfl) rfl ?_
                refine SR_pu (RD_pick_t rfl (hg32_4) rfl) rfl ?_
                refine SR_nil ?_
                refine SN.le (l := [(0, _), (1, _), (4, _), (9, _), (21, _), (28, _), (29, _), (30, _), (163, _)]) ?_ (.cons rfl (.cons rfl (.cons rfl (.cons rfl (.cons rfl (.cons rfl (.cons rfl (.cons rfl (.cons rfl (.nil))))))))))
                exact J0 (()) _ _ (.cons rfl (.cons rfl (.cons rfl (.cons rfl (.cons rfl (.cons rfl (.cons rfl (.cons rfl (.cons' rfl (congrArg Value.bool (decide_eq_decide.2 (by have := of_decide_eq_true hg32_4; omega))) (.nil)))))))))) (.fin)
              · refine SR_no rfl rfl (hg32_4) (lts rfl) ?_
                refine SR_no rfl rfl (hg32_4) (lts rfl) ?_
                refine SR_pu (RD_pick_f rfl (hg32_4) rfl) rfl ?_
                refine SR_nil ?_
                refine SN.le (l := [(0, _), (1, _), (4, _), (9, _), (21, _), (28, _), (29, _), (30, _), (163, _)]) ?_ (.cons rfl (.cons rfl (.cons rfl (.cons rfl (.cons rfl (.cons rfl (.cons rfl (.cons rfl (.cons rfl (.nil))))))))))
                exact J0 (()) _ _ (.cons rfl (.cons rfl (.cons rfl (.cons rfl (.cons rfl (.cons rfl (.cons rfl (.cons rfl (.cons' rfl (congrArg Value.bool (decide_eq_false (by have := of_decide_eq_false hg32_4; omega)).symm) (.nil)))))))))) (.fin)
          · refine SC_block ?_
            refine SC_seq ?_
            refine SC_region ?_
            refine SR_pu (RD_eql rfl rfl) rfl ?_
            refine SR_pu (RD_assign rfl) rfl ?_
            refine SR_nil ?_
            refine SN.le (l := [(0, _), (1, _), (4, _), (8, _), (9, _), (21, _), (24, _), (28, _), (132, _), (136, _)]) ?_ (.cons rfl (.cons rfl (.cons rfl (.cons rfl (.cons rfl (.cons rfl (.cons rfl (.cons rfl (.cons rfl (.cons rfl (.nil)))))))))))
            refine SN_seq ?_
            refine SC_cond rfl (fun hc136 => ?_) (fun hc136 => ?_)
            · refine SC_region ?_
              refine SR_pu (RD_move rfl) rfl ?_
              first
                | refine SR_pu (RD_convi64 Try.runUnderlying37 Try.runUnderlying3 rfl (by omega) (by omega)) rfl ?_
                | refine SR_pu (RD_convI Try.runUnderlying37 Try.runUnderlying3 rfl) rfl ?_
              first
                | refine SR_pu (RD_fieldAddr0 Try.runUnderlying39 rfl rfl Try.sizeOf3 rfl) rfl ?_
                | refine SR_rd (RD_fieldAddrO 0 Try.runUnderlying39 rfl rfl Try.sizeOf3 rfl (by simp <;> omega)) Has.ro rfl ?_
              refine SR_ox0 (OX_st Try.sizeOf3 rfl rfl) ?_
              rintro _ _ rfl
              refine SR_nil ?_
              refine SN.le (l := [(0, _), (1, _), (4, _), (9, _), (21, _), (24, _), (28, _)]) ?_ (.cons rfl (.cons rfl (.cons rfl (.cons rfl (.cons rfl (.cons rfl (.cons rfl (.nil))))))))
              refine SN_block ?_
              exact J0 (⟨⟨IntKind.i64.wrap to_, nc, fe, 1⟩, wrap_I64 _, heg.2.1, h2, h3⟩) _ _ (.cons rfl (.cons rfl (.cons rfl (.cons rfl (.cons rfl (.cons rfl (.cons rfl (.nil)))))))) ((show Lands _ (pt b28 (.cells [.int .i64 (IntKind.i64.wrap to_), .int .u64 nc, .int .u64 fe, .int .i64 1].toArray 39) :: pt b24 (.cells (EnvD.cells ⟨cl, nc, fe, 1⟩).toArray 39) :: At worldI k ⟨[envB ⟨cl, nc, fe, 1⟩], [(1, [1000 + cl])]⟩ :: At voneI k.v ⟨vneed ff, cl, p.bs, []⟩ :: G) from .fin))
            · refine SC_seq ?_
              refine SC_region ?_
              refine SR_pu (RD_eql rfl rfl) rfl ?_
              refine SR_pu (RD_assign rfl) rfl ?_
              refine SR_nil ?_
              refine SN.le (l := [(0, _), (1, _), (4, _), (8, _), (9, _), (21, _), (24, _), (28, _), (132, _), (141, _)]) ?_ (.cons rfl (.cons rfl (.cons rfl (.cons rfl (.cons rfl (.cons rfl (.cons rfl (.cons rfl (.cons rfl (.cons rfl (.nil)))))))))))
              refine SN_seq ?_
              refine SC_cond rfl (fun hc141 => ?_) (fun hc141 => ?_)
              · refine SC_region ?_
                refine SR_pu (RD_move rfl) rfl ?_
                first
                  | refine SR_pu (RD_fieldAddr 1 Try.runUnderlying39 rfl rfl Try.sizeOf37 rfl) rfl ?_
                  | refine SR_rd (RD_fieldAddrO 1 Try.runUnderlying39 rfl rfl Try.sizeOf37 rfl (by simp <;> omega)) Has.ro rfl ?_
                refine SR_ox0 (OX_st Try.sizeOf37 rfl rfl) ?_
                rintro _ _ rfl
                refine SR_nil ?_
                refine SN.le (l := [(0, _), (1, _), (4, _), (9, _), (21, _), (24, _), (28, _)]) ?_ (.cons rfl (.cons rfl (.cons rfl (.cons rfl (.cons rfl (.cons rfl (.cons rfl (.nil))))))))
                refine SN_block ?_
                exact J0 (⟨⟨cl, to_, fe, 1⟩, heg.1, heg.2.1, h8, h3⟩) _ _ (.cons rfl (.cons rfl (.cons rfl (.cons rfl (.cons rfl (.cons rfl (.cons rfl (.nil)))))))) ((show Lands _ (pt b28 (.cells [.int .i64 cl, .int .u64 to_, .int .u64 fe, .int .i64 1].toArray 39) :: pt b24 (.cells (EnvD.cells ⟨cl, nc, fe, 1⟩).toArray 39) :: At worldI k ⟨[envB ⟨cl, nc, fe, 1⟩], [(1, [1000 + cl])]⟩ :: At voneI k.v ⟨vneed ff, cl, p.bs, []⟩ :: G) from .fin))
              · refine SC_seq ?_
                refine SC_region ?_
                refine SR_pu (RD_eql rfl rfl) rfl ?_
                refine SR_pu (RD_assign rfl) rfl ?_
                refine SR_nil ?_
                refine SN.le (l := [(0, _), (1, _), (4, _), (8, _), (9, _), (21, _), (24, _), (28, _), (145, _)]) ?_ (.cons rfl (.cons rfl (.cons rfl (.cons rfl (.cons rfl (.cons rfl (.cons rfl (.cons rfl (.cons rfl (.nil))))))))))
                refine SN_seq ?_
                refine SC_cond rfl (fun hc145 => ?_) (fun hc145 => ?_)
                · refine SC_region ?_
                  refine SR_pu (RD_move rfl) rfl ?_
                  first
                    | refine SR_pu (RD_fieldAddr 2 Try.runUnderlying39 rfl rfl Try.sizeOf37 rfl) rfl ?_
                    | refine SR_rd (RD_fieldAddrO 2 Try.runUnderlying39 rfl rfl Try.sizeOf37 rfl (by simp <;> omega)) Has.ro rfl ?_
                  refine SR_ox0 (OX_st Try.sizeOf37 rfl rfl) ?_
                  rintro _ _ rfl
                  refine SR_nil ?_
                  refine SN.le (l := [(0, _), (1, _), (4, _), (9, _), (21, _), (24, _), (28, _)]) ?_ (.cons rfl (.cons rfl (.cons rfl (.cons rfl (.cons rfl (.cons rfl (.cons rfl (.nil))))))))
                  refine SN_block ?_
                  exact J0 (⟨⟨cl, nc, to_, 1⟩, heg.1, heg.2.1, h2, h8⟩) _ _ (.cons rfl (.cons rfl (.cons rfl (.cons rfl (.cons rfl (.cons rfl (.cons rfl (.nil)))))))) ((show Lands _ (pt b28 (.cells [.int .i64 cl, .int .u64 nc, .int .u64 to_, .int .i64 1].toArray 39) :: pt b24 (.cells (EnvD.cells ⟨cl, nc, fe, 1⟩).toArray 39) :: At worldI k ⟨[envB ⟨cl, nc, fe, 1⟩], [(1, [1000 + cl])]⟩ :: At voneI k.v ⟨vneed ff, cl, p.bs, []⟩ :: G) from .fin))
                · refine SC_region ?_
                  refine SR_pu (RD_move rfl) rfl ?_
                  first
                    | refine SR_pu (RD_convi64 Try.runUnderlying37 Try.runUnderlying3 rfl (by omega) (by omega)) rfl ?_
                    | refine SR_pu (RD_convI Try.runUnderlying37 Try.runUnderlying3 rfl) rfl ?_
                  first
                    | refine SR_pu (RD_fieldAddr 3 Try.runUnderlying39 rfl rfl Try.sizeOf3 rfl) rfl ?_
                    | refine SR_rd (RD_fieldAddrO 3 Try.runUnderlying39 rfl rfl Try.sizeOf3 rfl (by simp <;> omega)) Has.ro rfl ?_
                  refine SR_ox0 (OX_st Try.sizeOf3 rfl rfl) ?_
                  rintro _ _ rfl
                  refine SR_nil ?_
                  refine SN.le (l := [(0, _), (1, _), (4, _), (9, _), (21, _), (24, _), (28, _)]) ?_ (.cons rfl (.cons rfl (.cons rfl (.cons rfl (.cons rfl (.cons rfl (.cons rfl (.nil))))))))
                  refine SN_block ?_
                  exact J0 (⟨⟨cl, nc, fe, IntKind.i64.wrap to_⟩, heg.1, wrap_I64 _, h2, h3⟩) _ _ (.cons rfl (.cons rfl (.cons rfl (.cons rfl (.cons rfl (.cons rfl (.cons rfl (.nil)))))))) ((show Lands _ (pt b28 (.cells [.int .i64 cl, .int .u64 nc, .int .u64 fe, .int .i64 (IntKind.i64.wrap to_)].toArray 39) :: pt b24 (.cells (EnvD.cells ⟨cl, nc, fe, 1⟩).toArray 39) :: At worldI k ⟨[envB ⟨cl, nc, fe, 1⟩], [(1, [1000 + cl])]⟩ :: At voneI k.v ⟨vneed ff, cl, p.bs, []⟩ :: G) from .fin))
        · refine SC_region ?_
          refine SR_pu (RD_move rfl) rfl ?_
          refine SR_pu (RD_geq rfl rfl) rfl ?_
          refine SR_pu (RD_move rfl) rfl ?_
          refine SR_guard rfl rfl (fun hg11_2 => ?_) (fun hg11_2 => ?_)
          · refine SR_yes rfl rfl (hg11_2) ?_
            refine SR_pu (RD_move rfl) rfl ?_
            refine SR_yes rfl rfl (hg11_2) ?_
            refine SR_pu (RD_leq rfl rfl) rfl ?_
            refine SR_pu (RD_pick_t rfl (hg11_2) rfl) rfl ?_
            refine SR_pu (RD_assign rfl) rfl ?_
            refine SR_nil ?_
            refine SN.le (l := [(0, _), (1, _), (2, _), (3, _), (4, _), (7, _), (8, _), (9, _), (21, _), (24, _), (25, _)]) ?_ (.cons rfl (.cons rfl (.cons rfl (.cons rfl (.cons rfl (.cons rfl (.cons rfl (.cons rfl (.cons rfl (.cons rfl (.cons rfl (.nil))))))))))))
            exact J0 (()) _ _ (.cons rfl (.cons rfl (.cons rfl (.cons rfl (.cons rfl (.cons rfl (.cons rfl (.cons rfl (.cons rfl (.cons rfl (.cons' rfl (congrArg Value.bool (decide_eq_decide.2 (by have := of_decide_eq_true hg11_2; omega))) (.nil)))))))))))) (.fin)
          · refine SR_no rfl rfl (hg11_2) (lts rfl) ?_
            refine SR_no rfl rfl (hg11_2) (lts rfl) ?_
            refine SR_pu (RD_pick_f rfl (hg11_2) rfl) rfl ?_
            refine SR_pu (RD_assign rfl) rfl ?_
            refine SR_nil ?_
            refine SN.le (l := [(0, _), (1, _), (2, _), (3, _), (4, _), (7, _), (8, _), (9, _), (21, _), (24, _), (25, _)]) ?_ (.cons rfl (.cons rfl (.cons rfl (.cons rfl (.cons rfl (.cons rfl (.cons rfl (.cons rfl (.cons rfl (.cons rfl (.cons rfl (.nil))))))))))))
            exact J0 (()) _ _ (.cons rfl (.cons rfl (.cons rfl (.cons rfl (.cons rfl (.cons rfl (.cons rfl (.cons rfl (.cons rfl (.cons rfl (.cons' rfl (congrArg Value.bool (decide_eq_false (by have := of_decide_eq_false hg11_2; omega)).symm) (.nil)))))))))))) (.fin)
      · refine SN_seq ?_
        refine SC_seq ?_
        refine SC_region ?_
        refine SR_pu (RD_move rfl) rfl ?_
        refine SR_pu (RD_move rfl) rfl ?_
        refine SR_pu (RD_move rfl) rfl ?_
        refine SR_pu (RD_move rfl) rfl ?_
        refine SR_pu (RD_move rfl) rfl ?_
        refine SR_call Try.call35 (.cons rfl (.cons rfl (.cons rfl (.cons rfl (.cons rfl (.nil)))))) (w_Make_no k cl nc fe hcl p.a p.n p.c) (lts rfl) ?_
        rintro _ L3 ⟨rfl, hL3⟩
        refine SR.lands hL3 ?_
        refine SR_ox (OX_alloc Try.zeroValue39 rfl) rfl ?_
        rintro _ _ ⟨b24, rfl, rfl⟩
        refine SR_ox0 (OX_stA (vs := EnvD.cells ⟨0, 0, 0, 0⟩) Try.sizeOf39 rfl rfl rfl rfl) ?_
        rintro _ _ rfl
        refine SR_nil ?_
        refine SN.le (l := [(0, _), (1, _), (2, _), (3, _), (4, _), (7, _), (8, _), (9, _), (21, _), (24, _)]) ?_ (.cons rfl (.cons rfl (.cons rfl (.cons rfl (.cons rfl (.cons rfl (.cons rfl (.cons rfl (.cons rfl (.cons rfl (.nil)))))))))))
        refine SN_seq ?_
        refine SC_seq ?_
        refine SC_join (X := Unit) (fun x => [(0, .int .i64 ff), (1, .int .i64 cl), (2, .int .u64 nc), (3, .int .u64 fe), (4, p.val), (7, .int .i64 field), (8, .int .u64 to_), (9, .slice a9 n9 c9), (21, .pointer (some ⟨k.p, 0, none⟩)), (24, .pointer (some ⟨b24, 0, none⟩)), (25, .bool (decide (0 ≤ cl ∧ cl ≤ 999)))]) (fun x => pt b24 (.cells (EnvD.cells ⟨0, 0, 0, 0⟩).toArray 39) :: At worldI k ⟨[], []⟩ :: pt k.v (.cells [.int .i64 (vneed ff), .slice none 0 0].toArray 142) :: G) (fun _ => ?_) (fun J0 => ?_)
        · refine SN_seq ?_
          refine SC_seq ?_
          refine SC_seq ?_
          refine SC_region ?_
          refine SR_pu (RD_move rfl) rfl ?_
          refine SR_pu (RD_not rfl) rfl ?_
          refine SR_nil ?_
          refine SN.le (l := [(0, _), (1, _), (2, _), (3, _), (4, _), (7, _), (8, _), (9, _), (21, _), (24, _), (70, _)]) ?_ (.cons rfl (.cons rfl (.cons rfl (.cons rfl (.cons rfl (.cons rfl (.cons rfl (.cons rfl (.cons rfl (.cons rfl (.cons rfl (.nil))))))))))))
          refine SN_seq ?_
          refine SC_cond_true rfl (by simp [hcl]) ?_
          refine SC_seq ?_
          refine SC_region ?_
          refine SR_rd (RD_loadA (vs := EnvD.cells ⟨0, 0, 0, 0⟩) Try.isAgg39 Try.sizeOf39 rfl rfl) Has.wh rfl ?_
          refine SR_pu (RD_build (.nil) built39) rfl ?_
          refine SR_pu (RD_eqlEnv ⟨0, 0, 0, 0⟩ ⟨0, 0, 0, 0⟩ rfl rfl rfl) rfl ?_
          refine SR_pu (RD_move rfl) rfl ?_
          refine SR_yes rfl rfl (by simp) ?_
          refine SR_pu (RD_move rfl) rfl ?_
          refine SR_yes rfl rfl (by simp) ?_
          refine SR_call Try.call49 (.cons rfl (.nil)) (CallsK.at (w_Vault k ⟨[], []⟩)) (lts rfl) ?_
          rintro _ L4 ⟨rfl, hL4⟩
          refine SR.lands hL4 ?_
          refine SR_yes rfl rfl (by simp) ?_
          refine SR_call Try.call55 (.cons rfl (.nil)) (CallsK.atPt (seal_Len0 k.v (vneed ff))) (lts rfl) ?_
          rintro _ L5 ⟨rfl, hL5⟩
          refine SR.lands hL5 ?_
          refine SR_yes rfl rfl (by simp) ?_
          refine SR_pu (RD_eql rfl rfl) rfl ?_
          refine SR_pu (RD_pick_t rfl (by simp) rfl) rfl ?_
          refine SR_pu (RD_move rfl) rfl ?_
          refine SR_yes rfl rfl (rfl) ?_
          refine SR_call Try.call48 (.nil) (enve_awake) (lts rfl) ?_
          rintro _ L6 ⟨rfl, hL6⟩
          refine SR.lands hL6 ?_
          refine SR_pu (RD_pick_t rfl (rfl) rfl) rfl ?_
          refine SR_pu (RD_assign rfl) rfl ?_
          refine SR_nil ?_
          refine SN.le (l := [(20, _)]) ?_ (.cons rfl (.nil))
          refine SN_seq ?_
          refine SC_ret1 rfl rfl ?_
          exact ⟨rfl, Lands.trans (.fin : Lands _ G) hG⟩
        · refine SC_region ?_
          refine SR_pu (RD_move rfl) rfl ?_
          refine SR_pu (RD_geq rfl rfl) rfl ?_
          refine SR_pu (RD_move rfl) rfl ?_
          refine SR_guard rfl rfl (fun hg11_2 => ?_) (fun hg11_2 => ?_)
          · refine SR_yes rfl rfl (hg11_2) ?_
            refine SR_pu (RD_move rfl) rfl ?_
            refine SR_yes rfl rfl (hg11_2) ?_
            refine SR_pu (RD_leq rfl rfl) rfl ?_
            refine SR_pu (RD_pick_t rfl (hg11_2) rfl) rfl ?_
            refine SR_pu (RD_assign rfl) rfl ?_
            refine SR_nil ?_
            refine SN.le (l := [(0, _), (1, _), (2, _), (3, _), (4, _), (7, _), (8, _), (9, _), (21, _), (24, _), (25, _)]) ?_ (.cons rfl (.cons rfl (.cons rfl (.cons rfl (.cons rfl (.cons rfl (.cons rfl (.cons rfl (.cons rfl (.cons rfl (.cons rfl (.nil))))))))))))
            exact J0 (()) _ _ (.cons rfl (.cons rfl (.cons rfl (.cons rfl (.cons rfl (.cons rfl (.cons rfl (.cons rfl (.cons rfl (.cons rfl (.cons' rfl (congrArg Value.bool (decide_eq_decide.2 (by have := of_decide_eq_true hg11_2; omega))) (.nil)))))))))))) (.fin)
          · refine SR_no rfl rfl (hg11_2) (lts rfl) ?_
            refine SR_no rfl rfl (hg11_2) (lts rfl) ?_
            refine SR_pu (RD_pick_f rfl (hg11_2) rfl) rfl ?_
            refine SR_pu (RD_assign rfl) rfl ?_
            refine SR_nil ?_
            refine SN.le (l := [(0, _), (1, _), (2, _), (3, _), (4, _), (7, _), (8, _), (9, _), (21, _), (24, _), (25, _)]) ?_ (.cons rfl (.cons rfl (.cons rfl (.cons rfl (.cons rfl (.cons rfl (.cons rfl (.cons rfl (.cons rfl (.cons rfl (.cons rfl (.nil))))))))))))
            exact J0 (()) _ _ (.cons rfl (.cons rfl (.cons rfl (.cons rfl (.cons rfl (.cons rfl (.cons rfl (.cons rfl (.cons rfl (.cons rfl (.cons' rfl (congrArg Value.bool (decide_eq_false (by have := of_decide_eq_false hg11_2; omega)).symm) (.nil)))))))))))) (.fin)
    · by_cases hok : t.ok = true
      · refine SC_region ?_
        refine SR_rd (RD_loadA (vs := t.cells) Try.isAgg87 Try.sizeOf87 rfl rfl) Has.wh rfl ?_
        refine SR_call Try.call50 (.cons rfl (.nil)) (ref_TxCode_ok t hw hok) (lts rfl) ?_
        rintro _ L1 ⟨ca, cc, rfl, hL1⟩
        refine SR.lands hL1 ?_
        refine SR_pu (RD_move rfl) rfl ?_
        refine SR_pu (RD_extract rfl rfl) rfl ?_
        refine SR_pu (RD_extract rfl rfl) rfl ?_
        refine SR_pu (RD_assign rfl) rfl ?_
        refine SR_pu (RD_assign rfl) rfl ?_
        refine SR_nil ?_
        refine SN.le (l := [(0, _), (1, _), (2, _), (3, _), (4, _), (6, _), (7, _), (8, _), (9, _), (21, _), (22, _), (23, _)]) ?_ (.cons rfl (.cons rfl (.cons rfl (.cons rfl (.cons rfl (.cons rfl (.cons rfl (.cons rfl (.cons rfl (.cons rfl (.cons rfl (.cons rfl (.nil)))))))))))))
        refine SN_seq ?_
        refine SC_seq ?_
        refine SC_region ?_
        refine SR_pu (RD_move rfl) rfl ?_
        refine SR_pu (RD_move rfl) rfl ?_
        refine SR_yes rfl rfl (rfl) ?_
        refine SR_pu (RD_move rfl) rfl ?_
        refine SR_pu (RD_pick_t rfl (rfl) rfl) rfl ?_
        refine SR_nil ?_
        refine SN.le (l := [(0, _), (1, _), (2, _), (3, _), (4, _), (7, _), (8, _), (9, _), (21, _), (22, _), (55, _)]) ?_ (.cons rfl (.cons rfl (.cons rfl (.cons rfl (.cons rfl (.cons rfl (.cons rfl (.cons rfl (.cons rfl (.cons rfl (.cons rfl (.nil))))))))))))
        refine SN_seq ?_
        refine SC_cond rfl (fun hc55 => ?_) (fun hc55 => ?_)
        · refine SC_region ?_
          refine SR_pu (RD_move rfl) rfl ?_
          refine SR_pu (RD_assign rfl) rfl ?_
          refine SR_nil ?_
          refine SN.le (l := [(0, _), (1, _), (2, _), (3, _), (4, _), (7, _), (8, _), (9, _), (21, _)]) ?_ (.cons rfl (.cons rfl (.cons rfl (.cons rfl (.cons rfl (.cons rfl (.cons rfl (.cons rfl (.cons rfl (.nil))))))))))
          exact J0 (⟨(⟨ca, 56, cc, t.code⟩, rowP 5 1 ca 56 cc (t.code.map byteV) :: F), ⟨inferInstance, .fin, inferInstance, TxD.code_len _, by dsimp only; omega, inferInstance⟩⟩) _ _ (.cons rfl (.cons rfl (.cons rfl (.cons rfl (.cons rfl (.cons rfl (.cons rfl (.cons rfl (.cons rfl (.nil)))))))))) (.fin)
        · refine SC_skip ?_
          exact J0 (⟨(⟨a4, n4, c4, ps⟩, F), ⟨inferInstance, .fin, inferInstance, hn4, hle4, inferInstance⟩⟩) _ _ (.cons rfl (.cons rfl (.cons rfl (.cons rfl (.cons rfl (.cons rfl (.cons rfl (.cons rfl (.cons rfl (.nil)))))))))) (.fin)
      · have hok' : t.ok = false := by simpa using hok
        refine SC_region ?_
        refine SR_rd (RD_loadA (vs := t.cells) Try.isAgg87 Try.sizeOf87 rfl rfl) Has.wh rfl ?_
        refine SR_call Try.call50 (.cons rfl (.nil)) (ref_TxCode_no t hok') (lts rfl) ?_
        rintro _ L1 ⟨rfl, hL1⟩
        refine SR.lands hL1 ?_
        refine SR_pu (RD_move rfl) rfl ?_
        refine SR_pu (RD_extract rfl rfl) rfl ?_
        refine SR_pu (RD_extract rfl rfl) rfl ?_
        refine SR_pu (RD_assign rfl) rfl ?_
        refine SR_pu (RD_assign rfl) rfl ?_
        refine SR_nil ?_
        refine SN.le (l := [(0, _), (1, _), (2, _), (3, _), (4, _), (6, _), (7, _), (8, _), (9, _), (21, _), (22, _), (23, _)]) ?_ (.cons rfl (.cons rfl (.cons rfl (.cons rfl (.cons rfl (.cons rfl (.cons rfl (.cons rfl (.cons rfl (.cons rfl (.cons rfl (.cons rfl (.nil)))))))))))))
        refine SN_seq ?_
        refine SC_seq ?_
        refine SC_region ?_
        refine SR_pu (RD_move rfl) rfl ?_
        refine SR_pu (RD_move rfl) rfl ?_
        refine SR_no rfl rfl (rfl) (lts rfl) ?_
        refine SR_pu (RD_pick_f rfl (rfl) rfl) rfl ?_
        refine SR_nil ?_
        refine SN.le (l := [(0, _), (1, _), (2, _), (3, _), (4, _), (7, _), (8, _), (9, _), (21, _), (22, _), (55, _)]) ?_ (.cons rfl (.cons rfl (.cons rfl (.cons rfl (.cons rfl (.cons rfl (.cons rfl (.cons rfl (.cons rfl (.cons rfl (.cons rfl (.nil))))))))))))
        refine SN_seq ?_
        refine SC_cond_false rfl (rfl) ?_
        refine SC_skip ?_
        exact J0 (⟨(⟨a4, n4, c4, ps⟩, F), ⟨inferInstance, .fin, inferInstance, hn4, hle4, inferInstance⟩⟩) _ _ (.cons rfl (.cons rfl (.cons rfl (.cons rfl (.cons rfl (.cons rfl (.cons rfl (.cons rfl (.cons rfl (.nil)))))))))) (.fin)

end Go.Proofs.Ytnifaajdiolbjaa
