/- Any block has the digest, and is Ok, or not, as the document says: the statement. -/
import Derived.Test.YtnifaajdiolbjaaBt1
import Derived.Test.YtnifaajdiolbjaaMk
namespace Go.Proofs.Ytnifaajdiolbjaa
open Go Go.Proofs
set_option maxRecDepth 100000
theorem env_take2 (l : List EnvD) (m : Nat) : (l.take m).flatMap EnvD.cells = (l.flatMap EnvD.cells).take (m * 4) := by
  induction l generalizing m with
  | nil => simp
  | cons x l ih =>
    cases m with
    | zero => simp
    | succ m =>
      rw [List.take_succ_cons, List.flatMap_cons, List.flatMap_cons, ih, show (m + 1) * 4 = x.cells.length + m * 4 by rw [EnvD.cells_len]; omega, List.take_length_add_append]
theorem w_OkB {W : World} {F : List HProp} [Abs F] (k : WK) (s : WS) (e : EnvD) (he : e.Ok) (hl : s.l.length ≤ 1000000000) (hm : envB e ∈ s.l) :
    CallsK W Try.prog 28 #[.pointer (some ⟨k.p, 0, none⟩), e.val] (At worldI k s :: F) (fun u L => u = .bool (decide (okE s.l s.S e)) ∧ Lands L (At worldI k s :: F)) := w_Ok' k s e he hl hm
theorem blok_DigestA {W : World} {F : List HProp} [Abs F] (k : WK) (s : WS) (b : BlkD) [HasRow F b.by_.a (b.by_.l.map intV)] [HasRow F b.envs.a (b.envs.l.flatMap EnvD.cells)] (hf : b.Fit) (hl : s.l.length ≤ 900000000) (l' : List (List UInt8)) (d : Nat) (h1 : blkL s.l b.pure = l') (h2 : blkD s.l b.pure = d) :
    CallsK W Try.prog 19 #[.pointer (some ⟨k.p, 0, none⟩), b.val] (At worldI k s :: F) (fun v L => v = .int .i64 (d : Nat) ∧ Lands L (At worldI k ⟨l', s.S⟩ :: F)) := by
  subst h1; subst h2
  exact blok_Digest k s b rfl rfl hf.1 hf.2.1 hf.2.2.2.2 hf.2.2.1 hf.2.2.2.1 hl
theorem blok_OkA {W : World} {F : List HProp} [Abs F] (k : WK) (s : WS) (c : CfgD) (hw : c.n < 9223372036854775808) (b : BlkD) [HasRow F b.by_.a (b.by_.l.map intV)] [HasRow F b.envs.a (b.envs.l.flatMap EnvD.cells)] (hf : b.Fit) (hl : s.l.length ≤ 800000000) (l' : List (List UInt8)) (r : Bool) (h1 : (b.pure.ok c s.l s.S).2 = l') (h2 : (b.pure.ok c s.l s.S).1 = r) :
    CallsK W Try.prog 33 #[.pointer (some ⟨k.p, 0, none⟩), c.val, b.val] (At worldI k s :: F) (fun v L => v = .bool r ∧ Lands L (At worldI k ⟨l', s.S⟩ :: F)) := by
  subst h1; subst h2
  exact blok_Ok k s c hw b rfl rfl hf hl
theorem w_OfN {W : World} {F : List HProp} [Abs F] (k : WK) (s : WS) (x : List UInt8) (hx : x ∈ s.l) (hl : s.l.length ≤ 1000000000) (d : Nat) (hd : dnum s.l x = d) :
    CallsK W Try.prog 30 #[.pointer (some ⟨k.t, 0, none⟩), .int .i64 (d : Nat)] (At worldI k s :: F) (fun v L => ∃ a c, v = .tuple #[.slice a x.length c, .bool true] ∧ Lands L (rowP 5 1 a x.length c (x.map byteV) :: At worldI k s :: F)) := by
  obtain ⟨j, h1, h2⟩ := dnum_nth hx
  have hj := (List.getElem?_eq_some_iff.1 h2).1
  obtain rfl : d = j + 1 := by omega
  exact CallsK.imp (CallsK.lands (open_world.trans fun m => Den_perm (List.Perm.swap _ _ _) m) (term_Of_ok k.t s.l j x h2 (by omega))) fun _ _ ⟨a, c, h1, h2⟩ => ⟨a, c, h1, h2.trans (Lands.cons ((show Lands _ _ from fun m => Den_perm (List.Perm.swap _ _ _) m).trans (shut_world (k := k) (s := s))))⟩
structure BQ (F : List HProp) (a3 : Option Addr) (es : List EnvD) (x : Nat × List (List UInt8) × List (Int × List Int) × Nat × BlkD × List HProp) : Prop where
  abs : Abs x.2.2.2.2.2
  lands : Lands x.2.2.2.2.2 F
  c : BlkIn x.2.2.2.2.2 x.2.2.2.2.1
  env : HasRow x.2.2.2.2.2 a3 (es.flatMap EnvD.cells)
  m1 : x.2.2.2.2.1.by_.n ≤ 50
  m2 : x.2.2.2.2.1.envs.n ≤ 31
  cap : x.1 = 1 → x.2.2.2.2.1.envs.n ≤ x.2.2.2.2.1.envs.c ∧ x.2.2.2.2.1.envs.n ≤ 30
  hi : x.1 ≤ 3
  hl : x.2.1.length ≤ 200 * x.1
  hm : x.2.2.2.1 ≤ 10 * x.1

set_option maxHeartbeats 2000000 in
theorem law_BlokTells {W : World} {F : List HProp} [Abs F] (n : Int) (raw : BlkD) (hraw : BlkIn F raw) (view : Int) (a3 : Option Addr) (n3 c3 : Nat) (es : List EnvD) [HasRow F a3 (es.flatMap EnvD.cells)] (hn3 : es.length = n3) (hes : ∀ e ∈ es, e.Good) (how to_ : Int) (ht : I64 to_) :
    CallsK W Try.prog 5 #[.int .i64 n, raw.val, .int .i64 view, .slice a3 n3 c3, .int .i64 how, .int .i64 to_] (F) (fun v L => v = .bool true ∧ Lands L F) := by
  refine CallsK_enter (n := 290) Try.func5 rfl rfl rfl ?_
  refine SC_seq ?_
  refine SC_region ?_
  refine SR_ox (OX_box rfl rfl) rfl ?_
  rintro _ _ ⟨b7, rfl, rfl⟩
  refine SR_pu (RD_assign rfl) rfl ?_
  refine SR_nil ?_
  refine SN.le (l := [(0, _), (2, _), (3, _), (4, _), (5, _), (7, _)]) ?_ (.cons rfl (.cons rfl (.cons rfl (.cons rfl (.cons rfl (.cons rfl (.nil)))))))
  refine SN_seq ?_
  refine SC_seq ?_
  refine SC_seq ?_
  refine SC_region ?_
  refine SR_rd (RD_loadA (vs := raw.cells) Try.isAgg33 Try.sizeOf33 rfl rfl) Has.wh rfl ?_
  refine SR_call Try.call15 (.cons rfl (.nil)) (blok_Few raw) (lts rfl) ?_
  rintro _ L1 ⟨rfl, hL1⟩
  refine SR.lands hL1 ?_
  refine SR_pu (RD_not rfl) rfl ?_
  refine SR_pu (RD_move rfl) rfl ?_
  refine SR_guard rfl rfl (fun hg1_3 => ?_) (fun hg1_3 => ?_)
  · refine SR_yes rfl rfl (hg1_3) ?_
    refine SR_pu (RD_move rfl) rfl ?_
    refine SR_yes rfl rfl (hg1_3) ?_
    refine SR_pu (RD_len Try.runUnderlying31 rfl) rfl ?_
    refine SR_yes rfl rfl (hg1_3) ?_
    refine SR_pu (RD_gtr rfl rfl) rfl ?_
    refine SR_pu (RD_pick_f rfl (hg1_3) rfl) rfl ?_
    refine SR_nil ?_
    refine SN.le (l := [(0, _), (2, _), (3, _), (4, _), (5, _), (7, _), (33, _)]) ?_ (.cons rfl (.cons rfl (.cons rfl (.cons rfl (.cons rfl (.cons rfl (.cons rfl (.nil))))))))
    refine SN_seq ?_
    refine SC_cond rfl (fun hc33 => ?_) (fun hc33 => ?_)
    · refine SC_seq ?_
      refine SC_region ?_
      refine SR_call Try.call14 (.nil) (blok_awake) (lts rfl) ?_
      rintro _ L2 ⟨rfl, hL2⟩
      refine SR.lands hL2 ?_
      refine SR_pu (RD_assign rfl) rfl ?_
      refine SR_nil ?_
      refine SN.le (l := [(12, _)]) ?_ (.cons rfl (.nil))
      refine SN_seq ?_
      refine SC_ret1 rfl rfl ?_
      exact ⟨rfl, .fin⟩
    · have fa : raw.by_.n ≤ 50 ∧ raw.envs.n ≤ 30 := by
        have h := hg1_3
        simp [BlkD.few] at h
        omega
      have hn30 : n3 ≤ 30 := by have := of_decide_eq_false hc33; omega
      refine SC_skip ?_
      refine SN_seq ?_
      refine SC_seq ?_
      refine SC_region ?_
      refine SR_call Try.call16 (.cons rfl (.nil)) (enve_New 1) (lts rfl) ?_
      rintro _ L4 ⟨k, rfl, hL4⟩
      refine SR.lands (hL4.trans (Lands.cons vault_new)) ?_
      refine SR_pu (RD_assign rfl) rfl ?_
      refine SR_nil ?_
      refine SN.le (l := [(0, _), (2, _), (3, _), (4, _), (5, _), (7, _), (13, _)]) ?_ (.cons rfl (.cons rfl (.cons rfl (.cons rfl (.cons rfl (.cons rfl (.cons rfl (.nil))))))))
      refine SN_seq ?_
      refine SC_seq ?_
      refine SC_seq ?_
      refine SC_region ?_
      refine SR_pu (RD_move rfl) rfl ?_
      refine SR_pu (RD_eqlP Try.underlying35 rfl rfl) rfl ?_
      refine SR_nil ?_
      refine SN.le (l := [(0, _), (2, _), (3, _), (4, _), (5, _), (7, _), (13, _), (37, _)]) ?_ (.cons rfl (.cons rfl (.cons rfl (.cons rfl (.cons rfl (.cons rfl (.cons rfl (.cons rfl (.nil)))))))))
      refine SN_seq ?_
      refine SC_cond_false rfl (rfl) ?_
      refine SC_skip ?_
      refine SN_seq ?_
      refine SC_seq ?_
      refine SC_region ?_
      refine SR_pu (RD_move rfl) rfl ?_
      refine SR_call Try.call20 (.cons rfl (.nil)) (law15_Config n) (lts rfl) ?_
      rintro _ L5 ⟨c, rfl, ⟨hcf, hcn, hcb1, hcb2⟩, hL5⟩
      refine SR.lands hL5 ?_
      refine SR_ox (OX_alloc Try.zeroValue24 rfl) rfl ?_
      rintro _ _ ⟨b14, rfl, rfl⟩
      refine SR_ox0 (OX_stA (vs := c.cells) Try.sizeOf24 rfl rfl rfl rfl) ?_
      rintro _ _ rfl
      refine SR_nil ?_
      refine SN.le (l := [(2, _), (3, _), (4, _), (5, _), (7, _), (13, _), (14, _)]) ?_ (.cons rfl (.cons rfl (.cons rfl (.cons rfl (.cons rfl (.cons rfl (.cons rfl (.nil))))))))
      refine SN_seq ?_
      refine SC_seq ?_
      refine SC_region ?_
      refine SR_rd (RD_loadA (vs := raw.cells) Try.isAgg33 Try.sizeOf33 rfl rfl) Has.wh rfl ?_
      refine SR_ox (OX_alloc Try.zeroValue33 rfl) rfl ?_
      rintro _ _ ⟨b15, rfl, rfl⟩
      refine SR_ox0 (OX_stA (vs := raw.cells) Try.sizeOf33 rfl rfl rfl rfl) ?_
      rintro _ _ rfl
      refine SR_nil ?_
      refine SN.le (l := [(2, _), (3, _), (4, _), (5, _), (13, _), (14, _), (15, _)]) ?_ (.cons rfl (.cons rfl (.cons rfl (.cons rfl (.cons rfl (.cons rfl (.cons rfl (.nil))))))))
      refine SN_seq ?_
      refine SC_seq ?_
      refine SC_seq ?_
      refine SC_region ?_
      refine SR_pu (RD_assign rfl) rfl ?_
      refine SR_nil ?_
      refine SN.le (l := [(2, _), (3, _), (4, _), (5, _), (13, _), (14, _), (15, _), (16, _)]) ?_ (.cons rfl (.cons rfl (.cons rfl (.cons rfl (.cons rfl (.cons rfl (.cons rfl (.cons rfl (.nil)))))))))
      refine SN_seq ?_
      refine SC_block ?_
      refine SC_ind (X := {x : Nat × List (List UInt8) × List (Int × List Int) × Nat × BlkD × List HProp // BQ F a3 es x}) (fun x => True) (fun x => 3 - x.1.1) (fun x => [(2, .int .i64 view), (3, .slice a3 n3 c3), (4, .int .i64 how), (5, .int .i64 to_), (13, .pointer (some ⟨k.p, 0, none⟩)), (14, .pointer (some ⟨b14, 0, none⟩)), (15, .pointer (some ⟨b15, 0, none⟩)), (16, .int .i64 (x.1.1 : Nat))]) (fun x => pt b14 (.cells c.cells.toArray 24) :: pt b15 (.cells x.1.2.2.2.2.1.cells.toArray 33) :: At worldI k ⟨x.1.2.1, x.1.2.2.1⟩ :: At vaultI k.v x.1.2.2.2.1 :: x.1.2.2.2.2.2) (⟨(0, [], [], 0, raw, F), ⟨inferInstance, .fin, hraw, inferInstance, by dsimp only; omega, by dsimp only; omega, fun h => by simp at h, by simp, by simp, by simp⟩⟩) (trivial) (.cons rfl (.cons rfl (.cons rfl (.cons rfl (.cons rfl (.cons rfl (.cons rfl (.cons rfl (.nil))))))))) (.fin) ?_
      intro ⟨⟨i, l, S, m, C, G⟩, hX⟩ hi ih
      dsimp only at ih ⊢
      haveI := hX.abs
      have hG : Lands G F := hX.lands
      haveI : HasRow G a3 (es.flatMap EnvD.cells) := hX.env
      have hC : BlkIn G C := hX.c
      haveI : HasRow G C.by_.a (C.by_.l.map intV) := hC.r1
      haveI : HasRow G C.envs.a (C.envs.l.flatMap EnvD.cells) := hC.r2
      have hm1 : C.by_.n ≤ 50 := hX.m1
      have hm2 : C.envs.n ≤ 31 := hX.m2
      have hcap : i = 1 → C.envs.n ≤ C.envs.c ∧ C.envs.n ≤ 30 := hX.cap
      have hi3 : i ≤ 3 := hX.hi
      have hll : l.length ≤ 200 * i := hX.hl
      have hmm : m ≤ 10 * i := hX.hm
      have hn1 := hC.n1
      have hn2 := hC.n2
      have hf : C.Fit := ⟨hn1, hn2, by omega, by omega, fun e he => (hC.envs e he).2.2⟩
      clear hX
      refine SC_seq ?_
      refine SC_seq ?_
      refine SC_region ?_
      refine SR_pu (RD_move rfl) rfl ?_
      refine SR_pu (RD_lss rfl rfl) rfl ?_
      refine SR_nil ?_
      refine SN.le (l := [(2, _), (3, _), (4, _), (5, _), (13, _), (14, _), (15, _), (16, _), (42, _)]) ?_ (.cons rfl (.cons rfl (.cons rfl (.cons rfl (.cons rfl (.cons rfl (.cons rfl (.cons rfl (.cons rfl (.nil))))))))))
      refine SN_seq ?_
      refine SC_cond rfl (fun hc42 => ?_) (fun hc42 => ?_)
      · have hin : i < 3 := by simp at hc42; omega
        have hle : C.pure.envs.length = C.envs.n := hn2
        obtain ⟨l1, hl1⟩ : ∃ l1, C.pure.leadL l = l1 := ⟨_, rfl⟩
        have hl1n := leadL_len l C.pure
        rw [hl1] at hl1n
        obtain ⟨he1, he2⟩ := lead_again (l0 := l) (l := l1) (b := C.pure) (by rw [hl1]; exact Ext.same)
        obtain ⟨D, hD⟩ : ∃ D, C.pure.leadD l = D := ⟨_, rfl⟩
        rw [hD] at he2
        have hb1 : Ext (blkL l C.pure) l1 := by rw [← hl1]; exact Ext.put _ _
        have hbl := blkL_len l C.pure
        obtain ⟨w0, hw0⟩ : ∃ w, C.pure.w0 c l1 S = w := ⟨_, rfl⟩
        obtain ⟨hx2, hl2n⟩ := preL_ext c l1 S C.pure
        have hok := ok_tells c S (b := C.pure) (l1 := l1) he1
        obtain ⟨l2, hl2⟩ : ∃ l2, C.pure.preL c l1 S = l2 := ⟨_, rfl⟩
        rw [hl2] at hx2 hl2n hok
        rw [hw0] at hok
        obtain ⟨g1, g2, g3, g4, g5, g6, g7⟩ := blk_again (hb1.trans hx2)
        have g7 : ∀ e ∈ C.envs.l, envB e ∈ l2 := g7
        obtain ⟨he3, he4⟩ := lead_again (l0 := l) (l := l2) (b := C.pure) (by rw [hl1]; exact hx2)
        obtain ⟨hl3n, hx3⟩ := ok_len c l2 S C.pure he3
        obtain ⟨l3, hl3⟩ : ∃ l3, (C.pure.ok c l2 S).2 = l3 := ⟨_, rfl⟩
        rw [hl3] at hl3n hx3
        have hl3b : l3.length ≤ 200 * i + 40 := by omega
        refine SC_skip ?_
        refine SN_seq ?_
        refine SC_seq ?_
        refine SC_block ?_
        refine SC_seq ?_
        refine SC_join (X := Unit) (fun x => [(2, .int .i64 view), (3, .slice a3 n3 c3), (4, .int .i64 how), (5, .int .i64 to_), (13, .pointer (some ⟨k.p, 0, none⟩)), (14, .pointer (some ⟨b14, 0, none⟩)), (15, .pointer (some ⟨b15, 0, none⟩)), (16, .int .i64 (i : Nat)), (17, .bool (decide (C.author ∈ signers S (D : Nat))))]) (fun x => pt b14 (.cells c.cells.toArray 24) :: pt b15 (.cells C.cells.toArray 33) :: At worldI k ⟨l1, S⟩ :: At vaultI k.v m :: G) (fun _ => ?_) (fun J0 => ?_)
        · refine SN_seq ?_
          refine SC_seq ?_
          refine SC_region ?_
          refine SR_pu (RD_assign rfl) rfl ?_
          refine SR_nil ?_
          refine SN.le (l := [(2, _), (3, _), (4, _), (5, _), (13, _), (14, _), (15, _), (16, _), (17, _), (18, _)]) ?_ (.cons rfl (.cons rfl (.cons rfl (.cons rfl (.cons rfl (.cons rfl (.cons rfl (.cons rfl (.cons rfl (.cons rfl (.nil)))))))))))
          refine SN_seq ?_
          refine SC_seq ?_
          refine SC_seq ?_
          refine SC_region ?_
          first
            | refine SR_pu (RD_fieldAddr0 Try.runUnderlying33 rfl rfl Try.sizeOf3 rfl) rfl ?_
            | refine SR_rd (RD_fieldAddrO 0 Try.runUnderlying33 rfl rfl Try.sizeOf3 rfl (by simp <;> omega)) Has.ro rfl ?_
          refine SR_rd (RD_load Try.isAgg3 rfl) (Has.ce rfl) rfl ?_
          refine SR_pu (RD_geq rfl rfl) rfl ?_
          refine SR_nil ?_
          refine SN.le (l := [(2, _), (3, _), (4, _), (5, _), (13, _), (14, _), (15, _), (16, _), (17, _), (18, _), (63, _)]) ?_ (.cons rfl (.cons rfl (.cons rfl (.cons rfl (.cons rfl (.cons rfl (.cons rfl (.cons rfl (.cons rfl (.cons rfl (.cons rfl (.nil))))))))))))
          refine SN_seq ?_
          refine SC_join (X := Unit) (fun x => [(2, .int .i64 view), (3, .slice a3 n3 c3), (4, .int .i64 how), (5, .int .i64 to_), (13, .pointer (some ⟨k.p, 0, none⟩)), (14, .pointer (some ⟨b14, 0, none⟩)), (15, .pointer (some ⟨b15, 0, none⟩)), (16, .int .i64 (i : Nat)), (17, .bool (decide (C.author ∈ signers S (D : Nat)))), (18, .int .i64 (c.lead C.view))]) (fun x => pt b14 (.cells c.cells.toArray 24) :: pt b15 (.cells C.cells.toArray 33) :: At worldI k ⟨l1, S⟩ :: At vaultI k.v m :: G) (fun _ => ?_) (fun J0 => ?_)
          · refine SN_seq ?_
            refine SC_seq ?_
            refine SC_join (X := Unit) (fun x => [(2, .int .i64 view), (3, .slice a3 n3 c3), (4, .int .i64 how), (5, .int .i64 to_), (13, .pointer (some ⟨k.p, 0, none⟩)), (14, .pointer (some ⟨b14, 0, none⟩)), (15, .pointer (some ⟨b15, 0, none⟩)), (16, .int .i64 (i : Nat)), (18, .int .i64 (c.lead C.view)), (19, .bool w0)]) (fun x => pt b14 (.cells c.cells.toArray 24) :: pt b15 (.cells C.cells.toArray 33) :: At worldI k ⟨l2, S⟩ :: At vaultI k.v m :: G) (fun _ => ?_) (fun J0 => ?_)
            · refine SN_seq ?_
              refine SC_seq ?_
              refine SC_seq ?_
              refine SC_region ?_
              refine SR_pu (RD_assign rfl) rfl ?_
              refine SR_nil ?_
              refine SN.le (l := [(2, _), (3, _), (4, _), (5, _), (13, _), (14, _), (15, _), (16, _), (18, _), (19, _), (20, _)]) ?_ (.cons rfl (.cons rfl (.cons rfl (.cons rfl (.cons rfl (.cons rfl (.cons rfl (.cons rfl (.cons rfl (.cons rfl (.cons rfl (.nil))))))))))))
              refine SN_seq ?_
              refine SC_block ?_
              refine SC_ind (X := Nat) (fun q => q ≤ C.envs.n) (fun q => C.envs.n - q) (fun q => [(2, .int .i64 view), (3, .slice a3 n3 c3), (4, .int .i64 how), (5, .int .i64 to_), (13, .pointer (some ⟨k.p, 0, none⟩)), (14, .pointer (some ⟨b14, 0, none⟩)), (15, .pointer (some ⟨b15, 0, none⟩)), (16, .int .i64 (i : Nat)), (18, .int .i64 (c.lead C.view)), (19, .bool (w0 && unl l2 S (C.envs.l.take q))), (20, .int .i64 (q : Nat))]) (fun q => pt b14 (.cells c.cells.toArray 24) :: pt b15 (.cells C.cells.toArray 33) :: At worldI k ⟨l2, S⟩ :: At vaultI k.v m :: G) (0) (by omega) (.cons rfl (.cons rfl (.cons rfl (.cons rfl (.cons rfl (.cons rfl (.cons rfl (.cons rfl (.cons rfl (.cons' rfl (congrArg Value.bool (by simp [unl, numsE])) (.cons rfl (.nil)))))))))))) (.fin) ?_
              intro q hi ih1
              have hq1 := hi
              refine SC_seq ?_
              refine SC_seq ?_
              refine SC_region ?_
              refine SR_pu (RD_move rfl) rfl ?_
              first
                | refine SR_pu (RD_fieldAddr 5 Try.runUnderlying33 rfl rfl Try.sizeOf31 rfl) rfl ?_
                | refine SR_rd (RD_fieldAddrO 5 Try.runUnderlying33 rfl rfl Try.sizeOf31 rfl (by simp <;> omega)) Has.ro rfl ?_
              refine SR_rd (RD_load Try.isAgg31 rfl) (Has.ce rfl) rfl ?_
              refine SR_pu (RD_len Try.runUnderlying31 rfl) rfl ?_
              refine SR_pu (RD_lss rfl rfl) rfl ?_
              refine SR_nil ?_
              refine SN.le (l := [(2, _), (3, _), (4, _), (5, _), (13, _), (14, _), (15, _), (16, _), (18, _), (19, _), (20, _), (108, _)]) ?_ (.cons rfl (.cons rfl (.cons rfl (.cons rfl (.cons rfl (.cons rfl (.cons rfl (.cons rfl (.cons rfl (.cons rfl (.cons rfl (.cons rfl (.nil)))))))))))))
              refine SN_seq ?_
              refine SC_cond rfl (fun hc108 => ?_) (fun hc108 => ?_)
              · have hqn : q < C.envs.n := by simp at hc108; omega
                obtain ⟨e, he⟩ : ∃ e, C.envs.l[q]? = some e := ⟨_, List.getElem?_eq_getElem (by omega)⟩
                have hem := g7 e (List.mem_of_getElem? he)
                have heg := hC.envs e (List.mem_of_getElem? he)
                have hus := unl_step (l := l2) (S := S) he
                obtain ⟨Wk, hWk⟩ : ∃ W, (w0 && unl l2 S (C.envs.l.take q)) = W := ⟨_, rfl⟩
                rw [hWk]
                refine SC_skip ?_
                refine SN_seq ?_
                refine SC_seq ?_
                refine SC_block ?_
                refine SC_seq ?_
                refine SC_join (X := Unit) (fun x => [(2, .int .i64 view), (3, .slice a3 n3 c3), (4, .int .i64 how), (5, .int .i64 to_), (13, .pointer (some ⟨k.p, 0, none⟩)), (14, .pointer (some ⟨b14, 0, none⟩)), (15, .pointer (some ⟨b15, 0, none⟩)), (16, .int .i64 (i : Nat)), (18, .int .i64 (c.lead C.view)), (19, .bool (Wk && decide (okE l2 S e))), (20, .int .i64 (q : Nat))]) (fun x => pt b14 (.cells c.cells.toArray 24) :: pt b15 (.cells C.cells.toArray 33) :: At worldI k ⟨l2, S⟩ :: At vaultI k.v m :: G) (fun _ => ?_) (fun J0 => ?_)
                · refine SN_seq ?_
                  refine SC_seq ?_
                  refine SC_region ?_
                  refine SR_pu (RD_assign rfl) rfl ?_
                  refine SR_nil ?_
                  refine SN.le (l := [(2, _), (3, _), (4, _), (5, _), (13, _), (14, _), (15, _), (16, _), (18, _), (19, _), (20, _), (21, _)]) ?_ (.cons rfl (.cons rfl (.cons rfl (.cons rfl (.cons rfl (.cons rfl (.cons rfl (.cons rfl (.cons rfl (.cons rfl (.cons rfl (.cons rfl (.nil)))))))))))))
                  refine SN_seq ?_
                  refine SC_block ?_
                  refine SC_ind (X := Nat) (fun j => j ≤ q) (fun j => q - j) (fun j => [(2, .int .i64 view), (3, .slice a3 n3 c3), (4, .int .i64 how), (5, .int .i64 to_), (13, .pointer (some ⟨k.p, 0, none⟩)), (14, .pointer (some ⟨b14, 0, none⟩)), (15, .pointer (some ⟨b15, 0, none⟩)), (16, .int .i64 (i : Nat)), (18, .int .i64 (c.lead C.view)), (19, .bool ((Wk && decide (okE l2 S e)) && decide (((dnum l2 (envB e) : Nat) : Int) ∉ numsE l2 (C.envs.l.take j)))), (20, .int .i64 (q : Nat)), (21, .int .i64 (j : Nat))]) (fun j => pt b14 (.cells c.cells.toArray 24) :: pt b15 (.cells C.cells.toArray 33) :: At worldI k ⟨l2, S⟩ :: At vaultI k.v m :: G) (0) (by omega) (.cons rfl (.cons rfl (.cons rfl (.cons rfl (.cons rfl (.cons rfl (.cons rfl (.cons rfl (.cons rfl (.cons' rfl (congrArg Value.bool (by simp [numsE])) (.cons rfl (.cons rfl (.nil))))))))))))) (.fin) ?_
                  intro j hi ih2
                  have hj1 := hi
                  refine SC_seq ?_
                  refine SC_seq ?_
                  refine SC_region ?_
                  refine SR_pu (RD_move rfl) rfl ?_
                  refine SR_pu (RD_move rfl) rfl ?_
                  refine SR_pu (RD_lss rfl rfl) rfl ?_
                  refine SR_nil ?_
                  refine SN.le (l := [(2, _), (3, _), (4, _), (5, _), (13, _), (14, _), (15, _), (16, _), (18, _), (19, _), (20, _), (21, _), (123, _)]) ?_ (.cons rfl (.cons rfl (.cons rfl (.cons rfl (.cons rfl (.cons rfl (.cons rfl (.cons rfl (.cons rfl (.cons rfl (.cons rfl (.cons rfl (.cons rfl (.nil))))))))))))))
                  refine SN_seq ?_
                  refine SC_cond rfl (fun hc123 => ?_) (fun hc123 => ?_)
                  · have hjq : j < q := by simp at hc123; omega
                    obtain ⟨f, hfj⟩ : ∃ f, C.envs.l[j]? = some f := ⟨_, List.getElem?_eq_getElem (by omega)⟩
                    have hfm := g7 f (List.mem_of_getElem? hfj)
                    have hfg := hC.envs f (List.mem_of_getElem? hfj)
                    have hns := nums_step (l := l2) hfj ((dnum l2 (envB e) : Nat) : Int)
                    obtain ⟨Vj, hVj⟩ : ∃ V, ((Wk && decide (okE l2 S e)) && decide (((dnum l2 (envB e) : Nat) : Int) ∉ numsE l2 (C.envs.l.take j))) = V := ⟨_, rfl⟩
                    rw [hVj]
                    refine SC_skip ?_
                    refine SN_seq ?_
                    refine SC_seq ?_
                    refine SC_block ?_
                    refine SC_join (X := Unit) (fun x => [(2, .int .i64 view), (3, .slice a3 n3 c3), (4, .int .i64 how), (5, .int .i64 to_), (13, .pointer (some ⟨k.p, 0, none⟩)), (14, .pointer (some ⟨b14, 0, none⟩)), (15, .pointer (some ⟨b15, 0, none⟩)), (16, .int .i64 (i : Nat)), (18, .int .i64 (c.lead C.view)), (19, .bool (Vj && !decide (((dnum l2 (envB f) : Nat) : Int) = ((dnum l2 (envB e) : Nat) : Int)))), (20, .int .i64 (q : Nat)), (21, .int .i64 (j : Nat))]) (fun x => pt b14 (.cells c.cells.toArray 24) :: pt b15 (.cells C.cells.toArray 33) :: At worldI k ⟨l2, S⟩ :: At vaultI k.v m :: G) (fun _ => ?_) (fun J0 => ?_)
                    · refine SN_block ?_
                      refine SN_seq ?_
                      refine SC_region ?_
                      refine SR_pu (RD_move rfl) rfl ?_
                      refine SR_pu (RD_addi rfl rfl (by omega) (by omega)) rfl ?_
                      refine SR_pu (RD_assign rfl) rfl ?_
                      refine SR_nil ?_
                      refine SN.le (l := [(2, _), (3, _), (4, _), (5, _), (13, _), (14, _), (15, _), (16, _), (18, _), (19, _), (20, _), (21, _)]) ?_ (.cons rfl (.cons rfl (.cons rfl (.cons rfl (.cons rfl (.cons rfl (.cons rfl (.cons rfl (.cons rfl (.cons rfl (.cons rfl (.cons rfl (.nil)))))))))))))
                      refine SC_again (ih2 (j + 1) (by omega) (by omega)) (.fin) (.cons rfl (.cons rfl (.cons rfl (.cons rfl (.cons rfl (.cons rfl (.cons rfl (.cons rfl (.cons rfl (.cons' rfl (congrArg Value.bool (by rw [hns, ← hVj]; simp [Bool.and_assoc])) (.cons rfl (.cons' rfl (ie (by omega)) (.nil)))))))))))))
                    · refine SC_drawn (.cons 0 true (.cons 1 true (.cons 2 true (.cons 3 true (.cons 4 true (.cons 5 true (.cons 6 true (.cons 7 true (.cons 9 true (.cons 10 true (.cons 11 true (.cons 12 true (.cons 13 true (.cons 14 true (.cons 8 false (.cons 15 false (.cons 16 true (.cons 17 true (.cons 18 true (.nil)))))))))))))))))))) (by kernel_rfl) (by kernel_rfl) ?_
                      refine SQ_pu rfl (RD_move rfl) rfl ?_
                      refine SQ_pu rfl (RD_move rfl) rfl ?_
                      refine SQ_guard (i := 2) rfl rfl rfl (fun hg23_1 => ?_) (fun hg23_1 => ?_)
                      · refine SQ_pyes rfl rfl rfl (hg23_1) (RD_move rfl) rfl ?_
                        first
                          | refine SQ_pyes rfl rfl rfl (hg23_1) (RD_fieldAddr 5 Try.runUnderlying33 rfl rfl Try.sizeOf31 rfl) rfl ?_
                          | refine SQ_yes rfl rfl rfl (hg23_1) (RD_fieldAddrO 5 Try.runUnderlying33 rfl rfl Try.sizeOf31 rfl (by simp <;> omega)) Has.ro rfl ?_
                        refine SQ_yes rfl rfl rfl (hg23_1) (RD_load Try.isAgg31 rfl) (Has.ce rfl) rfl ?_
                        refine SQ_pyes rfl rfl rfl (hg23_1) (RD_move rfl) rfl ?_
                        refine SQ_yes rfl rfl rfl (hg23_1) (RD_ixO (i := (j : Nat)) (cs := C.envs.l.flatMap EnvD.cells) Try.runUnderlying31 Try.sizeOf39 rfl rfl (by rw [env_len, hn2]) (by omega) (by omega)) Has.ro rfl ?_
                        refine SQ_yes rfl rfl rfl (hg23_1) (RD_loadAO (vs := EnvD.cells f) (cs := C.envs.l.flatMap EnvD.cells) Try.isAgg39 Try.sizeOf39 rfl rfl (by decide) (fun o v h => by have ho : o < 4 := (List.getElem?_eq_some_iff.1 h).1; rw [show ((j : Nat) : Int).toNat * (3 + 1) + o = j * 4 + o by omega, env_get hfj o ho]; exact h)) Has.ro rfl ?_
                        refine SQ_pyes rfl rfl rfl (hg23_1) (RD_move rfl) rfl ?_
                        first
                          | refine SQ_pyes rfl rfl rfl (hg23_1) (RD_fieldAddr 5 Try.runUnderlying33 rfl rfl Try.sizeOf31 rfl) rfl ?_
                          | refine SQ_yes rfl rfl rfl (hg23_1) (RD_fieldAddrO 5 Try.runUnderlying33 rfl rfl Try.sizeOf31 rfl (by simp <;> omega)) Has.ro rfl ?_
                        refine SQ_yes rfl rfl rfl (hg23_1) (RD_load Try.isAgg31 rfl) (Has.ce rfl) rfl ?_
                        refine SQ_pyes rfl rfl rfl (hg23_1) (RD_move rfl) rfl ?_
                        refine SQ_yes rfl rfl rfl (hg23_1) (RD_ixO (i := (q : Nat)) (cs := C.envs.l.flatMap EnvD.cells) Try.runUnderlying31 Try.sizeOf39 rfl rfl (by rw [env_len, hn2]) (by omega) (by omega)) Has.ro rfl ?_
                        refine SQ_yes rfl rfl rfl (hg23_1) (RD_loadAO (vs := EnvD.cells e) (cs := C.envs.l.flatMap EnvD.cells) Try.isAgg39 Try.sizeOf39 rfl rfl (by decide) (fun o v h => by have ho : o < 4 := (List.getElem?_eq_some_iff.1 h).1; rw [show ((q : Nat) : Int).toNat * (3 + 1) + o = q * 4 + o by omega, env_get he o ho]; exact h)) Has.ro rfl ?_
                        refine SQ_one (SA_call rfl (.mk rfl rfl (hg23_1)) Try.call29 (.cons rfl (.cons rfl (.nil))) (CallsK.at (w_EnvDigest k ⟨l2, S⟩ f hfg.2.2 (by dsimp only; omega) l2 _ (dput_idem hfm) rfl)) (lts rfl) ?_)
                        rintro _ L15 ⟨rfl, hL15⟩
                        refine ⟨.lands hL15 (.h Has.ro (.h Has.ro (.h (Has.ce rfl) (.w rfl (.h Has.ro (.h (Has.ce rfl) (.nil))))))), ?_⟩
                        refine SQ.lands hL15 ?_
                        refine SQ_one (SA_call rfl (.mk rfl rfl (hg23_1)) Try.call29 (.cons rfl (.cons rfl (.nil))) (CallsK.at (w_EnvDigest k ⟨l2, S⟩ e heg.2.2 (by dsimp only; omega) l2 _ (dput_idem hem) rfl)) (lts rfl) ?_)
                        rintro _ L16 ⟨rfl, hL16⟩
                        refine ⟨.lands hL16 (.w rfl (.h Has.ro (.h (Has.ce rfl) (.h Has.ro (.h Has.ro (.h (Has.ce rfl) (.nil))))))), ?_⟩
                        refine SQ.lands hL16 ?_
                        refine SQ_pyes rfl rfl rfl (hg23_1) (RD_neq rfl rfl) rfl ?_
                        refine SQ_pu rfl (RD_pick_t rfl (hg23_1) rfl) rfl ?_
                        refine SQ_pu rfl (RD_assign rfl) rfl ?_
                        refine SQ_nil ?_
                        refine SN.le (l := [(2, _), (3, _), (4, _), (5, _), (13, _), (14, _), (15, _), (16, _), (18, _), (19, _), (20, _), (21, _)]) ?_ (.cons rfl (.cons rfl (.cons rfl (.cons rfl (.cons rfl (.cons rfl (.cons rfl (.cons rfl (.cons rfl (.cons rfl (.cons rfl (.cons rfl (.nil)))))))))))))
                        exact J0 (()) _ _ (.cons rfl (.cons rfl (.cons rfl (.cons rfl (.cons rfl (.cons rfl (.cons rfl (.cons rfl (.cons rfl (.cons' rfl (congrArg Value.bool (by rw [show Vj = true from hg23_1, Bool.true_and])) (.cons rfl (.cons rfl (.nil))))))))))))) (.fin)
                      · refine SQ_no rfl rfl rfl (hg23_1) (lts rfl) ?_
                        refine SQ_no rfl rfl rfl (hg23_1) (lts rfl) ?_
                        refine SQ_no rfl rfl rfl (hg23_1) (lts rfl) ?_
                        refine SQ_no rfl rfl rfl (hg23_1) (lts rfl) ?_
                        refine SQ_no rfl rfl rfl (hg23_1) (lts rfl) ?_
                        refine SQ_no rfl rfl rfl (hg23_1) (lts rfl) ?_
                        refine SQ_no rfl rfl rfl (hg23_1) (lts rfl) ?_
                        refine SQ_no rfl rfl rfl (hg23_1) (lts rfl) ?_
                        refine SQ_no rfl rfl rfl (hg23_1) (lts rfl) ?_
                        refine SQ_no rfl rfl rfl (hg23_1) (lts rfl) ?_
                        refine SQ_no rfl rfl rfl (hg23_1) (lts rfl) ?_
                        refine SQ_no rfl rfl rfl (hg23_1) (lts rfl) ?_
                        refine SQ_no1 rfl rfl rfl (hg23_1) (lts rfl) ?_
                        refine SQ_no1 rfl rfl rfl (hg23_1) (lts rfl) ?_
                        refine SQ_no rfl rfl rfl (hg23_1) (lts rfl) ?_
                        refine SQ_pu rfl (RD_pick_f rfl (hg23_1) rfl) rfl ?_
                        refine SQ_pu rfl (RD_assign rfl) rfl ?_
                        refine SQ_nil ?_
                        refine SN.le (l := [(2, _), (3, _), (4, _), (5, _), (13, _), (14, _), (15, _), (16, _), (18, _), (19, _), (20, _), (21, _)]) ?_ (.cons rfl (.cons rfl (.cons rfl (.cons rfl (.cons rfl (.cons rfl (.cons rfl (.cons rfl (.cons rfl (.cons rfl (.cons rfl (.cons rfl (.nil)))))))))))))
                        exact J0 (()) _ _ (.cons rfl (.cons rfl (.cons rfl (.cons rfl (.cons rfl (.cons rfl (.cons rfl (.cons rfl (.cons rfl (.cons' rfl (congrArg Value.bool (by rw [show Vj = false from hg23_1, Bool.false_and])) (.cons rfl (.cons rfl (.nil))))))))))))) (.fin)
                  · have hjq : j = q := by simp at hc123; omega
                    clear ih2
                    rw [hjq]
                    refine SC_exit rfl ?_
                    refine SN_block ?_
                    refine SN_seq ?_
                    refine SC_region ?_
                    refine SR_pu (RD_move rfl) rfl ?_
                    refine SR_pu (RD_addi rfl rfl (by omega) (by omega)) rfl ?_
                    refine SR_pu (RD_assign rfl) rfl ?_
                    refine SR_nil ?_
                    refine SN.le (l := [(2, _), (3, _), (4, _), (5, _), (13, _), (14, _), (15, _), (16, _), (18, _), (19, _), (20, _)]) ?_ (.cons rfl (.cons rfl (.cons rfl (.cons rfl (.cons rfl (.cons rfl (.cons rfl (.cons rfl (.cons rfl (.cons rfl (.cons rfl (.nil))))))))))))
                    refine SC_again (ih1 (q + 1) (by omega) (by omega)) (.fin) (.cons rfl (.cons rfl (.cons rfl (.cons rfl (.cons rfl (.cons rfl (.cons rfl (.cons rfl (.cons rfl (.cons' rfl (congrArg Value.bool (by rw [hus, ← hWk]; simp [Bool.and_assoc])) (.cons' rfl (ie (by omega)) (.nil))))))))))))
                · refine SC_region ?_
                  refine SR_pu (RD_move rfl) rfl ?_
                  refine SR_pu (RD_move rfl) rfl ?_
                  refine SR_guard rfl rfl (fun hg19_1 => ?_) (fun hg19_1 => ?_)
                  · refine SR_yes rfl rfl (hg19_1) ?_
                    refine SR_pu (RD_move rfl) rfl ?_
                    refine SR_yes rfl rfl (hg19_1) ?_
                    first
                      | refine SR_pu (RD_fieldAddr 5 Try.runUnderlying33 rfl rfl Try.sizeOf31 rfl) rfl ?_
                      | refine SR_rd (RD_fieldAddrO 5 Try.runUnderlying33 rfl rfl Try.sizeOf31 rfl (by simp <;> omega)) Has.ro rfl ?_
                    refine SR_yes rfl rfl (hg19_1) ?_
                    refine SR_rd (RD_load Try.isAgg31 rfl) (Has.ce rfl) rfl ?_
                    refine SR_yes rfl rfl (hg19_1) ?_
                    refine SR_pu (RD_move rfl) rfl ?_
                    refine SR_yes rfl rfl (hg19_1) ?_
                    refine SR_rd (RD_ixO (i := (q : Nat)) (cs := C.envs.l.flatMap EnvD.cells) Try.runUnderlying31 Try.sizeOf39 rfl rfl (by rw [env_len, hn2]) (by omega) (by omega)) Has.ro rfl ?_
                    refine SR_yes rfl rfl (hg19_1) ?_
                    refine SR_rd (RD_loadAO (vs := EnvD.cells e) (cs := C.envs.l.flatMap EnvD.cells) Try.isAgg39 Try.sizeOf39 rfl rfl (by decide) (fun o v h => by have ho : o < 4 := (List.getElem?_eq_some_iff.1 h).1; rw [show ((q : Nat) : Int).toNat * (3 + 1) + o = q * 4 + o by omega, env_get he o ho]; exact h)) Has.ro rfl ?_
                    refine SR_yes rfl rfl (hg19_1) ?_
                    refine SR_call Try.call28 (.cons rfl (.cons rfl (.nil))) (CallsK.at (w_OkB k ⟨l2, S⟩ e heg.2.2 (by dsimp only; omega) hem)) (lts rfl) ?_
                    rintro _ L14 ⟨rfl, hL14⟩
                    refine SR.lands hL14 ?_
                    refine SR_pu (RD_pick_t rfl (hg19_1) rfl) rfl ?_
                    refine SR_pu (RD_assign rfl) rfl ?_
                    refine SR_nil ?_
                    refine SN.le (l := [(2, _), (3, _), (4, _), (5, _), (13, _), (14, _), (15, _), (16, _), (18, _), (19, _), (20, _)]) ?_ (.cons rfl (.cons rfl (.cons rfl (.cons rfl (.cons rfl (.cons rfl (.cons rfl (.cons rfl (.cons rfl (.cons rfl (.cons rfl (.nil))))))))))))
                    exact J0 (()) _ _ (.cons rfl (.cons rfl (.cons rfl (.cons rfl (.cons rfl (.cons rfl (.cons rfl (.cons rfl (.cons rfl (.cons' rfl (congrArg Value.bool (by rw [show Wk = true from hg19_1, Bool.true_and])) (.cons rfl (.nil)))))))))))) (.fin)
                  · refine SR_no rfl rfl (hg19_1) (lts rfl) ?_
                    refine SR_no rfl rfl (hg19_1) (lts rfl) ?_
                    refine SR_no rfl rfl (hg19_1) (lts rfl) ?_
                    refine SR_no rfl rfl (hg19_1) (lts rfl) ?_
                    refine SR_no rfl rfl (hg19_1) (lts rfl) ?_
                    refine SR_no rfl rfl (hg19_1) (lts rfl) ?_
                    refine SR_no rfl rfl (hg19_1) (lts rfl) ?_
                    refine SR_pu (RD_pick_f rfl (hg19_1) rfl) rfl ?_
                    refine SR_pu (RD_assign rfl) rfl ?_
                    refine SR_nil ?_
                    refine SN.le (l := [(2, _), (3, _), (4, _), (5, _), (13, _), (14, _), (15, _), (16, _), (18, _), (19, _), (20, _)]) ?_ (.cons rfl (.cons rfl (.cons rfl (.cons rfl (.cons rfl (.cons rfl (.cons rfl (.cons rfl (.cons rfl (.cons rfl (.cons rfl (.nil))))))))))))
                    exact J0 (()) _ _ (.cons rfl (.cons rfl (.cons rfl (.cons rfl (.cons rfl (.cons rfl (.cons rfl (.cons rfl (.cons rfl (.cons' rfl (congrArg Value.bool (by rw [show Wk = false from hg19_1, Bool.false_and])) (.cons rfl (.nil)))))))))))) (.fin)
              · have hqn : q = C.envs.n := by simp at hc108; omega
                clear ih1
                rw [show C.envs.l.take q = C.envs.l by rw [hqn, ← hn2, List.take_length]]
                rw [show C.pure.envs = C.envs.l from rfl] at hok
                obtain ⟨R, hR⟩ : ∃ R, (w0 && unl l2 S C.envs.l) = R := ⟨_, rfl⟩
                rw [hR] at hok ⊢
                refine SC_exit rfl ?_
                refine SN_seq ?_
                refine SC_seq ?_
                refine SC_seq ?_
                refine SC_drawn (.cons 0 true (.cons 2 true (.cons 3 true (.cons 1 false (.cons 4 false (.cons 5 false (.cons 6 true (.cons 7 true (.cons 8 true (.cons 9 true (.cons 10 true (.nil)))))))))))) (by kernel_rfl) (by kernel_rfl) ?_
                refine SQ_pu rfl (RD_move rfl) rfl ?_
                refine SQ_pu rfl (RD_move rfl) rfl ?_
                refine SQ_rd rfl (RD_loadA (vs := C.cells) Try.isAgg33 Try.sizeOf33 rfl rfl) Has.wh rfl ?_
                refine SQ_call rfl Try.call23 (.cons rfl (.nil)) (CallsK.at (w_Terms k ⟨l2, S⟩)) (lts rfl) ?_
                rintro _ L17 ⟨rfl, hL17⟩
                refine ⟨.lands hL17 (.h Has.wh (.nil)), ?_⟩
                refine SQ.lands hL17 ?_
                refine SQ_call rfl Try.call19 (.cons rfl (.cons rfl (.nil))) (CallsK.at (blok_DigestA k ⟨l2, S⟩ C hf (by dsimp only; omega) l2 (blkD l C.pure) g2 g3)) (lts rfl) ?_
                rintro _ L18 ⟨rfl, hL18⟩
                refine ⟨.lands hL18 (.w rfl (.nil)), ?_⟩
                refine SQ.lands hL18 ?_
                refine SQ_call rfl Try.call30 (.cons rfl (.cons rfl (.nil))) (CallsK.at (w_OfN k ⟨l2, S⟩ (blkB l2 C.pure) g5 (by dsimp only; omega) (blkD l C.pure) g6)) (lts rfl) ?_
                rintro _ L19 ⟨oa, oc, rfl, hL19⟩
                refine ⟨.lands hL19 (.h Has.wh (.nil)), ?_⟩
                refine SQ.lands hL19 ?_
                refine SQ_pu rfl (RD_move rfl) rfl ?_
                refine SQ_pu rfl (RD_extract rfl rfl) rfl ?_
                refine SQ_pu rfl (RD_extract rfl rfl) rfl ?_
                refine SQ_pu rfl (RD_assign rfl) rfl ?_
                refine SQ_pu rfl (RD_assign rfl) rfl ?_
                refine SQ_nil ?_
                refine SN.le (l := [(2, _), (3, _), (4, _), (5, _), (13, _), (14, _), (15, _), (16, _), (18, _), (19, _), (22, _), (23, _)]) ?_ (.cons rfl (.cons rfl (.cons rfl (.cons rfl (.cons rfl (.cons rfl (.cons rfl (.cons rfl (.cons rfl (.cons rfl (.cons rfl (.cons rfl (.nil)))))))))))))
                refine SN_seq ?_
                refine SC_seq ?_
                refine SC_region ?_
                refine SR_pu (RD_move rfl) rfl ?_
                refine SR_pu (RD_not rfl) rfl ?_
                refine SR_pu (RD_move rfl) rfl ?_
                refine SR_yes rfl rfl (rfl) ?_
                refine SR_pu (RD_move rfl) rfl ?_
                refine SR_yes rfl rfl (rfl) ?_
                refine SR_pu (RD_move rfl) rfl ?_
                refine SR_yes rfl rfl (rfl) ?_
                refine SR_rd (RD_loadA (vs := C.cells) Try.isAgg33 Try.sizeOf33 rfl rfl) Has.wh rfl ?_
                refine SR_yes rfl rfl (rfl) ?_
                refine SR_call Try.call32 (.cons rfl (.cons rfl (.nil))) (CallsK.at (law16_Bytes k ⟨l2, S⟩ C hf g7 (by dsimp only; omega))) (lts rfl) ?_
                rintro _ L20 ⟨ba, bc, rfl, hL20⟩
                refine SR.lands hL20 ?_
                refine SR_yes rfl rfl (rfl) ?_
                refine SR_call Try.call31 (.cons rfl (.cons rfl (.nil))) (ref_Same oa _ oc (blkB l2 C.pure) rfl rfl ba _ bc (blkB l2 C.pure) rfl rfl) (lts rfl) ?_
                rintro _ L21 ⟨rfl, hL21⟩
                rw [decide_eq_true rfl]
                refine SR.lands hL21 ?_
                refine SR_yes rfl rfl (rfl) ?_
                refine SR_pu (RD_not rfl) rfl ?_
                refine SR_pu (RD_pick_f rfl (rfl) rfl) rfl ?_
                refine SR_pu (RD_move rfl) rfl ?_
                refine SR_yes rfl rfl (rfl) ?_
                refine SR_pu (RD_move rfl) rfl ?_
                refine SR_yes rfl rfl (rfl) ?_
                refine SR_rd (RD_loadA (vs := c.cells) Try.isAgg24 Try.sizeOf24 rfl rfl) Has.wh rfl ?_
                refine SR_yes rfl rfl (rfl) ?_
                refine SR_rd (RD_loadA (vs := C.cells) Try.isAgg33 Try.sizeOf33 rfl rfl) Has.wh rfl ?_
                refine SR_yes rfl rfl (rfl) ?_
                refine SR_call Try.call33 (.cons rfl (.cons rfl (.cons rfl (.nil)))) (CallsK.at (blok_OkA k ⟨l2, S⟩ c (by omega) C hf (by dsimp only; omega) l3 R hl3 hok)) (lts rfl) ?_
                rintro _ L22 ⟨rfl, hL22⟩
                refine SR.lands hL22 ?_
                refine SR_yes rfl rfl (rfl) ?_
                refine SR_pu (RD_move rfl) rfl ?_
                refine SR_yes rfl rfl (rfl) ?_
                refine SR_pu (RD_neqB Try.underlying4 rfl rfl) rfl ?_
                refine SR_pu (RD_pick_f rfl (rfl) rfl) rfl ?_
                refine SR_pu (RD_move rfl) rfl ?_
                refine SR_yes rfl rfl (by simp) ?_
                refine SR_rd (RD_loadA (vs := c.cells) Try.isAgg24 Try.sizeOf24 rfl rfl) Has.wh rfl ?_
                refine SR_yes rfl rfl (by simp) ?_
                first
                  | refine SR_pu (RD_fieldAddr0 Try.runUnderlying33 rfl rfl Try.sizeOf3 rfl) rfl ?_
                  | refine SR_rd (RD_fieldAddrO 0 Try.runUnderlying33 rfl rfl Try.sizeOf3 rfl (by simp <;> omega)) Has.ro rfl ?_
                refine SR_yes rfl rfl (by simp) ?_
                refine SR_rd (RD_load Try.isAgg3 rfl) (Has.ce rfl) rfl ?_
                refine SR_yes rfl rfl (by simp) ?_
                refine SR_call Try.call13 (.cons rfl (.cons rfl (.nil))) (blok_Lead c C.view) (lts rfl) ?_
                rintro _ L23 ⟨rfl, hL23⟩
                refine SR.lands hL23 ?_
                refine SR_yes rfl rfl (by simp) ?_
                refine SR_pu (RD_move rfl) rfl ?_
                refine SR_yes rfl rfl (by simp) ?_
                refine SR_pu (RD_neq rfl rfl) rfl ?_
                refine SR_pu (RD_pick_f rfl (by simp) rfl) rfl ?_
                refine SR_nil ?_
                refine SN.le (l := [(2, _), (3, _), (4, _), (5, _), (13, _), (14, _), (15, _), (16, _), (178, _)]) ?_ (.cons rfl (.cons rfl (.cons rfl (.cons rfl (.cons rfl (.cons rfl (.cons rfl (.cons rfl (.cons rfl (.nil))))))))))
                refine SN_seq ?_
                refine SC_cond_false rfl (by simp) ?_
                refine SC_skip ?_
                refine SN_seq ?_
                refine SC_seq ?_
                refine SC_seq ?_
                refine SC_region ?_
                refine SR_pu (RD_move rfl) rfl ?_
                refine SR_pu (RD_eql rfl rfl) rfl ?_
                refine SR_nil ?_
                refine SN.le (l := [(2, _), (3, _), (4, _), (5, _), (13, _), (14, _), (15, _), (16, _), (180, _)]) ?_ (.cons rfl (.cons rfl (.cons rfl (.cons rfl (.cons rfl (.cons rfl (.cons rfl (.cons rfl (.cons rfl (.nil))))))))))
                refine SN_seq ?_
                refine SC_cond rfl (fun hc180 => ?_) (fun hc180 => ?_)
                · have hi1 : i = 1 := by simp at hc180; omega
                  have hcp := hcap hi1
                  refine SC_seq ?_
                  refine SC_seq ?_
                  rw [show BlkD.cells C = [.int .i64 C.view, .int .i64 C.author, .int .i64 C.jv, .int .i64 C.jb, .slice C.by_.a C.by_.n C.by_.c, .slice C.envs.a C.envs.n C.envs.c] from rfl]
                  refine SC_region ?_
                  refine SR_pu (RD_move rfl) rfl ?_
                  refine SR_pu (RD_mask 3 rfl rfl rfl (by decide) 8 rfl) rfl ?_
                  refine SR_nil ?_
                  refine SN.le (l := [(2, _), (3, _), (4, _), (5, _), (13, _), (14, _), (15, _), (16, _), (182, _)]) ?_ (.cons rfl (.cons rfl (.cons rfl (.cons rfl (.cons rfl (.cons rfl (.cons rfl (.cons rfl (.cons rfl (.nil))))))))))
                  refine SN_seq ?_
                  refine SC_block ?_
                  refine SC_seq ?_
                  refine SC_region ?_
                  refine SR_pu (RD_eql rfl rfl) rfl ?_
                  refine SR_pu (RD_assign rfl) rfl ?_
                  refine SR_nil ?_
                  refine SN.le (l := [(2, _), (3, _), (4, _), (5, _), (13, _), (14, _), (15, _), (16, _), (182, _), (183, _)]) ?_ (.cons rfl (.cons rfl (.cons rfl (.cons rfl (.cons rfl (.cons rfl (.cons rfl (.cons rfl (.cons rfl (.cons rfl (.nil)))))))))))
                  refine SN_seq ?_
                  refine SC_cond rfl (fun hc183 => ?_) (fun hc183 => ?_)
                  · refine SC_region ?_
                    refine SR_pu (RD_move rfl) rfl ?_
                    first
                      | refine SR_pu (RD_fieldAddr0 Try.runUnderlying33 rfl rfl Try.sizeOf3 rfl) rfl ?_
                      | refine SR_rd (RD_fieldAddrO 0 Try.runUnderlying33 rfl rfl Try.sizeOf3 rfl (by simp <;> omega)) Has.ro rfl ?_
                    refine SR_ox0 (OX_st Try.sizeOf3 rfl rfl) ?_
                    rintro _ _ rfl
                    refine SR_nil ?_
                    refine SN.le (l := [(2, _), (3, _), (4, _), (5, _), (13, _), (14, _), (15, _), (16, _)]) ?_ (.cons rfl (.cons rfl (.cons rfl (.cons rfl (.cons rfl (.cons rfl (.cons rfl (.cons rfl (.nil)))))))))
                    refine SN_block ?_
                    refine SN_seq ?_
                    refine SC_exit rfl ?_
                    refine SN_seq ?_
                    refine SC_region ?_
                    refine SR_pu (RD_move rfl) rfl ?_
                    refine SR_pu (RD_addi rfl rfl (by omega) (by omega)) rfl ?_
                    refine SR_pu (RD_assign rfl) rfl ?_
                    refine SR_nil ?_
                    refine SN.le (l := [(2, _), (3, _), (4, _), (5, _), (13, _), (14, _), (15, _), (16, _)]) ?_ (.cons rfl (.cons rfl (.cons rfl (.cons rfl (.cons rfl (.cons rfl (.cons rfl (.cons rfl (.nil)))))))))
                    refine SC_again (ih (⟨(i + 1, l3, S, m, ⟨to_, C.author, C.jv, C.jb, C.by_, C.envs⟩, G), ⟨inferInstance, .trans .fin hG, ⟨inferInstance, inferInstance, hn1, hn2, ht, hC.author, hC.jv, hC.jb, hC.by_, hC.envs⟩, inferInstance, by dsimp only; omega, by dsimp only; omega, fun h => by dsimp only at h; omega, by dsimp only; omega, by dsimp only; omega, by dsimp only; omega⟩⟩) (trivial) (by dsimp only; omega)) ((show Lands _ (pt b14 (.cells c.cells.toArray 24) :: pt b15 (.cells [.int .i64 to_, .int .i64 C.author, .int .i64 C.jv, .int .i64 C.jb, .slice C.by_.a C.by_.n C.by_.c, .slice C.envs.a C.envs.n C.envs.c].toArray 33) :: At worldI k ⟨l3, S⟩ :: At vaultI k.v m :: G) from .fin)) (.cons rfl (.cons rfl (.cons rfl (.cons rfl (.cons rfl (.cons rfl (.cons rfl (.cons' rfl (ie (by dsimp only; omega)) (.nil)))))))))
                  · refine SC_seq ?_
                    refine SC_region ?_
                    refine SR_pu (RD_eql rfl rfl) rfl ?_
                    refine SR_pu (RD_assign rfl) rfl ?_
                    refine SR_nil ?_
                    refine SN.le (l := [(2, _), (3, _), (4, _), (5, _), (13, _), (14, _), (15, _), (16, _), (182, _), (187, _)]) ?_ (.cons rfl (.cons rfl (.cons rfl (.cons rfl (.cons rfl (.cons rfl (.cons rfl (.cons rfl (.cons rfl (.cons rfl (.nil)))))))))))
                    refine SN_seq ?_
                    refine SC_cond rfl (fun hc187 => ?_) (fun hc187 => ?_)
                    · refine SC_region ?_
                      refine SR_pu (RD_move rfl) rfl ?_
                      refine SR_pu (RD_mask 4 rfl rfl rfl (by decide) 16 rfl) rfl ?_
                      first
                        | refine SR_pu (RD_fieldAddr 1 Try.runUnderlying33 rfl rfl Try.sizeOf3 rfl) rfl ?_
                        | refine SR_rd (RD_fieldAddrO 1 Try.runUnderlying33 rfl rfl Try.sizeOf3 rfl (by simp <;> omega)) Has.ro rfl ?_
                      refine SR_ox0 (OX_st Try.sizeOf3 rfl rfl) ?_
                      rintro _ _ rfl
                      refine SR_nil ?_
                      refine SN.le (l := [(2, _), (3, _), (4, _), (5, _), (13, _), (14, _), (15, _), (16, _)]) ?_ (.cons rfl (.cons rfl (.cons rfl (.cons rfl (.cons rfl (.cons rfl (.cons rfl (.cons rfl (.nil)))))))))
                      refine SN_block ?_
                      refine SN_seq ?_
                      refine SC_exit rfl ?_
                      refine SN_seq ?_
                      refine SC_region ?_
                      refine SR_pu (RD_move rfl) rfl ?_
                      refine SR_pu (RD_addi rfl rfl (by omega) (by omega)) rfl ?_
                      refine SR_pu (RD_assign rfl) rfl ?_
                      refine SR_nil ?_
                      refine SN.le (l := [(2, _), (3, _), (4, _), (5, _), (13, _), (14, _), (15, _), (16, _)]) ?_ (.cons rfl (.cons rfl (.cons rfl (.cons rfl (.cons rfl (.cons rfl (.cons rfl (.cons rfl (.nil)))))))))
                      refine SC_again (ih (⟨(i + 1, l3, S, m, ⟨C.view, to_ % 16, C.jv, C.jb, C.by_, C.envs⟩, G), ⟨inferInstance, .trans .fin hG, ⟨inferInstance, inferInstance, hn1, hn2, hC.view, (by unfold I64; dsimp only; omega), hC.jv, hC.jb, hC.by_, hC.envs⟩, inferInstance, by dsimp only; omega, by dsimp only; omega, fun h => by dsimp only at h; omega, by dsimp only; omega, by dsimp only; omega, by dsimp only; omega⟩⟩) (trivial) (by dsimp only; omega)) ((show Lands _ (pt b14 (.cells c.cells.toArray 24) :: pt b15 (.cells [.int .i64 C.view, .int .i64 (to_ % 16), .int .i64 C.jv, .int .i64 C.jb, .slice C.by_.a C.by_.n C.by_.c, .slice C.envs.a C.envs.n C.envs.c].toArray 33) :: At worldI k ⟨l3, S⟩ :: At vaultI k.v m :: G) from .fin)) (.cons rfl (.cons rfl (.cons rfl (.cons rfl (.cons rfl (.cons rfl (.cons rfl (.cons' rfl (ie (by dsimp only; omega)) (.nil)))))))))
                    · refine SC_seq ?_
                      refine SC_region ?_
                      refine SR_pu (RD_eql rfl rfl) rfl ?_
                      refine SR_pu (RD_assign rfl) rfl ?_
                      refine SR_nil ?_
                      refine SN.le (l := [(2, _), (3, _), (4, _), (5, _), (13, _), (14, _), (15, _), (16, _), (182, _), (192, _)]) ?_ (.cons rfl (.cons rfl (.cons rfl (.cons rfl (.cons rfl (.cons rfl (.cons rfl (.cons rfl (.cons rfl (.cons rfl (.nil)))))))))))
                      refine SN_seq ?_
                      refine SC_cond rfl (fun hc192 => ?_) (fun hc192 => ?_)
                      · refine SC_region ?_
                        refine SR_pu (RD_move rfl) rfl ?_
                        refine SR_pu (RD_mask 3 rfl rfl rfl (by decide) 8 rfl) rfl ?_
                        first
                          | refine SR_pu (RD_fieldAddr 2 Try.runUnderlying33 rfl rfl Try.sizeOf30 rfl) rfl ?_
                          | refine SR_rd (RD_fieldAddrO 2 Try.runUnderlying33 rfl rfl Try.sizeOf30 rfl (by simp <;> omega)) Has.ro rfl ?_
                        first
                          | refine SR_pu (RD_fieldAddr0 Try.runUnderlying30 rfl rfl Try.sizeOf3 rfl) rfl ?_
                          | refine SR_rd (RD_fieldAddrO 0 Try.runUnderlying30 rfl rfl Try.sizeOf3 rfl (by simp <;> omega)) Has.ro rfl ?_
                        refine SR_ox0 (OX_st Try.sizeOf3 rfl rfl) ?_
                        rintro _ _ rfl
                        refine SR_nil ?_
                        refine SN.le (l := [(2, _), (3, _), (4, _), (5, _), (13, _), (14, _), (15, _), (16, _)]) ?_ (.cons rfl (.cons rfl (.cons rfl (.cons rfl (.cons rfl (.cons rfl (.cons rfl (.cons rfl (.nil)))))))))
                        refine SN_block ?_
                        refine SN_seq ?_
                        refine SC_exit rfl ?_
                        refine SN_seq ?_
                        refine SC_region ?_
                        refine SR_pu (RD_move rfl) rfl ?_
                        refine SR_pu (RD_addi rfl rfl (by omega) (by omega)) rfl ?_
                        refine SR_pu (RD_assign rfl) rfl ?_
                        refine SR_nil ?_
                        refine SN.le (l := [(2, _), (3, _), (4, _), (5, _), (13, _), (14, _), (15, _), (16, _)]) ?_ (.cons rfl (.cons rfl (.cons rfl (.cons rfl (.cons rfl (.cons rfl (.cons rfl (.cons rfl (.nil)))))))))
                        refine SC_again (ih (⟨(i + 1, l3, S, m, ⟨C.view, C.author, to_ % 8, C.jb, C.by_, C.envs⟩, G), ⟨inferInstance, .trans .fin hG, ⟨inferInstance, inferInstance, hn1, hn2, hC.view, hC.author, (by unfold I64; dsimp only; omega), hC.jb, hC.by_, hC.envs⟩, inferInstance, by dsimp only; omega, by dsimp only; omega, fun h => by dsimp only at h; omega, by dsimp only; omega, by dsimp only; omega, by dsimp only; omega⟩⟩) (trivial) (by dsimp only; omega)) ((show Lands _ (pt b14 (.cells c.cells.toArray 24) :: pt b15 (.cells [.int .i64 C.view, .int .i64 C.author, .int .i64 (to_ % 8), .int .i64 C.jb, .slice C.by_.a C.by_.n C.by_.c, .slice C.envs.a C.envs.n C.envs.c].toArray 33) :: At worldI k ⟨l3, S⟩ :: At vaultI k.v m :: G) from .fin)) (.cons rfl (.cons rfl (.cons rfl (.cons rfl (.cons rfl (.cons rfl (.cons rfl (.cons' rfl (ie (by dsimp only; omega)) (.nil)))))))))
                      · refine SC_seq ?_
                        refine SC_region ?_
                        refine SR_pu (RD_eql rfl rfl) rfl ?_
                        refine SR_pu (RD_assign rfl) rfl ?_
                        refine SR_nil ?_
                        refine SN.le (l := [(2, _), (3, _), (4, _), (5, _), (13, _), (14, _), (15, _), (16, _), (182, _), (198, _)]) ?_ (.cons rfl (.cons rfl (.cons rfl (.cons rfl (.cons rfl (.cons rfl (.cons rfl (.cons rfl (.cons rfl (.cons rfl (.nil)))))))))))
                        refine SN_seq ?_
                        refine SC_cond rfl (fun hc198 => ?_) (fun hc198 => ?_)
                        · refine SC_region ?_
                          refine SR_pu (RD_move rfl) rfl ?_
                          refine SR_pu (RD_mask 4 rfl rfl rfl (by decide) 16 rfl) rfl ?_
                          first
                            | refine SR_pu (RD_fieldAddr 2 Try.runUnderlying33 rfl rfl Try.sizeOf30 rfl) rfl ?_
                            | refine SR_rd (RD_fieldAddrO 2 Try.runUnderlying33 rfl rfl Try.sizeOf30 rfl (by simp <;> omega)) Has.ro rfl ?_
                          first
                            | refine SR_pu (RD_fieldAddr 1 Try.runUnderlying30 rfl rfl Try.sizeOf3 rfl) rfl ?_
                            | refine SR_rd (RD_fieldAddrO 1 Try.runUnderlying30 rfl rfl Try.sizeOf3 rfl (by simp <;> omega)) Has.ro rfl ?_
                          refine SR_ox0 (OX_st Try.sizeOf3 rfl rfl) ?_
                          rintro _ _ rfl
                          refine SR_nil ?_
                          refine SN.le (l := [(2, _), (3, _), (4, _), (5, _), (13, _), (14, _), (15, _), (16, _)]) ?_ (.cons rfl (.cons rfl (.cons rfl (.cons rfl (.cons rfl (.cons rfl (.cons rfl (.cons rfl (.nil)))))))))
                          refine SN_block ?_
                          refine SN_seq ?_
                          refine SC_exit rfl ?_
                          refine SN_seq ?_
                          refine SC_region ?_
                          refine SR_pu (RD_move rfl) rfl ?_
                          refine SR_pu (RD_addi rfl rfl (by omega) (by omega)) rfl ?_
                          refine SR_pu (RD_assign rfl) rfl ?_
                          refine SR_nil ?_
                          refine SN.le (l := [(2, _), (3, _), (4, _), (5, _), (13, _), (14, _), (15, _), (16, _)]) ?_ (.cons rfl (.cons rfl (.cons rfl (.cons rfl (.cons rfl (.cons rfl (.cons rfl (.cons rfl (.nil)))))))))
                          refine SC_again (ih (⟨(i + 1, l3, S, m, ⟨C.view, C.author, C.jv, to_ % 16, C.by_, C.envs⟩, G), ⟨inferInstance, .trans .fin hG, ⟨inferInstance, inferInstance, hn1, hn2, hC.view, hC.author, hC.jv, (by unfold I64; dsimp only; omega), hC.by_, hC.envs⟩, inferInstance, by dsimp only; omega, by dsimp only; omega, fun h => by dsimp only at h; omega, by dsimp only; omega, by dsimp only; omega, by dsimp only; omega⟩⟩) (trivial) (by dsimp only; omega)) ((show Lands _ (pt b14 (.cells c.cells.toArray 24) :: pt b15 (.cells [.int .i64 C.view, .int .i64 C.author, .int .i64 C.jv, .int .i64 (to_ % 16), .slice C.by_.a C.by_.n C.by_.c, .slice C.envs.a C.envs.n C.envs.c].toArray 33) :: At worldI k ⟨l3, S⟩ :: At vaultI k.v m :: G) from .fin)) (.cons rfl (.cons rfl (.cons rfl (.cons rfl (.cons rfl (.cons rfl (.cons rfl (.cons' rfl (ie (by dsimp only; omega)) (.nil)))))))))
                        · refine SC_seq ?_
                          refine SC_region ?_
                          refine SR_pu (RD_eql rfl rfl) rfl ?_
                          refine SR_pu (RD_assign rfl) rfl ?_
                          refine SR_nil ?_
                          refine SN.le (l := [(2, _), (3, _), (4, _), (5, _), (13, _), (14, _), (15, _), (16, _), (182, _), (204, _)]) ?_ (.cons rfl (.cons rfl (.cons rfl (.cons rfl (.cons rfl (.cons rfl (.cons rfl (.cons rfl (.cons rfl (.cons rfl (.nil)))))))))))
                          refine SN_seq ?_
                          refine SC_cond rfl (fun hc204 => ?_) (fun hc204 => ?_)
                          · refine SC_region ?_
                            refine SR_ox (OX_buildSlice0 Try.runUnderlying22 Try.sizeOf3) rfl ?_
                            rintro _ _ ⟨b206, rfl, rfl⟩
                            refine SR.lands (lit_row (E := 3) (z := 1) (b := b206) (cs := []) 0 rfl) ?_
                            refine SR_pu (RD_move rfl) rfl ?_
                            refine SR_pu (RD_mask 4 rfl rfl rfl (by decide) 16 rfl) rfl ?_
                            refine SR_ox (OX_lit1 Try.underlying22 Try.type3 rfl rfl rfl rfl (.cons rfl (.nil)) (.cons rfl (.nil))) rfl ?_
                            rintro _ _ ⟨b209, rfl, rfl⟩
                            refine SR_ox (OX_app 1 Try.underlying22 Try.underlying22 Try.type3 rfl rfl rfl rfl rfl (by first | rfl | simp; done | (simp; omega)) 8 rfl (by omega) (by omega)) rfl ?_
                            rintro _ _ ⟨a210, c210, rfl, rfl⟩
                            first
                              | refine SR_pu (RD_fieldAddr 2 Try.runUnderlying33 rfl rfl Try.sizeOf30 rfl) rfl ?_
                              | refine SR_rd (RD_fieldAddrO 2 Try.runUnderlying33 rfl rfl Try.sizeOf30 rfl (by simp <;> omega)) Has.ro rfl ?_
                            first
                              | refine SR_pu (RD_fieldAddr 2 Try.runUnderlying30 rfl rfl Try.sizeOf22 rfl) rfl ?_
                              | refine SR_rd (RD_fieldAddrO 2 Try.runUnderlying30 rfl rfl Try.sizeOf22 rfl (by simp <;> omega)) Has.ro rfl ?_
                            refine SR_ox0 (OX_st Try.sizeOf22 rfl rfl) ?_
                            rintro _ _ rfl
                            refine SR_nil ?_
                            refine SN.le (l := [(2, _), (3, _), (4, _), (5, _), (13, _), (14, _), (15, _), (16, _)]) ?_ (.cons rfl (.cons rfl (.cons rfl (.cons rfl (.cons rfl (.cons rfl (.cons rfl (.cons rfl (.nil)))))))))
                            rw [Nat.zero_add, List.nil_append]
                            refine SN_block ?_
                            refine SN_seq ?_
                            refine SC_exit rfl ?_
                            refine SN_seq ?_
                            refine SC_region ?_
                            refine SR_pu (RD_move rfl) rfl ?_
                            refine SR_pu (RD_addi rfl rfl (by omega) (by omega)) rfl ?_
                            refine SR_pu (RD_assign rfl) rfl ?_
                            refine SR_nil ?_
                            refine SN.le (l := [(2, _), (3, _), (4, _), (5, _), (13, _), (14, _), (15, _), (16, _)]) ?_ (.cons rfl (.cons rfl (.cons rfl (.cons rfl (.cons rfl (.cons rfl (.cons rfl (.cons rfl (.nil)))))))))
                            refine SC_again (ih (⟨(i + 1, l3, S, m, ⟨C.view, C.author, C.jv, C.jb, ⟨a210, 1, c210, [to_ % 16]⟩, C.envs⟩, (rowP 3 1 a210 1 c210 [.int .i64 (to_ % 16)] :: G)), ⟨inferInstance, .trans .fin hG, ⟨inferInstance, inferInstance, rfl, hn2, hC.view, hC.author, hC.jv, hC.jb, (fun x hx => by simp at hx; subst hx; unfold I64; omega), hC.envs⟩, inferInstance, by dsimp only; omega, by dsimp only; omega, fun h => by dsimp only at h; omega, by dsimp only; omega, by dsimp only; omega, by dsimp only; omega⟩⟩) (trivial) (by dsimp only; omega)) ((show Lands _ (pt b14 (.cells c.cells.toArray 24) :: pt b15 (.cells [.int .i64 C.view, .int .i64 C.author, .int .i64 C.jv, .int .i64 C.jb, .slice a210 1 c210, .slice C.envs.a C.envs.n C.envs.c].toArray 33) :: At worldI k ⟨l3, S⟩ :: At vaultI k.v m :: rowP 3 1 a210 1 c210 [.int .i64 (to_ % 16)] :: G) from .fin)) (.cons rfl (.cons rfl (.cons rfl (.cons rfl (.cons rfl (.cons rfl (.cons rfl (.cons' rfl (ie (by dsimp only; omega)) (.nil)))))))))
                          · refine SC_seq ?_
                            refine SC_region ?_
                            refine SR_pu (RD_eql rfl rfl) rfl ?_
                            refine SR_pu (RD_assign rfl) rfl ?_
                            refine SR_nil ?_
                            refine SN.le (l := [(2, _), (3, _), (4, _), (5, _), (13, _), (14, _), (15, _), (16, _), (182, _), (213, _)]) ?_ (.cons rfl (.cons rfl (.cons rfl (.cons rfl (.cons rfl (.cons rfl (.cons rfl (.cons rfl (.cons rfl (.cons rfl (.nil)))))))))))
                            refine SN_seq ?_
                            refine SC_cond rfl (fun hc213 => ?_) (fun hc213 => ?_)
                            · refine SC_region ?_
                              refine SR_ox (OX_buildSlice0 Try.runUnderlying31 Try.sizeOf39) rfl ?_
                              rintro _ _ ⟨b215, rfl, rfl⟩
                              refine SR.lands (lit_row (E := 39) (z := 4) (b := b215) (cs := []) 0 rfl) ?_
                              first
                                | refine SR_pu (RD_fieldAddr 5 Try.runUnderlying33 rfl rfl Try.sizeOf31 rfl) rfl ?_
                                | refine SR_rd (RD_fieldAddrO 5 Try.runUnderlying33 rfl rfl Try.sizeOf31 rfl (by simp <;> omega)) Has.ro rfl ?_
                              refine SR_rd (RD_load Try.isAgg31 rfl) (Has.ce rfl) rfl ?_
                              refine SR_ox (OX_app 4 Try.underlying31 Try.underlying31 Try.type39 rfl rfl rfl rfl rfl (by rw [env_len, hn2]) 32 rfl (by omega) (by omega)) rfl ?_
                              rintro _ _ ⟨a218, c218, rfl, rfl⟩
                              refine SR_pu (RD_move rfl) rfl ?_
                              refine SR_pu (RD_mask 2 rfl rfl rfl (by decide) 4 rfl) rfl ?_
                              refine SR_pu (RD_build (.cons rfl (.nil)) built39_0) rfl ?_
                              refine SR_ox (OX_lit Try.underlying31 Try.type39 rfl rfl rfl rfl (.cons rfl (.nil)) (.cons rfl rfl (.nil))) rfl ?_
                              rintro _ _ ⟨b222, rfl, rfl⟩
                              refine SR_ox (OX_app 4 Try.underlying31 Try.underlying31 Try.type39 rfl rfl rfl rfl rfl (by first | rfl | simp; done | (simp; omega)) 32 rfl (by omega) (by omega)) rfl ?_
                              rintro _ _ ⟨a223, c223, rfl, rfl⟩
                              first
                                | refine SR_pu (RD_fieldAddr 5 Try.runUnderlying33 rfl rfl Try.sizeOf31 rfl) rfl ?_
                                | refine SR_rd (RD_fieldAddrO 5 Try.runUnderlying33 rfl rfl Try.sizeOf31 rfl (by simp <;> omega)) Has.ro rfl ?_
                              refine SR_ox0 (OX_st Try.sizeOf31 rfl rfl) ?_
                              rintro _ _ rfl
                              refine SR_nil ?_
                              refine SN.le (l := [(2, _), (3, _), (4, _), (5, _), (13, _), (14, _), (15, _), (16, _)]) ?_ (.cons rfl (.cons rfl (.cons rfl (.cons rfl (.cons rfl (.cons rfl (.cons rfl (.cons rfl (.nil)))))))))
                              rw [Nat.zero_add, List.nil_append]
                              rw [show C.envs.l.flatMap EnvD.cells ++ ([Value.int .i64 (to_ % 4), .int .u64 0, .int .u64 0, .int .i64 0] ++ []) = (C.envs.l ++ [EnvD.mk (to_ % 4) 0 0 0]).flatMap EnvD.cells by rw [List.flatMap_append]; rfl]
                              refine SN_block ?_
                              refine SN_seq ?_
                              refine SC_exit rfl ?_
                              refine SN_seq ?_
                              refine SC_region ?_
                              refine SR_pu (RD_move rfl) rfl ?_
                              refine SR_pu (RD_addi rfl rfl (by omega) (by omega)) rfl ?_
                              refine SR_pu (RD_assign rfl) rfl ?_
                              refine SR_nil ?_
                              refine SN.le (l := [(2, _), (3, _), (4, _), (5, _), (13, _), (14, _), (15, _), (16, _)]) ?_ (.cons rfl (.cons rfl (.cons rfl (.cons rfl (.cons rfl (.cons rfl (.cons rfl (.cons rfl (.nil)))))))))
                              refine SC_again (ih (⟨(i + 1, l3, S, m, ⟨C.view, C.author, C.jv, C.jb, C.by_, ⟨a223, C.envs.n + 1, c223, C.envs.l ++ [⟨to_ % 4, 0, 0, 0⟩]⟩⟩, (rowP 39 4 a223 (C.envs.n + 1) c223 ((C.envs.l ++ [EnvD.mk (to_ % 4) 0 0 0]).flatMap EnvD.cells) :: G)), ⟨inferInstance, .trans .fin hG, ⟨inferInstance, inferInstance, hn1, by simp [hn2], hC.view, hC.author, hC.jv, hC.jb, hC.by_, (fun x hx => (List.mem_append.1 hx).elim (hC.envs x) fun h => by simp at h; subst h; exact ⟨by unfold I64; dsimp only; omega, by unfold I64; dsimp only; omega, by dsimp only; omega, by dsimp only; omega⟩)⟩, inferInstance, by dsimp only; omega, by dsimp only; omega, fun h => by dsimp only at h; omega, by dsimp only; omega, by dsimp only; omega, by dsimp only; omega⟩⟩) (trivial) (by dsimp only; omega)) ((show Lands _ (pt b14 (.cells c.cells.toArray 24) :: pt b15 (.cells [.int .i64 C.view, .int .i64 C.author, .int .i64 C.jv, .int .i64 C.jb, .slice C.by_.a C.by_.n C.by_.c, .slice a223 (C.envs.n + 1) c223].toArray 33) :: At worldI k ⟨l3, S⟩ :: At vaultI k.v m :: rowP 39 4 a223 (C.envs.n + 1) c223 ((C.envs.l ++ [EnvD.mk (to_ % 4) 0 0 0]).flatMap EnvD.cells) :: G) from .fin)) (.cons rfl (.cons rfl (.cons rfl (.cons rfl (.cons rfl (.cons rfl (.cons rfl (.cons' rfl (ie (by dsimp only; omega)) (.nil)))))))))
                            · refine SC_seq ?_
                              refine SC_region ?_
                              refine SR_pu (RD_eql rfl rfl) rfl ?_
                              refine SR_pu (RD_assign rfl) rfl ?_
                              refine SR_nil ?_
                              refine SN.le (l := [(2, _), (3, _), (4, _), (5, _), (13, _), (14, _), (15, _), (16, _), (225, _)]) ?_ (.cons rfl (.cons rfl (.cons rfl (.cons rfl (.cons rfl (.cons rfl (.cons rfl (.cons rfl (.cons rfl (.nil))))))))))
                              refine SN_seq ?_
                              refine SC_cond rfl (fun hc225 => ?_) (fun hc225 => ?_)
                              · obtain ⟨hh, hhe⟩ : ∃ hh : Nat, hh = C.envs.n / 2 := ⟨_, rfl⟩
                                have hhi : IntKind.i64.wrap ((C.envs.n : Int).tdiv 2) = (hh : Int) := by rw [Int.tdiv_eq_ediv_of_nonneg (by omega), IntKind.wrap_i64]; omega
                                refine SC_region ?_
                                first
                                  | refine SR_pu (RD_fieldAddr 5 Try.runUnderlying33 rfl rfl Try.sizeOf31 rfl) rfl ?_
                                  | refine SR_rd (RD_fieldAddrO 5 Try.runUnderlying33 rfl rfl Try.sizeOf31 rfl (by simp <;> omega)) Has.ro rfl ?_
                                refine SR_rd (RD_load Try.isAgg31 rfl) (Has.ce rfl) rfl ?_
                                first
                                  | refine SR_pu (RD_fieldAddr 5 Try.runUnderlying33 rfl rfl Try.sizeOf31 rfl) rfl ?_
                                  | refine SR_rd (RD_fieldAddrO 5 Try.runUnderlying33 rfl rfl Try.sizeOf31 rfl (by simp <;> omega)) Has.ro rfl ?_
                                refine SR_rd (RD_load Try.isAgg31 rfl) (Has.ce rfl) rfl ?_
                                refine SR_pu (RD_len Try.runUnderlying31 rfl) rfl ?_
                                refine SR_pu (RD_quo rfl rfl (by omega)) rfl ?_
                                refine SR_pu (RD_cutH Try.runUnderlying31 Try.sizeOf39 rfl (congrArg some (ie hhi)) (by omega) (by omega)) rfl ?_
                                first
                                  | refine SR_pu (RD_fieldAddr 5 Try.runUnderlying33 rfl rfl Try.sizeOf31 rfl) rfl ?_
                                  | refine SR_rd (RD_fieldAddrO 5 Try.runUnderlying33 rfl rfl Try.sizeOf31 rfl (by simp <;> omega)) Has.ro rfl ?_
                                refine SR_ox0 (OX_st Try.sizeOf31 rfl rfl) ?_
                                rintro _ _ rfl
                                refine SR_nil ?_
                                refine SN.le (l := [(2, _), (3, _), (4, _), (5, _), (13, _), (14, _), (15, _), (16, _)]) ?_ (.cons rfl (.cons rfl (.cons rfl (.cons rfl (.cons rfl (.cons rfl (.cons rfl (.cons rfl (.nil)))))))))
                                rw [Int.toNat_natCast]
                                refine SN_block ?_
                                refine SN_seq ?_
                                refine SC_exit rfl ?_
                                refine SN_seq ?_
                                refine SC_region ?_
                                refine SR_pu (RD_move rfl) rfl ?_
                                refine SR_pu (RD_addi rfl rfl (by omega) (by omega)) rfl ?_
                                refine SR_pu (RD_assign rfl) rfl ?_
                                refine SR_nil ?_
                                refine SN.le (l := [(2, _), (3, _), (4, _), (5, _), (13, _), (14, _), (15, _), (16, _)]) ?_ (.cons rfl (.cons rfl (.cons rfl (.cons rfl (.cons rfl (.cons rfl (.cons rfl (.cons rfl (.nil)))))))))
                                haveI : HasRow G C.envs.a ((C.envs.l.take hh).flatMap EnvD.cells) := hasRow_take _ (env_take2 C.envs.l hh)
                                refine SC_again (ih (⟨(i + 1, l3, S, m, ⟨C.view, C.author, C.jv, C.jb, C.by_, ⟨C.envs.a, hh, C.envs.c, C.envs.l.take hh⟩⟩, G), ⟨inferInstance, .trans .fin hG, ⟨inferInstance, inferInstance, hn1, by simp; omega, hC.view, hC.author, hC.jv, hC.jb, hC.by_, (fun x hx => hC.envs x (List.mem_of_mem_take hx))⟩, inferInstance, by dsimp only; omega, by dsimp only; omega, fun h => by dsimp only at h; omega, by dsimp only; omega, by dsimp only; omega, by dsimp only; omega⟩⟩) (trivial) (by dsimp only; omega)) ((show Lands _ (pt b14 (.cells c.cells.toArray 24) :: pt b15 (.cells [.int .i64 C.view, .int .i64 C.author, .int .i64 C.jv, .int .i64 C.jb, .slice C.by_.a C.by_.n C.by_.c, .slice C.envs.a hh C.envs.c].toArray 33) :: At worldI k ⟨l3, S⟩ :: At vaultI k.v m :: G) from .fin)) (.cons rfl (.cons rfl (.cons rfl (.cons rfl (.cons rfl (.cons rfl (.cons rfl (.cons' rfl (ie (by dsimp only; omega)) (.nil)))))))))
                              · refine SC_skip ?_
                                refine SN_block ?_
                                refine SN_seq ?_
                                refine SC_exit rfl ?_
                                refine SN_seq ?_
                                refine SC_region ?_
                                refine SR_pu (RD_move rfl) rfl ?_
                                refine SR_pu (RD_addi rfl rfl (by omega) (by omega)) rfl ?_
                                refine SR_pu (RD_assign rfl) rfl ?_
                                refine SR_nil ?_
                                refine SN.le (l := [(2, _), (3, _), (4, _), (5, _), (13, _), (14, _), (15, _), (16, _)]) ?_ (.cons rfl (.cons rfl (.cons rfl (.cons rfl (.cons rfl (.cons rfl (.cons rfl (.cons rfl (.nil)))))))))
                                refine SC_again (ih (⟨(i + 1, l3, S, m, C, G), ⟨inferInstance, hG, hC, inferInstance, hm1, hm2, fun h => by dsimp only at h; omega, by dsimp only; omega, by dsimp only; omega, by dsimp only; omega⟩⟩) (trivial) (by dsimp only; omega)) ((show Lands _ (pt b14 (.cells c.cells.toArray 24) :: pt b15 (.cells [.int .i64 C.view, .int .i64 C.author, .int .i64 C.jv, .int .i64 C.jb, .slice C.by_.a C.by_.n C.by_.c, .slice C.envs.a C.envs.n C.envs.c].toArray 33) :: At worldI k ⟨l3, S⟩ :: At vaultI k.v m :: G) from .fin)) (.cons rfl (.cons rfl (.cons rfl (.cons rfl (.cons rfl (.cons rfl (.cons rfl (.cons' rfl (ie (by dsimp only; omega)) (.nil)))))))))
                · have hi1 : ¬ i = 1 := by simp at hc180; omega
                  refine SC_skip ?_
                  refine SN_seq ?_
                  refine SC_seq ?_
                  refine SC_region ?_
                  refine SR_pu (RD_move rfl) rfl ?_
                  refine SR_pu (RD_mask 5 rfl rfl rfl (by decide) 32 rfl) rfl ?_
                  refine SR_pu (RD_addi rfl rfl (by omega) (by omega)) rfl ?_
                  refine SR_pu (RD_assign rfl) rfl ?_
                  refine SR_nil ?_
                  refine SN.le (l := [(2, _), (3, _), (4, _), (5, _), (13, _), (14, _), (15, _), (16, _), (24, _)]) ?_ (.cons rfl (.cons rfl (.cons rfl (.cons rfl (.cons rfl (.cons rfl (.cons rfl (.cons rfl (.cons rfl (.nil))))))))))
                  obtain ⟨v, hv⟩ : ∃ v, view % 32 + 1 = v := ⟨_, rfl⟩
                  rw [hv]
                  have hv1 : 1 ≤ v ∧ v ≤ 32 := by omega
                  obtain ⟨l4, hl4⟩ : ∃ l4, dput l3 rootB = l4 := ⟨_, rfl⟩
                  obtain ⟨r, hr⟩ : ∃ r, dnum l4 rootB = r := ⟨_, rfl⟩
                  have hl4n : l4.length ≤ 200 * i + 41 := by rw [← hl4]; have := dput_len l3 rootB; omega
                  have hri : I64 (r : Nat) := by rw [← hr]; exact dnum_i64 (by omega) _
                  refine SN_seq ?_
                  refine SC_seq ?_
                  refine SC_drawn (.cons 0 true (.cons 1 true (.cons 2 true (.cons 3 true (.cons 4 true (.cons 5 true (.cons 6 false (.cons 7 true (.cons 8 true (.cons 9 false (.nil))))))))))) (by kernel_rfl) (by kernel_rfl) ?_
                  refine SQ_pu rfl (RD_move rfl) rfl ?_
                  refine SQ_pu rfl (RD_move rfl) rfl ?_
                  first
                    | refine SQ_pu rfl (RD_fieldAddr 1 Try.runUnderlying24 rfl rfl Try.sizeOf3 rfl) rfl ?_
                    | refine SQ_rd rfl (RD_fieldAddrO 1 Try.runUnderlying24 rfl rfl Try.sizeOf3 rfl (by simp <;> omega)) Has.ro rfl ?_
                  refine SQ_rd rfl (RD_load Try.isAgg3 rfl) (Has.ce rfl) rfl ?_
                  refine SQ_pu rfl (RD_remi rfl rfl (by omega) (by omega)) rfl ?_
                  refine SQ_pu rfl (RD_move rfl) rfl ?_
                  refine SQ_call rfl Try.call34 (.cons rfl (.nil)) (CallsK.at (cert_Root k ⟨l3, S⟩ (by dsimp only; omega) l4 r hl4 hr)) (lts rfl) ?_
                  rintro _ L24 ⟨rfl, hL24⟩
                  refine ⟨.lands hL24 (.h (Has.ce rfl) (.nil)), ?_⟩
                  try dsimp only at hL24
                  refine SQ.lands hL24 ?_
                  refine SQ_pu rfl (RD_build (.cons rfl (.nil)) built30_1) rfl ?_
                  refine SQ_pu rfl (RD_build (.cons rfl (.cons rfl (.cons rfl (.nil)))) built33_0_1_2) rfl ?_
                  refine SQ_ox0 rfl (OX_stA (vs := [.int .i64 v, .int .i64 (v % c.n), .int .i64 0, .int .i64 (r : Nat), .slice none 0 0, .slice none 0 0]) Try.sizeOf33 rfl rfl rfl rfl) ?_
                  rintro _ _ rfl
                  refine ⟨.w rfl (.nil), ?_⟩
                  refine SQ_nil ?_
                  refine SN.le (l := [(2, _), (3, _), (4, _), (5, _), (13, _), (14, _), (15, _), (16, _)]) ?_ (.cons rfl (.cons rfl (.cons rfl (.cons rfl (.cons rfl (.cons rfl (.cons rfl (.cons rfl (.nil)))))))))
                  refine SN_seq ?_
                  refine SC_seq ?_
                  refine SC_seq ?_
                  refine SC_region ?_
                  refine SR_pu (RD_assign rfl) rfl ?_
                  refine SR_nil ?_
                  refine SN.le (l := [(2, _), (3, _), (4, _), (5, _), (13, _), (14, _), (15, _), (16, _), (25, _)]) ?_ (.cons rfl (.cons rfl (.cons rfl (.cons rfl (.cons rfl (.cons rfl (.cons rfl (.cons rfl (.cons rfl (.nil))))))))))
                  refine SN_seq ?_
                  refine SC_block ?_
                  obtain ⟨B, hB⟩ : ∃ B : Nat, c.bt + how.fdiv (2 ^ min (8 : Int).toNat IntKind.i64.bits) % 2 = (B : Int) := ⟨(c.bt + how.fdiv (2 ^ min (8 : Int).toNat IntKind.i64.bits) % 2).toNat, by omega⟩
                  have hB5 : B ≤ 5 := by omega
                  obtain ⟨N, hN⟩ : ∃ N : Nat, N = min n3 B := ⟨_, rfl⟩
                  refine SC_ind (X := Nat × List EnvD × Option Addr × Nat × List (List UInt8) × List (Int × List Int) × Nat) (fun y => (y.1 ≤ N ∧ y.2.1.length = y.1) ∧ (∀ e ∈ y.2.1, e.Good) ∧ y.2.2.2.2.1.length ≤ 200 * i + 41 + y.1 ∧ y.2.2.2.2.2.2 ≤ m + y.1) (fun y => N - y.1) (fun y => [(2, .int .i64 view), (3, .slice a3 n3 c3), (4, .int .i64 how), (5, .int .i64 to_), (13, .pointer (some ⟨k.p, 0, none⟩)), (14, .pointer (some ⟨b14, 0, none⟩)), (15, .pointer (some ⟨b15, 0, none⟩)), (16, .int .i64 (i : Nat)), (25, .int .i64 (y.1 : Nat))]) (fun y => rowP 39 4 y.2.2.1 y.2.1.length y.2.2.2.1 (y.2.1.flatMap EnvD.cells) :: pt b14 (.cells c.cells.toArray 24) :: pt b15 (.cells [.int .i64 v, .int .i64 (v % c.n), .int .i64 0, .int .i64 (r : Nat), .slice none 0 0, .slice y.2.2.1 y.2.1.length y.2.2.2.1].toArray 33) :: At worldI k ⟨y.2.2.2.2.1, y.2.2.2.2.2.1⟩ :: At vaultI k.v y.2.2.2.2.2.2 :: G) ((0, [], none, 0, l4, S, m)) (⟨⟨by simp, rfl⟩, fun e he => (nomatch he), by dsimp only; omega, by simp⟩) (.cons rfl (.cons rfl (.cons rfl (.cons rfl (.cons rfl (.cons rfl (.cons rfl (.cons rfl (.cons rfl (.nil)))))))))) (((row_new 39 4 none).trans (show Lands _ (rowP 39 4 none 0 0 [] :: pt b14 (.cells c.cells.toArray 24) :: pt b15 (.cells [.int .i64 v, .int .i64 (v % c.n), .int .i64 0, .int .i64 (r : Nat), .slice none 0 0, .slice none 0 0].toArray 33) :: At worldI k ⟨l4, S⟩ :: At vaultI k.v m :: G) from .fin))) ?_
                  intro ⟨u, En, ea, ec, l5, S5, m5⟩ hi ih3
                  obtain ⟨⟨hu1, hu2⟩, hu3, hu4, hu5⟩ := hi
                  dsimp only at hu1 hu2 hu3 hu4 hu5 ih3 ⊢
                  refine SC_seq ?_
                  refine SC_seq ?_
                  refine SC_join (X := Unit) (fun y => [(2, .int .i64 view), (3, .slice a3 n3 c3), (4, .int .i64 how), (5, .int .i64 to_), (13, .pointer (some ⟨k.p, 0, none⟩)), (14, .pointer (some ⟨b14, 0, none⟩)), (15, .pointer (some ⟨b15, 0, none⟩)), (16, .int .i64 (i : Nat)), (25, .int .i64 (u : Nat)), (260, .bool (decide (u < N)))]) (fun y => rowP 39 4 ea En.length ec (En.flatMap EnvD.cells) :: pt b14 (.cells c.cells.toArray 24) :: pt b15 (.cells [.int .i64 v, .int .i64 (v % c.n), .int .i64 0, .int .i64 (r : Nat), .slice none 0 0, .slice ea En.length ec].toArray 33) :: At worldI k ⟨l5, S5⟩ :: At vaultI k.v m5 :: G) (fun _ => ?_) (fun J0 => ?_)
                  · refine SN_seq ?_
                    refine SC_cond rfl (fun hc260 => ?_) (fun hc260 => ?_)
                    · have hun : u < N := of_decide_eq_true hc260
                      obtain ⟨x, hx⟩ : ∃ x, es[u]? = some x := ⟨_, List.getElem?_eq_getElem (by omega)⟩
                      have hxg := hes x (List.mem_of_getElem? hx)
                      have hdl := dput_len l5 (envB ⟨x.client % 4, x.nonce, x.fee, ((m5 + 1 : Nat) : Int)⟩)
                      refine SC_skip ?_
                      refine SN_seq ?_
                      refine SC_seq ?_
                      refine SC_block ?_
                      refine SC_drawn (.cons 0 true (.cons 1 true (.cons 2 true (.cons 3 true (.cons 4 true (.cons 5 true (.cons 6 true (.cons 7 true (.cons 8 true (.cons 9 true (.cons 10 true (.cons 11 true (.cons 12 true (.cons 13 true (.cons 14 true (.cons 15 true (.cons 16 true (.cons 17 true (.cons 18 true (.cons 19 false (.cons 20 false (.cons 21 false (.cons 22 true (.cons 23 false (.nil))))))))))))))))))))))))) (by kernel_rfl) (by kernel_rfl) ?_
                      first
                        | refine SQ_pu rfl (RD_fieldAddr 5 Try.runUnderlying33 rfl rfl Try.sizeOf31 rfl) rfl ?_
                        | refine SQ_rd rfl (RD_fieldAddrO 5 Try.runUnderlying33 rfl rfl Try.sizeOf31 rfl (by simp <;> omega)) Has.ro rfl ?_
                      refine SQ_rd rfl (RD_load Try.isAgg31 rfl) (Has.ce rfl) rfl ?_
                      refine SQ_pu rfl (RD_move rfl) rfl ?_
                      refine SQ_pu rfl (RD_move rfl) rfl ?_
                      refine SQ_pu rfl (RD_move rfl) rfl ?_
                      refine SQ_rd rfl (RD_ixO (i := (u : Nat)) (cs := es.flatMap EnvD.cells) Try.runUnderlying31 Try.sizeOf39 rfl rfl (by rw [env_len, hn3]) (by omega) (by omega)) Has.ro rfl ?_
                      refine SQ_rd rfl (RD_fieldAddrO (cs := es.flatMap EnvD.cells) 0 Try.runUnderlying39 rfl rfl Try.sizeOf3 rfl (by rw [env_len, hn3]; omega)) Has.ro rfl ?_
                      refine SQ_rd rfl (RD_loadO (v := .int .i64 x.client) (cs := es.flatMap EnvD.cells) Try.isAgg3 rfl (by rw [show ((u : Nat) : Int).toNat * (3 + 1) + 0 = u * 4 + 0 by omega, env_get hx 0 (by omega)]; rfl)) Has.ro rfl ?_
                      refine SQ_pu rfl (RD_mask 2 rfl rfl rfl (by decide) 4 rfl) rfl ?_
                      refine SQ_pu rfl (RD_move rfl) rfl ?_
                      refine SQ_pu rfl (RD_move rfl) rfl ?_
                      refine SQ_rd rfl (RD_ixO (i := (u : Nat)) (cs := es.flatMap EnvD.cells) Try.runUnderlying31 Try.sizeOf39 rfl rfl (by rw [env_len, hn3]) (by omega) (by omega)) Has.ro rfl ?_
                      refine SQ_rd rfl (RD_fieldAddrO (cs := es.flatMap EnvD.cells) 1 Try.runUnderlying39 rfl rfl Try.sizeOf37 rfl (by rw [env_len, hn3]; omega)) Has.ro rfl ?_
                      refine SQ_rd rfl (RD_loadO (v := .int .u64 x.nonce) (cs := es.flatMap EnvD.cells) Try.isAgg37 rfl (by rw [show ((u : Nat) : Int).toNat * (3 + 1) + 1 = u * 4 + 1 by omega, env_get hx 1 (by omega)]; rfl)) Has.ro rfl ?_
                      refine SQ_pu rfl (RD_move rfl) rfl ?_
                      refine SQ_pu rfl (RD_move rfl) rfl ?_
                      refine SQ_rd rfl (RD_ixO (i := (u : Nat)) (cs := es.flatMap EnvD.cells) Try.runUnderlying31 Try.sizeOf39 rfl rfl (by rw [env_len, hn3]) (by omega) (by omega)) Has.ro rfl ?_
                      refine SQ_rd rfl (RD_fieldAddrO (cs := es.flatMap EnvD.cells) 2 Try.runUnderlying39 rfl rfl Try.sizeOf37 rfl (by rw [env_len, hn3]; omega)) Has.ro rfl ?_
                      refine SQ_rd rfl (RD_loadO (v := .int .u64 x.fee) (cs := es.flatMap EnvD.cells) Try.isAgg37 rfl (by rw [show ((u : Nat) : Int).toNat * (3 + 1) + 2 = u * 4 + 2 by omega, env_get hx 2 (by omega)]; rfl)) Has.ro rfl ?_
                      refine SQ_call rfl Try.call35 (.cons rfl (.cons rfl (.cons rfl (.cons rfl (.cons rfl (.nil)))))) (CallsK.at2 (w_Make k ⟨l5, S5⟩ m5 (by omega) (x.client % 4) x.nonce x.fee (by omega) hxg.2.2.1 hxg.2.2.2 none 0 0 [] rfl (by simp) (by dsimp only; omega))) (lts rfl) ?_
                      rintro _ L25 ⟨rfl, hL25⟩
                      try dsimp only at hL25
                      refine ⟨.lands hL25 (.w rfl (.h Has.ro (.h Has.ro (.w rfl (.h Has.ro (.h Has.ro (.h Has.ro (.h Has.ro (.h Has.ro (.h (Has.ce rfl) (.nil))))))))))), ?_⟩
                      refine SQ.lands hL25 ?_
                      refine SQ_ox rfl (OX_lit Try.underlying31 Try.type39 rfl rfl rfl rfl (.cons rfl (.nil)) (.cons rfl rfl (.nil))) rfl ?_
                      rintro _ _ ⟨b283, rfl, rfl⟩
                      refine ⟨.h Has.ro (.h Has.ro (.h Has.ro (.h Has.ro (.h Has.ro (.h Has.ro (.h Has.ro (.h Has.ro (.h Has.ro (.h (Has.ce rfl) (.nil)))))))))), ?_⟩
                      refine SQ_ox rfl (OX_app 4 Try.underlying31 Try.underlying31 Try.type39 rfl rfl rfl rfl rfl (by first | rfl | simp; done | (simp; omega)) 32 rfl (by omega) (by omega)) rfl ?_
                      rintro _ _ ⟨a284, c284, rfl, rfl⟩
                      refine ⟨.h Has.ro (.h Has.ro (.h Has.ro (.h Has.ro (.h Has.ro (.h Has.ro (.h Has.ro (.h Has.ro (.h Has.ro (.w rfl (.nil)))))))))), ?_⟩
                      first
                        | refine SQ_pu rfl (RD_fieldAddr 5 Try.runUnderlying33 rfl rfl Try.sizeOf31 rfl) rfl ?_
                        | refine SQ_rd rfl (RD_fieldAddrO 5 Try.runUnderlying33 rfl rfl Try.sizeOf31 rfl (by simp <;> omega)) Has.ro rfl ?_
                      refine SQ_ox0 rfl (OX_st Try.sizeOf31 rfl rfl) ?_
                      rintro _ _ rfl
                      refine ⟨.w rfl (.w rfl (.w rfl (.w rfl (.w rfl (.w rfl (.w rfl (.w rfl (.w rfl (.w rfl (.nil)))))))))), ?_⟩
                      refine SQ_nil ?_
                      refine SN.le (l := [(2, _), (3, _), (4, _), (5, _), (13, _), (14, _), (15, _), (16, _), (25, _)]) ?_ (.cons rfl (.cons rfl (.cons rfl (.cons rfl (.cons rfl (.cons rfl (.cons rfl (.cons rfl (.cons rfl (.nil))))))))))
                      rw [show EnvD.cells ⟨x.client % 4, x.nonce, x.fee, ((m5 + 1 : Nat) : Int)⟩ ++ [] = [EnvD.mk (x.client % 4) x.nonce x.fee ((m5 + 1 : Nat) : Int)].flatMap EnvD.cells from rfl]
                      refine SN_block ?_
                      refine SN_seq ?_
                      refine SC_region ?_
                      refine SR_pu (RD_move rfl) rfl ?_
                      refine SR_pu (RD_addi rfl rfl (by omega) (by omega)) rfl ?_
                      refine SR_pu (RD_assign rfl) rfl ?_
                      refine SR_nil ?_
                      refine SN.le (l := [(2, _), (3, _), (4, _), (5, _), (13, _), (14, _), (15, _), (16, _), (25, _)]) ?_ (.cons rfl (.cons rfl (.cons rfl (.cons rfl (.cons rfl (.cons rfl (.cons rfl (.cons rfl (.cons rfl (.nil))))))))))
                      refine SC_again (ih3 ((u + 1, En ++ [⟨x.client % 4, x.nonce, x.fee, ((m5 + 1 : Nat) : Int)⟩], a284, c284, dput l5 (envB ⟨x.client % 4, x.nonce, x.fee, ((m5 + 1 : Nat) : Int)⟩), addTo S5 (1000 + x.client % 4) (dnum (dput l5 (envB ⟨x.client % 4, x.nonce, x.fee, ((m5 + 1 : Nat) : Int)⟩)) (envB ⟨x.client % 4, x.nonce, x.fee, ((m5 + 1 : Nat) : Int)⟩) : Nat), m5 + 1)) (⟨⟨by dsimp only; omega, by simp [hu2]⟩, fun e he => (List.mem_append.1 he).elim (hu3 e) fun h => by simp at h; subst h; exact ⟨by unfold I64; dsimp only; omega, by unfold I64; dsimp only; omega, hxg.2.2.1, hxg.2.2.2⟩, by dsimp only; omega, by dsimp only; omega⟩) (by dsimp only; omega)) (by dsimp only; rw [List.length_append, List.flatMap_append]; exact .fin) (.cons rfl (.cons rfl (.cons rfl (.cons rfl (.cons rfl (.cons rfl (.cons rfl (.cons rfl (.cons' rfl (ie (by dsimp only; omega)) (.nil))))))))))
                    · clear ih3
                      
                      have hfr : BlkD.Fit ⟨v, v % c.n, 0, (r : Nat), ⟨none, 0, 0, []⟩, ⟨ea, En.length, ec, En⟩⟩ := ⟨rfl, rfl, by simp, by dsimp only; omega, fun e he => (hu3 e he).2.2⟩
                      refine SC_exit rfl ?_
                      refine SN_seq ?_
                      refine SC.row_len (a := ea) fun _ hec => ?_
                      have hbq0 := leadL_len l5 (BlkD.pure ⟨v, v % c.n, 0, (r : Nat), ⟨none, 0, 0, []⟩, ⟨ea, En.length, ec, En⟩⟩)
                      have hbq1 : (BlkD.pure ⟨v, v % c.n, 0, (r : Nat), ⟨none, 0, 0, []⟩, ⟨ea, En.length, ec, En⟩⟩).envs.length = En.length := rfl
                      have hBQ : BQ F a3 es (i + 1, Blk.leadL l5 (BlkD.pure ⟨v, v % c.n, 0, (r : Nat), ⟨none, 0, 0, []⟩, ⟨ea, En.length, ec, En⟩⟩), addTo S5 (v % c.n) (Blk.leadD l5 (BlkD.pure ⟨v, v % c.n, 0, (r : Nat), ⟨none, 0, 0, []⟩, ⟨ea, En.length, ec, En⟩⟩) : Nat), m5, ⟨v, v % c.n, 0, (r : Nat), ⟨none, 0, 0, []⟩, ⟨ea, En.length, ec, En⟩⟩, rowP 39 4 ea En.length ec (En.flatMap EnvD.cells) :: G) := ⟨inferInstance, .trans .fin hG, ⟨inferInstance, inferInstance, rfl, rfl, by unfold I64; dsimp only; omega, by have := Int.emod_nonneg v (show c.n ≠ 0 by omega); have := Int.emod_lt_of_pos v (show 0 < c.n by omega); unfold I64; dsimp only; omega, by unfold I64; dsimp only; omega, hri, fun x hx => (nomatch hx), hu3⟩, inferInstance, by simp, by dsimp only; omega, fun _ => ⟨hec, by dsimp only; omega⟩, by dsimp only; omega, by dsimp only; omega, by dsimp only; omega⟩
                      refine SC_region ?_
                      refine SR_pu (RD_move rfl) rfl ?_
                      refine SR_rd (RD_loadA (vs := BlkD.cells ⟨v, v % c.n, 0, (r : Nat), ⟨none, 0, 0, []⟩, ⟨ea, En.length, ec, En⟩⟩) Try.isAgg33 Try.sizeOf33 rfl rfl) Has.wh rfl ?_
                      refine SR_call Try.call36 (.cons rfl (.cons rfl (.nil))) (CallsK.at (blok_Sign k ⟨l5, S5⟩ ⟨v, v % c.n, 0, (r : Nat), ⟨none, 0, 0, []⟩, ⟨ea, En.length, ec, En⟩⟩ rfl rfl hfr (by dsimp only; omega))) (lts rfl) ?_
                      rintro _ L26 ⟨rfl, hL26⟩
                      dsimp only at hL26
                      refine SR.lands hL26 ?_
                      refine SR_nil ?_
                      refine SN.le (l := [(2, _), (3, _), (4, _), (5, _), (13, _), (14, _), (15, _), (16, _)]) ?_ (.cons rfl (.cons rfl (.cons rfl (.cons rfl (.cons rfl (.cons rfl (.cons rfl (.cons rfl (.nil)))))))))
                      refine SN_block ?_
                      refine SN_seq ?_
                      refine SC_region ?_
                      refine SR_pu (RD_move rfl) rfl ?_
                      refine SR_pu (RD_addi rfl rfl (by omega) (by omega)) rfl ?_
                      refine SR_pu (RD_assign rfl) rfl ?_
                      refine SR_nil ?_
                      refine SN.le (l := [(2, _), (3, _), (4, _), (5, _), (13, _), (14, _), (15, _), (16, _)]) ?_ (.cons rfl (.cons rfl (.cons rfl (.cons rfl (.cons rfl (.cons rfl (.cons rfl (.cons rfl (.nil)))))))))
                      refine SC_again (ih (⟨(i + 1, Blk.leadL l5 (BlkD.pure ⟨v, v % c.n, 0, (r : Nat), ⟨none, 0, 0, []⟩, ⟨ea, En.length, ec, En⟩⟩), addTo S5 (v % c.n) (Blk.leadD l5 (BlkD.pure ⟨v, v % c.n, 0, (r : Nat), ⟨none, 0, 0, []⟩, ⟨ea, En.length, ec, En⟩⟩) : Nat), m5, ⟨v, v % c.n, 0, (r : Nat), ⟨none, 0, 0, []⟩, ⟨ea, En.length, ec, En⟩⟩, rowP 39 4 ea En.length ec (En.flatMap EnvD.cells) :: G), hBQ⟩) (trivial) (by dsimp only; omega)) ((show Lands _ (pt b14 (.cells c.cells.toArray 24) :: pt b15 (.cells [.int .i64 v, .int .i64 (v % c.n), .int .i64 0, .int .i64 (r : Nat), .slice none 0 0, .slice ea En.length ec].toArray 33) :: At worldI k ⟨Blk.leadL l5 (BlkD.pure ⟨v, v % c.n, 0, (r : Nat), ⟨none, 0, 0, []⟩, ⟨ea, En.length, ec, En⟩⟩), addTo S5 (v % c.n) (Blk.leadD l5 (BlkD.pure ⟨v, v % c.n, 0, (r : Nat), ⟨none, 0, 0, []⟩, ⟨ea, En.length, ec, En⟩⟩) : Nat)⟩ :: At vaultI k.v m5 :: rowP 39 4 ea En.length ec (En.flatMap EnvD.cells) :: G) from .fin)) (.cons rfl (.cons rfl (.cons rfl (.cons rfl (.cons rfl (.cons rfl (.cons rfl (.cons' rfl (ie (by dsimp only; omega)) (.nil)))))))))
                  · refine SC_region ?_
                    refine SR_pu (RD_move rfl) rfl ?_
                    refine SR_pu (RD_move rfl) rfl ?_
                    refine SR_pu (RD_len Try.runUnderlying31 rfl) rfl ?_
                    refine SR_pu (RD_lss rfl rfl) rfl ?_
                    refine SR_pu (RD_move rfl) rfl ?_
                    refine SR_guard rfl rfl (fun hg46_4 => ?_) (fun hg46_4 => ?_)
                    · refine SR_yes rfl rfl (hg46_4) ?_
                      refine SR_pu (RD_move rfl) rfl ?_
                      refine SR_yes rfl rfl (hg46_4) ?_
                      first
                        | refine SR_pu (RD_fieldAddr 5 Try.runUnderlying24 rfl rfl Try.sizeOf3 rfl) rfl ?_
                        | refine SR_rd (RD_fieldAddrO 5 Try.runUnderlying24 rfl rfl Try.sizeOf3 rfl (by simp <;> omega)) Has.ro rfl ?_
                      refine SR_yes rfl rfl (hg46_4) ?_
                      refine SR_rd (RD_load Try.isAgg3 rfl) (Has.ce rfl) rfl ?_
                      refine SR_yes rfl rfl (hg46_4) ?_
                      refine SR_pu (RD_move rfl) rfl ?_
                      refine SR_yes rfl rfl (hg46_4) ?_
                      refine SR_pu (RD_shr rfl rfl (by omega)) rfl ?_
                      refine SR_yes rfl rfl (hg46_4) ?_
                      refine SR_pu (RD_mask 1 rfl rfl rfl (by decide) 2 rfl) rfl ?_
                      refine SR_yes rfl rfl (hg46_4) ?_
                      refine SR_pu (RD_addi rfl rfl (by omega) (by omega)) rfl ?_
                      refine SR_yes rfl rfl (hg46_4) ?_
                      refine SR_pu (RD_lss rfl rfl) rfl ?_
                      refine SR_pu (RD_pick_t rfl (hg46_4) rfl) rfl ?_
                      refine SR_nil ?_
                      refine SN.le (l := [(2, _), (3, _), (4, _), (5, _), (13, _), (14, _), (15, _), (16, _), (25, _), (260, _)]) ?_ (.cons rfl (.cons rfl (.cons rfl (.cons rfl (.cons rfl (.cons rfl (.cons rfl (.cons rfl (.cons rfl (.cons rfl (.nil)))))))))))
                      exact J0 (()) _ _ (.cons rfl (.cons rfl (.cons rfl (.cons rfl (.cons rfl (.cons rfl (.cons rfl (.cons rfl (.cons rfl (.cons' rfl (congrArg Value.bool (decide_eq_decide.2 (by have := of_decide_eq_true hg46_4; rw [hB]; omega))) (.nil))))))))))) (.fin)
                    · refine SR_no rfl rfl (hg46_4) (lts rfl) ?_
                      refine SR_no rfl rfl (hg46_4) (lts rfl) ?_
                      refine SR_no rfl rfl (hg46_4) (lts rfl) ?_
                      refine SR_no rfl rfl (hg46_4) (lts rfl) ?_
                      refine SR_no rfl rfl (hg46_4) (lts rfl) ?_
                      refine SR_no rfl rfl (hg46_4) (lts rfl) ?_
                      refine SR_no rfl rfl (hg46_4) (lts rfl) ?_
                      refine SR_no rfl rfl (hg46_4) (lts rfl) ?_
                      refine SR_pu (RD_pick_f rfl (hg46_4) rfl) rfl ?_
                      refine SR_nil ?_
                      refine SN.le (l := [(2, _), (3, _), (4, _), (5, _), (13, _), (14, _), (15, _), (16, _), (25, _), (260, _)]) ?_ (.cons rfl (.cons rfl (.cons rfl (.cons rfl (.cons rfl (.cons rfl (.cons rfl (.cons rfl (.cons rfl (.cons rfl (.nil)))))))))))
                      exact J0 (()) _ _ (.cons rfl (.cons rfl (.cons rfl (.cons rfl (.cons rfl (.cons rfl (.cons rfl (.cons rfl (.cons rfl (.cons' rfl (congrArg Value.bool (decide_eq_false (by have := of_decide_eq_false hg46_4; omega)).symm) (.nil))))))))))) (.fin)
            · refine SC_region ?_
              first
                | refine SR_pu (RD_fieldAddr0 Try.runUnderlying33 rfl rfl Try.sizeOf3 rfl) rfl ?_
                | refine SR_rd (RD_fieldAddrO 0 Try.runUnderlying33 rfl rfl Try.sizeOf3 rfl (by simp <;> omega)) Has.ro rfl ?_
              refine SR_rd (RD_load Try.isAgg3 rfl) (Has.ce rfl) rfl ?_
              refine SR_pu (RD_geq rfl rfl) rfl ?_
              refine SR_pu (RD_move rfl) rfl ?_
              refine SR_guard rfl rfl (fun hg15_3 => ?_) (fun hg15_3 => ?_)
              · refine SR_yes rfl rfl (hg15_3) ?_
                first
                  | refine SR_pu (RD_fieldAddr 1 Try.runUnderlying33 rfl rfl Try.sizeOf3 rfl) rfl ?_
                  | refine SR_rd (RD_fieldAddrO 1 Try.runUnderlying33 rfl rfl Try.sizeOf3 rfl (by simp <;> omega)) Has.ro rfl ?_
                refine SR_yes rfl rfl (hg15_3) ?_
                refine SR_rd (RD_load Try.isAgg3 rfl) (Has.ce rfl) rfl ?_
                refine SR_yes rfl rfl (hg15_3) ?_
                refine SR_pu (RD_move rfl) rfl ?_
                refine SR_yes rfl rfl (hg15_3) ?_
                refine SR_pu (RD_eql rfl rfl) rfl ?_
                refine SR_pu (RD_pick_t rfl (hg15_3) rfl) rfl ?_
                refine SR_pu (RD_move rfl) rfl ?_
                refine SR_guard rfl rfl (fun hg15_9 => ?_) (fun hg15_9 => ?_)
                · refine SR_yes rfl rfl (hg15_9) ?_
                  refine SR_pu (RD_move rfl) rfl ?_
                  refine SR_pu (RD_pick_t rfl (hg15_9) rfl) rfl ?_
                  refine SR_pu (RD_move rfl) rfl ?_
                  refine SR_guard rfl rfl (fun hg15_12 => ?_) (fun hg15_12 => ?_)
                  · have hp : C.pure.pre c l1 S = true := by
                      unfold Blk.pre
                      rw [he2, show decide (1 ≤ C.pure.view) = true from hg15_3, show decide (C.pure.author = c.lead C.pure.view) = true from hg15_9, show decide (C.pure.author ∈ signers S (D : Nat)) = true from hg15_12]
                      rfl
                    have hq : c.qcL l1 C.jv C.jb = l2 := by rw [← hl2]; unfold Blk.preL; rw [if_pos hp]; rfl
                    obtain ⟨qv, hqv⟩ : ∃ qv, c.qcOk l2 S C.jv C.jb C.by_.l = qv := ⟨_, rfl⟩
                    have hw : w0 = (qv && decide (C.jv < C.view) && decide ((C.envs.n : Int) ≤ c.bt)) := by
                      rw [← hw0]
                      unfold Blk.w0
                      rw [hp, show c.qcL l1 C.pure.jv C.pure.jb = l2 from hq, show c.qcOk l2 S C.pure.jv C.pure.jb C.pure.by_ = qv from hqv, Bool.true_and, hle]
                      rfl
                    refine SR_yes rfl rfl (hg15_12) ?_
                    refine SR_pu (RD_move rfl) rfl ?_
                    refine SR_yes rfl rfl (hg15_12) ?_
                    refine SR_rd (RD_loadA (vs := c.cells) Try.isAgg24 Try.sizeOf24 rfl rfl) Has.wh rfl ?_
                    refine SR_yes rfl rfl (hg15_12) ?_
                    first
                      | refine SR_pu (RD_fieldAddr 2 Try.runUnderlying33 rfl rfl Try.sizeOf30 rfl) rfl ?_
                      | refine SR_rd (RD_fieldAddrO 2 Try.runUnderlying33 rfl rfl Try.sizeOf30 rfl (by simp <;> omega)) Has.ro rfl ?_
                    refine SR_yes rfl rfl (hg15_12) ?_
                    refine SR_rd (RD_loadA (vs := QcD.cells ⟨C.jv, C.jb, C.by_⟩) Try.isAgg30 Try.sizeOf30 rfl rfl) (Has.ces (cs := C.cells) fun j v h => by rcases j with _ | _ | _ | j <;> simp [QcD.cells, BlkD.cells] at h ⊢ <;> exact h) rfl ?_
                    refine SR_yes rfl rfl (hg15_12) ?_
                    refine SR_call Try.call27 (.cons rfl (.cons rfl (.cons rfl (.nil)))) (CallsK.at (cert_QcOk' k ⟨l1, S⟩ c ⟨C.jv, C.jb, C.by_⟩ rfl hn1 (by dsimp only; omega) (by dsimp only; omega) (by omega) l2 qv hq hqv)) (lts rfl) ?_
                    rintro _ L13 ⟨rfl, hL13⟩
                    refine SR.lands hL13 ?_
                    refine SR_pu (RD_pick_t rfl (hg15_12) rfl) rfl ?_
                    refine SR_pu (RD_move rfl) rfl ?_
                    refine SR_guard rfl rfl (fun hg15_19 => ?_) (fun hg15_19 => ?_)
                    · refine SR_yes rfl rfl (hg15_19) ?_
                      first
                        | refine SR_pu (RD_fieldAddr 2 Try.runUnderlying33 rfl rfl Try.sizeOf30 rfl) rfl ?_
                        | refine SR_rd (RD_fieldAddrO 2 Try.runUnderlying33 rfl rfl Try.sizeOf30 rfl (by simp <;> omega)) Has.ro rfl ?_
                      refine SR_yes rfl rfl (hg15_19) ?_
                      first
                        | refine SR_pu (RD_fieldAddr0 Try.runUnderlying30 rfl rfl Try.sizeOf3 rfl) rfl ?_
                        | refine SR_rd (RD_fieldAddrO 0 Try.runUnderlying30 rfl rfl Try.sizeOf3 rfl (by simp <;> omega)) Has.ro rfl ?_
                      refine SR_yes rfl rfl (hg15_19) ?_
                      refine SR_rd (RD_load Try.isAgg3 rfl) (Has.ce rfl) rfl ?_
                      refine SR_yes rfl rfl (hg15_19) ?_
                      first
                        | refine SR_pu (RD_fieldAddr0 Try.runUnderlying33 rfl rfl Try.sizeOf3 rfl) rfl ?_
                        | refine SR_rd (RD_fieldAddrO 0 Try.runUnderlying33 rfl rfl Try.sizeOf3 rfl (by simp <;> omega)) Has.ro rfl ?_
                      refine SR_yes rfl rfl (hg15_19) ?_
                      refine SR_rd (RD_load Try.isAgg3 rfl) (Has.ce rfl) rfl ?_
                      refine SR_yes rfl rfl (hg15_19) ?_
                      refine SR_pu (RD_lss rfl rfl) rfl ?_
                      refine SR_pu (RD_pick_t rfl (hg15_19) rfl) rfl ?_
                      refine SR_pu (RD_move rfl) rfl ?_
                      refine SR_guard rfl rfl (fun hg15_27 => ?_) (fun hg15_27 => ?_)
                      · refine SR_yes rfl rfl (hg15_27) ?_
                        first
                          | refine SR_pu (RD_fieldAddr 5 Try.runUnderlying33 rfl rfl Try.sizeOf31 rfl) rfl ?_
                          | refine SR_rd (RD_fieldAddrO 5 Try.runUnderlying33 rfl rfl Try.sizeOf31 rfl (by simp <;> omega)) Has.ro rfl ?_
                        refine SR_yes rfl rfl (hg15_27) ?_
                        refine SR_rd (RD_load Try.isAgg31 rfl) (Has.ce rfl) rfl ?_
                        refine SR_yes rfl rfl (hg15_27) ?_
                        refine SR_pu (RD_len Try.runUnderlying31 rfl) rfl ?_
                        refine SR_yes rfl rfl (hg15_27) ?_
                        first
                          | refine SR_pu (RD_fieldAddr 5 Try.runUnderlying24 rfl rfl Try.sizeOf3 rfl) rfl ?_
                          | refine SR_rd (RD_fieldAddrO 5 Try.runUnderlying24 rfl rfl Try.sizeOf3 rfl (by simp <;> omega)) Has.ro rfl ?_
                        refine SR_yes rfl rfl (hg15_27) ?_
                        refine SR_rd (RD_load Try.isAgg3 rfl) (Has.ce rfl) rfl ?_
                        refine SR_yes rfl rfl (hg15_27) ?_
                        refine SR_pu (RD_leq rfl rfl) rfl ?_
                        refine SR_pu (RD_pick_t rfl (hg15_27) rfl) rfl ?_
                        refine SR_pu (RD_assign rfl) rfl ?_
                        refine SR_nil ?_
                        refine SN.le (l := [(2, _), (3, _), (4, _), (5, _), (13, _), (14, _), (15, _), (16, _), (18, _), (19, _)]) ?_ (.cons rfl (.cons rfl (.cons rfl (.cons rfl (.cons rfl (.cons rfl (.cons rfl (.cons rfl (.cons rfl (.cons rfl (.nil)))))))))))
                        exact J0 (()) _ _ (.cons rfl (.cons rfl (.cons rfl (.cons rfl (.cons rfl (.cons rfl (.cons rfl (.cons rfl (.cons rfl (.cons' rfl (congrArg Value.bool (by rw [hw, show qv = true from hg15_19, show decide (C.jv < C.view) = true from hg15_27]; rfl)) (.nil))))))))))) (.fin)
                      · refine SR_no rfl rfl (hg15_27) (lts rfl) ?_
                        refine SR_no rfl rfl (hg15_27) (lts rfl) ?_
                        refine SR_no rfl rfl (hg15_27) (lts rfl) ?_
                        refine SR_no rfl rfl (hg15_27) (lts rfl) ?_
                        refine SR_no rfl rfl (hg15_27) (lts rfl) ?_
                        refine SR_no rfl rfl (hg15_27) (lts rfl) ?_
                        refine SR_pu (RD_pick_f rfl (hg15_27) rfl) rfl ?_
                        refine SR_pu (RD_assign rfl) rfl ?_
                        refine SR_nil ?_
                        refine SN.le (l := [(2, _), (3, _), (4, _), (5, _), (13, _), (14, _), (15, _), (16, _), (18, _), (19, _)]) ?_ (.cons rfl (.cons rfl (.cons rfl (.cons rfl (.cons rfl (.cons rfl (.cons rfl (.cons rfl (.cons rfl (.cons rfl (.nil)))))))))))
                        exact J0 (()) _ _ (.cons rfl (.cons rfl (.cons rfl (.cons rfl (.cons rfl (.cons rfl (.cons rfl (.cons rfl (.cons rfl (.cons' rfl (congrArg Value.bool (by rw [hw, show decide (C.jv < C.view) = false from hg15_27, Bool.and_false]; rfl)) (.nil))))))))))) (.fin)
                    · refine SR_no rfl rfl (hg15_19) (lts rfl) ?_
                      refine SR_no rfl rfl (hg15_19) (lts rfl) ?_
                      refine SR_no rfl rfl (hg15_19) (lts rfl) ?_
                      refine SR_no rfl rfl (hg15_19) (lts rfl) ?_
                      refine SR_no rfl rfl (hg15_19) (lts rfl) ?_
                      refine SR_no rfl rfl (hg15_19) (lts rfl) ?_
                      refine SR_pu (RD_pick_f rfl (hg15_19) rfl) rfl ?_
                      refine SR_pu (RD_move rfl) rfl ?_
                      refine SR_no rfl rfl (rfl) (lts rfl) ?_
                      refine SR_no rfl rfl (rfl) (lts rfl) ?_
                      refine SR_no rfl rfl (rfl) (lts rfl) ?_
                      refine SR_no rfl rfl (rfl) (lts rfl) ?_
                      refine SR_no rfl rfl (rfl) (lts rfl) ?_
                      refine SR_no rfl rfl (rfl) (lts rfl) ?_
                      refine SR_pu (RD_pick_f rfl (rfl) rfl) rfl ?_
                      refine SR_pu (RD_assign rfl) rfl ?_
                      refine SR_nil ?_
                      refine SN.le (l := [(2, _), (3, _), (4, _), (5, _), (13, _), (14, _), (15, _), (16, _), (18, _), (19, _)]) ?_ (.cons rfl (.cons rfl (.cons rfl (.cons rfl (.cons rfl (.cons rfl (.cons rfl (.cons rfl (.cons rfl (.cons rfl (.nil)))))))))))
                      exact J0 (()) _ _ (.cons rfl (.cons rfl (.cons rfl (.cons rfl (.cons rfl (.cons rfl (.cons rfl (.cons rfl (.cons rfl (.cons' rfl (congrArg Value.bool (by rw [hw, show qv = false from hg15_19]; rfl)) (.nil))))))))))) (.fin)
                  · have hp : C.pure.pre c l1 S = false := by
                      unfold Blk.pre
                      rw [he2, show decide (C.pure.author ∈ signers S (D : Nat)) = false from hg15_12]
                      simp
                    have hq : l2 = l1 := by rw [← hl2]; unfold Blk.preL; rw [if_neg (by rw [hp]; decide)]
                    have hw : w0 = false := by rw [← hw0]; unfold Blk.w0; rw [hp]; rfl
                    refine SR_no rfl rfl (hg15_12) (lts rfl) ?_
                    refine SR_no rfl rfl (hg15_12) (lts rfl) ?_
                    refine SR_no rfl rfl (hg15_12) (lts rfl) ?_
                    refine SR_no rfl rfl (hg15_12) (lts rfl) ?_
                    refine SR_no rfl rfl (hg15_12) (lts rfl) ?_
                    refine SR_pu (RD_pick_f rfl (hg15_12) rfl) rfl ?_
                    refine SR_pu (RD_move rfl) rfl ?_
                    refine SR_no rfl rfl (rfl) (lts rfl) ?_
                    refine SR_no rfl rfl (rfl) (lts rfl) ?_
                    refine SR_no rfl rfl (rfl) (lts rfl) ?_
                    refine SR_no rfl rfl (rfl) (lts rfl) ?_
                    refine SR_no rfl rfl (rfl) (lts rfl) ?_
                    refine SR_no rfl rfl (rfl) (lts rfl) ?_
                    refine SR_pu (RD_pick_f rfl (rfl) rfl) rfl ?_
                    refine SR_pu (RD_move rfl) rfl ?_
                    refine SR_no rfl rfl (rfl) (lts rfl) ?_
                    refine SR_no rfl rfl (rfl) (lts rfl) ?_
                    refine SR_no rfl rfl (rfl) (lts rfl) ?_
                    refine SR_no rfl rfl (rfl) (lts rfl) ?_
                    refine SR_no rfl rfl (rfl) (lts rfl) ?_
                    refine SR_no rfl rfl (rfl) (lts rfl) ?_
                    refine SR_pu (RD_pick_f rfl (rfl) rfl) rfl ?_
                    refine SR_pu (RD_assign rfl) rfl ?_
                    refine SR_nil ?_
                    refine SN.le (l := [(2, _), (3, _), (4, _), (5, _), (13, _), (14, _), (15, _), (16, _), (18, _), (19, _)]) ?_ (.cons rfl (.cons rfl (.cons rfl (.cons rfl (.cons rfl (.cons rfl (.cons rfl (.cons rfl (.cons rfl (.cons rfl (.nil)))))))))))
                    exact J0 (()) _ _ (.cons rfl (.cons rfl (.cons rfl (.cons rfl (.cons rfl (.cons rfl (.cons rfl (.cons rfl (.cons rfl (.cons' rfl (congrArg Value.bool hw.symm) (.nil))))))))))) ((by rw [hq]; exact .fin))
                · have hp : C.pure.pre c l1 S = false := by
                    unfold Blk.pre
                    rw [he2, show decide (C.pure.author = c.lead C.pure.view) = false from hg15_9]
                    simp
                  have hq : l2 = l1 := by rw [← hl2]; unfold Blk.preL; rw [if_neg (by rw [hp]; decide)]
                  have hw : w0 = false := by rw [← hw0]; unfold Blk.w0; rw [hp]; rfl
                  refine SR_no rfl rfl (hg15_9) (lts rfl) ?_
                  refine SR_pu (RD_pick_f rfl (hg15_9) rfl) rfl ?_
                  refine SR_pu (RD_move rfl) rfl ?_
                  refine SR_no rfl rfl (rfl) (lts rfl) ?_
                  refine SR_no rfl rfl (rfl) (lts rfl) ?_
                  refine SR_no rfl rfl (rfl) (lts rfl) ?_
                  refine SR_no rfl rfl (rfl) (lts rfl) ?_
                  refine SR_no rfl rfl (rfl) (lts rfl) ?_
                  refine SR_pu (RD_pick_f rfl (rfl) rfl) rfl ?_
                  refine SR_pu (RD_move rfl) rfl ?_
                  refine SR_no rfl rfl (rfl) (lts rfl) ?_
                  refine SR_no rfl rfl (rfl) (lts rfl) ?_
                  refine SR_no rfl rfl (rfl) (lts rfl) ?_
                  refine SR_no rfl rfl (rfl) (lts rfl) ?_
                  refine SR_no rfl rfl (rfl) (lts rfl) ?_
                  refine SR_no rfl rfl (rfl) (lts rfl) ?_
                  refine SR_pu (RD_pick_f rfl (rfl) rfl) rfl ?_
                  refine SR_pu (RD_move rfl) rfl ?_
                  refine SR_no rfl rfl (rfl) (lts rfl) ?_
                  refine SR_no rfl rfl (rfl) (lts rfl) ?_
                  refine SR_no rfl rfl (rfl) (lts rfl) ?_
                  refine SR_no rfl rfl (rfl) (lts rfl) ?_
                  refine SR_no rfl rfl (rfl) (lts rfl) ?_
                  refine SR_no rfl rfl (rfl) (lts rfl) ?_
                  refine SR_pu (RD_pick_f rfl (rfl) rfl) rfl ?_
                  refine SR_pu (RD_assign rfl) rfl ?_
                  refine SR_nil ?_
                  refine SN.le (l := [(2, _), (3, _), (4, _), (5, _), (13, _), (14, _), (15, _), (16, _), (18, _), (19, _)]) ?_ (.cons rfl (.cons rfl (.cons rfl (.cons rfl (.cons rfl (.cons rfl (.cons rfl (.cons rfl (.cons rfl (.cons rfl (.nil)))))))))))
                  exact J0 (()) _ _ (.cons rfl (.cons rfl (.cons rfl (.cons rfl (.cons rfl (.cons rfl (.cons rfl (.cons rfl (.cons rfl (.cons' rfl (congrArg Value.bool hw.symm) (.nil))))))))))) ((by rw [hq]; exact .fin))
              · have hp : C.pure.pre c l1 S = false := by
                  unfold Blk.pre
                  rw [he2, show decide (1 ≤ C.pure.view) = false from hg15_3]
                  simp
                have hq : l2 = l1 := by rw [← hl2]; unfold Blk.preL; rw [if_neg (by rw [hp]; decide)]
                have hw : w0 = false := by rw [← hw0]; unfold Blk.w0; rw [hp]; rfl
                refine SR_no rfl rfl (hg15_3) (lts rfl) ?_
                refine SR_no rfl rfl (hg15_3) (lts rfl) ?_
                refine SR_no rfl rfl (hg15_3) (lts rfl) ?_
                refine SR_no rfl rfl (hg15_3) (lts rfl) ?_
                refine SR_pu (RD_pick_f rfl (hg15_3) rfl) rfl ?_
                refine SR_pu (RD_move rfl) rfl ?_
                refine SR_no rfl rfl (rfl) (lts rfl) ?_
                refine SR_pu (RD_pick_f rfl (rfl) rfl) rfl ?_
                refine SR_pu (RD_move rfl) rfl ?_
                refine SR_no rfl rfl (rfl) (lts rfl) ?_
                refine SR_no rfl rfl (rfl) (lts rfl) ?_
                refine SR_no rfl rfl (rfl) (lts rfl) ?_
                refine SR_no rfl rfl (rfl) (lts rfl) ?_
                refine SR_no rfl rfl (rfl) (lts rfl) ?_
                refine SR_pu (RD_pick_f rfl (rfl) rfl) rfl ?_
                refine SR_pu (RD_move rfl) rfl ?_
                refine SR_no rfl rfl (rfl) (lts rfl) ?_
                refine SR_no rfl rfl (rfl) (lts rfl) ?_
                refine SR_no rfl rfl (rfl) (lts rfl) ?_
                refine SR_no rfl rfl (rfl) (lts rfl) ?_
                refine SR_no rfl rfl (rfl) (lts rfl) ?_
                refine SR_no rfl rfl (rfl) (lts rfl) ?_
                refine SR_pu (RD_pick_f rfl (rfl) rfl) rfl ?_
                refine SR_pu (RD_move rfl) rfl ?_
                refine SR_no rfl rfl (rfl) (lts rfl) ?_
                refine SR_no rfl rfl (rfl) (lts rfl) ?_
                refine SR_no rfl rfl (rfl) (lts rfl) ?_
                refine SR_no rfl rfl (rfl) (lts rfl) ?_
                refine SR_no rfl rfl (rfl) (lts rfl) ?_
                refine SR_no rfl rfl (rfl) (lts rfl) ?_
                refine SR_pu (RD_pick_f rfl (rfl) rfl) rfl ?_
                refine SR_pu (RD_assign rfl) rfl ?_
                refine SR_nil ?_
                refine SN.le (l := [(2, _), (3, _), (4, _), (5, _), (13, _), (14, _), (15, _), (16, _), (18, _), (19, _)]) ?_ (.cons rfl (.cons rfl (.cons rfl (.cons rfl (.cons rfl (.cons rfl (.cons rfl (.cons rfl (.cons rfl (.cons rfl (.nil)))))))))))
                exact J0 (()) _ _ (.cons rfl (.cons rfl (.cons rfl (.cons rfl (.cons rfl (.cons rfl (.cons rfl (.cons rfl (.cons rfl (.cons' rfl (congrArg Value.bool hw.symm) (.nil))))))))))) ((by rw [hq]; exact .fin))
          · refine SC_cond rfl (fun hc63 => ?_) (fun hc63 => ?_)
            · have hv := of_decide_eq_true hc63
              refine SC_region ?_
              first
                | refine SR_pu (RD_fieldAddr0 Try.runUnderlying33 rfl rfl Try.sizeOf3 rfl) rfl ?_
                | refine SR_rd (RD_fieldAddrO 0 Try.runUnderlying33 rfl rfl Try.sizeOf3 rfl (by simp <;> omega)) Has.ro rfl ?_
              refine SR_rd (RD_load Try.isAgg3 rfl) (Has.ce rfl) rfl ?_
              first
                | refine SR_pu (RD_fieldAddr 1 Try.runUnderlying24 rfl rfl Try.sizeOf3 rfl) rfl ?_
                | refine SR_rd (RD_fieldAddrO 1 Try.runUnderlying24 rfl rfl Try.sizeOf3 rfl (by simp <;> omega)) Has.ro rfl ?_
              refine SR_rd (RD_load Try.isAgg3 rfl) (Has.ce rfl) rfl ?_
              refine SR_pu (RD_remi rfl rfl (by omega) (by omega)) rfl ?_
              refine SR_pu (RD_assign rfl) rfl ?_
              refine SR_nil ?_
              refine SN.le (l := [(2, _), (3, _), (4, _), (5, _), (13, _), (14, _), (15, _), (16, _), (17, _), (18, _)]) ?_ (.cons rfl (.cons rfl (.cons rfl (.cons rfl (.cons rfl (.cons rfl (.cons rfl (.cons rfl (.cons rfl (.cons rfl (.nil)))))))))))
              exact J0 (()) _ _ (.cons rfl (.cons rfl (.cons rfl (.cons rfl (.cons rfl (.cons rfl (.cons rfl (.cons rfl (.cons rfl (.cons' rfl (ie (by unfold CfgD.lead; rw [if_neg (by omega)])) (.nil))))))))))) (.fin)
            · have hv := of_decide_eq_false hc63
              refine SC_skip ?_
              exact J0 (()) _ _ (.cons rfl (.cons rfl (.cons rfl (.cons rfl (.cons rfl (.cons rfl (.cons rfl (.cons rfl (.cons rfl (.cons' rfl (ie (by unfold CfgD.lead; rw [if_pos (by omega)])) (.nil))))))))))) (.fin)
        · refine SC_drawn (.cons 0 true (.cons 2 true (.cons 3 true (.cons 4 true (.cons 9 true (.cons 10 true (.alts [1, 6] (fun i => bif Nat.beq i 1 then (.alts [5, 6] (fun i => bif Nat.beq i 5 then (.cons 6 false (.cons 7 false (.cons 8 false (.cons 11 false (.cons 12 false (.cons 13 false (.cons 14 false (.cons 15 false (.cons 16 true (.nil)))))))))) else (.alts [5, 7] (fun i => bif Nat.beq i 5 then (.cons 7 false (.cons 8 false (.cons 11 false (.cons 12 false (.cons 13 false (.cons 14 false (.cons 15 false (.cons 16 true (.nil))))))))) else (.cons 5 false (.cons 8 false (.cons 11 false (.cons 12 false (.cons 13 false (.cons 14 false (.cons 15 false (.cons 16 true (.nil))))))))))))) else (.alts [1, 7] (fun i => bif Nat.beq i 1 then (.alts [5, 7] (fun i => bif Nat.beq i 5 then (.cons 7 false (.cons 8 false (.cons 11 false (.cons 12 false (.cons 13 false (.cons 14 false (.cons 15 false (.cons 16 true (.nil))))))))) else (.cons 5 false (.cons 8 false (.cons 11 false (.cons 12 false (.cons 13 false (.cons 14 false (.cons 15 false (.cons 16 true (.nil))))))))))) else (.cons 1 false (.cons 5 false (.cons 8 false (.cons 11 false (.cons 12 false (.cons 13 false (.cons 14 false (.cons 15 false (.cons 16 true (.nil)))))))))))))))))))) (by kernel_rfl) (by kernel_rfl) ?_
          refine SQ_pu rfl (RD_move rfl) rfl ?_
          first
            | refine SQ_pu rfl (RD_fieldAddr 1 Try.runUnderlying33 rfl rfl Try.sizeOf3 rfl) rfl ?_
            | refine SQ_rd rfl (RD_fieldAddrO 1 Try.runUnderlying33 rfl rfl Try.sizeOf3 rfl (by simp <;> omega)) Has.ro rfl ?_
          refine SQ_rd rfl (RD_load Try.isAgg3 rfl) (Has.ce rfl) rfl ?_
          refine SQ_pu rfl (RD_move rfl) rfl ?_
          refine SQ_pu rfl (RD_move rfl) rfl ?_
          refine SQ_rd rfl (RD_loadA (vs := C.cells) Try.isAgg33 Try.sizeOf33 rfl rfl) Has.wh rfl ?_
          refine SQ_two ?_ ?_
          · refine SA_call rfl .free Try.call21 (.cons rfl (.nil)) (CallsK.at (w_Signs k ⟨l, S⟩)) (lts rfl) ?_
            rintro _ L6 ⟨rfl, hL6⟩
            refine ⟨.lands hL6 (.h Has.wh (.h (Has.ce rfl) (.nil))), ?_⟩
            refine SQ.lands hL6 ?_
            refine SQ_two ?_ ?_
            · refine SA_call rfl .free Try.call23 (.cons rfl (.nil)) (CallsK.at (w_Terms k ⟨l, S⟩)) (lts rfl) ?_
              rintro _ L7 ⟨rfl, hL7⟩
              refine ⟨.lands hL7 (.h Has.wh (.h (Has.ce rfl) (.nil))), ?_⟩
              refine SQ.lands hL7 ?_
              refine SQ_ox rfl (OX_lit1 Try.underlying53 Try.type5 rfl rfl rfl rfl (.cons rfl (.cons rfl (.cons rfl (.cons rfl (.nil))))) (.cons rfl (.cons rfl (.cons rfl (.cons rfl (.nil)))))) rfl ?_
              rintro _ _ ⟨b51, rfl, rfl⟩
              refine ⟨.h Has.wh (.h (Has.ce rfl) (.nil)), ?_⟩
              refine SQ_ox rfl (OX_mark Try.underlying53 Try.underlying5 rfl) rfl ?_
              rintro _ _ ⟨fz52, rfl, rfl⟩
              refine ⟨.h Has.wh (.h (Has.ce rfl) (.nil)), ?_⟩
              refine SQ_call rfl Try.call25 (.cons rfl (.nil)) (ref_Text (some ⟨b51, 0, none⟩) 4 4 [108, 101, 97, 100] (cs := [.int .u8 108, .int .u8 101, .int .u8 97, .int .u8 100]) rfl rfl (by omega)) (lts rfl) ?_
              rintro _ L8 ⟨ta, tc, rfl, hL8⟩
              refine ⟨.lands hL8 (.h Has.wh (.h (Has.ce rfl) (.nil))), ?_⟩
              refine SQ.lands hL8 ?_
              refine SQ_call rfl Try.call19 (.cons rfl (.cons rfl (.nil))) (CallsK.at (blok_DigestA k ⟨l, S⟩ C hf (by dsimp only; omega) (blkL l C.pure) (blkD l C.pure) rfl rfl)) (lts rfl) ?_
              rintro _ L9 ⟨rfl, hL9⟩
              dsimp only at hL9
              refine ⟨.lands hL9 (.w rfl (.h (Has.ce rfl) (.nil))), ?_⟩
              refine SQ.lands hL9 ?_
              refine SQ_call rfl Try.call26 (.cons rfl (.nil)) (ref_Int2 ((blkD l C.pure : Nat) : Int)) (lts rfl) ?_
              rintro _ L10 ⟨ja, jc, rfl, hL10⟩
              refine ⟨.lands hL10 (.h Has.wh (.h (Has.ce rfl) (.nil))), ?_⟩
              refine SQ.lands hL10 ?_
              refine SQ_ox rfl (OX_app 1 Try.underlying53 Try.underlying53 Try.type5 rfl rfl rfl rfl rfl (by first | rfl | simp; done | (simp; omega)) 1 rfl (by omega) (by omega)) rfl ?_
              rintro _ _ ⟨a58, c58, rfl, rfl⟩
              refine ⟨.h Has.wh (.h (Has.ce rfl) (.nil)), ?_⟩
              refine SQ_call rfl Try.call24 (.cons rfl (.cons rfl (.nil))) (CallsK.at (w_Digest k ⟨blkL l C.pure, S⟩ _ _ _ (leadB (blkD l C.pure : Nat)) (by simp [leadB, tagB]) (by unfold leadB; rw [tagB_len]; rfl) (by dsimp only; omega) l1 D hl1 (by rw [← hl1]; exact hD))) (lts rfl) ?_
              rintro _ L11 ⟨rfl, hL11⟩
              dsimp only at hL11
              refine ⟨.lands hL11 (.h Has.wh (.h (Has.ce rfl) (.nil))), ?_⟩
              refine SQ.lands hL11 ?_
              refine SQ_call rfl Try.call22 (.cons rfl (.cons rfl (.cons rfl (.nil)))) (CallsK.at (w_Has k ⟨l1, S⟩ C.author (D : Nat))) (lts rfl) ?_
              rintro _ L12 ⟨rfl, hL12⟩
              refine ⟨.lands hL12 (.h Has.wh (.w rfl (.nil))), ?_⟩
              refine SQ.lands hL12 ?_
              refine SQ_pu rfl (RD_assign rfl) rfl ?_
              refine SQ_nil ?_
              refine SN.le (l := [(2, _), (3, _), (4, _), (5, _), (13, _), (14, _), (15, _), (16, _), (17, _)]) ?_ (.cons rfl (.cons rfl (.cons rfl (.cons rfl (.cons rfl (.cons rfl (.cons rfl (.cons rfl (.cons rfl (.nil))))))))))
              exact J0 (()) _ _ (.cons rfl (.cons rfl (.cons rfl (.cons rfl (.cons rfl (.cons rfl (.cons rfl (.cons rfl (.cons rfl (.nil)))))))))) (.fin)
            · refine SA_ox rfl .free (OX_lit1 Try.underlying53 Try.type5 rfl rfl rfl rfl (.cons rfl (.cons rfl (.cons rfl (.cons rfl (.nil))))) (.cons rfl (.cons rfl (.cons rfl (.cons rfl (.nil)))))) rfl ?_
              rintro _ _ ⟨b51, rfl, rfl⟩
              refine ⟨.h Has.wh (.h (Has.ce rfl) (.nil)), ?_⟩
              refine SQ_two ?_ ?_
              · refine SA_call rfl .free Try.call23 (.cons rfl (.nil)) (CallsK.at (w_Terms k ⟨l, S⟩)) (lts rfl) ?_
                rintro _ L7 ⟨rfl, hL7⟩
                refine ⟨.lands hL7 (.h Has.wh (.h (Has.ce rfl) (.nil))), ?_⟩
                refine SQ.lands hL7 ?_
                refine SQ_ox rfl (OX_mark Try.underlying53 Try.underlying5 rfl) rfl ?_
                rintro _ _ ⟨fz52, rfl, rfl⟩
                refine ⟨.h Has.wh (.h (Has.ce rfl) (.nil)), ?_⟩
                refine SQ_call rfl Try.call25 (.cons rfl (.nil)) (ref_Text (some ⟨b51, 0, none⟩) 4 4 [108, 101, 97, 100] (cs := [.int .u8 108, .int .u8 101, .int .u8 97, .int .u8 100]) rfl rfl (by omega)) (lts rfl) ?_
                rintro _ L8 ⟨ta, tc, rfl, hL8⟩
                refine ⟨.lands hL8 (.h Has.wh (.h (Has.ce rfl) (.nil))), ?_⟩
                refine SQ.lands hL8 ?_
                refine SQ_call rfl Try.call19 (.cons rfl (.cons rfl (.nil))) (CallsK.at (blok_DigestA k ⟨l, S⟩ C hf (by dsimp only; omega) (blkL l C.pure) (blkD l C.pure) rfl rfl)) (lts rfl) ?_
                rintro _ L9 ⟨rfl, hL9⟩
                dsimp only at hL9
                refine ⟨.lands hL9 (.w rfl (.h (Has.ce rfl) (.nil))), ?_⟩
                refine SQ.lands hL9 ?_
                refine SQ_call rfl Try.call26 (.cons rfl (.nil)) (ref_Int2 ((blkD l C.pure : Nat) : Int)) (lts rfl) ?_
                rintro _ L10 ⟨ja, jc, rfl, hL10⟩
                refine ⟨.lands hL10 (.h Has.wh (.h (Has.ce rfl) (.nil))), ?_⟩
                refine SQ.lands hL10 ?_
                refine SQ_ox rfl (OX_app 1 Try.underlying53 Try.underlying53 Try.type5 rfl rfl rfl rfl rfl (by first | rfl | simp; done | (simp; omega)) 1 rfl (by omega) (by omega)) rfl ?_
                rintro _ _ ⟨a58, c58, rfl, rfl⟩
                refine ⟨.h Has.wh (.h (Has.ce rfl) (.nil)), ?_⟩
                refine SQ_call rfl Try.call24 (.cons rfl (.cons rfl (.nil))) (CallsK.at (w_Digest k ⟨blkL l C.pure, S⟩ _ _ _ (leadB (blkD l C.pure : Nat)) (by simp [leadB, tagB]) (by unfold leadB; rw [tagB_len]; rfl) (by dsimp only; omega) l1 D hl1 (by rw [← hl1]; exact hD))) (lts rfl) ?_
                rintro _ L11 ⟨rfl, hL11⟩
                dsimp only at hL11
                refine ⟨.lands hL11 (.h Has.wh (.h (Has.ce rfl) (.nil))), ?_⟩
                refine SQ.lands hL11 ?_
                refine SQ_call rfl Try.call22 (.cons rfl (.cons rfl (.cons rfl (.nil)))) (CallsK.at (w_Has k ⟨l1, S⟩ C.author (D : Nat))) (lts rfl) ?_
                rintro _ L12 ⟨rfl, hL12⟩
                refine ⟨.lands hL12 (.h Has.wh (.w rfl (.nil))), ?_⟩
                refine SQ.lands hL12 ?_
                refine SQ_pu rfl (RD_assign rfl) rfl ?_
                refine SQ_nil ?_
                refine SN.le (l := [(2, _), (3, _), (4, _), (5, _), (13, _), (14, _), (15, _), (16, _), (17, _)]) ?_ (.cons rfl (.cons rfl (.cons rfl (.cons rfl (.cons rfl (.cons rfl (.cons rfl (.cons rfl (.cons rfl (.nil))))))))))
                exact J0 (()) _ _ (.cons rfl (.cons rfl (.cons rfl (.cons rfl (.cons rfl (.cons rfl (.cons rfl (.cons rfl (.cons rfl (.nil)))))))))) (.fin)
              · refine SA_ox rfl .free (OX_mark Try.underlying53 Try.underlying5 rfl) rfl ?_
                rintro _ _ ⟨fz52, rfl, rfl⟩
                refine ⟨.h Has.wh (.h (Has.ce rfl) (.nil)), ?_⟩
                refine SQ_call rfl Try.call23 (.cons rfl (.nil)) (CallsK.at (w_Terms k ⟨l, S⟩)) (lts rfl) ?_
                rintro _ L7 ⟨rfl, hL7⟩
                refine ⟨.lands hL7 (.h Has.wh (.h (Has.ce rfl) (.nil))), ?_⟩
                refine SQ.lands hL7 ?_
                refine SQ_call rfl Try.call25 (.cons rfl (.nil)) (ref_Text (some ⟨b51, 0, none⟩) 4 4 [108, 101, 97, 100] (cs := [.int .u8 108, .int .u8 101, .int .u8 97, .int .u8 100]) rfl rfl (by omega)) (lts rfl) ?_
                rintro _ L8 ⟨ta, tc, rfl, hL8⟩
                refine ⟨.lands hL8 (.h Has.wh (.h (Has.ce rfl) (.nil))), ?_⟩
                refine SQ.lands hL8 ?_
                refine SQ_call rfl Try.call19 (.cons rfl (.cons rfl (.nil))) (CallsK.at (blok_DigestA k ⟨l, S⟩ C hf (by dsimp only; omega) (blkL l C.pure) (blkD l C.pure) rfl rfl)) (lts rfl) ?_
                rintro _ L9 ⟨rfl, hL9⟩
                dsimp only at hL9
                refine ⟨.lands hL9 (.w rfl (.h (Has.ce rfl) (.nil))), ?_⟩
                refine SQ.lands hL9 ?_
                refine SQ_call rfl Try.call26 (.cons rfl (.nil)) (ref_Int2 ((blkD l C.pure : Nat) : Int)) (lts rfl) ?_
                rintro _ L10 ⟨ja, jc, rfl, hL10⟩
                refine ⟨.lands hL10 (.h Has.wh (.h (Has.ce rfl) (.nil))), ?_⟩
                refine SQ.lands hL10 ?_
                refine SQ_ox rfl (OX_app 1 Try.underlying53 Try.underlying53 Try.type5 rfl rfl rfl rfl rfl (by first | rfl | simp; done | (simp; omega)) 1 rfl (by omega) (by omega)) rfl ?_
                rintro _ _ ⟨a58, c58, rfl, rfl⟩
                refine ⟨.h Has.wh (.h (Has.ce rfl) (.nil)), ?_⟩
                refine SQ_call rfl Try.call24 (.cons rfl (.cons rfl (.nil))) (CallsK.at (w_Digest k ⟨blkL l C.pure, S⟩ _ _ _ (leadB (blkD l C.pure : Nat)) (by simp [leadB, tagB]) (by unfold leadB; rw [tagB_len]; rfl) (by dsimp only; omega) l1 D hl1 (by rw [← hl1]; exact hD))) (lts rfl) ?_
                rintro _ L11 ⟨rfl, hL11⟩
                dsimp only at hL11
                refine ⟨.lands hL11 (.h Has.wh (.h (Has.ce rfl) (.nil))), ?_⟩
                refine SQ.lands hL11 ?_
                refine SQ_call rfl Try.call22 (.cons rfl (.cons rfl (.cons rfl (.nil)))) (CallsK.at (w_Has k ⟨l1, S⟩ C.author (D : Nat))) (lts rfl) ?_
                rintro _ L12 ⟨rfl, hL12⟩
                refine ⟨.lands hL12 (.h Has.wh (.w rfl (.nil))), ?_⟩
                refine SQ.lands hL12 ?_
                refine SQ_pu rfl (RD_assign rfl) rfl ?_
                refine SQ_nil ?_
                refine SN.le (l := [(2, _), (3, _), (4, _), (5, _), (13, _), (14, _), (15, _), (16, _), (17, _)]) ?_ (.cons rfl (.cons rfl (.cons rfl (.cons rfl (.cons rfl (.cons rfl (.cons rfl (.cons rfl (.cons rfl (.nil))))))))))
                exact J0 (()) _ _ (.cons rfl (.cons rfl (.cons rfl (.cons rfl (.cons rfl (.cons rfl (.cons rfl (.cons rfl (.cons rfl (.nil)))))))))) (.fin)
          · refine SA_ox rfl .free (OX_lit1 Try.underlying53 Try.type5 rfl rfl rfl rfl (.cons rfl (.cons rfl (.cons rfl (.cons rfl (.nil))))) (.cons rfl (.cons rfl (.cons rfl (.cons rfl (.nil)))))) rfl ?_
            rintro _ _ ⟨b51, rfl, rfl⟩
            refine ⟨.h Has.wh (.h (Has.ce rfl) (.nil)), ?_⟩
            refine SQ_two ?_ ?_
            · refine SA_call rfl .free Try.call21 (.cons rfl (.nil)) (CallsK.at (w_Signs k ⟨l, S⟩)) (lts rfl) ?_
              rintro _ L6 ⟨rfl, hL6⟩
              refine ⟨.lands hL6 (.h Has.wh (.h (Has.ce rfl) (.nil))), ?_⟩
              refine SQ.lands hL6 ?_
              refine SQ_two ?_ ?_
              · refine SA_call rfl .free Try.call23 (.cons rfl (.nil)) (CallsK.at (w_Terms k ⟨l, S⟩)) (lts rfl) ?_
                rintro _ L7 ⟨rfl, hL7⟩
                refine ⟨.lands hL7 (.h Has.wh (.h (Has.ce rfl) (.nil))), ?_⟩
                refine SQ.lands hL7 ?_
                refine SQ_ox rfl (OX_mark Try.underlying53 Try.underlying5 rfl) rfl ?_
                rintro _ _ ⟨fz52, rfl, rfl⟩
                refine ⟨.h Has.wh (.h (Has.ce rfl) (.nil)), ?_⟩
                refine SQ_call rfl Try.call25 (.cons rfl (.nil)) (ref_Text (some ⟨b51, 0, none⟩) 4 4 [108, 101, 97, 100] (cs := [.int .u8 108, .int .u8 101, .int .u8 97, .int .u8 100]) rfl rfl (by omega)) (lts rfl) ?_
                rintro _ L8 ⟨ta, tc, rfl, hL8⟩
                refine ⟨.lands hL8 (.h Has.wh (.h (Has.ce rfl) (.nil))), ?_⟩
                refine SQ.lands hL8 ?_
                refine SQ_call rfl Try.call19 (.cons rfl (.cons rfl (.nil))) (CallsK.at (blok_DigestA k ⟨l, S⟩ C hf (by dsimp only; omega) (blkL l C.pure) (blkD l C.pure) rfl rfl)) (lts rfl) ?_
                rintro _ L9 ⟨rfl, hL9⟩
                dsimp only at hL9
                refine ⟨.lands hL9 (.w rfl (.h (Has.ce rfl) (.nil))), ?_⟩
                refine SQ.lands hL9 ?_
                refine SQ_call rfl Try.call26 (.cons rfl (.nil)) (ref_Int2 ((blkD l C.pure : Nat) : Int)) (lts rfl) ?_
                rintro _ L10 ⟨ja, jc, rfl, hL10⟩
                refine ⟨.lands hL10 (.h Has.wh (.h (Has.ce rfl) (.nil))), ?_⟩
                refine SQ.lands hL10 ?_
                refine SQ_ox rfl (OX_app 1 Try.underlying53 Try.underlying53 Try.type5 rfl rfl rfl rfl rfl (by first | rfl | simp; done | (simp; omega)) 1 rfl (by omega) (by omega)) rfl ?_
                rintro _ _ ⟨a58, c58, rfl, rfl⟩
                refine ⟨.h Has.wh (.h (Has.ce rfl) (.nil)), ?_⟩
                refine SQ_call rfl Try.call24 (.cons rfl (.cons rfl (.nil))) (CallsK.at (w_Digest k ⟨blkL l C.pure, S⟩ _ _ _ (leadB (blkD l C.pure : Nat)) (by simp [leadB, tagB]) (by unfold leadB; rw [tagB_len]; rfl) (by dsimp only; omega) l1 D hl1 (by rw [← hl1]; exact hD))) (lts rfl) ?_
                rintro _ L11 ⟨rfl, hL11⟩
                dsimp only at hL11
                refine ⟨.lands hL11 (.h Has.wh (.h (Has.ce rfl) (.nil))), ?_⟩
                refine SQ.lands hL11 ?_
                refine SQ_call rfl Try.call22 (.cons rfl (.cons rfl (.cons rfl (.nil)))) (CallsK.at (w_Has k ⟨l1, S⟩ C.author (D : Nat))) (lts rfl) ?_
                rintro _ L12 ⟨rfl, hL12⟩
                refine ⟨.lands hL12 (.h Has.wh (.w rfl (.nil))), ?_⟩
                refine SQ.lands hL12 ?_
                refine SQ_pu rfl (RD_assign rfl) rfl ?_
                refine SQ_nil ?_
                refine SN.le (l := [(2, _), (3, _), (4, _), (5, _), (13, _), (14, _), (15, _), (16, _), (17, _)]) ?_ (.cons rfl (.cons rfl (.cons rfl (.cons rfl (.cons rfl (.cons rfl (.cons rfl (.cons rfl (.cons rfl (.nil))))))))))
                exact J0 (()) _ _ (.cons rfl (.cons rfl (.cons rfl (.cons rfl (.cons rfl (.cons rfl (.cons rfl (.cons rfl (.cons rfl (.nil)))))))))) (.fin)
              · refine SA_ox rfl .free (OX_mark Try.underlying53 Try.underlying5 rfl) rfl ?_
                rintro _ _ ⟨fz52, rfl, rfl⟩
                refine ⟨.h Has.wh (.h (Has.ce rfl) (.nil)), ?_⟩
                refine SQ_call rfl Try.call23 (.cons rfl (.nil)) (CallsK.at (w_Terms k ⟨l, S⟩)) (lts rfl) ?_
                rintro _ L7 ⟨rfl, hL7⟩
                refine ⟨.lands hL7 (.h Has.wh (.h (Has.ce rfl) (.nil))), ?_⟩
                refine SQ.lands hL7 ?_
                refine SQ_call rfl Try.call25 (.cons rfl (.nil)) (ref_Text (some ⟨b51, 0, none⟩) 4 4 [108, 101, 97, 100] (cs := [.int .u8 108, .int .u8 101, .int .u8 97, .int .u8 100]) rfl rfl (by omega)) (lts rfl) ?_
                rintro _ L8 ⟨ta, tc, rfl, hL8⟩
                refine ⟨.lands hL8 (.h Has.wh (.h (Has.ce rfl) (.nil))), ?_⟩
                refine SQ.lands hL8 ?_
                refine SQ_call rfl Try.call19 (.cons rfl (.cons rfl (.nil))) (CallsK.at (blok_DigestA k ⟨l, S⟩ C hf (by dsimp only; omega) (blkL l C.pure) (blkD l C.pure) rfl rfl)) (lts rfl) ?_
                rintro _ L9 ⟨rfl, hL9⟩
                dsimp only at hL9
                refine ⟨.lands hL9 (.w rfl (.h (Has.ce rfl) (.nil))), ?_⟩
                refine SQ.lands hL9 ?_
                refine SQ_call rfl Try.call26 (.cons rfl (.nil)) (ref_Int2 ((blkD l C.pure : Nat) : Int)) (lts rfl) ?_
                rintro _ L10 ⟨ja, jc, rfl, hL10⟩
                refine ⟨.lands hL10 (.h Has.wh (.h (Has.ce rfl) (.nil))), ?_⟩
                refine SQ.lands hL10 ?_
                refine SQ_ox rfl (OX_app 1 Try.underlying53 Try.underlying53 Try.type5 rfl rfl rfl rfl rfl (by first | rfl | simp; done | (simp; omega)) 1 rfl (by omega) (by omega)) rfl ?_
                rintro _ _ ⟨a58, c58, rfl, rfl⟩
                refine ⟨.h Has.wh (.h (Has.ce rfl) (.nil)), ?_⟩
                refine SQ_call rfl Try.call24 (.cons rfl (.cons rfl (.nil))) (CallsK.at (w_Digest k ⟨blkL l C.pure, S⟩ _ _ _ (leadB (blkD l C.pure : Nat)) (by simp [leadB, tagB]) (by unfold leadB; rw [tagB_len]; rfl) (by dsimp only; omega) l1 D hl1 (by rw [← hl1]; exact hD))) (lts rfl) ?_
                rintro _ L11 ⟨rfl, hL11⟩
                dsimp only at hL11
                refine ⟨.lands hL11 (.h Has.wh (.h (Has.ce rfl) (.nil))), ?_⟩
                refine SQ.lands hL11 ?_
                refine SQ_call rfl Try.call22 (.cons rfl (.cons rfl (.cons rfl (.nil)))) (CallsK.at (w_Has k ⟨l1, S⟩ C.author (D : Nat))) (lts rfl) ?_
                rintro _ L12 ⟨rfl, hL12⟩
                refine ⟨.lands hL12 (.h Has.wh (.w rfl (.nil))), ?_⟩
                refine SQ.lands hL12 ?_
                refine SQ_pu rfl (RD_assign rfl) rfl ?_
                refine SQ_nil ?_
                refine SN.le (l := [(2, _), (3, _), (4, _), (5, _), (13, _), (14, _), (15, _), (16, _), (17, _)]) ?_ (.cons rfl (.cons rfl (.cons rfl (.cons rfl (.cons rfl (.cons rfl (.cons rfl (.cons rfl (.cons rfl (.nil))))))))))
                exact J0 (()) _ _ (.cons rfl (.cons rfl (.cons rfl (.cons rfl (.cons rfl (.cons rfl (.cons rfl (.cons rfl (.cons rfl (.nil)))))))))) (.fin)
            · refine SA_ox rfl .free (OX_mark Try.underlying53 Try.underlying5 rfl) rfl ?_
              rintro _ _ ⟨fz52, rfl, rfl⟩
              refine ⟨.h Has.wh (.h (Has.ce rfl) (.nil)), ?_⟩
              refine SQ_call rfl Try.call21 (.cons rfl (.nil)) (CallsK.at (w_Signs k ⟨l, S⟩)) (lts rfl) ?_
              rintro _ L6 ⟨rfl, hL6⟩
              refine ⟨.lands hL6 (.h Has.wh (.h (Has.ce rfl) (.nil))), ?_⟩
              refine SQ.lands hL6 ?_
              refine SQ_call rfl Try.call23 (.cons rfl (.nil)) (CallsK.at (w_Terms k ⟨l, S⟩)) (lts rfl) ?_
              rintro _ L7 ⟨rfl, hL7⟩
              refine ⟨.lands hL7 (.h Has.wh (.h (Has.ce rfl) (.nil))), ?_⟩
              refine SQ.lands hL7 ?_
              refine SQ_call rfl Try.call25 (.cons rfl (.nil)) (ref_Text (some ⟨b51, 0, none⟩) 4 4 [108, 101, 97, 100] (cs := [.int .u8 108, .int .u8 101, .int .u8 97, .int .u8 100]) rfl rfl (by omega)) (lts rfl) ?_
              rintro _ L8 ⟨ta, tc, rfl, hL8⟩
              refine ⟨.lands hL8 (.h Has.wh (.h (Has.ce rfl) (.nil))), ?_⟩
              refine SQ.lands hL8 ?_
              refine SQ_call rfl Try.call19 (.cons rfl (.cons rfl (.nil))) (CallsK.at (blok_DigestA k ⟨l, S⟩ C hf (by dsimp only; omega) (blkL l C.pure) (blkD l C.pure) rfl rfl)) (lts rfl) ?_
              rintro _ L9 ⟨rfl, hL9⟩
              dsimp only at hL9
              refine ⟨.lands hL9 (.w rfl (.h (Has.ce rfl) (.nil))), ?_⟩
              refine SQ.lands hL9 ?_
              refine SQ_call rfl Try.call26 (.cons rfl (.nil)) (ref_Int2 ((blkD l C.pure : Nat) : Int)) (lts rfl) ?_
              rintro _ L10 ⟨ja, jc, rfl, hL10⟩
              refine ⟨.lands hL10 (.h Has.wh (.h (Has.ce rfl) (.nil))), ?_⟩
              refine SQ.lands hL10 ?_
              refine SQ_ox rfl (OX_app 1 Try.underlying53 Try.underlying53 Try.type5 rfl rfl rfl rfl rfl (by first | rfl | simp; done | (simp; omega)) 1 rfl (by omega) (by omega)) rfl ?_
              rintro _ _ ⟨a58, c58, rfl, rfl⟩
              refine ⟨.h Has.wh (.h (Has.ce rfl) (.nil)), ?_⟩
              refine SQ_call rfl Try.call24 (.cons rfl (.cons rfl (.nil))) (CallsK.at (w_Digest k ⟨blkL l C.pure, S⟩ _ _ _ (leadB (blkD l C.pure : Nat)) (by simp [leadB, tagB]) (by unfold leadB; rw [tagB_len]; rfl) (by dsimp only; omega) l1 D hl1 (by rw [← hl1]; exact hD))) (lts rfl) ?_
              rintro _ L11 ⟨rfl, hL11⟩
              dsimp only at hL11
              refine ⟨.lands hL11 (.h Has.wh (.h (Has.ce rfl) (.nil))), ?_⟩
              refine SQ.lands hL11 ?_
              refine SQ_call rfl Try.call22 (.cons rfl (.cons rfl (.cons rfl (.nil)))) (CallsK.at (w_Has k ⟨l1, S⟩ C.author (D : Nat))) (lts rfl) ?_
              rintro _ L12 ⟨rfl, hL12⟩
              refine ⟨.lands hL12 (.h Has.wh (.w rfl (.nil))), ?_⟩
              refine SQ.lands hL12 ?_
              refine SQ_pu rfl (RD_assign rfl) rfl ?_
              refine SQ_nil ?_
              refine SN.le (l := [(2, _), (3, _), (4, _), (5, _), (13, _), (14, _), (15, _), (16, _), (17, _)]) ?_ (.cons rfl (.cons rfl (.cons rfl (.cons rfl (.cons rfl (.cons rfl (.cons rfl (.cons rfl (.cons rfl (.nil))))))))))
              exact J0 (()) _ _ (.cons rfl (.cons rfl (.cons rfl (.cons rfl (.cons rfl (.cons rfl (.cons rfl (.cons rfl (.cons rfl (.nil)))))))))) (.fin)
      · clear ih
        refine SC_exit rfl ?_
        refine SN_seq ?_
        refine SC_seq ?_
        refine SC_region ?_
        refine SR_call Try.call14 (.nil) (blok_awake) (lts rfl) ?_
        rintro _ L3 ⟨rfl, hL3⟩
        refine SR.lands hL3 ?_
        refine SR_pu (RD_assign rfl) rfl ?_
        refine SR_nil ?_
        refine SN.le (l := [(12, _)]) ?_ (.cons rfl (.nil))
        refine SN_seq ?_
        refine SC_ret1 rfl rfl ?_
        exact ⟨rfl, Lands.trans (.fin : Lands _ G) hG⟩
  · refine SR_no rfl rfl (hg1_3) (lts rfl) ?_
    refine SR_no rfl rfl (hg1_3) (lts rfl) ?_
    refine SR_no rfl rfl (hg1_3) (lts rfl) ?_
    refine SR_pu (RD_pick_t rfl (hg1_3) rfl) rfl ?_
    refine SR_nil ?_
    refine SN.le (l := [(0, _), (2, _), (3, _), (4, _), (5, _), (7, _), (33, _)]) ?_ (.cons rfl (.cons rfl (.cons rfl (.cons rfl (.cons rfl (.cons rfl (.cons rfl (.nil))))))))
    refine SN_seq ?_
    refine SC_cond_true rfl (rfl) ?_
    refine SC_seq ?_
    refine SC_region ?_
    refine SR_call Try.call14 (.nil) (blok_awake) (lts rfl) ?_
    rintro _ L2 ⟨rfl, hL2⟩
    refine SR.lands hL2 ?_
    refine SR_pu (RD_assign rfl) rfl ?_
    refine SR_nil ?_
    refine SN.le (l := [(12, _)]) ?_ (.cons rfl (.nil))
    refine SN_seq ?_
    refine SC_ret1 rfl rfl ?_
    exact ⟨rfl, .fin⟩

end Go.Proofs.Ytnifaajdiolbjaa
