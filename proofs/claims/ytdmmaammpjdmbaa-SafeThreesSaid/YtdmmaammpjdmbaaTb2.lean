/- Rows of blocks, put in a tree: the walk. -/
import Derived.Test.YtdmmaammpjdmbaaTb
namespace Go.Proofs.Ytdmmaammpjdmbaa
open Go Go.Proofs
set_option maxRecDepth 100000
theorem SC_ret3 {W : World} {P : Program} {n : Nat} {k : Kont} {l : Env} {L : List HProp} {t u z : Tmp} {v x y : Value} (hr : k.root.1.results = #[.tmp t, .tmp u, .tmp z]) (hv : look l t = some v) (hx : look l u = some x) (hy : look l z = some y) (hk : k.root.2 (.tuple #[v, x, y]) L) : SC W P n .ret k l L :=
  SC_ret (fun tmps h w _ => by simp [results, hr, h t v hv, h u x hx, h z y hy]) hk
structure BX where
  i : Nat
  s : TS
  l : List (List UInt8)
  a : Option Addr
  c : Nat
  a2 : Option Addr
  c2 : Nat
  ds : List Int
  bs : List Blk

theorem law17_Blocks {W : World} {F : List HProp} [Abs F] (k : WK) (p : Nat) (a0 : Option Addr) (n0 c0 : Nat) (l0 : List Int) {cs : List Value} [HasRow F a0 cs] (hcs : cs = l0.map intV) (hn0 : l0.length = n0) :
    CallsK W Try.prog 34 #[.pointer (some ⟨k.p, 0, none⟩), .pointer (some ⟨p, 0, none⟩), .slice a0 n0 c0] (At treeI p (tS0 k.p) :: At worldI k ⟨[rootB], []⟩ :: F) (fun v L => ∃ x : BX, v = .tuple #[.slice x.a x.ds.length x.c, .slice x.a2 x.bs.length x.c2, .bool true] ∧ (∃ m, m ≤ 24 ∧ BI k.p x.s x.l x.ds x.bs m) ∧ Lands L (rowP 3 1 x.a x.ds.length x.c (x.ds.map intV) :: rowP 69 6 x.a2 x.bs.length x.c2 (x.bs.flatMap Blk.cells0) :: At treeI p x.s :: At worldI k ⟨x.l, []⟩ :: F)) := by
  refine CallsK_enter (n := 213) Try.func34 rfl rfl rfl ?_
  subst hcs
  refine SC_seq ?_
  refine SC_region ?_
  refine SR_pu (RD_assign rfl) rfl ?_
  refine SR_pu (RD_assign rfl) rfl ?_
  refine SR_pu (RD_assign rfl) rfl ?_
  refine SR_nil ?_
  refine SN.le (l := [(0, _), (1, _), (2, _)]) ?_ (.cons rfl (.cons rfl (.cons rfl (.nil))))
  refine SN_seq ?_
  refine SC_seq ?_
  refine SC_region ?_
  refine SR_pu (RD_move rfl) rfl ?_
  refine SR_call Try.call21 (.cons rfl (.nil)) (CallsK.at (cert_Root k ⟨[rootB], []⟩ (by simp) [rootB] 1 (by decide +kernel) (by decide +kernel))) (lts rfl) ?_
  rintro _ L2 ⟨rfl, hL2⟩
  try dsimp only at hL2
  refine SR.lands hL2 ?_
  refine SR_ox (OX_lit1 Try.underlying22 Try.type3 rfl rfl rfl rfl (.cons rfl (.nil)) (.cons rfl (.nil))) rfl ?_
  rintro _ _ ⟨b24, rfl, rfl⟩
  refine SR_pu (RD_build (.nil) built69) rfl ?_
  refine SR_ox (OX_lit Try.underlying56 Try.type69 rfl rfl rfl rfl (.cons rfl (.nil)) (.cons rfl rfl (.nil))) rfl ?_
  rintro _ _ ⟨b26, rfl, rfl⟩
  refine SR_pu (RD_assign rfl) rfl ?_
  refine SR_pu (RD_assign rfl) rfl ?_
  refine SR_nil ?_
  refine SN.le (l := [(0, _), (1, _), (2, _), (9, _), (10, _)]) ?_ (.cons rfl (.cons rfl (.cons rfl (.cons rfl (.cons rfl (.nil))))))
  refine SN_seq ?_
  refine SC_seq ?_
  refine SC_seq ?_
  refine SC_region ?_
  refine SR_pu (RD_assign rfl) rfl ?_
  refine SR_nil ?_
  refine SN.le (l := [(0, _), (1, _), (2, _), (9, _), (10, _), (11, _)]) ?_ (.cons rfl (.cons rfl (.cons rfl (.cons rfl (.cons rfl (.cons rfl (.nil)))))))
  refine SN_seq ?_
  refine SC_block ?_
  refine SC.lands (Lands.trans (.fin : Lands _ (pt b24 (.cells [.int .i64 ((1 : Nat) : Int)].toArray 3) :: pt b26 (.cells (([.int .i64 0, .int .i64 0, .int .i64 0, .int .i64 0, .slice none 0 0, .slice none 0 0] : List Value) ++ []).toArray 69) :: At treeI p (tS0 k.p) :: At worldI k ⟨[rootB], []⟩ :: F)) ((lit_row (E := 3) (z := 1) (b := b24) (cs := [1].map intV) 1 rfl).trans (Lands.cons (lit_row (E := 69) (z := 6) (b := b26) (cs := [zBlk].flatMap Blk.cells0) 1 rfl)))) ?_
  refine SC_ind (X := BX) (fun x => x.i ≤ 24 ∧ BI k.p x.s x.l x.ds x.bs x.i) (fun x => 24 - x.i) (fun x => [(0, .pointer (some ⟨k.p, 0, none⟩)), (1, .pointer (some ⟨p, 0, none⟩)), (2, .slice a0 n0 c0), (9, .slice x.a x.ds.length x.c), (10, .slice x.a2 x.bs.length x.c2), (11, .int .i64 (x.i : Nat))]) (fun x => rowP 3 1 x.a x.ds.length x.c (x.ds.map intV) :: rowP 69 6 x.a2 x.bs.length x.c2 (x.bs.flatMap Blk.cells0) :: At treeI p x.s :: At worldI k ⟨x.l, []⟩ :: F) (⟨0, tS0 k.p, [rootB], some ⟨b24, 0, none⟩, 1, some ⟨b26, 0, none⟩, 1, [1], [zBlk]⟩) (⟨by simp, BI.start k.p⟩) (.cons rfl (.cons rfl (.cons rfl (.cons rfl (.cons rfl (.cons rfl (.nil))))))) ((show Lands _ (rowP 3 1 (some ⟨b24, 0, none⟩) 1 1 ([1].map intV) :: rowP 69 6 (some ⟨b26, 0, none⟩) 1 1 ([zBlk].flatMap Blk.cells0) :: At treeI p (tS0 k.p) :: At worldI k ⟨[rootB], []⟩ :: F) from .fin)) ?_
  intro ⟨i, s, l, a, c, a2, c2, ds, bs⟩ hi ih0
  obtain ⟨hi1, hBI⟩ := hi
  dsimp only at hi1 hBI ih0 ⊢
  have hlen := hBI.len
  have hsz := hBI.size
  have har := hBI.arena
  have hpos : 0 < ds.length := (List.getElem?_eq_some_iff.1 hBI.first).1
  refine SC_seq ?_
  refine SC_seq ?_
  refine SC_region ?_
  refine SR_pu (RD_move rfl) rfl ?_
  refine SR_pu (RD_move rfl) rfl ?_
  refine SR_pu (RD_len Try.runUnderlying22 rfl) rfl ?_
  refine SR_pu (RD_lss rfl rfl) rfl ?_
  refine SR_pu (RD_move rfl) rfl ?_
  refine SR_guard rfl rfl (fun hg3_4 => ?_) (fun hg3_4 => ?_)
  · refine SR_yes rfl rfl (hg3_4) ?_
    refine SR_pu (RD_move rfl) rfl ?_
    refine SR_yes rfl rfl (hg3_4) ?_
    refine SR_pu (RD_lss rfl rfl) rfl ?_
    refine SR_pu (RD_pick_t rfl (hg3_4) rfl) rfl ?_
    refine SR_nil ?_
    refine SN.le (l := [(0, _), (1, _), (2, _), (9, _), (10, _), (11, _), (34, _)]) ?_ (.cons rfl (.cons rfl (.cons rfl (.cons rfl (.cons rfl (.cons rfl (.cons rfl (.nil))))))))
    refine SN_seq ?_
    refine SC_cond rfl (fun hc34 => ?_) (fun hc34 => ?_)
    · have hin : i < n0 := by simp at hg3_4; omega
      have hi24 : i < 24 := by simp at hc34; omega
      obtain ⟨z, hz⟩ : ∃ z, l0[i]? = some z := ⟨_, List.getElem?_eq_getElem (by omega)⟩
      refine SC_skip ?_
      refine SN_seq ?_
      refine SC_seq ?_
      refine SC_block ?_
      refine SC_seq ?_
      refine SC_region ?_
      refine SR_pu (RD_move rfl) rfl ?_
      refine SR_pu (RD_move rfl) rfl ?_
      refine SR_rd (RD_ixO Try.runUnderlying22 Try.sizeOf3 rfl rfl (by first | assumption | (simp; done) | (simp; omega)) (by omega) (by omega)) Has.ro rfl ?_
      refine SR_rd (RD_loadO (v := intV z) (cs := l0.map intV) Try.isAgg3 rfl (by simp [hz])) Has.ro rfl ?_
      refine SR_pu (RD_mask 8 rfl rfl rfl (by decide) 256 rfl) rfl ?_
      refine SR_pu (RD_move rfl) rfl ?_
      refine SR_pu (RD_len Try.runUnderlying22 rfl) rfl ?_
      refine SR_pu (RD_remi rfl rfl (by omega) (by omega)) rfl ?_
      refine SR_pu (RD_assign rfl) rfl ?_
      refine SR_nil ?_
      refine SN.le (l := [(0, _), (1, _), (2, _), (9, _), (10, _), (11, _), (12, _)]) ?_ (.cons rfl (.cons rfl (.cons rfl (.cons rfl (.cons rfl (.cons rfl (.cons rfl (.nil))))))))
      obtain ⟨o, ho⟩ : ∃ o : Nat, z % 256 % (ds.length : Int) = (o : Int) := ⟨(z % 256 % (ds.length : Int)).toNat, by rw [Int.toNat_of_nonneg (Int.emod_nonneg _ (by omega))]⟩
      have ho1 : o < ds.length := by have := Int.emod_lt_of_pos (z % 256) (show (0 : Int) < (ds.length : Int) by omega); omega
      rw [ho]
      obtain ⟨dp, hdp⟩ : ∃ d, ds[o]? = some d := ⟨_, List.getElem?_eq_getElem ho1⟩
      obtain ⟨bp, hbp⟩ : ∃ b, bs[o]? = some b := ⟨_, List.getElem?_eq_getElem (by omega)⟩
      have hbpf := hBI.flat bp (List.mem_of_getElem? hbp)
      have hdpf := hBI.dig dp (List.mem_of_getElem? hdp)
      refine SN_seq ?_
      refine SC_seq ?_
      refine SC_joinS2 (X := Nat × {b : Blk // NB b (i + 1)}) (fun q => [(0, .pointer (some ⟨k.p, 0, none⟩)), (1, .pointer (some ⟨p, 0, none⟩)), (2, .slice a0 n0 c0), (9, .slice a ds.length c), (10, .slice a2 bs.length c2), (11, .int .i64 (i : Nat)), (13, .pointer (some ⟨q.1, 0, none⟩))]) (fun q => pt q.1 (.cells [.int .i64 q.2.1.view, .int .i64 q.2.1.author, .int .i64 q.2.1.jv, .int .i64 q.2.1.jb, .slice none 0 0, .slice none 0 0].toArray 69) :: rowP 3 1 a ds.length c (ds.map intV) :: rowP 69 6 a2 bs.length c2 (bs.flatMap Blk.cells0) :: At treeI p s :: At worldI k ⟨l, []⟩ :: F) (fun ⟨b13, b, hNB⟩ => ?_) (fun J0 => ?_)
      · dsimp only
        haveI : ∀ R, HasRow R b.toD.by_.a (b.toD.by_.l.map intV) := fun R => (HasRow.nil : HasRow R none [])
        haveI : ∀ R, HasRow R b.toD.envs.a (b.toD.envs.l.flatMap EnvD.cells) := fun R => (HasRow.nil : HasRow R none [])
        refine SN_seq ?_
        refine SC_seq ?_
        refine SC_region ?_
        refine SR_pu (RD_assign rfl) rfl ?_
        refine SR_pu (RD_assign rfl) rfl ?_
        refine SR_nil ?_
        refine SN.le (l := [(0, _), (1, _), (2, _), (9, _), (10, _), (11, _), (13, _), (14, _), (15, _)]) ?_ (.cons rfl (.cons rfl (.cons rfl (.cons rfl (.cons rfl (.cons rfl (.cons rfl (.cons rfl (.cons rfl (.nil))))))))))
        refine SN_seq ?_
        refine SC_seq ?_
        refine SC_seq ?_
        refine SC_region ?_
        refine SR_pu (RD_assign rfl) rfl ?_
        refine SR_nil ?_
        refine SN.le (l := [(0, _), (1, _), (2, _), (9, _), (10, _), (11, _), (13, _), (14, _), (15, _), (16, _)]) ?_ (.cons rfl (.cons rfl (.cons rfl (.cons rfl (.cons rfl (.cons rfl (.cons rfl (.cons rfl (.cons rfl (.cons rfl (.nil)))))))))))
        refine SN_seq ?_
        refine SC_block ?_
        refine SC_ind (X := Nat × Int) (fun x => x.1 ≤ ds.length ∧ ((x.2 = -1 ∧ ∀ d ∈ ds.take x.1, d ≠ b.jb) ∨ ∃ t : Nat, x.2 = t ∧ ds[t]? = some b.jb)) (fun x => ds.length - x.1) (fun x => [(0, .pointer (some ⟨k.p, 0, none⟩)), (1, .pointer (some ⟨p, 0, none⟩)), (2, .slice a0 n0 c0), (9, .slice a ds.length c), (10, .slice a2 bs.length c2), (11, .int .i64 (i : Nat)), (13, .pointer (some ⟨b13, 0, none⟩)), (14, .int .i64 0), (15, .int .i64 x.2), (16, .int .i64 (x.1 : Nat))]) (fun x => pt b13 (.cells [.int .i64 b.view, .int .i64 b.author, .int .i64 b.jv, .int .i64 b.jb, .slice none 0 0, .slice none 0 0].toArray 69) :: rowP 3 1 a ds.length c (ds.map intV) :: rowP 69 6 a2 bs.length c2 (bs.flatMap Blk.cells0) :: At treeI p s :: At worldI k ⟨l, []⟩ :: F) ((0, -1)) (⟨by simp, .inl ⟨rfl, by simp⟩⟩) (.cons rfl (.cons rfl (.cons rfl (.cons rfl (.cons rfl (.cons rfl (.cons rfl (.cons rfl (.cons rfl (.cons rfl (.nil))))))))))) (.fin) ?_
        intro ⟨j, at_⟩ hi ih1
        obtain ⟨hj1, hat⟩ := hi
        dsimp only at hj1 hat ih1 ⊢
        refine SC_seq ?_
        refine SC_seq ?_
        refine SC_region ?_
        refine SR_pu (RD_move rfl) rfl ?_
        refine SR_pu (RD_move rfl) rfl ?_
        refine SR_pu (RD_len Try.runUnderlying22 rfl) rfl ?_
        refine SR_pu (RD_lss rfl rfl) rfl ?_
        refine SR_nil ?_
        refine SN.le (l := [(0, _), (1, _), (2, _), (9, _), (10, _), (11, _), (13, _), (14, _), (15, _), (16, _), (107, _)]) ?_ (.cons rfl (.cons rfl (.cons rfl (.cons rfl (.cons rfl (.cons rfl (.cons rfl (.cons rfl (.cons rfl (.cons rfl (.cons rfl (.nil))))))))))))
        refine SN_seq ?_
        refine SC_cond rfl (fun hc107 => ?_) (fun hc107 => ?_)
        · have hjn : j < ds.length := by simp at hc107; omega
          obtain ⟨d, hd⟩ : ∃ d, ds[j]? = some d := ⟨_, List.getElem?_eq_getElem hjn⟩
          have htk : ds.take (j + 1) = ds.take j ++ [d] := by rw [List.take_add_one, hd]; rfl
          refine SC_skip ?_
          refine SN_seq ?_
          refine SC_seq ?_
          refine SC_block ?_
          refine SC_seq ?_
          refine SC_drawn (.cons 0 true (.cons 1 true (.cons 2 true (.cons 3 true (.cons 4 true (.cons 5 true (.cons 6 true (.cons 7 true (.nil))))))))) (by kernel_rfl) (by kernel_rfl) ?_
          refine SQ_pu rfl (RD_move rfl) rfl ?_
          refine SQ_pu rfl (RD_move rfl) rfl ?_
          refine SQ_rd rfl (RD_ixO Try.runUnderlying22 Try.sizeOf3 rfl rfl (by first | assumption | (simp; done) | (simp; omega)) (by omega) (by omega)) Has.ro rfl ?_
          refine SQ_rd rfl (RD_loadO (v := intV d) (cs := ds.map intV) Try.isAgg3 rfl (by simp [hd])) Has.ro rfl ?_
          first
            | refine SQ_pu rfl (RD_fieldAddr 2 Try.runUnderlying69 rfl rfl Try.sizeOf34 rfl) rfl ?_
            | refine SQ_rd rfl (RD_fieldAddrO 2 Try.runUnderlying69 rfl rfl Try.sizeOf34 rfl (by simp <;> omega)) Has.ro rfl ?_
          first
            | refine SQ_pu rfl (RD_fieldAddr 1 Try.runUnderlying34 rfl rfl Try.sizeOf3 rfl) rfl ?_
            | refine SQ_rd rfl (RD_fieldAddrO 1 Try.runUnderlying34 rfl rfl Try.sizeOf3 rfl (by simp <;> omega)) Has.ro rfl ?_
          refine SQ_rd rfl (RD_load Try.isAgg3 rfl) (Has.ce rfl) rfl ?_
          refine SQ_pu rfl (RD_eql rfl rfl) rfl ?_
          refine SQ_nil ?_
          refine SN.le (l := [(0, _), (1, _), (2, _), (9, _), (10, _), (11, _), (13, _), (14, _), (15, _), (16, _), (117, _)]) ?_ (.cons rfl (.cons rfl (.cons rfl (.cons rfl (.cons rfl (.cons rfl (.cons rfl (.cons rfl (.cons rfl (.cons rfl (.cons rfl (.nil))))))))))))
          refine SN_seq ?_
          refine SC_cond rfl (fun hc117 => ?_) (fun hc117 => ?_)
          · have hdj : d = b.jb := by simpa using hc117
            refine SC_region ?_
            refine SR_pu (RD_move rfl) rfl ?_
            refine SR_pu (RD_assign rfl) rfl ?_
            refine SR_nil ?_
            refine SN.le (l := [(0, _), (1, _), (2, _), (9, _), (10, _), (11, _), (13, _), (14, _), (15, _), (16, _)]) ?_ (.cons rfl (.cons rfl (.cons rfl (.cons rfl (.cons rfl (.cons rfl (.cons rfl (.cons rfl (.cons rfl (.cons rfl (.nil)))))))))))
            refine SN_block ?_
            refine SN_seq ?_
            refine SC_region ?_
            refine SR_pu (RD_move rfl) rfl ?_
            refine SR_pu (RD_addi rfl rfl (by omega) (by omega)) rfl ?_
            refine SR_pu (RD_assign rfl) rfl ?_
            refine SR_nil ?_
            refine SN.le (l := [(0, _), (1, _), (2, _), (9, _), (10, _), (11, _), (13, _), (14, _), (15, _), (16, _)]) ?_ (.cons rfl (.cons rfl (.cons rfl (.cons rfl (.cons rfl (.cons rfl (.cons rfl (.cons rfl (.cons rfl (.cons rfl (.nil)))))))))))
            refine SC_again (ih1 ((j + 1, (j : Int))) (⟨by dsimp only; omega, .inr ⟨j, rfl, by rw [hd, hdj]⟩⟩) (by dsimp only; omega)) (.fin) (.cons rfl (.cons rfl (.cons rfl (.cons rfl (.cons rfl (.cons rfl (.cons rfl (.cons rfl (.cons rfl (.cons' rfl (ie (by dsimp only; omega)) (.nil)))))))))))
          · have hdj : ¬ d = b.jb := by simpa using hc117
            refine SC_skip ?_
            refine SN_block ?_
            refine SN_seq ?_
            refine SC_region ?_
            refine SR_pu (RD_move rfl) rfl ?_
            refine SR_pu (RD_addi rfl rfl (by omega) (by omega)) rfl ?_
            refine SR_pu (RD_assign rfl) rfl ?_
            refine SR_nil ?_
            refine SN.le (l := [(0, _), (1, _), (2, _), (9, _), (10, _), (11, _), (13, _), (14, _), (15, _), (16, _)]) ?_ (.cons rfl (.cons rfl (.cons rfl (.cons rfl (.cons rfl (.cons rfl (.cons rfl (.cons rfl (.cons rfl (.cons rfl (.nil)))))))))))
            refine SC_again (ih1 ((j + 1, at_)) (⟨by dsimp only; omega, hat.imp (fun h => ⟨h.1, fun x hx => by dsimp only at hx; rw [htk] at hx; rcases List.mem_append.1 hx with h2 | h2; exact h.2 x h2; simp at h2; exact h2 ▸ hdj⟩) id⟩) (by dsimp only; omega)) (.fin) (.cons rfl (.cons rfl (.cons rfl (.cons rfl (.cons rfl (.cons rfl (.cons rfl (.cons rfl (.cons rfl (.cons' rfl (ie (by dsimp only; omega)) (.nil)))))))))))
        · have hjn : j = ds.length := by simp at hc107; omega
          rw [hjn, List.take_length] at hat
          clear ih1
          refine SC_exit rfl ?_
          refine SN_seq ?_
          refine SC_seq ?_
          refine SC_region ?_
          refine SR_pu (RD_move rfl) rfl ?_
          refine SR_rd (RD_loadA Try.isAgg69 Try.sizeOf69 rfl rfl) Has.wh rfl ?_
          refine SR_call Try.call44 (.cons rfl (.cons rfl (.nil))) (CallsK.at (blok_Digest k ⟨l, []⟩ b.toD rfl rfl rfl rfl (fun e he => nomatch he) (by simp [Blk.toD]) (by simp [Blk.toD]) (by dsimp only; omega))) (lts rfl) ?_
          rintro _ L1 ⟨rfl, hL1⟩
          try dsimp only at hL1
          rw [hNB.pure] at hL1
          rw [hNB.pure]
          refine SR.lands hL1 ?_
          refine SR_pu (RD_assign rfl) rfl ?_
          refine SR_nil ?_
          refine SN.le (l := [(0, _), (1, _), (2, _), (9, _), (10, _), (11, _), (13, _), (14, _), (15, _), (17, _)]) ?_ (.cons rfl (.cons rfl (.cons rfl (.cons rfl (.cons rfl (.cons rfl (.cons rfl (.cons rfl (.cons rfl (.cons rfl (.nil)))))))))))
          refine SN_seq ?_
          refine SC_seq ?_
          refine SC_region ?_
          refine SR_pu (RD_assign rfl) rfl ?_
          refine SR_nil ?_
          refine SN.le (l := [(0, _), (1, _), (2, _), (9, _), (10, _), (11, _), (13, _), (14, _), (15, _), (17, _), (18, _)]) ?_ (.cons rfl (.cons rfl (.cons rfl (.cons rfl (.cons rfl (.cons rfl (.cons rfl (.cons rfl (.cons rfl (.cons rfl (.cons rfl (.nil))))))))))))
          refine SN_seq ?_
          refine SC_seq ?_
          refine SC_seq ?_
          refine SC_region ?_
          refine SR_pu (RD_assign rfl) rfl ?_
          refine SR_nil ?_
          refine SN.le (l := [(0, _), (1, _), (2, _), (9, _), (10, _), (11, _), (13, _), (14, _), (15, _), (17, _), (18, _), (19, _)]) ?_ (.cons rfl (.cons rfl (.cons rfl (.cons rfl (.cons rfl (.cons rfl (.cons rfl (.cons rfl (.cons rfl (.cons rfl (.cons rfl (.cons rfl (.nil)))))))))))))
          refine SN_seq ?_
          refine SC_block ?_
          refine SC_ind (X := Nat) (fun j => j ≤ ds.length) (fun j => ds.length - j) (fun j => [(0, .pointer (some ⟨k.p, 0, none⟩)), (1, .pointer (some ⟨p, 0, none⟩)), (2, .slice a0 n0 c0), (9, .slice a ds.length c), (10, .slice a2 bs.length c2), (11, .int .i64 (i : Nat)), (13, .pointer (some ⟨b13, 0, none⟩)), (14, .int .i64 0), (15, .int .i64 at_), (17, .int .i64 ((blkD l b : Nat) : Int)), (18, .bool (decide (((blkD l b : Nat) : Int) ∈ ds.take j))), (19, .int .i64 (j : Nat))]) (fun j => pt b13 (.cells [.int .i64 b.view, .int .i64 b.author, .int .i64 b.jv, .int .i64 b.jb, .slice none 0 0, .slice none 0 0].toArray 69) :: rowP 3 1 a ds.length c (ds.map intV) :: rowP 69 6 a2 bs.length c2 (bs.flatMap Blk.cells0) :: At treeI p s :: At worldI k ⟨(blkL l b), []⟩ :: F) (0) (by omega) (.cons rfl (.cons rfl (.cons rfl (.cons rfl (.cons rfl (.cons rfl (.cons rfl (.cons rfl (.cons rfl (.cons rfl (.cons' rfl (by simp) (.cons rfl (.nil))))))))))))) (.fin) ?_
          intro j hi ih2
          refine SC_seq ?_
          refine SC_seq ?_
          refine SC_region ?_
          refine SR_pu (RD_move rfl) rfl ?_
          refine SR_pu (RD_move rfl) rfl ?_
          refine SR_pu (RD_len Try.runUnderlying22 rfl) rfl ?_
          refine SR_pu (RD_lss rfl rfl) rfl ?_
          refine SR_nil ?_
          refine SN.le (l := [(0, _), (1, _), (2, _), (9, _), (10, _), (11, _), (13, _), (14, _), (15, _), (17, _), (18, _), (19, _), (125, _)]) ?_ (.cons rfl (.cons rfl (.cons rfl (.cons rfl (.cons rfl (.cons rfl (.cons rfl (.cons rfl (.cons rfl (.cons rfl (.cons rfl (.cons rfl (.cons rfl (.nil))))))))))))))
          refine SN_seq ?_
          refine SC_cond rfl (fun hc125 => ?_) (fun hc125 => ?_)
          · have hjn2 : j < ds.length := by simp at hc125; omega
            obtain ⟨d, hd⟩ : ∃ d, ds[j]? = some d := ⟨_, List.getElem?_eq_getElem hjn2⟩
            have htk : ds.take (j + 1) = ds.take j ++ [d] := by rw [List.take_add_one, hd]; rfl
            refine SC_skip ?_
            refine SN_seq ?_
            refine SC_seq ?_
            refine SC_block ?_
            refine SC_region ?_
            refine SR_pu (RD_move rfl) rfl ?_
            refine SR_pu (RD_move rfl) rfl ?_
            refine SR_guard rfl rfl (fun hg22_1 => ?_) (fun hg22_1 => ?_)
            · refine SR_yes rfl rfl (hg22_1) ?_
              refine SR_pu (RD_move rfl) rfl ?_
              refine SR_yes rfl rfl (hg22_1) ?_
              refine SR_pu (RD_move rfl) rfl ?_
              refine SR_yes rfl rfl (hg22_1) ?_
              refine SR_rd (RD_ixO Try.runUnderlying22 Try.sizeOf3 rfl rfl (by first | assumption | (simp; done) | (simp; omega)) (by omega) (by omega)) Has.ro rfl ?_
              refine SR_yes rfl rfl (hg22_1) ?_
              refine SR_rd (RD_loadO (v := intV d) (cs := ds.map intV) Try.isAgg3 rfl (by simp [hd])) Has.ro rfl ?_
              refine SR_yes rfl rfl (hg22_1) ?_
              refine SR_pu (RD_move rfl) rfl ?_
              refine SR_yes rfl rfl (hg22_1) ?_
              refine SR_pu (RD_eql rfl rfl) rfl ?_
              refine SR_pu (RD_pick_f rfl (hg22_1) rfl) rfl ?_
              refine SR_pu (RD_assign rfl) rfl ?_
              refine SR_nil ?_
              refine SN.le (l := [(0, _), (1, _), (2, _), (9, _), (10, _), (11, _), (13, _), (14, _), (15, _), (17, _), (18, _), (19, _)]) ?_ (.cons rfl (.cons rfl (.cons rfl (.cons rfl (.cons rfl (.cons rfl (.cons rfl (.cons rfl (.cons rfl (.cons rfl (.cons rfl (.cons rfl (.nil)))))))))))))
              refine SN_block ?_
              refine SN_seq ?_
              refine SC_region ?_
              refine SR_pu (RD_move rfl) rfl ?_
              refine SR_pu (RD_addi rfl rfl (by omega) (by omega)) rfl ?_
              refine SR_pu (RD_assign rfl) rfl ?_
              refine SR_nil ?_
              refine SN.le (l := [(0, _), (1, _), (2, _), (9, _), (10, _), (11, _), (13, _), (14, _), (15, _), (17, _), (18, _), (19, _)]) ?_ (.cons rfl (.cons rfl (.cons rfl (.cons rfl (.cons rfl (.cons rfl (.cons rfl (.cons rfl (.cons rfl (.cons rfl (.cons rfl (.cons rfl (.nil)))))))))))))
              refine SC_again (ih2 (j + 1) (by omega) (by omega)) (.fin) (.cons rfl (.cons rfl (.cons rfl (.cons rfl (.cons rfl (.cons rfl (.cons rfl (.cons rfl (.cons rfl (.cons rfl (.cons' rfl (by rw [htk]; have h := of_decide_eq_false hg22_1; simp [h, eq_comm]) (.cons' rfl (ie (by omega)) (.nil)))))))))))))
            · refine SR_no rfl rfl (hg22_1) (lts rfl) ?_
              refine SR_no rfl rfl (hg22_1) (lts rfl) ?_
              refine SR_no rfl rfl (hg22_1) (lts rfl) ?_
              refine SR_no rfl rfl (hg22_1) (lts rfl) ?_
              refine SR_no rfl rfl (hg22_1) (lts rfl) ?_
              refine SR_no rfl rfl (hg22_1) (lts rfl) ?_
              refine SR_pu (RD_pick_t rfl (hg22_1) rfl) rfl ?_
              refine SR_pu (RD_assign rfl) rfl ?_
              refine SR_nil ?_
              refine SN.le (l := [(0, _), (1, _), (2, _), (9, _), (10, _), (11, _), (13, _), (14, _), (15, _), (17, _), (18, _), (19, _)]) ?_ (.cons rfl (.cons rfl (.cons rfl (.cons rfl (.cons rfl (.cons rfl (.cons rfl (.cons rfl (.cons rfl (.cons rfl (.cons rfl (.cons rfl (.nil)))))))))))))
              refine SN_block ?_
              refine SN_seq ?_
              refine SC_region ?_
              refine SR_pu (RD_move rfl) rfl ?_
              refine SR_pu (RD_addi rfl rfl (by omega) (by omega)) rfl ?_
              refine SR_pu (RD_assign rfl) rfl ?_
              refine SR_nil ?_
              refine SN.le (l := [(0, _), (1, _), (2, _), (9, _), (10, _), (11, _), (13, _), (14, _), (15, _), (17, _), (18, _), (19, _)]) ?_ (.cons rfl (.cons rfl (.cons rfl (.cons rfl (.cons rfl (.cons rfl (.cons rfl (.cons rfl (.cons rfl (.cons rfl (.cons rfl (.cons rfl (.nil)))))))))))))
              refine SC_again (ih2 (j + 1) (by omega) (by omega)) (.fin) (.cons rfl (.cons rfl (.cons rfl (.cons rfl (.cons rfl (.cons rfl (.cons rfl (.cons rfl (.cons rfl (.cons rfl (.cons' rfl (by rw [htk]; have h := of_decide_eq_true hg22_1; simp [h]) (.cons' rfl (ie (by omega)) (.nil)))))))))))))
          · have hjn2 : j = ds.length := by simp at hc125; omega
            rw [hjn2, List.take_length]
            clear ih2
            have hput := hBI.put hNB (by omega)
            refine SC_exit rfl ?_
            refine SN_seq ?_
            refine SC_seq ?_
            refine SC_join (X := {e : Int // e = (s.add (blkL l b) b).1.2}) (fun e => [(0, .pointer (some ⟨k.p, 0, none⟩)), (1, .pointer (some ⟨p, 0, none⟩)), (2, .slice a0 n0 c0), (9, .slice a ds.length c), (10, .slice a2 bs.length c2), (11, .int .i64 (i : Nat)), (13, .pointer (some ⟨b13, 0, none⟩)), (14, .int .i64 e.1), (17, .int .i64 ((blkD l b : Nat) : Int))]) (fun e => pt b13 (.cells [.int .i64 b.view, .int .i64 b.author, .int .i64 b.jv, .int .i64 b.jb, .slice none 0 0, .slice none 0 0].toArray 69) :: rowP 3 1 a ds.length c (ds.map intV) :: rowP 69 6 a2 bs.length c2 (bs.flatMap Blk.cells0) :: At treeI p s :: At worldI k ⟨(blkL l b), []⟩ :: F) (fun ⟨e, he⟩ => ?_) (fun J0 => ?_)
            · dsimp only
              refine SN_seq ?_
              refine SC_seq ?_
              rcases hput with ⟨_, hadd, hBI2⟩ | ⟨q, h1, h2, hadd, hBI2⟩ | ⟨q, h1, h2, h3, hadd, hBI2⟩ | ⟨q, s1, h1, h2, h3, hadd, hBI2⟩
              · rw [hadd] at he
                dsimp only at he
                subst he
                refine SC_region ?_
                refine SR_pu (RD_move rfl) rfl ?_
                refine SR_rd (RD_loadA Try.isAgg69 Try.sizeOf69 rfl rfl) Has.wh rfl ?_
                refine SR_call Try.call40 (.cons rfl (.cons rfl (.nil))) (CallsK.at2 (tree_Add' p s k hBI.w ⟨(blkL l b), []⟩ b.toD rfl rfl (fit_nil _ _ _ _) (by have := blkL_len l b; have := hNB.envs; simp [this] at *; omega) 0 12 s (blkL l b) (by rw [hNB.pure]; exact hadd))) (lts rfl) ?_
                rintro _ L3 ⟨rfl, hL3⟩
                try dsimp only at hL3
                refine SR.lands hL3 ?_
                refine SR_pu (RD_move rfl) rfl ?_
                refine SR_pu (RD_extract rfl rfl) rfl ?_
                refine SR_pu (RD_extract rfl rfl) rfl ?_
                refine SR_pu (RD_assign rfl) rfl ?_
                refine SR_pu (RD_assign rfl) rfl ?_
                refine SR_nil ?_
                refine SN.le (l := [(0, _), (1, _), (2, _), (9, _), (10, _), (11, _), (13, _), (14, _), (17, _), (20, _), (21, _)]) ?_ (.cons rfl (.cons rfl (.cons rfl (.cons rfl (.cons rfl (.cons rfl (.cons rfl (.cons rfl (.cons rfl (.cons rfl (.cons rfl (.nil))))))))))))
                refine SN_seq ?_
                refine SC_seq ?_
                refine SC_seq ?_
                refine SC_region ?_
                refine SR_pu (RD_move rfl) rfl ?_
                refine SR_pu (RD_move rfl) rfl ?_
                refine SR_pu (RD_neq rfl rfl) rfl ?_
                refine SR_pu (RD_move rfl) rfl ?_
                refine SR_yes rfl rfl (by simp) ?_
                refine SR_pu (RD_move rfl) rfl ?_
                refine SR_yes rfl rfl (by simp) ?_
                refine SR_pu (RD_eql rfl rfl) rfl ?_
                refine SR_yes rfl rfl (by simp) ?_
                refine SR_pu (RD_move rfl) rfl ?_
                refine SR_no rfl rfl (by simp) (lts rfl) ?_
                refine SR_no rfl rfl (by simp) (lts rfl) ?_
                refine SR_no rfl rfl (by simp) (lts rfl) ?_
                refine SR_yes rfl rfl (by simp) ?_
                refine SR_pu (RD_pick_f rfl (by simp) rfl) rfl ?_
                refine SR_pu (RD_pick_f rfl (by simp) rfl) rfl ?_
                refine SR_pu (RD_move rfl) rfl ?_
                refine SR_yes rfl rfl (by simp) ?_
                refine SR_pu (RD_move rfl) rfl ?_
                refine SR_yes rfl rfl (by simp) ?_
                refine SR_pu (RD_eql rfl rfl) rfl ?_
                refine SR_yes rfl rfl (by simp) ?_
                refine SR_pu (RD_move rfl) rfl ?_
                refine SR_no rfl rfl (by simp) (lts rfl) ?_
                refine SR_no rfl rfl (by simp) (lts rfl) ?_
                refine SR_no rfl rfl (by simp) (lts rfl) ?_
                refine SR_yes rfl rfl (by simp) ?_
                refine SR_pu (RD_pick_f rfl (by simp) rfl) rfl ?_
                refine SR_pu (RD_pick_f rfl (by simp) rfl) rfl ?_
                refine SR_pu (RD_move rfl) rfl ?_
                refine SR_yes rfl rfl (by simp) ?_
                refine SR_pu (RD_move rfl) rfl ?_
                refine SR_yes rfl rfl (by simp) ?_
                refine SR_pu (RD_neq rfl rfl) rfl ?_
                refine SR_yes rfl rfl (by simp) ?_
                refine SR_pu (RD_move rfl) rfl ?_
                refine SR_yes rfl rfl (by simp) ?_
                refine SR_pu (RD_move rfl) rfl ?_
                refine SR_yes rfl rfl (by simp) ?_
                refine SR_pu (RD_neq rfl rfl) rfl ?_
                refine SR_yes rfl rfl (by simp) ?_
                refine SR_pu (RD_pick_t rfl (by simp) rfl) rfl ?_
                refine SR_yes rfl rfl (by simp) ?_
                refine SR_pu (RD_move rfl) rfl ?_
                refine SR_yes rfl rfl (by simp) ?_
                refine SR_pu (RD_move rfl) rfl ?_
                refine SR_yes rfl rfl (by simp) ?_
                refine SR_pu (RD_neq rfl rfl) rfl ?_
                refine SR_yes rfl rfl (by simp) ?_
                refine SR_pu (RD_pick_t rfl (by simp) rfl) rfl ?_
                refine SR_pu (RD_pick_f rfl (by simp) rfl) rfl ?_
                refine SR_nil ?_
                refine SN.le (l := [(0, _), (1, _), (2, _), (9, _), (10, _), (11, _), (13, _), (17, _), (21, _), (200, _)]) ?_ (.cons rfl (.cons rfl (.cons rfl (.cons rfl (.cons rfl (.cons rfl (.cons rfl (.cons rfl (.cons rfl (.cons rfl (.nil)))))))))))
                refine SN_seq ?_
                refine SC_cond_false rfl (by simp) ?_
                refine SC_skip ?_
                refine SN_seq ?_
                refine SC_seq ?_
                refine SC_region ?_
                refine SR_pu (RD_move rfl) rfl ?_
                refine SR_pu (RD_eql rfl rfl) rfl ?_
                refine SR_nil ?_
                refine SN.le (l := [(0, _), (1, _), (2, _), (9, _), (10, _), (11, _), (13, _), (17, _), (202, _)]) ?_ (.cons rfl (.cons rfl (.cons rfl (.cons rfl (.cons rfl (.cons rfl (.cons rfl (.cons rfl (.cons rfl (.nil))))))))))
                refine SN_seq ?_
                refine SC_cond_false rfl (by simp) ?_
                refine SC_skip ?_
                refine SN_block ?_
                refine SN_seq ?_
                refine SC_region ?_
                refine SR_pu (RD_move rfl) rfl ?_
                refine SR_pu (RD_addi rfl rfl (by omega) (by omega)) rfl ?_
                refine SR_pu (RD_assign rfl) rfl ?_
                refine SR_nil ?_
                refine SN.le (l := [(0, _), (1, _), (2, _), (9, _), (10, _), (11, _)]) ?_ (.cons rfl (.cons rfl (.cons rfl (.cons rfl (.cons rfl (.cons rfl (.nil)))))))
                refine SC_again (ih0 (⟨i + 1, s, (blkL l b), a, c, a2, c2, ds, bs⟩) (⟨by dsimp only; omega, hBI2⟩) (by dsimp only; omega)) (.fin) (.cons rfl (.cons rfl (.cons rfl (.cons rfl (.cons rfl (.cons' rfl (ie (by dsimp only; omega)) (.nil)))))))
              · rw [hadd] at he
                dsimp only at he
                subst he
                refine SC_region ?_
                refine SR_pu (RD_move rfl) rfl ?_
                refine SR_rd (RD_loadA Try.isAgg69 Try.sizeOf69 rfl rfl) Has.wh rfl ?_
                refine SR_call Try.call40 (.cons rfl (.cons rfl (.nil))) (CallsK.at2 (tree_Add' p s k hBI.w ⟨(blkL l b), []⟩ b.toD rfl rfl (fit_nil _ _ _ _) (by have := blkL_len l b; have := hNB.envs; simp [this] at *; omega) 0 13 s (blkL l b) (by rw [hNB.pure]; exact hadd))) (lts rfl) ?_
                rintro _ L3 ⟨rfl, hL3⟩
                try dsimp only at hL3
                refine SR.lands hL3 ?_
                refine SR_pu (RD_move rfl) rfl ?_
                refine SR_pu (RD_extract rfl rfl) rfl ?_
                refine SR_pu (RD_extract rfl rfl) rfl ?_
                refine SR_pu (RD_assign rfl) rfl ?_
                refine SR_pu (RD_assign rfl) rfl ?_
                refine SR_nil ?_
                refine SN.le (l := [(0, _), (1, _), (2, _), (9, _), (10, _), (11, _), (13, _), (14, _), (17, _), (20, _), (21, _)]) ?_ (.cons rfl (.cons rfl (.cons rfl (.cons rfl (.cons rfl (.cons rfl (.cons rfl (.cons rfl (.cons rfl (.cons rfl (.cons rfl (.nil))))))))))))
                refine SN_seq ?_
                refine SC_seq ?_
                refine SC_seq ?_
                refine SC_region ?_
                refine SR_pu (RD_move rfl) rfl ?_
                refine SR_pu (RD_move rfl) rfl ?_
                refine SR_pu (RD_neq rfl rfl) rfl ?_
                refine SR_pu (RD_move rfl) rfl ?_
                refine SR_yes rfl rfl (by simp) ?_
                refine SR_pu (RD_move rfl) rfl ?_
                refine SR_yes rfl rfl (by simp) ?_
                refine SR_pu (RD_eql rfl rfl) rfl ?_
                refine SR_yes rfl rfl (by simp) ?_
                refine SR_pu (RD_move rfl) rfl ?_
                refine SR_no rfl rfl (by simp) (lts rfl) ?_
                refine SR_no rfl rfl (by simp) (lts rfl) ?_
                refine SR_no rfl rfl (by simp) (lts rfl) ?_
                refine SR_yes rfl rfl (by simp) ?_
                refine SR_pu (RD_pick_f rfl (by simp) rfl) rfl ?_
                refine SR_pu (RD_pick_f rfl (by simp) rfl) rfl ?_
                refine SR_pu (RD_move rfl) rfl ?_
                refine SR_yes rfl rfl (by simp) ?_
                refine SR_pu (RD_move rfl) rfl ?_
                refine SR_yes rfl rfl (by simp) ?_
                refine SR_pu (RD_eql rfl rfl) rfl ?_
                refine SR_yes rfl rfl (by simp) ?_
                refine SR_pu (RD_move rfl) rfl ?_
                refine SR_no rfl rfl (by simp) (lts rfl) ?_
                refine SR_no rfl rfl (by simp) (lts rfl) ?_
                refine SR_no rfl rfl (by simp) (lts rfl) ?_
                refine SR_yes rfl rfl (by simp) ?_
                refine SR_pu (RD_pick_f rfl (by simp) rfl) rfl ?_
                refine SR_pu (RD_pick_f rfl (by simp) rfl) rfl ?_
                refine SR_pu (RD_move rfl) rfl ?_
                refine SR_yes rfl rfl (by simp) ?_
                refine SR_pu (RD_move rfl) rfl ?_
                refine SR_yes rfl rfl (by simp) ?_
                refine SR_pu (RD_neq rfl rfl) rfl ?_
                refine SR_yes rfl rfl (by simp) ?_
                refine SR_pu (RD_move rfl) rfl ?_
                refine SR_yes rfl rfl (by simp) ?_
                refine SR_pu (RD_move rfl) rfl ?_
                refine SR_yes rfl rfl (by simp) ?_
                refine SR_pu (RD_neq rfl rfl) rfl ?_
                refine SR_yes rfl rfl (by simp) ?_
                refine SR_pu (RD_pick_t rfl (by simp) rfl) rfl ?_
                refine SR_yes rfl rfl (by simp) ?_
                refine SR_pu (RD_move rfl) rfl ?_
                refine SR_yes rfl rfl (by simp) ?_
                refine SR_pu (RD_move rfl) rfl ?_
                refine SR_yes rfl rfl (by simp) ?_
                refine SR_pu (RD_neq rfl rfl) rfl ?_
                refine SR_yes rfl rfl (by simp) ?_
                refine SR_pu (RD_pick_t rfl (by simp) rfl) rfl ?_
                refine SR_pu (RD_pick_f rfl (by simp) rfl) rfl ?_
                refine SR_nil ?_
                refine SN.le (l := [(0, _), (1, _), (2, _), (9, _), (10, _), (11, _), (13, _), (17, _), (21, _), (200, _)]) ?_ (.cons rfl (.cons rfl (.cons rfl (.cons rfl (.cons rfl (.cons rfl (.cons rfl (.cons rfl (.cons rfl (.cons rfl (.nil)))))))))))
                refine SN_seq ?_
                refine SC_cond_false rfl (by simp) ?_
                refine SC_skip ?_
                refine SN_seq ?_
                refine SC_seq ?_
                refine SC_region ?_
                refine SR_pu (RD_move rfl) rfl ?_
                refine SR_pu (RD_eql rfl rfl) rfl ?_
                refine SR_nil ?_
                refine SN.le (l := [(0, _), (1, _), (2, _), (9, _), (10, _), (11, _), (13, _), (17, _), (202, _)]) ?_ (.cons rfl (.cons rfl (.cons rfl (.cons rfl (.cons rfl (.cons rfl (.cons rfl (.cons rfl (.cons rfl (.nil))))))))))
                refine SN_seq ?_
                refine SC_cond_false rfl (by simp) ?_
                refine SC_skip ?_
                refine SN_block ?_
                refine SN_seq ?_
                refine SC_region ?_
                refine SR_pu (RD_move rfl) rfl ?_
                refine SR_pu (RD_addi rfl rfl (by omega) (by omega)) rfl ?_
                refine SR_pu (RD_assign rfl) rfl ?_
                refine SR_nil ?_
                refine SN.le (l := [(0, _), (1, _), (2, _), (9, _), (10, _), (11, _)]) ?_ (.cons rfl (.cons rfl (.cons rfl (.cons rfl (.cons rfl (.cons rfl (.nil)))))))
                refine SC_again (ih0 (⟨i + 1, s, (blkL l b), a, c, a2, c2, ds, bs⟩) (⟨by dsimp only; omega, hBI2⟩) (by dsimp only; omega)) (.fin) (.cons rfl (.cons rfl (.cons rfl (.cons rfl (.cons rfl (.cons' rfl (ie (by dsimp only; omega)) (.nil)))))))
              · rw [hadd] at he
                dsimp only at he
                subst he
                refine SC_region ?_
                refine SR_pu (RD_move rfl) rfl ?_
                refine SR_rd (RD_loadA Try.isAgg69 Try.sizeOf69 rfl rfl) Has.wh rfl ?_
                refine SR_call Try.call40 (.cons rfl (.cons rfl (.nil))) (CallsK.at2 (tree_Add' p s k hBI.w ⟨(blkL l b), []⟩ b.toD rfl rfl (fit_nil _ _ _ _) (by have := blkL_len l b; have := hNB.envs; simp [this] at *; omega) ((blkD l b : Nat) : Int) 10 s (blkL l b) (by rw [hNB.pure]; exact hadd))) (lts rfl) ?_
                rintro _ L3 ⟨rfl, hL3⟩
                try dsimp only at hL3
                refine SR.lands hL3 ?_
                refine SR_pu (RD_move rfl) rfl ?_
                refine SR_pu (RD_extract rfl rfl) rfl ?_
                refine SR_pu (RD_extract rfl rfl) rfl ?_
                refine SR_pu (RD_assign rfl) rfl ?_
                refine SR_pu (RD_assign rfl) rfl ?_
                refine SR_nil ?_
                refine SN.le (l := [(0, _), (1, _), (2, _), (9, _), (10, _), (11, _), (13, _), (14, _), (17, _), (20, _), (21, _)]) ?_ (.cons rfl (.cons rfl (.cons rfl (.cons rfl (.cons rfl (.cons rfl (.cons rfl (.cons rfl (.cons rfl (.cons rfl (.cons rfl (.nil))))))))))))
                refine SN_seq ?_
                refine SC_seq ?_
                refine SC_seq ?_
                refine SC_region ?_
                refine SR_pu (RD_move rfl) rfl ?_
                refine SR_pu (RD_move rfl) rfl ?_
                refine SR_pu (RD_neq rfl rfl) rfl ?_
                refine SR_pu (RD_move rfl) rfl ?_
                refine SR_yes rfl rfl (by simp) ?_
                refine SR_pu (RD_move rfl) rfl ?_
                refine SR_yes rfl rfl (by simp) ?_
                refine SR_pu (RD_eql rfl rfl) rfl ?_
                refine SR_yes rfl rfl (by simp) ?_
                refine SR_pu (RD_move rfl) rfl ?_
                refine SR_no rfl rfl (by simp) (lts rfl) ?_
                refine SR_no rfl rfl (by simp) (lts rfl) ?_
                refine SR_no rfl rfl (by simp) (lts rfl) ?_
                refine SR_yes rfl rfl (by simp) ?_
                refine SR_pu (RD_pick_f rfl (by simp) rfl) rfl ?_
                refine SR_pu (RD_pick_f rfl (by simp) rfl) rfl ?_
                refine SR_pu (RD_move rfl) rfl ?_
                refine SR_yes rfl rfl (by simp) ?_
                refine SR_pu (RD_move rfl) rfl ?_
                refine SR_yes rfl rfl (by simp) ?_
                refine SR_pu (RD_eql rfl rfl) rfl ?_
                refine SR_yes rfl rfl (by simp) ?_
                refine SR_pu (RD_move rfl) rfl ?_
                refine SR_yes rfl rfl (by simp) ?_
                refine SR_pu (RD_move rfl) rfl ?_
                refine SR_yes rfl rfl (by simp) ?_
                refine SR_pu (RD_move rfl) rfl ?_
                refine SR_yes rfl rfl (by simp) ?_
                refine SR_pu (RD_neq rfl rfl) rfl ?_
                refine SR_yes rfl rfl (by simp) ?_
                refine SR_pu (RD_pick_t rfl (by simp) rfl) rfl ?_
                refine SR_pu (RD_pick_f rfl (by simp) rfl) rfl ?_
                refine SR_pu (RD_move rfl) rfl ?_
                refine SR_yes rfl rfl (by simp) ?_
                refine SR_pu (RD_move rfl) rfl ?_
                refine SR_yes rfl rfl (by simp) ?_
                refine SR_pu (RD_neq rfl rfl) rfl ?_
                refine SR_yes rfl rfl (by simp) ?_
                refine SR_pu (RD_move rfl) rfl ?_
                refine SR_yes rfl rfl (by simp) ?_
                refine SR_pu (RD_move rfl) rfl ?_
                refine SR_yes rfl rfl (by simp) ?_
                refine SR_pu (RD_neq rfl rfl) rfl ?_
                refine SR_yes rfl rfl (by simp) ?_
                refine SR_pu (RD_pick_t rfl (by simp) rfl) rfl ?_
                refine SR_yes rfl rfl (by simp) ?_
                refine SR_pu (RD_move rfl) rfl ?_
                refine SR_no rfl rfl (by simp) (lts rfl) ?_
                refine SR_no rfl rfl (by simp) (lts rfl) ?_
                refine SR_yes rfl rfl (by simp) ?_
                refine SR_pu (RD_pick_f rfl (by simp) rfl) rfl ?_
                refine SR_pu (RD_pick_f rfl (by simp) rfl) rfl ?_
                refine SR_nil ?_
                refine SN.le (l := [(0, _), (1, _), (2, _), (9, _), (10, _), (11, _), (13, _), (17, _), (21, _), (200, _)]) ?_ (.cons rfl (.cons rfl (.cons rfl (.cons rfl (.cons rfl (.cons rfl (.cons rfl (.cons rfl (.cons rfl (.cons rfl (.nil)))))))))))
                refine SN_seq ?_
                refine SC_cond_false rfl (by simp) ?_
                refine SC_skip ?_
                refine SN_seq ?_
                refine SC_seq ?_
                refine SC_region ?_
                refine SR_pu (RD_move rfl) rfl ?_
                refine SR_pu (RD_eql rfl rfl) rfl ?_
                refine SR_nil ?_
                refine SN.le (l := [(0, _), (1, _), (2, _), (9, _), (10, _), (11, _), (13, _), (17, _), (202, _)]) ?_ (.cons rfl (.cons rfl (.cons rfl (.cons rfl (.cons rfl (.cons rfl (.cons rfl (.cons rfl (.cons rfl (.nil))))))))))
                refine SN_seq ?_
                refine SC_cond_false rfl (by simp) ?_
                refine SC_skip ?_
                refine SN_block ?_
                refine SN_seq ?_
                refine SC_region ?_
                refine SR_pu (RD_move rfl) rfl ?_
                refine SR_pu (RD_addi rfl rfl (by omega) (by omega)) rfl ?_
                refine SR_pu (RD_assign rfl) rfl ?_
                refine SR_nil ?_
                refine SN.le (l := [(0, _), (1, _), (2, _), (9, _), (10, _), (11, _)]) ?_ (.cons rfl (.cons rfl (.cons rfl (.cons rfl (.cons rfl (.cons rfl (.nil)))))))
                refine SC_again (ih0 (⟨i + 1, s, (blkL l b), a, c, a2, c2, ds, bs⟩) (⟨by dsimp only; omega, hBI2⟩) (by dsimp only; omega)) (.fin) (.cons rfl (.cons rfl (.cons rfl (.cons rfl (.cons rfl (.cons' rfl (ie (by dsimp only; omega)) (.nil)))))))
              · rw [hadd] at he
                dsimp only at he
                subst he
                refine SC_region ?_
                refine SR_pu (RD_move rfl) rfl ?_
                refine SR_rd (RD_loadA Try.isAgg69 Try.sizeOf69 rfl rfl) Has.wh rfl ?_
                refine SR_call Try.call40 (.cons rfl (.cons rfl (.nil))) (CallsK.at2 (tree_Add' p s k hBI.w ⟨(blkL l b), []⟩ b.toD rfl rfl (fit_nil _ _ _ _) (by have := blkL_len l b; have := hNB.envs; simp [this] at *; omega) ((blkD l b : Nat) : Int) 0 s1 (blkL l b) (by rw [hNB.pure]; exact hadd))) (lts rfl) ?_
                rintro _ L3 ⟨rfl, hL3⟩
                try dsimp only at hL3
                refine SR.lands hL3 ?_
                refine SR_pu (RD_move rfl) rfl ?_
                refine SR_pu (RD_extract rfl rfl) rfl ?_
                refine SR_pu (RD_extract rfl rfl) rfl ?_
                refine SR_pu (RD_assign rfl) rfl ?_
                refine SR_pu (RD_assign rfl) rfl ?_
                refine SR_nil ?_
                refine SN.le (l := [(0, _), (1, _), (2, _), (9, _), (10, _), (11, _), (13, _), (14, _), (17, _), (20, _), (21, _)]) ?_ (.cons rfl (.cons rfl (.cons rfl (.cons rfl (.cons rfl (.cons rfl (.cons rfl (.cons rfl (.cons rfl (.cons rfl (.cons rfl (.nil))))))))))))
                refine SN_seq ?_
                refine SC_seq ?_
                refine SC_seq ?_
                refine SC_region ?_
                refine SR_pu (RD_move rfl) rfl ?_
                refine SR_pu (RD_move rfl) rfl ?_
                refine SR_pu (RD_neq rfl rfl) rfl ?_
                refine SR_pu (RD_move rfl) rfl ?_
                refine SR_yes rfl rfl (by simp) ?_
                refine SR_pu (RD_move rfl) rfl ?_
                refine SR_yes rfl rfl (by simp) ?_
                refine SR_pu (RD_eql rfl rfl) rfl ?_
                refine SR_yes rfl rfl (by simp) ?_
                refine SR_pu (RD_move rfl) rfl ?_
                refine SR_yes rfl rfl (by simp) ?_
                refine SR_pu (RD_move rfl) rfl ?_
                refine SR_yes rfl rfl (by simp) ?_
                refine SR_pu (RD_move rfl) rfl ?_
                refine SR_yes rfl rfl (by simp) ?_
                refine SR_pu (RD_neq rfl rfl) rfl ?_
                refine SR_yes rfl rfl (by simp) ?_
                refine SR_pu (RD_pick_t rfl (by simp) rfl) rfl ?_
                refine SR_pu (RD_pick_f rfl (by simp) rfl) rfl ?_
                refine SR_pu (RD_move rfl) rfl ?_
                refine SR_yes rfl rfl (by simp) ?_
                refine SR_pu (RD_move rfl) rfl ?_
                refine SR_yes rfl rfl (by simp) ?_
                refine SR_pu (RD_eql rfl rfl) rfl ?_
                refine SR_yes rfl rfl (by simp) ?_
                refine SR_pu (RD_move rfl) rfl ?_
                refine SR_no rfl rfl (by simp) (lts rfl) ?_
                refine SR_no rfl rfl (by simp) (lts rfl) ?_
                refine SR_no rfl rfl (by simp) (lts rfl) ?_
                refine SR_yes rfl rfl (by simp) ?_
                refine SR_pu (RD_pick_f rfl (by simp) rfl) rfl ?_
                refine SR_pu (RD_pick_f rfl (by simp) rfl) rfl ?_
                refine SR_pu (RD_move rfl) rfl ?_
                refine SR_yes rfl rfl (by simp) ?_
                refine SR_pu (RD_move rfl) rfl ?_
                refine SR_yes rfl rfl (by simp) ?_
                refine SR_pu (RD_neq rfl rfl) rfl ?_
                refine SR_yes rfl rfl (by simp) ?_
                refine SR_pu (RD_move rfl) rfl ?_
                refine SR_no rfl rfl (by simp) (lts rfl) ?_
                refine SR_no rfl rfl (by simp) (lts rfl) ?_
                refine SR_yes rfl rfl (by simp) ?_
                refine SR_pu (RD_pick_f rfl (by simp) rfl) rfl ?_
                refine SR_yes rfl rfl (by simp) ?_
                refine SR_pu (RD_move rfl) rfl ?_
                refine SR_no rfl rfl (by simp) (lts rfl) ?_
                refine SR_no rfl rfl (by simp) (lts rfl) ?_
                refine SR_yes rfl rfl (by simp) ?_
                refine SR_pu (RD_pick_f rfl (by simp) rfl) rfl ?_
                refine SR_pu (RD_pick_f rfl (by simp) rfl) rfl ?_
                refine SR_nil ?_
                refine SN.le (l := [(0, _), (1, _), (2, _), (9, _), (10, _), (11, _), (13, _), (17, _), (21, _), (200, _)]) ?_ (.cons rfl (.cons rfl (.cons rfl (.cons rfl (.cons rfl (.cons rfl (.cons rfl (.cons rfl (.cons rfl (.cons rfl (.nil)))))))))))
                refine SN_seq ?_
                refine SC_cond_false rfl (by simp) ?_
                refine SC_skip ?_
                refine SN_seq ?_
                refine SC_seq ?_
                refine SC_region ?_
                refine SR_pu (RD_move rfl) rfl ?_
                refine SR_pu (RD_eql rfl rfl) rfl ?_
                refine SR_nil ?_
                refine SN.le (l := [(0, _), (1, _), (2, _), (9, _), (10, _), (11, _), (13, _), (17, _), (202, _)]) ?_ (.cons rfl (.cons rfl (.cons rfl (.cons rfl (.cons rfl (.cons rfl (.cons rfl (.cons rfl (.cons rfl (.nil))))))))))
                refine SN_seq ?_
                refine SC_cond_true rfl (by simp) ?_
                refine SC_drawn (.cons 0 true (.cons 1 true (.cons 4 true (.cons 5 true (.alts [2, 6] (fun i => bif Nat.beq i 2 then (.alts [3, 6] (fun i => bif Nat.beq i 3 then (.cons 6 false (.goto [true, true, true, true, true, true, true, false, false, false] 3)) else (.cons 3 false (.goto [true, true, true, true, true, true, true, false, false, false] 3)))) else (.cons 2 false (.cons 3 false (.goto [true, true, true, true, true, true, true, false, false, false] 3))))))))) (by kernel_rfl) (by kernel_rfl) ?_
                refine SQ_pu rfl (RD_move rfl) rfl ?_
                refine SQ_pu rfl (RD_move rfl) rfl ?_
                refine SQ_pu rfl (RD_move rfl) rfl ?_
                refine SQ_rd rfl (RD_loadA Try.isAgg69 Try.sizeOf69 rfl rfl) Has.wh rfl ?_
                refine SQ.le (l := [(0, _), (1, _), (2, _), (11, _), (203, _), (204, _), (207, _), (208, _)]) ?_ (.cons rfl (.cons rfl (.cons rfl (.cons rfl (.cons rfl (.cons rfl (.cons rfl (.cons rfl (.nil)))))))))
                refine SQ_join (X := Option Addr × Nat × Nat) (.cons 7 false (.cons 8 true (.cons 9 true (.nil)))) [true, true, true, true, true, true, true, false, false, false] 3 (by kernel_rfl) (fun x => [(206, .slice x.1 (ds.length + 1) x.2.1), (209, .slice (some ⟨x.2.2, 0, none⟩) 1 1)]) (fun x => rowP 3 1 x.1 (ds.length + 1) x.2.1 (ds.map intV ++ [.int .i64 ((blkD l b : Nat) : Int)]) :: pt x.2.2 (.cells (([.int .i64 b.view, .int .i64 b.author, .int .i64 b.jv, .int .i64 b.jb, .slice none 0 0, .slice none 0 0] : List Value) ++ []).toArray 69) :: pt b13 (.cells [.int .i64 b.view, .int .i64 b.author, .int .i64 b.jv, .int .i64 b.jb, .slice none 0 0, .slice none 0 0].toArray 69) :: rowP 69 6 a2 bs.length c2 (bs.flatMap Blk.cells0) :: At treeI p s1 :: At worldI k ⟨(blkL l b), []⟩ :: F) (fun x => pt b13 (.cells [.int .i64 b.view, .int .i64 b.author, .int .i64 b.jv, .int .i64 b.jb, .slice none 0 0, .slice none 0 0].toArray 69) :: At treeI p s1 :: At worldI k ⟨(blkL l b), []⟩ :: F) (fun ⟨a206, c206, b209⟩ T33 hT33 => ?_) (fun K33 => ?_)
                · refine SQ.le (l := [(206, _), (209, _), (0, _), (1, _), (2, _), (11, _), (203, _), (204, _), (207, _), (208, _)]) ?_ (.cons rfl (.cons rfl (.cons rfl (.cons rfl (.cons rfl (.cons rfl (.cons rfl (.cons rfl (.cons rfl (.cons rfl (.nil)))))))))))
                  refine SQ_ox rfl (OX_app 6 Try.underlying56 Try.underlying56 Try.type69 rfl rfl rfl rfl rfl (by first | rfl | simp; done | (simp; omega)) 80 rfl (by omega) (by omega)) rfl ?_
                  rintro _ _ ⟨a210, c210, rfl, rfl⟩
                  refine ⟨Keeps.lands .fin (Keeps.all hT33), ?_⟩
                  refine SQ_pu rfl (RD_assign rfl) rfl ?_
                  refine SQ_pu rfl (RD_assign rfl) rfl ?_
                  refine SQ_nil ?_
                  refine SN.le (l := [(0, _), (1, _), (2, _), (9, _), (10, _), (11, _)]) ?_ (.cons rfl (.cons rfl (.cons rfl (.cons rfl (.cons rfl (.cons rfl (.nil)))))))
                  rw [show (([.int .i64 b.view, .int .i64 b.author, .int .i64 b.jv, .int .i64 b.jb, .slice none 0 0, .slice none 0 0] : List Value) ++ []) = b.cells0 from rfl]
                  refine SN_block ?_
                  refine SN_seq ?_
                  refine SC_region ?_
                  refine SR_pu (RD_move rfl) rfl ?_
                  refine SR_pu (RD_addi rfl rfl (by omega) (by omega)) rfl ?_
                  refine SR_pu (RD_assign rfl) rfl ?_
                  refine SR_nil ?_
                  refine SN.le (l := [(0, _), (1, _), (2, _), (9, _), (10, _), (11, _)]) ?_ (.cons rfl (.cons rfl (.cons rfl (.cons rfl (.cons rfl (.cons rfl (.nil)))))))
                  refine SC_again (ih0 (⟨i + 1, s1, (blkL l b), a206, c206, a210, c210, ds ++ [((blkD l b : Nat) : Int)], bs ++ [b]⟩) (⟨by dsimp only; omega, hBI2⟩) (by dsimp only; omega)) (by dsimp only; simp only [List.map_append, List.map_cons, List.map_nil, List.flatMap_append, List.flatMap_cons, List.flatMap_nil, List.append_nil, List.length_append, List.length_cons, List.length_nil, Nat.zero_add, intV]; exact .fin) (.cons rfl (.cons rfl (.cons rfl (.cons' rfl (by dsimp only; simp) (.cons' rfl (by dsimp only; simp) (.cons' rfl (ie (by dsimp only; omega)) (.nil)))))))
                · refine SQ_two ?_ ?_
                  · refine SA_ox rfl .free (OX_lit1 Try.underlying22 Try.type3 rfl rfl rfl rfl (.cons rfl (.nil)) (.cons rfl (.nil))) rfl ?_
                    rintro _ _ ⟨b205, rfl, rfl⟩
                    refine ⟨.h Has.wh (.nil), ?_⟩
                    refine SQ_two ?_ ?_
                    · refine SA_ox rfl .free (OX_app 1 Try.underlying22 Try.underlying22 Try.type3 rfl rfl rfl rfl rfl (by first | rfl | simp; done | (simp; omega)) 8 rfl (by omega) (by omega)) rfl ?_
                      rintro _ _ ⟨a206, c206, rfl, rfl⟩
                      refine ⟨.h Has.wh (.nil), ?_⟩
                      refine SQ_ox rfl (OX_lit Try.underlying56 Try.type69 rfl rfl rfl rfl (.cons rfl (.nil)) (.cons rfl rfl (.nil))) rfl ?_
                      rintro _ _ ⟨b209, rfl, rfl⟩
                      refine ⟨.w rfl (.nil), ?_⟩
                      exact K33 ((a206, c206, b209)) _ _ _ (.cons rfl (.cons rfl (.cons rfl (.cons rfl (.cons rfl (.cons rfl (.cons rfl (.cons rfl (.cons rfl (.cons rfl (.nil))))))))))) (.fin) (.cons Has.wh (.nil))
                    · refine SA_ox rfl .free (OX_lit Try.underlying56 Try.type69 rfl rfl rfl rfl (.cons rfl (.nil)) (.cons rfl rfl (.nil))) rfl ?_
                      rintro _ _ ⟨b209, rfl, rfl⟩
                      refine ⟨.w rfl (.nil), ?_⟩
                      refine SQ_ox rfl (OX_app 1 Try.underlying22 Try.underlying22 Try.type3 rfl rfl rfl rfl rfl (by first | rfl | simp; done | (simp; omega)) 8 rfl (by omega) (by omega)) rfl ?_
                      rintro _ _ ⟨a206, c206, rfl, rfl⟩
                      refine ⟨.h Has.wh (.nil), ?_⟩
                      exact K33 ((a206, c206, b209)) _ _ _ (.cons rfl (.cons rfl (.cons rfl (.cons rfl (.cons rfl (.cons rfl (.cons rfl (.cons rfl (.cons rfl (.cons rfl (.nil))))))))))) (.fin) (.cons Has.wh (.nil))
                  · refine SA_ox rfl .free (OX_lit Try.underlying56 Try.type69 rfl rfl rfl rfl (.cons rfl (.nil)) (.cons rfl rfl (.nil))) rfl ?_
                    rintro _ _ ⟨b209, rfl, rfl⟩
                    refine ⟨.w rfl (.nil), ?_⟩
                    refine SQ_ox rfl (OX_lit1 Try.underlying22 Try.type3 rfl rfl rfl rfl (.cons rfl (.nil)) (.cons rfl (.nil))) rfl ?_
                    rintro _ _ ⟨b205, rfl, rfl⟩
                    refine ⟨.h Has.wh (.nil), ?_⟩
                    refine SQ_ox rfl (OX_app 1 Try.underlying22 Try.underlying22 Try.type3 rfl rfl rfl rfl rfl (by first | rfl | simp; done | (simp; omega)) 8 rfl (by omega) (by omega)) rfl ?_
                    rintro _ _ ⟨a206, c206, rfl, rfl⟩
                    refine ⟨.h Has.wh (.nil), ?_⟩
                    exact K33 ((a206, c206, b209)) _ _ _ (.cons rfl (.cons rfl (.cons rfl (.cons rfl (.cons rfl (.cons rfl (.cons rfl (.cons rfl (.cons rfl (.cons rfl (.nil))))))))))) (.fin) (.cons Has.wh (.nil))
            · refine SC_block ?_
              refine SC_seq ?_
              refine SC_region ?_
              refine SR_pu (RD_move rfl) rfl ?_
              refine SR_pu (RD_lss rfl rfl) rfl ?_
              refine SR_pu (RD_assign rfl) rfl ?_
              refine SR_nil ?_
              refine SN.le (l := [(0, _), (1, _), (2, _), (9, _), (10, _), (11, _), (13, _), (14, _), (15, _), (17, _), (18, _), (137, _)]) ?_ (.cons rfl (.cons rfl (.cons rfl (.cons rfl (.cons rfl (.cons rfl (.cons rfl (.cons rfl (.cons rfl (.cons rfl (.cons rfl (.cons rfl (.nil)))))))))))))
              refine SN_seq ?_
              refine SC_cond rfl (fun hc137 => ?_) (fun hc137 => ?_)
              · refine SC_region ?_
                refine SR_pu (RD_assign rfl) rfl ?_
                refine SR_nil ?_
                refine SN.le (l := [(0, _), (1, _), (2, _), (9, _), (10, _), (11, _), (13, _), (14, _), (17, _)]) ?_ (.cons rfl (.cons rfl (.cons rfl (.cons rfl (.cons rfl (.cons rfl (.cons rfl (.cons rfl (.cons rfl (.nil))))))))))
                refine SN_block ?_
                have hwant : (12 : Int) = (s.add (blkL l b) b).1.2 := by
                  have hat0 : at_ < 0 := by simpa using hc137
                  have hnone : ∀ d ∈ ds, d ≠ b.jb := by rcases hat with h | ⟨t, h, _⟩; exact h.2; omega
                  rcases hput with ⟨_, h, _⟩ | ⟨q, h1, _⟩ | ⟨q, h1, _⟩ | ⟨q, s1, h1, _⟩
                  · rw [h]
                  all_goals exact absurd rfl (hnone _ (hBI.mem _ _ h1))
                exact J0 (⟨_, hwant⟩) _ _ (.cons rfl (.cons rfl (.cons rfl (.cons rfl (.cons rfl (.cons rfl (.cons rfl (.cons rfl (.cons rfl (.nil)))))))))) (.fin)
              · obtain ⟨t, ht, hdt⟩ : ∃ t : Nat, at_ = t ∧ ds[t]? = some b.jb := by rcases hat with h | h; (have h2 := hc137; rw [h.1] at h2; cases h2); exact h
                subst ht
                have htl : t < ds.length := (List.getElem?_eq_some_iff.1 hdt).1
                obtain ⟨bt, hbt⟩ : ∃ x, bs[t]? = some x := ⟨_, List.getElem?_eq_getElem (by omega)⟩
                have hgt := hBI.get t _ _ hdt hbt
                have hput2 : (b.jv ≠ bt.view ∨ b.view ≤ bt.view) ∧ (s.add (blkL l b) b).1.2 = 13 ∨ ¬ (b.jv ≠ bt.view ∨ b.view ≤ bt.view) ∧ (((blkD l b : Nat) : Int) ∈ ds ∧ (s.add (blkL l b) b).1.2 = 10 ∨ ¬ ((blkD l b : Nat) : Int) ∈ ds ∧ (s.add (blkL l b) b).1.2 = 0) := by
                  rcases hput with ⟨h, _, _⟩ | ⟨q, h1, h2, h, _⟩ | ⟨q, h1, h2, h3, h, _⟩ | ⟨q, s1, h1, h2, h3, h, _⟩
                  · exact absurd rfl (h _ (List.mem_of_getElem? hdt))
                  · rw [hgt] at h1; cases h1; exact .inl ⟨h2, by rw [h]⟩
                  · rw [hgt] at h1; cases h1; exact .inr ⟨h2, .inl ⟨h3, by rw [h]⟩⟩
                  · rw [hgt] at h1; cases h1; exact .inr ⟨h2, .inr ⟨h3, by rw [h]⟩⟩
                refine SC_seq ?_
                refine SC_drawn (.cons 0 true (.cons 1 true (.cons 2 true (.cons 3 true (.cons 4 true (.cons 5 true (.cons 6 true (.cons 7 true (.cons 8 true (.cons 9 true (.cons 10 true (.cons 11 true (.cons 12 true (.cons 13 true (.cons 14 true (.cons 15 true (.cons 16 true (.cons 17 true (.cons 18 true (.cons 19 true (.nil))))))))))))))))))))) (by kernel_rfl) (by kernel_rfl) ?_
                first
                  | refine SQ_pu rfl (RD_fieldAddr 2 Try.runUnderlying69 rfl rfl Try.sizeOf34 rfl) rfl ?_
                  | refine SQ_rd rfl (RD_fieldAddrO 2 Try.runUnderlying69 rfl rfl Try.sizeOf34 rfl (by simp <;> omega)) Has.ro rfl ?_
                first
                  | refine SQ_pu rfl (RD_fieldAddr0 Try.runUnderlying34 rfl rfl Try.sizeOf3 rfl) rfl ?_
                  | refine SQ_rd rfl (RD_fieldAddrO 0 Try.runUnderlying34 rfl rfl Try.sizeOf3 rfl (by simp <;> omega)) Has.ro rfl ?_
                refine SQ_rd rfl (RD_load Try.isAgg3 rfl) (Has.ce rfl) rfl ?_
                refine SQ_pu rfl (RD_move rfl) rfl ?_
                refine SQ_pu rfl (RD_move rfl) rfl ?_
                refine SQ_rd rfl (RD_ixO (i := (t : Nat)) (cs := bs.flatMap Blk.cells0) Try.runUnderlying56 Try.sizeOf69 rfl rfl (by rw [blks_len]) (by omega) (by omega)) Has.ro rfl ?_
                refine SQ_rd rfl (RD_fieldAddrO (cs := bs.flatMap Blk.cells0) 0 Try.runUnderlying69 rfl rfl Try.sizeOf3 rfl (by rw [blks_len]; omega)) Has.ro rfl ?_
                refine SQ_rd rfl (RD_loadO (v := .int .i64 bt.view) (cs := bs.flatMap Blk.cells0) Try.isAgg3 rfl (blk_get hbt 0 (by omega))) Has.ro rfl ?_
                refine SQ_pu rfl (RD_neq rfl rfl) rfl ?_
                refine SQ_pu rfl (RD_move rfl) rfl ?_
                refine SQ_guard (i := 10) rfl rfl rfl (fun hg25_9 => ?_) (fun hg25_9 => ?_)
                · first
                    | refine SQ_pyes rfl rfl rfl (hg25_9) (RD_fieldAddr0 Try.runUnderlying69 rfl rfl Try.sizeOf3 rfl) rfl ?_
                    | refine SQ_yes rfl rfl rfl (hg25_9) (RD_fieldAddrO 0 Try.runUnderlying69 rfl rfl Try.sizeOf3 rfl (by simp <;> omega)) Has.ro rfl ?_
                  refine SQ_yes rfl rfl rfl (hg25_9) (RD_load Try.isAgg3 rfl) (Has.ce rfl) rfl ?_
                  refine SQ_pyes rfl rfl rfl (hg25_9) (RD_move rfl) rfl ?_
                  refine SQ_pyes rfl rfl rfl (hg25_9) (RD_move rfl) rfl ?_
                  refine SQ_yes rfl rfl rfl (hg25_9) (RD_ixO (i := (t : Nat)) (cs := bs.flatMap Blk.cells0) Try.runUnderlying56 Try.sizeOf69 rfl rfl (by rw [blks_len]) (by omega) (by omega)) Has.ro rfl ?_
                  refine SQ_yes rfl rfl rfl (hg25_9) (RD_fieldAddrO (cs := bs.flatMap Blk.cells0) 0 Try.runUnderlying69 rfl rfl Try.sizeOf3 rfl (by rw [blks_len]; omega)) Has.ro rfl ?_
                  refine SQ_yes rfl rfl rfl (hg25_9) (RD_loadO (v := .int .i64 bt.view) (cs := bs.flatMap Blk.cells0) Try.isAgg3 rfl (blk_get hbt 0 (by omega))) Has.ro rfl ?_
                  refine SQ_pyes rfl rfl rfl (hg25_9) (RD_leq rfl rfl) rfl ?_
                  refine SQ_pu rfl (RD_pick_f rfl (hg25_9) rfl) rfl ?_
                  refine SQ_pu rfl (RD_assign rfl) rfl ?_
                  refine SQ_nil ?_
                  refine SN.le (l := [(0, _), (1, _), (2, _), (9, _), (10, _), (11, _), (13, _), (14, _), (17, _), (18, _), (140, _)]) ?_ (.cons rfl (.cons rfl (.cons rfl (.cons rfl (.cons rfl (.cons rfl (.cons rfl (.cons rfl (.cons rfl (.cons rfl (.cons rfl (.nil))))))))))))
                  refine SN_seq ?_
                  refine SC_cond rfl (fun hc140 => ?_) (fun hc140 => ?_)
                  · refine SC_region ?_
                    refine SR_pu (RD_assign rfl) rfl ?_
                    refine SR_nil ?_
                    refine SN.le (l := [(0, _), (1, _), (2, _), (9, _), (10, _), (11, _), (13, _), (14, _), (17, _)]) ?_ (.cons rfl (.cons rfl (.cons rfl (.cons rfl (.cons rfl (.cons rfl (.cons rfl (.cons rfl (.cons rfl (.nil))))))))))
                    refine SN_block ?_
                    have hwant : (13 : Int) = (s.add (blkL l b) b).1.2 := by
                      have h1 : b.view ≤ bt.view := by simpa using hc140
                      rcases hput2 with h | h
                      · exact h.2.symm
                      · exact absurd (.inr h1) h.1
                    exact J0 (⟨_, hwant⟩) _ _ (.cons rfl (.cons rfl (.cons rfl (.cons rfl (.cons rfl (.cons rfl (.cons rfl (.cons rfl (.cons rfl (.nil)))))))))) (.fin)
                  · have hok : ¬ (b.jv ≠ bt.view ∨ b.view ≤ bt.view) := by
                      have h1 : b.jv = bt.view := by simpa using hg25_9
                      have h2 : ¬ b.view ≤ bt.view := by simpa using hc140
                      omega
                    refine SC_seq ?_
                    refine SC_region ?_
                    refine SR_pu (RD_move rfl) rfl ?_
                    refine SR_pu (RD_assign rfl) rfl ?_
                    refine SR_nil ?_
                    refine SN.le (l := [(0, _), (1, _), (2, _), (9, _), (10, _), (11, _), (13, _), (14, _), (17, _), (160, _)]) ?_ (.cons rfl (.cons rfl (.cons rfl (.cons rfl (.cons rfl (.cons rfl (.cons rfl (.cons rfl (.cons rfl (.cons rfl (.nil)))))))))))
                    refine SN_seq ?_
                    refine SC_cond rfl (fun hc160 => ?_) (fun hc160 => ?_)
                    · refine SC_region ?_
                      refine SR_pu (RD_assign rfl) rfl ?_
                      refine SR_nil ?_
                      refine SN.le (l := [(0, _), (1, _), (2, _), (9, _), (10, _), (11, _), (13, _), (14, _), (17, _)]) ?_ (.cons rfl (.cons rfl (.cons rfl (.cons rfl (.cons rfl (.cons rfl (.cons rfl (.cons rfl (.cons rfl (.nil))))))))))
                      refine SN_block ?_
                      have hwant : (10 : Int) = (s.add (blkL l b) b).1.2 := by
                        have h1 := of_decide_eq_true hc160
                        rcases hput2 with h | ⟨_, h | h⟩
                        · exact absurd h.1 hok
                        · exact h.2.symm
                        · exact absurd h1 h.1
                      exact J0 (⟨_, hwant⟩) _ _ (.cons rfl (.cons rfl (.cons rfl (.cons rfl (.cons rfl (.cons rfl (.cons rfl (.cons rfl (.cons rfl (.nil)))))))))) (.fin)
                    · refine SC_skip ?_
                      refine SN_block ?_
                      have hwant : (0 : Int) = (s.add (blkL l b) b).1.2 := by
                        have h1 := of_decide_eq_false hc160
                        rcases hput2 with h | ⟨_, h | h⟩
                        · exact absurd h.1 hok
                        · exact absurd h.1 h1
                        · exact h.2.symm
                      exact J0 (⟨_, hwant⟩) _ _ (.cons rfl (.cons rfl (.cons rfl (.cons rfl (.cons rfl (.cons rfl (.cons rfl (.cons rfl (.cons rfl (.nil)))))))))) (.fin)
                · refine SQ_no rfl rfl rfl (hg25_9) (lts rfl) ?_
                  refine SQ_no rfl rfl rfl (hg25_9) (lts rfl) ?_
                  refine SQ_no rfl rfl rfl (hg25_9) (lts rfl) ?_
                  refine SQ_no rfl rfl rfl (hg25_9) (lts rfl) ?_
                  refine SQ_no rfl rfl rfl (hg25_9) (lts rfl) ?_
                  refine SQ_no rfl rfl rfl (hg25_9) (lts rfl) ?_
                  refine SQ_no rfl rfl rfl (hg25_9) (lts rfl) ?_
                  refine SQ_no rfl rfl rfl (hg25_9) (lts rfl) ?_
                  refine SQ_pu rfl (RD_pick_t rfl (hg25_9) rfl) rfl ?_
                  refine SQ_pu rfl (RD_assign rfl) rfl ?_
                  refine SQ_nil ?_
                  refine SN.le (l := [(0, _), (1, _), (2, _), (9, _), (10, _), (11, _), (13, _), (14, _), (17, _), (18, _), (140, _)]) ?_ (.cons rfl (.cons rfl (.cons rfl (.cons rfl (.cons rfl (.cons rfl (.cons rfl (.cons rfl (.cons rfl (.cons rfl (.cons rfl (.nil))))))))))))
                  refine SN_seq ?_
                  refine SC_cond_true rfl (rfl) ?_
                  refine SC_region ?_
                  refine SR_pu (RD_assign rfl) rfl ?_
                  refine SR_nil ?_
                  refine SN.le (l := [(0, _), (1, _), (2, _), (9, _), (10, _), (11, _), (13, _), (14, _), (17, _)]) ?_ (.cons rfl (.cons rfl (.cons rfl (.cons rfl (.cons rfl (.cons rfl (.cons rfl (.cons rfl (.cons rfl (.nil))))))))))
                  refine SN_block ?_
                  have hwant : (13 : Int) = (s.add (blkL l b) b).1.2 := by
                    have h1 : b.jv ≠ bt.view := by simpa using hg25_9
                    rcases hput2 with h | h
                    · exact h.2.symm
                    · exact absurd (.inl h1) h.1
                  exact J0 (⟨_, hwant⟩) _ _ (.cons rfl (.cons rfl (.cons rfl (.cons rfl (.cons rfl (.cons rfl (.cons rfl (.cons rfl (.cons rfl (.nil)))))))))) (.fin)
      · refine SC_drawn (.cons 0 true (.cons 1 true (.cons 2 true (.cons 3 true (.cons 4 true (.cons 5 true (.cons 6 true (.cons 7 true (.cons 8 true (.cons 9 true (.cons 10 true (.cons 11 true (.cons 12 true (.cons 13 true (.cons 14 true (.cons 15 true (.cons 16 true (.cons 17 true (.cons 18 true (.cons 19 true (.cons 20 true (.cons 21 true (.cons 22 true (.cons 23 true (.cons 24 true (.cons 25 true (.cons 26 true (.cons 27 true (.cons 28 true (.cons 29 false (.cons 30 false (.nil)))))))))))))))))))))))))))))))) (by kernel_rfl) (by kernel_rfl) ?_
        refine SQ_pu rfl (RD_move rfl) rfl ?_
        refine SQ_pu rfl (RD_move rfl) rfl ?_
        refine SQ_rd rfl (RD_ixO (i := (o : Nat)) (cs := bs.flatMap Blk.cells0) Try.runUnderlying56 Try.sizeOf69 rfl rfl (by rw [blks_len]) (by omega) (by omega)) Has.ro rfl ?_
        refine SQ_rd rfl (RD_fieldAddrO (cs := bs.flatMap Blk.cells0) 0 Try.runUnderlying69 rfl rfl Try.sizeOf3 rfl (by rw [blks_len]; omega)) Has.ro rfl ?_
        refine SQ_rd rfl (RD_loadO (v := .int .i64 bp.view) (cs := bs.flatMap Blk.cells0) Try.isAgg3 rfl (blk_get hbp 0 (by omega))) Has.ro rfl ?_
        refine SQ_pu rfl (RD_move rfl) rfl ?_
        refine SQ_pu rfl (RD_move rfl) rfl ?_
        refine SQ_rd rfl (RD_ixO Try.runUnderlying22 Try.sizeOf3 rfl rfl (by first | assumption | (simp; done) | (simp; omega)) (by omega) (by omega)) Has.ro rfl ?_
        refine SQ_rd rfl (RD_loadO (v := intV z) (cs := l0.map intV) Try.isAgg3 rfl (by simp [hz])) Has.ro rfl ?_
        refine SQ_pu rfl (RD_shr rfl rfl (by omega)) rfl ?_
        refine SQ_pu rfl (RD_mask 2 rfl rfl rfl (by decide) 4 rfl) rfl ?_
        refine SQ_pu rfl (RD_addi rfl rfl (by omega) (by omega)) rfl ?_
        refine SQ_pu rfl (RD_move rfl) rfl ?_
        refine SQ_pu rfl (RD_move rfl) rfl ?_
        refine SQ_rd rfl (RD_ixO Try.runUnderlying22 Try.sizeOf3 rfl rfl (by first | assumption | (simp; done) | (simp; omega)) (by omega) (by omega)) Has.ro rfl ?_
        refine SQ_rd rfl (RD_loadO (v := intV z) (cs := l0.map intV) Try.isAgg3 rfl (by simp [hz])) Has.ro rfl ?_
        refine SQ_pu rfl (RD_shr rfl rfl (by omega)) rfl ?_
        refine SQ_pu rfl (RD_mask 2 rfl rfl rfl (by decide) 4 rfl) rfl ?_
        refine SQ_pu rfl (RD_move rfl) rfl ?_
        refine SQ_pu rfl (RD_move rfl) rfl ?_
        refine SQ_rd rfl (RD_ixO (i := (o : Nat)) (cs := bs.flatMap Blk.cells0) Try.runUnderlying56 Try.sizeOf69 rfl rfl (by rw [blks_len]) (by omega) (by omega)) Has.ro rfl ?_
        refine SQ_rd rfl (RD_fieldAddrO (cs := bs.flatMap Blk.cells0) 0 Try.runUnderlying69 rfl rfl Try.sizeOf3 rfl (by rw [blks_len]; omega)) Has.ro rfl ?_
        refine SQ_rd rfl (RD_loadO (v := .int .i64 bp.view) (cs := bs.flatMap Blk.cells0) Try.isAgg3 rfl (blk_get hbp 0 (by omega))) Has.ro rfl ?_
        refine SQ_pu rfl (RD_move rfl) rfl ?_
        refine SQ_pu rfl (RD_move rfl) rfl ?_
        refine SQ_rd rfl (RD_ixO Try.runUnderlying22 Try.sizeOf3 rfl rfl (by first | assumption | (simp; done) | (simp; omega)) (by omega) (by omega)) Has.ro rfl ?_
        refine SQ_rd rfl (RD_loadO (v := intV dp) (cs := ds.map intV) Try.isAgg3 rfl (by simp [hdp])) Has.ro rfl ?_
        refine SQ_pu rfl (RD_build (.cons rfl (.cons rfl (.nil))) built34_0_1) rfl ?_
        refine SQ_pu rfl (RD_build (.cons rfl (.cons rfl (.cons rfl (.nil)))) built69_0_1_2) rfl ?_
        refine SQ_ox rfl (OX_alloc Try.zeroValue69 rfl) rfl ?_
        rintro _ _ ⟨b13, rfl, rfl⟩
        refine ⟨.h Has.ro (.h Has.ro (.h Has.ro (.h Has.ro (.h Has.ro (.h Has.ro (.h Has.ro (.h Has.ro (.h Has.ro (.h Has.ro (.h Has.ro (.h Has.ro (.nil)))))))))))), ?_⟩
        refine SQ_ox0 rfl (OX_stA Try.sizeOf69 rfl rfl rfl rfl) ?_
        rintro _ _ rfl
        refine ⟨.w rfl (.w rfl (.w rfl (.w rfl (.w rfl (.w rfl (.w rfl (.w rfl (.w rfl (.w rfl (.w rfl (.w rfl (.nil)))))))))))), ?_⟩
        refine SQ_nil ?_
        refine SN.le (l := [(0, _), (1, _), (2, _), (9, _), (10, _), (11, _), (13, _)]) ?_ (.cons rfl (.cons rfl (.cons rfl (.cons rfl (.cons rfl (.cons rfl (.cons rfl (.nil))))))))
        refine SN_seq ?_
        refine SC_seq ?_
        refine SC_seq ?_
        refine SC_region ?_
        refine SR_pu (RD_move rfl) rfl ?_
        refine SR_pu (RD_move rfl) rfl ?_
        refine SR_rd (RD_ixO Try.runUnderlying22 Try.sizeOf3 rfl rfl (by first | assumption | (simp; done) | (simp; omega)) (by omega) (by omega)) Has.ro rfl ?_
        refine SR_rd (RD_loadO (v := intV z) (cs := l0.map intV) Try.isAgg3 rfl (by simp [hz])) Has.ro rfl ?_
        refine SR_pu (RD_shr rfl rfl (by omega)) rfl ?_
        refine SR_pu (RD_mask 3 rfl rfl rfl (by decide) 8 rfl) rfl ?_
        refine SR_pu (RD_eql rfl rfl) rfl ?_
        refine SR_nil ?_
        refine SN.le (l := [(0, _), (1, _), (2, _), (9, _), (10, _), (11, _), (13, _), (80, _)]) ?_ (.cons rfl (.cons rfl (.cons rfl (.cons rfl (.cons rfl (.cons rfl (.cons rfl (.cons rfl (.nil)))))))))
        refine SN_seq ?_
        refine SC_cond rfl (fun hc80 => ?_) (fun hc80 => ?_)
        · refine SC_region ?_
          refine SR_pu (RD_move rfl) rfl ?_
          refine SR_pu (RD_move rfl) rfl ?_
          refine SR_rd (RD_ixO Try.runUnderlying22 Try.sizeOf3 rfl rfl (by first | assumption | (simp; done) | (simp; omega)) (by omega) (by omega)) Has.ro rfl ?_
          refine SR_rd (RD_loadO (v := intV z) (cs := l0.map intV) Try.isAgg3 rfl (by simp [hz])) Has.ro rfl ?_
          refine SR_pu (RD_shr rfl rfl (by omega)) rfl ?_
          refine SR_pu (RD_mask 3 rfl rfl rfl (by decide) 8 rfl) rfl ?_
          first
            | refine SR_pu (RD_fieldAddr 2 Try.runUnderlying69 rfl rfl Try.sizeOf34 rfl) rfl ?_
            | refine SR_rd (RD_fieldAddrO 2 Try.runUnderlying69 rfl rfl Try.sizeOf34 rfl (by simp <;> omega)) Has.ro rfl ?_
          first
            | refine SR_pu (RD_fieldAddr0 Try.runUnderlying34 rfl rfl Try.sizeOf3 rfl) rfl ?_
            | refine SR_rd (RD_fieldAddrO 0 Try.runUnderlying34 rfl rfl Try.sizeOf3 rfl (by simp <;> omega)) Has.ro rfl ?_
          refine SR_ox0 (OX_st Try.sizeOf3 rfl rfl) ?_
          rintro _ _ rfl
          refine SR_nil ?_
          refine SN.le (l := [(0, _), (1, _), (2, _), (9, _), (10, _), (11, _), (13, _)]) ?_ (.cons rfl (.cons rfl (.cons rfl (.cons rfl (.cons rfl (.cons rfl (.cons rfl (.nil))))))))
          refine SN_seq ?_
          refine SC_seq ?_
          refine SC_seq ?_
          refine SC_region ?_
          refine SR_pu (RD_move rfl) rfl ?_
          refine SR_pu (RD_move rfl) rfl ?_
          refine SR_rd (RD_ixO Try.runUnderlying22 Try.sizeOf3 rfl rfl (by first | assumption | (simp; done) | (simp; omega)) (by omega) (by omega)) Has.ro rfl ?_
          refine SR_rd (RD_loadO (v := intV z) (cs := l0.map intV) Try.isAgg3 rfl (by simp [hz])) Has.ro rfl ?_
          refine SR_pu (RD_shr rfl rfl (by omega)) rfl ?_
          refine SR_pu (RD_mask 4 rfl rfl rfl (by decide) 16 rfl) rfl ?_
          refine SR_pu (RD_eql rfl rfl) rfl ?_
          refine SR_nil ?_
          refine SN.le (l := [(0, _), (1, _), (2, _), (9, _), (10, _), (11, _), (13, _), (95, _)]) ?_ (.cons rfl (.cons rfl (.cons rfl (.cons rfl (.cons rfl (.cons rfl (.cons rfl (.cons rfl (.nil)))))))))
          refine SN_seq ?_
          refine SC_cond rfl (fun hc95 => ?_) (fun hc95 => ?_)
          · refine SC_region ?_
            refine SR_pu (RD_move rfl) rfl ?_
            refine SR_pu (RD_move rfl) rfl ?_
            refine SR_rd (RD_ixO Try.runUnderlying22 Try.sizeOf3 rfl rfl (by first | assumption | (simp; done) | (simp; omega)) (by omega) (by omega)) Has.ro rfl ?_
            refine SR_rd (RD_loadO (v := intV z) (cs := l0.map intV) Try.isAgg3 rfl (by simp [hz])) Has.ro rfl ?_
            refine SR_pu (RD_shr rfl rfl (by omega)) rfl ?_
            refine SR_pu (RD_mask 4 rfl rfl rfl (by decide) 16 rfl) rfl ?_
            first
              | refine SR_pu (RD_fieldAddr 2 Try.runUnderlying69 rfl rfl Try.sizeOf34 rfl) rfl ?_
              | refine SR_rd (RD_fieldAddrO 2 Try.runUnderlying69 rfl rfl Try.sizeOf34 rfl (by simp <;> omega)) Has.ro rfl ?_
            first
              | refine SR_pu (RD_fieldAddr 1 Try.runUnderlying34 rfl rfl Try.sizeOf3 rfl) rfl ?_
              | refine SR_rd (RD_fieldAddrO 1 Try.runUnderlying34 rfl rfl Try.sizeOf3 rfl (by simp <;> omega)) Has.ro rfl ?_
            refine SR_ox0 (OX_st Try.sizeOf3 rfl rfl) ?_
            rintro _ _ rfl
            refine SR_nil ?_
            refine SN.le (l := [(0, _), (1, _), (2, _), (9, _), (10, _), (11, _), (13, _)]) ?_ (.cons rfl (.cons rfl (.cons rfl (.cons rfl (.cons rfl (.cons rfl (.cons rfl (.nil))))))))
            exact J0 ((b13, ⟨⟨bp.view + z.fdiv (2 ^ min (8 : Int).toNat IntKind.i64.bits) % 4, z.fdiv (2 ^ min (10 : Int).toNat IntKind.i64.bits) % 4, z.fdiv (2 ^ min (15 : Int).toNat IntKind.i64.bits) % 8, z.fdiv (2 ^ min (22 : Int).toNat IntKind.i64.bits) % 16, [], []⟩, ⟨rfl, rfl, by dsimp only; omega, by dsimp only; omega, by dsimp only; omega, by dsimp only; omega⟩⟩)) _ _ (.cons rfl (.cons rfl (.cons rfl (.cons rfl (.cons rfl (.cons rfl (.cons rfl (.nil)))))))) ((show Lands _ (pt b13 (.cells [.int .i64 (bp.view + z.fdiv (2 ^ min (8 : Int).toNat IntKind.i64.bits) % 4), .int .i64 (z.fdiv (2 ^ min (10 : Int).toNat IntKind.i64.bits) % 4), .int .i64 (z.fdiv (2 ^ min (15 : Int).toNat IntKind.i64.bits) % 8), .int .i64 (z.fdiv (2 ^ min (22 : Int).toNat IntKind.i64.bits) % 16), .slice none 0 0, .slice none 0 0].toArray 69) :: rowP 3 1 a ds.length c (ds.map intV) :: rowP 69 6 a2 bs.length c2 (bs.flatMap Blk.cells0) :: At treeI p s :: At worldI k ⟨l, []⟩ :: F) from .fin))
          · refine SC_skip ?_
            exact J0 ((b13, ⟨⟨bp.view + z.fdiv (2 ^ min (8 : Int).toNat IntKind.i64.bits) % 4, z.fdiv (2 ^ min (10 : Int).toNat IntKind.i64.bits) % 4, z.fdiv (2 ^ min (15 : Int).toNat IntKind.i64.bits) % 8, dp, [], []⟩, ⟨rfl, rfl, by dsimp only; omega, by dsimp only; omega, by dsimp only; omega, by dsimp only; omega⟩⟩)) _ _ (.cons rfl (.cons rfl (.cons rfl (.cons rfl (.cons rfl (.cons rfl (.cons rfl (.nil)))))))) ((show Lands _ (pt b13 (.cells [.int .i64 (bp.view + z.fdiv (2 ^ min (8 : Int).toNat IntKind.i64.bits) % 4), .int .i64 (z.fdiv (2 ^ min (10 : Int).toNat IntKind.i64.bits) % 4), .int .i64 (z.fdiv (2 ^ min (15 : Int).toNat IntKind.i64.bits) % 8), .int .i64 (dp), .slice none 0 0, .slice none 0 0].toArray 69) :: rowP 3 1 a ds.length c (ds.map intV) :: rowP 69 6 a2 bs.length c2 (bs.flatMap Blk.cells0) :: At treeI p s :: At worldI k ⟨l, []⟩ :: F) from .fin))
        · refine SC_skip ?_
          refine SN_seq ?_
          refine SC_seq ?_
          refine SC_seq ?_
          refine SC_region ?_
          refine SR_pu (RD_move rfl) rfl ?_
          refine SR_pu (RD_move rfl) rfl ?_
          refine SR_rd (RD_ixO Try.runUnderlying22 Try.sizeOf3 rfl rfl (by first | assumption | (simp; done) | (simp; omega)) (by omega) (by omega)) Has.ro rfl ?_
          refine SR_rd (RD_loadO (v := intV z) (cs := l0.map intV) Try.isAgg3 rfl (by simp [hz])) Has.ro rfl ?_
          refine SR_pu (RD_shr rfl rfl (by omega)) rfl ?_
          refine SR_pu (RD_mask 4 rfl rfl rfl (by decide) 16 rfl) rfl ?_
          refine SR_pu (RD_eql rfl rfl) rfl ?_
          refine SR_nil ?_
          refine SN.le (l := [(0, _), (1, _), (2, _), (9, _), (10, _), (11, _), (13, _), (95, _)]) ?_ (.cons rfl (.cons rfl (.cons rfl (.cons rfl (.cons rfl (.cons rfl (.cons rfl (.cons rfl (.nil)))))))))
          refine SN_seq ?_
          refine SC_cond rfl (fun hc95 => ?_) (fun hc95 => ?_)
          · refine SC_region ?_
            refine SR_pu (RD_move rfl) rfl ?_
            refine SR_pu (RD_move rfl) rfl ?_
            refine SR_rd (RD_ixO Try.runUnderlying22 Try.sizeOf3 rfl rfl (by first | assumption | (simp; done) | (simp; omega)) (by omega) (by omega)) Has.ro rfl ?_
            refine SR_rd (RD_loadO (v := intV z) (cs := l0.map intV) Try.isAgg3 rfl (by simp [hz])) Has.ro rfl ?_
            refine SR_pu (RD_shr rfl rfl (by omega)) rfl ?_
            refine SR_pu (RD_mask 4 rfl rfl rfl (by decide) 16 rfl) rfl ?_
            first
              | refine SR_pu (RD_fieldAddr 2 Try.runUnderlying69 rfl rfl Try.sizeOf34 rfl) rfl ?_
              | refine SR_rd (RD_fieldAddrO 2 Try.runUnderlying69 rfl rfl Try.sizeOf34 rfl (by simp <;> omega)) Has.ro rfl ?_
            first
              | refine SR_pu (RD_fieldAddr 1 Try.runUnderlying34 rfl rfl Try.sizeOf3 rfl) rfl ?_
              | refine SR_rd (RD_fieldAddrO 1 Try.runUnderlying34 rfl rfl Try.sizeOf3 rfl (by simp <;> omega)) Has.ro rfl ?_
            refine SR_ox0 (OX_st Try.sizeOf3 rfl rfl) ?_
            rintro _ _ rfl
            refine SR_nil ?_
            refine SN.le (l := [(0, _), (1, _), (2, _), (9, _), (10, _), (11, _), (13, _)]) ?_ (.cons rfl (.cons rfl (.cons rfl (.cons rfl (.cons rfl (.cons rfl (.cons rfl (.nil))))))))
            exact J0 ((b13, ⟨⟨bp.view + z.fdiv (2 ^ min (8 : Int).toNat IntKind.i64.bits) % 4, z.fdiv (2 ^ min (10 : Int).toNat IntKind.i64.bits) % 4, bp.view, z.fdiv (2 ^ min (22 : Int).toNat IntKind.i64.bits) % 16, [], []⟩, ⟨rfl, rfl, by dsimp only; omega, by dsimp only; omega, by dsimp only; omega, by dsimp only; omega⟩⟩)) _ _ (.cons rfl (.cons rfl (.cons rfl (.cons rfl (.cons rfl (.cons rfl (.cons rfl (.nil)))))))) ((show Lands _ (pt b13 (.cells [.int .i64 (bp.view + z.fdiv (2 ^ min (8 : Int).toNat IntKind.i64.bits) % 4), .int .i64 (z.fdiv (2 ^ min (10 : Int).toNat IntKind.i64.bits) % 4), .int .i64 (bp.view), .int .i64 (z.fdiv (2 ^ min (22 : Int).toNat IntKind.i64.bits) % 16), .slice none 0 0, .slice none 0 0].toArray 69) :: rowP 3 1 a ds.length c (ds.map intV) :: rowP 69 6 a2 bs.length c2 (bs.flatMap Blk.cells0) :: At treeI p s :: At worldI k ⟨l, []⟩ :: F) from .fin))
          · refine SC_skip ?_
            exact J0 ((b13, ⟨⟨bp.view + z.fdiv (2 ^ min (8 : Int).toNat IntKind.i64.bits) % 4, z.fdiv (2 ^ min (10 : Int).toNat IntKind.i64.bits) % 4, bp.view, dp, [], []⟩, ⟨rfl, rfl, by dsimp only; omega, by dsimp only; omega, by dsimp only; omega, by dsimp only; omega⟩⟩)) _ _ (.cons rfl (.cons rfl (.cons rfl (.cons rfl (.cons rfl (.cons rfl (.cons rfl (.nil)))))))) ((show Lands _ (pt b13 (.cells [.int .i64 (bp.view + z.fdiv (2 ^ min (8 : Int).toNat IntKind.i64.bits) % 4), .int .i64 (z.fdiv (2 ^ min (10 : Int).toNat IntKind.i64.bits) % 4), .int .i64 (bp.view), .int .i64 (dp), .slice none 0 0, .slice none 0 0].toArray 69) :: rowP 3 1 a ds.length c (ds.map intV) :: rowP 69 6 a2 bs.length c2 (bs.flatMap Blk.cells0) :: At treeI p s :: At worldI k ⟨l, []⟩ :: F) from .fin))
    · refine SC_exit rfl ?_
      refine SN_seq ?_
      refine SC_seq ?_
      refine SC_region ?_
      refine SR_pu (RD_move rfl) rfl ?_
      refine SR_pu (RD_move rfl) rfl ?_
      refine SR_pu (RD_assign rfl) rfl ?_
      refine SR_pu (RD_assign rfl) rfl ?_
      refine SR_pu (RD_assign rfl) rfl ?_
      refine SR_nil ?_
      refine SN.le (l := [(6, _), (7, _), (8, _)]) ?_ (.cons rfl (.cons rfl (.cons rfl (.nil))))
      refine SN_seq ?_
      refine SC_ret3 rfl rfl rfl rfl ?_
      exact ⟨⟨i, s, l, a, c, a2, c2, ds, bs⟩, rfl, ⟨i, hi1, hBI⟩, .fin⟩
  · refine SR_no rfl rfl (hg3_4) (lts rfl) ?_
    refine SR_no rfl rfl (hg3_4) (lts rfl) ?_
    refine SR_pu (RD_pick_f rfl (hg3_4) rfl) rfl ?_
    refine SR_nil ?_
    refine SN.le (l := [(0, _), (1, _), (2, _), (9, _), (10, _), (11, _), (34, _)]) ?_ (.cons rfl (.cons rfl (.cons rfl (.cons rfl (.cons rfl (.cons rfl (.cons rfl (.nil))))))))
    refine SN_seq ?_
    refine SC_cond_false rfl (rfl) ?_
    refine SC_exit rfl ?_
    refine SN_seq ?_
    refine SC_seq ?_
    refine SC_region ?_
    refine SR_pu (RD_move rfl) rfl ?_
    refine SR_pu (RD_move rfl) rfl ?_
    refine SR_pu (RD_assign rfl) rfl ?_
    refine SR_pu (RD_assign rfl) rfl ?_
    refine SR_pu (RD_assign rfl) rfl ?_
    refine SR_nil ?_
    refine SN.le (l := [(6, _), (7, _), (8, _)]) ?_ (.cons rfl (.cons rfl (.cons rfl (.nil))))
    refine SN_seq ?_
    refine SC_ret3 rfl rfl rfl rfl ?_
    exact ⟨⟨i, s, l, a, c, a2, c2, ds, bs⟩, rfl, ⟨i, hi1, hBI⟩, .fin⟩

end Go.Proofs.Ytdmmaammpjdmbaa
