/- The document's way back, by places, over any row of blocks. -/
import Derived.Test.YtnifaajdiolbjaaPl
namespace Go.Proofs.Ytnifaajdiolbjaa
open Go Go.Proofs
set_option maxRecDepth 100000

structure PWX where
  cur : Nat
  pre : List Nat
  a : Option Addr
  c : Nat
def pnatV (z : Nat) : Value := .int .i64 (z : Int)
instance poneNat (z : Nat) : One (pnatV z) := ⟨rfl, rfl⟩
instance ponesNat (l : List Nat) : Ones (l.map pnatV) := ⟨fun v hv => by
  obtain ⟨z, _, rfl⟩ := List.mem_map.1 hv
  exact (inferInstance : Ones [pnatV z]).h _ (by simp)⟩
def pviewAt (bs : List Blk) (x : Nat) : Nat := (bs[x]?.elim 0 Blk.view).toNat

theorem plaw_Way {W : World} {F : List HProp} [Abs F] {w : Nat} {s : TS} {l : List (List UInt8)} {ds : List Int} {bs : List Blk} (hB : PB w s l ds bs) (hsz : ds.length ≤ 24) (a : Option Addr) (n c : Nat) {cs : List Value} [HasRow F a cs] (hcs : cs = ds.map intV) (hn : ds.length = n) (a2 : Option Addr) (n2 c2 : Nat) {es : List Value} [HasRow F a2 es] (hel : es.length = bs.length * 6) (hes : ∀ (i : Nat) b, bs[i]? = some b → es[i * 6 + 3]? = some (.int .i64 b.jb)) (hn2 : bs.length = n2) (k : Nat) (hk : k < ds.length) :
    CallsK W Try.prog 46 #[.slice a n c, .slice a2 n2 c2, .int .i64 (k : Nat)] (F) (fun v L => ∃ W wa wc, PWC ds bs k W ∧ W.length ≤ 101 ∧ v = .slice wa W.length wc ∧ Lands L (rowP 3 1 wa W.length wc (W.map pnatV) :: F)) := by
  refine CallsK_enter (n := 38) Try.func46 rfl rfl rfl ?_
  subst hcs
  have hnn : n ≤ 24 := by omega
  have hvw : ∀ x, pviewAt bs x ≤ 96 := fun x => by
    unfold pviewAt
    cases h : bs[x]? with
    | none => simp
    | some b => have := (hB.vw b (List.mem_of_getElem? h)).2; have := hB.len; show b.view.toNat ≤ 96; omega
  refine SC_seq ?_
  refine SC_region ?_
  refine SR_pu (RD_assign rfl) rfl ?_
  refine SR_nil ?_
  refine SN.le (l := [(0, _), (1, _), (2, _)]) ?_ (.cons rfl (.cons rfl (.cons rfl (.nil))))
  refine SN_seq ?_
  refine SC_seq ?_
  refine SC_region ?_
  refine SR_pu (RD_move rfl) rfl ?_
  refine SR_ox (OX_lit1 Try.underlying22 Try.type3 rfl rfl rfl rfl (.cons rfl (.nil)) (.cons rfl (.nil))) rfl ?_
  rintro _ _ ⟨b11, rfl, rfl⟩
  refine SR_pu (RD_assign rfl) rfl ?_
  refine SR_nil ?_
  refine SN.le (l := [(0, _), (1, _), (2, _), (7, _)]) ?_ (.cons rfl (.cons rfl (.cons rfl (.cons rfl (.nil)))))
  refine SN_seq ?_
  refine SC_seq ?_
  refine SC_block ?_
  refine SC.lands (lit_row (E := 3) (z := 1) (b := b11) (cs := ([] ++ [k]).map pnatV) 1 rfl) ?_
  refine SC_ind (X := PWX) (fun x => x.cur < ds.length ∧ (∀ W, PWC ds bs x.cur W → PWC ds bs k (x.pre ++ W)) ∧ x.pre.length + pviewAt bs x.cur ≤ 100) (fun x => pviewAt bs x.cur) (fun x => [(0, .slice a n c), (1, .slice a2 n2 c2), (2, .int .i64 (x.cur : Nat)), (7, .slice x.a (x.pre.length + 1) x.c)]) (fun x => rowP 3 1 x.a (x.pre.length + 1) x.c ((x.pre ++ [x.cur]).map pnatV) :: F) (⟨k, [], some ⟨b11, 0, none⟩, 1⟩) (⟨hk, fun W h => h, by have := hvw k; dsimp only; simp; omega⟩) (.cons rfl (.cons rfl (.cons rfl (.cons rfl (.nil))))) ((show Lands _ (rowP 3 1 (some ⟨b11, 0, none⟩) 1 1 (([] ++ [k]).map pnatV) :: F) from .fin)) ?_
  intro ⟨cur, pre, wa, wc⟩ hi ih
  obtain ⟨hc1, hc2, hc3⟩ := hi
  dsimp only at hc1 hc2 hc3 ih ⊢
  refine SC_seq ?_
  refine SC_seq ?_
  refine SC_region ?_
  refine SR_pu (RD_move rfl) rfl ?_
  refine SR_pu (RD_neq rfl rfl) rfl ?_
  refine SR_nil ?_
  refine SN.le (l := [(0, _), (1, _), (2, _), (7, _), (13, _)]) ?_ (.cons rfl (.cons rfl (.cons rfl (.cons rfl (.cons rfl (.nil))))))
  refine SN_seq ?_
  refine SC_cond rfl (fun hc13 => ?_) (fun hc13 => ?_)
  · have hc0 : cur ≠ 0 := by simp at hc13; omega
    obtain ⟨dc, hdc⟩ : ∃ d, ds[cur]? = some d := ⟨_, List.getElem?_eq_getElem hc1⟩
    obtain ⟨bc, hbc⟩ : ∃ b, bs[cur]? = some b := ⟨_, List.getElem?_eq_getElem (by have := hB.len; omega)⟩
    have hgc := hB.get cur dc bc hdc hbc
    have hr : dc ≠ s.root := fun e => hc0 (pnd_inj hB.nd hdc (by rw [e, hB.root]; exact hB.first))
    obtain ⟨q, hq, hqv, hlt⟩ := hB.ok.up dc bc hgc hr
    have hq0 := hB.ok.pos _ _ hq
    refine SC_skip ?_
    refine SN_seq ?_
    refine SC_block ?_
    refine SC_seq ?_
    refine SC_region ?_
    refine SR_pu (RD_assign rfl) rfl ?_
    refine SR_nil ?_
    refine SN.le (l := [(0, _), (1, _), (2, _), (7, _), (8, _)]) ?_ (.cons rfl (.cons rfl (.cons rfl (.cons rfl (.cons rfl (.nil))))))
    refine SN_seq ?_
    refine SC_seq ?_
    refine SC_seq ?_
    refine SC_region ?_
    refine SR_pu (RD_assign rfl) rfl ?_
    refine SR_nil ?_
    refine SN.le (l := [(0, _), (1, _), (2, _), (7, _), (8, _), (9, _)]) ?_ (.cons rfl (.cons rfl (.cons rfl (.cons rfl (.cons rfl (.cons rfl (.nil)))))))
    refine SN_seq ?_
    refine SC_block ?_
    refine SC_ind (X := Nat × Nat) (fun y => y.1 ≤ n ∧ ((∀ t, t < y.1 → ds[t]? ≠ some bc.jb) ∨ ds[y.2]? = some bc.jb)) (fun y => n - y.1) (fun y => [(0, .slice a n c), (1, .slice a2 n2 c2), (2, .int .i64 (cur : Nat)), (7, .slice wa (pre.length + 1) wc), (8, .int .i64 (y.2 : Nat)), (9, .int .i64 (y.1 : Nat))]) (fun y => rowP 3 1 wa (pre.length + 1) wc ((pre ++ [cur]).map pnatV) :: F) ((0, 0)) (⟨by simp, .inl fun t ht => by dsimp only at ht; omega⟩) (.cons rfl (.cons rfl (.cons rfl (.cons rfl (.cons rfl (.cons rfl (.nil))))))) (.fin) ?_
    intro ⟨j, at_⟩ hi ih1
    obtain ⟨hj1, hj2⟩ := hi
    dsimp only at hj1 hj2 ih1 ⊢
    refine SC_seq ?_
    refine SC_seq ?_
    refine SC_region ?_
    refine SR_pu (RD_move rfl) rfl ?_
    refine SR_pu (RD_move rfl) rfl ?_
    refine SR_pu (RD_len Try.runUnderlying22 rfl) rfl ?_
    refine SR_pu (RD_lss rfl rfl) rfl ?_
    refine SR_nil ?_
    refine SN.le (l := [(0, _), (1, _), (2, _), (7, _), (8, _), (9, _), (17, _)]) ?_ (.cons rfl (.cons rfl (.cons rfl (.cons rfl (.cons rfl (.cons rfl (.cons rfl (.nil))))))))
    refine SN_seq ?_
    refine SC_cond rfl (fun hc17 => ?_) (fun hc17 => ?_)
    · have hjn : j < n := by simp at hc17; omega
      obtain ⟨d, hd⟩ : ∃ d, ds[j]? = some d := ⟨_, List.getElem?_eq_getElem (by omega)⟩
      refine SC_skip ?_
      refine SN_seq ?_
      refine SC_seq ?_
      refine SC_block ?_
      refine SC_seq ?_
      refine SC_drawn (.cons 0 true (.cons 1 true (.cons 2 true (.cons 3 true (.cons 4 true (.cons 5 true (.cons 6 true (.cons 7 true (.cons 8 true (.cons 9 true (.cons 10 true (.nil)))))))))))) (by kernel_rfl) (by kernel_rfl) ?_
      refine SQ_pu rfl (RD_move rfl) rfl ?_
      refine SQ_pu rfl (RD_move rfl) rfl ?_
      refine SQ_rd rfl (RD_ixO Try.runUnderlying22 Try.sizeOf3 rfl rfl (by first | assumption | (simp; done) | (simp; omega)) (by omega) (by omega)) Has.ro rfl ?_
      refine SQ_rd rfl (RD_loadO (v := intV d) (cs := ds.map intV) Try.isAgg3 rfl (by simp [hd])) Has.ro rfl ?_
      refine SQ_pu rfl (RD_move rfl) rfl ?_
      refine SQ_pu rfl (RD_move rfl) rfl ?_
      refine SQ_rd rfl (RD_ixO (i := (cur : Nat)) (cs := es) Try.runUnderlying41 Try.sizeOf33 rfl rfl (by rw [hel, hn2]) (by omega) (by have := hB.len; omega)) Has.ro rfl ?_
      refine SQ_rd rfl (RD_fieldAddrO (cs := es) 2 Try.runUnderlying33 rfl rfl Try.sizeOf30 rfl (by rw [hel]; have := hB.len; omega)) Has.ro rfl ?_
      refine SQ_rd rfl (RD_fieldAddrO (cs := es) 1 Try.runUnderlying30 rfl rfl Try.sizeOf3 rfl (by rw [hel]; have := hB.len; omega)) Has.ro rfl ?_
      refine SQ_rd rfl (RD_loadO (v := .int .i64 bc.jb) (cs := es) Try.isAgg3 rfl (hes cur bc hbc)) Has.ro rfl ?_
      refine SQ_pu rfl (RD_eql rfl rfl) rfl ?_
      refine SQ_nil ?_
      refine SN.le (l := [(0, _), (1, _), (2, _), (7, _), (8, _), (9, _), (30, _)]) ?_ (.cons rfl (.cons rfl (.cons rfl (.cons rfl (.cons rfl (.cons rfl (.cons rfl (.nil))))))))
      refine SN_seq ?_
      refine SC_cond rfl (fun hc30 => ?_) (fun hc30 => ?_)
      · have he : d = bc.jb := by simpa using hc30
        refine SC_region ?_
        refine SR_pu (RD_move rfl) rfl ?_
        refine SR_pu (RD_assign rfl) rfl ?_
        refine SR_nil ?_
        refine SN.le (l := [(0, _), (1, _), (2, _), (7, _), (8, _), (9, _)]) ?_ (.cons rfl (.cons rfl (.cons rfl (.cons rfl (.cons rfl (.cons rfl (.nil)))))))
        refine SN_block ?_
        refine SN_seq ?_
        refine SC_region ?_
        refine SR_pu (RD_move rfl) rfl ?_
        refine SR_pu (RD_addi rfl rfl (by omega) (by omega)) rfl ?_
        refine SR_pu (RD_assign rfl) rfl ?_
        refine SR_nil ?_
        refine SN.le (l := [(0, _), (1, _), (2, _), (7, _), (8, _), (9, _)]) ?_ (.cons rfl (.cons rfl (.cons rfl (.cons rfl (.cons rfl (.cons rfl (.nil)))))))
        refine SC_again (ih1 ((j + 1, j)) (⟨by dsimp only; omega, .inr (by dsimp only; rw [hd, he])⟩) (by dsimp only; omega)) (.fin) (.cons rfl (.cons rfl (.cons rfl (.cons rfl (.cons rfl (.cons' rfl (ie (by dsimp only; omega)) (.nil)))))))
      · have he : ¬ d = bc.jb := by simpa using hc30
        refine SC_skip ?_
        refine SN_block ?_
        refine SN_seq ?_
        refine SC_region ?_
        refine SR_pu (RD_move rfl) rfl ?_
        refine SR_pu (RD_addi rfl rfl (by omega) (by omega)) rfl ?_
        refine SR_pu (RD_assign rfl) rfl ?_
        refine SR_nil ?_
        refine SN.le (l := [(0, _), (1, _), (2, _), (7, _), (8, _), (9, _)]) ?_ (.cons rfl (.cons rfl (.cons rfl (.cons rfl (.cons rfl (.cons rfl (.nil)))))))
        refine SC_again (ih1 ((j + 1, at_)) (⟨by dsimp only; omega, hj2.imp (fun h t ht => by dsimp only at ht; rcases Nat.lt_succ_iff_lt_or_eq.1 ht with h2 | h2; exact h t h2; subst h2; rw [hd]; exact fun e => he (Option.some.inj e)) id⟩) (by dsimp only; omega)) (.fin) (.cons rfl (.cons rfl (.cons rfl (.cons rfl (.cons rfl (.cons' rfl (ie (by dsimp only; omega)) (.nil)))))))
    · have hjn : j = n := by simp at hc17; omega
      have hat : ds[at_]? = some bc.jb := by
        rcases hj2 with h | h
        · obtain ⟨t, ht, e⟩ := List.getElem_of_mem (hB.mem _ _ hq)
          exact absurd (by rw [List.getElem?_eq_getElem ht, e]) (h t (by omega))
        · exact h
      have hatl := (List.getElem?_eq_some_iff.1 hat).1
      obtain ⟨b2, hb2⟩ : ∃ b, bs[at_]? = some b := ⟨_, List.getElem?_eq_getElem (by have := hB.len; omega)⟩
      have hg2 := hB.get at_ _ b2 hat hb2
      rw [hq] at hg2
      cases hg2
      have hv1 : pviewAt bs at_ = q.view.toNat := by unfold pviewAt; rw [hb2]; rfl
      have hv2 : pviewAt bs cur = bc.view.toNat := by unfold pviewAt; rw [hbc]; rfl
      clear ih1
      refine SC_exit rfl ?_
      refine SN_seq ?_
      refine SC_seq ?_
      refine SC_region ?_
      refine SR_pu (RD_move rfl) rfl ?_
      refine SR_pu (RD_assign rfl) rfl ?_
      refine SR_nil ?_
      refine SN.le (l := [(0, _), (1, _), (2, _), (7, _)]) ?_ (.cons rfl (.cons rfl (.cons rfl (.cons rfl (.nil)))))
      refine SN_seq ?_
      refine SC_region ?_
      refine SR_pu (RD_move rfl) rfl ?_
      refine SR_pu (RD_move rfl) rfl ?_
      refine SR_ox (OX_lit1 Try.underlying22 Try.type3 rfl rfl rfl rfl (.cons rfl (.nil)) (.cons rfl (.nil))) rfl ?_
      rintro _ _ ⟨b35, rfl, rfl⟩
      refine SR_ox (OX_app 1 Try.underlying22 Try.underlying22 Try.type3 rfl rfl rfl rfl rfl (by first | rfl | simp; done | (simp; omega)) 8 rfl (by omega) (by omega)) rfl ?_
      rintro _ _ ⟨a36, c36, rfl, rfl⟩
      refine SR_pu (RD_assign rfl) rfl ?_
      refine SR_nil ?_
      refine SN.le (l := [(0, _), (1, _), (2, _), (7, _)]) ?_ (.cons rfl (.cons rfl (.cons rfl (.cons rfl (.nil)))))
      refine SN_block ?_
      refine SC_again (ih (⟨at_, pre ++ [cur], a36, c36⟩) (⟨hatl, fun W h => by have := hc2 (cur :: W) (.step hc0 hbc hat h); dsimp only; rw [List.append_assoc]; exact this, by dsimp only; simp; omega⟩) (by dsimp only; omega)) (by dsimp only; simp only [List.map_append, List.map_cons, List.map_nil, List.length_append, List.length_cons, List.length_nil, Nat.zero_add, pnatV]; exact .fin) (.cons rfl (.cons rfl (.cons rfl (.cons' rfl (by dsimp only; simp) (.nil)))))
  · have hc0 : cur = 0 := by simp at hc13; omega
    subst hc0
    refine SC_exit rfl ?_
    refine SN_seq ?_
    refine SC_seq ?_
    refine SC_region ?_
    refine SR_pu (RD_move rfl) rfl ?_
    refine SR_pu (RD_assign rfl) rfl ?_
    refine SR_nil ?_
    refine SN.le (l := [(6, _)]) ?_ (.cons rfl (.nil))
    refine SN_seq ?_
    refine SC_ret1 rfl rfl ?_
    exact ⟨pre ++ [0], wa, wc, hc2 [0] .root, by simp; omega, by simp, by simp only [List.length_append, List.length_cons, List.length_nil, Nat.zero_add]; exact .fin⟩

end Go.Proofs.Ytnifaajdiolbjaa
