/- Ways by places: plain Lean, and the document's Way. -/
import Derived.Test.YtdmmaammpjdmbaaTw2
namespace Go.Proofs.Ytdmmaammpjdmbaa
open Go Go.Proofs
set_option maxRecDepth 100000
theorem again0 {b : Blk} (h : b.envs = []) (l : List (List UInt8)) : blkL (blkL l b) b = blkL l b ∧ blkD (blkL l b) b = blkD l b ∧ (blkL l b).length ≤ l.length + 1 := by
  have e1 : ∀ l, blkL l b = dput l (blkB [] b) := fun l => by unfold blkL blkB blkN numsE digsL; rw [h]; rfl
  have e2 : ∀ l, blkD l b = dnum (dput l (blkB [] b)) (blkB [] b) := fun l => by
    unfold blkD
    rw [e1]; congr 1
    unfold blkB blkN numsE digsL; rw [h]; rfl
  rw [e1, e1, e2, e2, dput_idem (dput_mem _ _)]
  exact ⟨rfl, rfl, dput_len _ _⟩
theorem nd_inj {l : List Int} (h : l.Nodup) {x y : Nat} {d : Int} (hx : l[x]? = some d) (hy : l[y]? = some d) : x = y := by
  obtain ⟨h1, e1⟩ := List.getElem?_eq_some_iff.1 hx
  obtain ⟨h2, e2⟩ := List.getElem?_eq_some_iff.1 hy
  rw [List.nodup_iff_pairwise_ne, List.pairwise_iff_getElem] at h
  rcases Nat.lt_trichotomy x y with h3 | h3 | h3
  · exact absurd (e1.trans e2.symm) (h x y h1 h2 h3)
  · exact h3
  · exact absurd (e2.trans e1.symm) (h y x h2 h1 h3)
/-- The places of a block's way back. -/
inductive WC (ds : List Int) (bs : List Blk) : Nat → List Nat → Prop
  | root : WC ds bs 0 [0]
  | step {x y : Nat} {b : Blk} {W : List Nat} : x ≠ 0 → bs[x]? = some b → ds[y]? = some b.jb → WC ds bs y W → WC ds bs x (x :: W)
theorem WC.lt {ds : List Int} {bs : List Blk} {x : Nat} {W : List Nat} (h : WC ds bs x W) (hl : ds.length = bs.length) (h0 : 0 < ds.length) : ∀ y ∈ W, y < ds.length := by
  induction h with
  | root => intro y hy; simp at hy; omega
  | step h1 h2 h3 h4 ih =>
    intro y hy
    rcases List.mem_cons.1 hy with rfl | hy
    · have := (List.getElem?_eq_some_iff.1 h2).1; omega
    · exact ih y hy
def dsF (ds : List Int) (x : Nat) : Int := ds.getD x 0
theorem WC.way {w : Nat} {s : TS} {l : List (List UInt8)} {ds : List Int} {bs : List Blk} {m : Nat} (hB : BI w s l ds bs m) {a : Nat} {da : Int} (ha : ds[a]? = some da) {x : Nat} {W : List Nat} (h : WC ds bs x W) :
    ∀ dx, ds[x]? = some dx → (a ∉ W → s.way da dx = none) ∧ ∀ on : Nat, W[on]? = some a → s.way da dx = some (((W.take on).reverse).map (dsF ds)) := by
  have hlen := hB.len
  have hget : ∀ (x : Nat) (d : Int), ds[x]? = some d → ∃ b, bs[x]? = some b ∧ mget s.T d = some b := fun x d hx => by
    have h1 := (List.getElem?_eq_some_iff.1 hx).1
    exact ⟨bs[x]'(by omega), List.getElem?_eq_getElem (by omega), hB.get x d _ hx (List.getElem?_eq_getElem (by omega))⟩
  have hinj : ∀ {x y : Nat} {d : Int}, ds[x]? = some d → ds[y]? = some d → x = y := fun hx hy => nd_inj hB.nd hx hy
  obtain ⟨ba, _, hga⟩ := hget a da ha
  induction h with
  | root =>
    intro dx hdx
    have h0 := hB.first
    rw [h0] at hdx; cases hdx
    obtain ⟨b0, _, hg0⟩ := hget 0 1 h0
    have hr : s.root = 1 := hB.root
    rw [way_eq hB.ok hg0]
    constructor
    · intro hn
      have : ¬ (1 : Int) = da := fun e => hn (by rw [← e] at ha; rw [hinj ha h0]; simp)
      rw [if_neg this, if_pos hr.symm]
    · intro on hon
      have h1 := (List.getElem?_eq_some_iff.1 hon).1
      simp at h1; subst h1
      simp at hon; subst hon
      rw [h0] at ha; cases ha
      rw [if_pos rfl]; rfl
  | @step x y b W h1 h2 h3 h4 ih =>
    intro dx hdx
    obtain ⟨b', hb', hgx⟩ := hget x dx hdx
    obtain rfl : b' = b := Option.some.inj (hb'.symm.trans h2)
    obtain ⟨ih1, ih2⟩ := ih b'.jb h3
    have hr : ¬ dx = s.root := fun e => h1 (hinj hdx (by rw [e, hB.root]; exact hB.first))
    obtain ⟨q, hq, hqv, hlt⟩ := hB.ok.up dx _ hgx hr
    rw [way_eq hB.ok hgx]
    constructor
    · intro hn
      have hne : ¬ dx = da := fun e => hn (by rw [e] at hdx; rw [hinj ha hdx]; simp)
      rw [if_neg hne, if_neg hr, ih1 fun h => hn (by simp [h])]; rfl
    · intro on hon
      cases on with
      | zero =>
        simp at hon; subst hon
        rw [hdx] at ha; cases ha
        rw [if_pos rfl]; rfl
      | succ n =>
        simp at hon
        have hw := ih2 n hon
        have hne : ¬ dx = da := fun e => by
          subst e
          rw [hgx] at hga; cases hga
          have := (way_view hB.ok hgx q.view.toNat _ q hq rfl _ hw).1
          omega
        rw [if_neg hne, if_neg hr, hw]
        simp only [Option.map_some, List.take_succ_cons, List.reverse_cons, List.map_append, List.map_cons, List.map_nil]
        congr 2
        simp [dsF, List.getD, hdx]

structure WX where
  cur : Nat
  pre : List Nat
  a : Option Addr
  c : Nat
def natV (z : Nat) : Value := .int .i64 (z : Int)
instance oneNat (z : Nat) : One (natV z) := ⟨rfl, rfl⟩
instance onesNat (l : List Nat) : Ones (l.map natV) := ⟨fun v hv => by
  obtain ⟨z, _, rfl⟩ := List.mem_map.1 hv
  exact (inferInstance : Ones [natV z]).h _ (by simp)⟩
def viewAt (bs : List Blk) (x : Nat) : Nat := (bs[x]?.elim 0 Blk.view).toNat

theorem law17_Way {W : World} {F : List HProp} [Abs F] {w : Nat} {s : TS} {l : List (List UInt8)} {ds : List Int} {bs : List Blk} {m : Nat} (hB : BI w s l ds bs m) (hm : m ≤ 24) (a : Option Addr) (n c : Nat) {cs : List Value} [HasRow F a cs] (hcs : cs = ds.map intV) (hn : ds.length = n) (a2 : Option Addr) (n2 c2 : Nat) {es : List Value} [HasRow F a2 es] (hes : es = bs.flatMap Blk.cells0) (hn2 : bs.length = n2) (k : Nat) (hk : k < ds.length) :
    CallsK W Try.prog 45 #[.slice a n c, .slice a2 n2 c2, .int .i64 (k : Nat)] (F) (fun v L => ∃ W wa wc, WC ds bs k W ∧ W.length ≤ 101 ∧ v = .slice wa W.length wc ∧ Lands L (rowP 3 1 wa W.length wc (W.map natV) :: F)) := by
  refine CallsK_enter (n := 38) Try.func45 rfl rfl rfl ?_
  subst hcs
  subst hes
  have hnn : n ≤ 25 := by have := hB.size; omega
  have hvw : ∀ x, viewAt bs x ≤ 72 := fun x => by
    unfold viewAt
    cases h : bs[x]? with
    | none => simp
    | some b => have := (hB.flat b (List.mem_of_getElem? h)).2.2.2; show b.view.toNat ≤ 72; omega
  refine SC_seq ?_
  refine SC_region ?_
  refine SR_pu (RD_assign rfl) rfl ?_
  refine SR_nil ?_
  refine SN.le (l := [(0, _), (1, _), (2, _)]) ?_ (.cons rfl (.cons rfl (.cons rfl (.nil))))
  refine SN_seq ?_
  refine SC_seq ?_
  refine SC_region ?_
  refine SR_pu (RD_move rfl) rfl ?_
  refine SR_ox (OX_lit1 Try.underlying22 Try.type3 rfl rfl rfl rfl (.cons rfl (.nil)) (.cons rfl (.nil))) rfl ?_
  rintro _ _ ⟨b11, rfl, rfl⟩
  refine SR_pu (RD_assign rfl) rfl ?_
  refine SR_nil ?_
  refine SN.le (l := [(0, _), (1, _), (2, _), (7, _)]) ?_ (.cons rfl (.cons rfl (.cons rfl (.cons rfl (.nil)))))
  refine SN_seq ?_
  refine SC_seq ?_
  refine SC_block ?_
  refine SC.lands (lit_row (E := 3) (z := 1) (b := b11) (cs := ([] ++ [k]).map natV) 1 rfl) ?_
  refine SC_ind (X := WX) (fun x => x.cur < ds.length ∧ (∀ W, WC ds bs x.cur W → WC ds bs k (x.pre ++ W)) ∧ x.pre.length + viewAt bs x.cur ≤ 100) (fun x => viewAt bs x.cur) (fun x => [(0, .slice a n c), (1, .slice a2 n2 c2), (2, .int .i64 (x.cur : Nat)), (7, .slice x.a (x.pre.length + 1) x.c)]) (fun x => rowP 3 1 x.a (x.pre.length + 1) x.c ((x.pre ++ [x.cur]).map natV) :: F) (⟨k, [], some ⟨b11, 0, none⟩, 1⟩) (⟨hk, fun W h => h, by have := hvw k; dsimp only; simp; omega⟩) (.cons rfl (.cons rfl (.cons rfl (.cons rfl (.nil))))) ((show Lands _ (rowP 3 1 (some ⟨b11, 0, none⟩) 1 1 (([] ++ [k]).map natV) :: F) from .fin)) ?_
  intro ⟨cur, pre, wa, wc⟩ hi ih
  obtain ⟨hc1, hc2, hc3⟩ := hi
  dsimp only at hc1 hc2 hc3 ih ⊢
  refine SC_seq ?_
  refine SC_seq ?_
  refine SC_region ?_
  refine SR_pu (RD_move rfl) rfl ?_
  refine SR_pu (RD_neq rfl rfl) rfl ?_
  refine SR_nil ?_
  refine SN.le (l := [(0, _), (1, _), (2, _), (7, _), (13, _)]) ?_ (.cons rfl (.cons rfl (.cons rfl (.cons rfl (.cons rfl (.nil))))))
  refine SN_seq ?_
  refine SC_cond rfl (fun hc13 => ?_) (fun hc13 => ?_)
  · have hc0 : cur ≠ 0 := by simp at hc13; omega
    obtain ⟨dc, hdc⟩ : ∃ d, ds[cur]? = some d := ⟨_, List.getElem?_eq_getElem hc1⟩
    obtain ⟨bc, hbc⟩ : ∃ b, bs[cur]? = some b := ⟨_, List.getElem?_eq_getElem (by have := hB.len; omega)⟩
    have hgc := hB.get cur dc bc hdc hbc
    have hr : dc ≠ s.root := fun e => hc0 (nd_inj hB.nd hdc (by rw [e, hB.root]; exact hB.first))
    obtain ⟨q, hq, hqv, hlt⟩ := hB.ok.up dc bc hgc hr
    have hq0 := hB.ok.pos _ _ hq
    refine SC_skip ?_
    refine SN_seq ?_
    refine SC_block ?_
    refine SC_seq ?_
    refine SC_region ?_
    refine SR_pu (RD_assign rfl) rfl ?_
    refine SR_nil ?_
    refine SN.le (l := [(0, _), (1, _), (2, _), (7, _), (8, _)]) ?_ (.cons rfl (.cons rfl (.cons rfl (.cons rfl (.cons rfl (.nil))))))
    refine SN_seq ?_
    refine SC_seq ?_
    refine SC_seq ?_
    refine SC_region ?_
    refine SR_pu (RD_assign rfl) rfl ?_
    refine SR_nil ?_
    refine SN.le (l := [(0, _), (1, _), (2, _), (7, _), (8, _), (9, _)]) ?_ (.cons rfl (.cons rfl (.cons rfl (.cons rfl (.cons rfl (.cons rfl (.nil)))))))
    refine SN_seq ?_
    refine SC_block ?_
    refine SC_ind (X := Nat × Nat) (fun y => y.1 ≤ n ∧ ((∀ t, t < y.1 → ds[t]? ≠ some bc.jb) ∨ ds[y.2]? = some bc.jb)) (fun y => n - y.1) (fun y => [(0, .slice a n c), (1, .slice a2 n2 c2), (2, .int .i64 (cur : Nat)), (7, .slice wa (pre.length + 1) wc), (8, .int .i64 (y.2 : Nat)), (9, .int .i64 (y.1 : Nat))]) (fun y => rowP 3 1 wa (pre.length + 1) wc ((pre ++ [cur]).map natV) :: F) ((0, 0)) (⟨by simp, .inl fun t ht => by dsimp only at ht; omega⟩) (.cons rfl (.cons rfl (.cons rfl (.cons rfl (.cons rfl (.cons rfl (.nil))))))) (.fin) ?_
    intro ⟨j, at_⟩ hi ih1
    obtain ⟨hj1, hj2⟩ := hi
    dsimp only at hj1 hj2 ih1 ⊢
    refine SC_seq ?_
    refine SC_seq ?_
    refine SC_region ?_
    refine SR_pu (RD_move rfl) rfl ?_
    refine SR_pu (RD_move rfl) rfl ?_
    refine SR_pu (RD_len Try.runUnderlying22 rfl) rfl ?_
    refine SR_pu (RD_lss rfl rfl) rfl ?_
    refine SR_nil ?_
    refine SN.le (l := [(0, _), (1, _), (2, _), (7, _), (8, _), (9, _), (17, _)]) ?_ (.cons rfl (.cons rfl (.cons rfl (.cons rfl (.cons rfl (.cons rfl (.cons rfl (.nil))))))))
    refine SN_seq ?_
    refine SC_cond rfl (fun hc17 => ?_) (fun hc17 => ?_)
    · have hjn : j < n := by simp at hc17; omega
      obtain ⟨d, hd⟩ : ∃ d, ds[j]? = some d := ⟨_, List.getElem?_eq_getElem (by omega)⟩
      refine SC_skip ?_
      refine SN_seq ?_
      refine SC_seq ?_
      refine SC_block ?_
      refine SC_seq ?_
      refine SC_drawn (.cons 0 true (.cons 1 true (.cons 2 true (.cons 3 true (.cons 4 true (.cons 5 true (.cons 6 true (.cons 7 true (.cons 8 true (.cons 9 true (.cons 10 true (.nil)))))))))))) (by kernel_rfl) (by kernel_rfl) ?_
      refine SQ_pu rfl (RD_move rfl) rfl ?_
      refine SQ_pu rfl (RD_move rfl) rfl ?_
      refine SQ_rd rfl (RD_ixO Try.runUnderlying22 Try.sizeOf3 rfl rfl (by first | assumption | (simp; done) | (simp; omega)) (by omega) (by omega)) Has.ro rfl ?_
      refine SQ_rd rfl (RD_loadO (v := intV d) (cs := ds.map intV) Try.isAgg3 rfl (by simp [hd])) Has.ro rfl ?_
      refine SQ_pu rfl (RD_move rfl) rfl ?_
      refine SQ_pu rfl (RD_move rfl) rfl ?_
      refine SQ_rd rfl (RD_ixO (i := (cur : Nat)) (cs := bs.flatMap Blk.cells0) Try.runUnderlying56 Try.sizeOf69 rfl rfl (by rw [blks_len, hn2]) (by omega) (by have := hB.len; omega)) Has.ro rfl ?_
      refine SQ_rd rfl (RD_fieldAddrO (cs := bs.flatMap Blk.cells0) 2 Try.runUnderlying69 rfl rfl Try.sizeOf34 rfl (by rw [blks_len]; have := hB.len; omega)) Has.ro rfl ?_
      refine SQ_rd rfl (RD_fieldAddrO (cs := bs.flatMap Blk.cells0) 1 Try.runUnderlying34 rfl rfl Try.sizeOf3 rfl (by rw [blks_len]; have := hB.len; omega)) Has.ro rfl ?_
      refine SQ_rd rfl (RD_loadO (v := .int .i64 bc.jb) (cs := bs.flatMap Blk.cells0) Try.isAgg3 rfl (blk_get hbc 3 (by omega))) Has.ro rfl ?_
      refine SQ_pu rfl (RD_eql rfl rfl) rfl ?_
      refine SQ_nil ?_
      refine SN.le (l := [(0, _), (1, _), (2, _), (7, _), (8, _), (9, _), (30, _)]) ?_ (.cons rfl (.cons rfl (.cons rfl (.cons rfl (.cons rfl (.cons rfl (.cons rfl (.nil))))))))
      refine SN_seq ?_
      refine SC_cond rfl (fun hc30 => ?_) (fun hc30 => ?_)
      · have he : d = bc.jb := by simpa using hc30
        refine SC_region ?_
        refine SR_pu (RD_move rfl) rfl ?_
        refine SR_pu (RD_assign rfl) rfl ?_
        refine SR_nil ?_
        refine SN.le (l := [(0, _), (1, _), (2, _), (7, _), (8, _), (9, _)]) ?_ (.cons rfl (.cons rfl (.cons rfl (.cons rfl (.cons rfl (.cons rfl (.nil)))))))
        refine SN_block ?_
        refine SN_seq ?_
        refine SC_region ?_
        refine SR_pu (RD_move rfl) rfl ?_
        refine SR_pu (RD_addi rfl rfl (by omega) (by omega)) rfl ?_
        refine SR_pu (RD_assign rfl) rfl ?_
        refine SR_nil ?_
        refine SN.le (l := [(0, _), (1, _), (2, _), (7, _), (8, _), (9, _)]) ?_ (.cons rfl (.cons rfl (.cons rfl (.cons rfl (.cons rfl (.cons rfl (.nil)))))))
        refine SC_again (ih1 ((j + 1, j)) (⟨by dsimp only; omega, .inr (by dsimp only; rw [hd, he])⟩) (by dsimp only; omega)) (.fin) (.cons rfl (.cons rfl (.cons rfl (.cons rfl (.cons rfl (.cons' rfl (ie (by dsimp only; omega)) (.nil)))))))
      · have he : ¬ d = bc.jb := by simpa using hc30
        refine SC_skip ?_
        refine SN_block ?_
        refine SN_seq ?_
        refine SC_region ?_
        refine SR_pu (RD_move rfl) rfl ?_
        refine SR_pu (RD_addi rfl rfl (by omega) (by omega)) rfl ?_
        refine SR_pu (RD_assign rfl) rfl ?_
        refine SR_nil ?_
        refine SN.le (l := [(0, _), (1, _), (2, _), (7, _), (8, _), (9, _)]) ?_ (.cons rfl (.cons rfl (.cons rfl (.cons rfl (.cons rfl (.cons rfl (.nil)))))))
        refine SC_again (ih1 ((j + 1, at_)) (⟨by dsimp only; omega, hj2.imp (fun h t ht => by dsimp only at ht; rcases Nat.lt_succ_iff_lt_or_eq.1 ht with h2 | h2; exact h t h2; subst h2; rw [hd]; exact fun e => he (Option.some.inj e)) id⟩) (by dsimp only; omega)) (.fin) (.cons rfl (.cons rfl (.cons rfl (.cons rfl (.cons rfl (.cons' rfl (ie (by dsimp only; omega)) (.nil)))))))
    · have hjn : j = n := by simp at hc17; omega
      have hat : ds[at_]? = some bc.jb := by
        rcases hj2 with h | h
        · obtain ⟨t, ht, e⟩ := List.getElem_of_mem (hB.mem _ _ hq)
          exact absurd (by rw [List.getElem?_eq_getElem ht, e]) (h t (by omega))
        · exact h
      have hatl := (List.getElem?_eq_some_iff.1 hat).1
      obtain ⟨b2, hb2⟩ : ∃ b, bs[at_]? = some b := ⟨_, List.getElem?_eq_getElem (by have := hB.len; omega)⟩
      have hg2 := hB.get at_ _ b2 hat hb2
      rw [hq] at hg2
      cases hg2
      have hv1 : viewAt bs at_ = q.view.toNat := by unfold viewAt; rw [hb2]; rfl
      have hv2 : viewAt bs cur = bc.view.toNat := by unfold viewAt; rw [hbc]; rfl
      clear ih1
      refine SC_exit rfl ?_
      refine SN_seq ?_
      refine SC_seq ?_
      refine SC_region ?_
      refine SR_pu (RD_move rfl) rfl ?_
      refine SR_pu (RD_assign rfl) rfl ?_
      refine SR_nil ?_
      refine SN.le (l := [(0, _), (1, _), (2, _), (7, _)]) ?_ (.cons rfl (.cons rfl (.cons rfl (.cons rfl (.nil)))))
      refine SN_seq ?_
      refine SC_region ?_
      refine SR_pu (RD_move rfl) rfl ?_
      refine SR_pu (RD_move rfl) rfl ?_
      refine SR_ox (OX_lit1 Try.underlying22 Try.type3 rfl rfl rfl rfl (.cons rfl (.nil)) (.cons rfl (.nil))) rfl ?_
      rintro _ _ ⟨b35, rfl, rfl⟩
      refine SR_ox (OX_app 1 Try.underlying22 Try.underlying22 Try.type3 rfl rfl rfl rfl rfl (by first | rfl | simp; done | (simp; omega)) 8 rfl (by omega) (by omega)) rfl ?_
      rintro _ _ ⟨a36, c36, rfl, rfl⟩
      refine SR_pu (RD_assign rfl) rfl ?_
      refine SR_nil ?_
      refine SN.le (l := [(0, _), (1, _), (2, _), (7, _)]) ?_ (.cons rfl (.cons rfl (.cons rfl (.cons rfl (.nil)))))
      refine SN_block ?_
      refine SC_again (ih (⟨at_, pre ++ [cur], a36, c36⟩) (⟨hatl, fun W h => by have := hc2 (cur :: W) (.step hc0 hbc hat h); dsimp only; rw [List.append_assoc]; exact this, by dsimp only; simp; omega⟩) (by dsimp only; omega)) (by dsimp only; simp only [List.map_append, List.map_cons, List.map_nil, List.length_append, List.length_cons, List.length_nil, Nat.zero_add, natV]; exact .fin) (.cons rfl (.cons rfl (.cons rfl (.cons' rfl (by dsimp only; simp) (.nil)))))
  · have hc0 : cur = 0 := by simp at hc13; omega
    subst hc0
    refine SC_exit rfl ?_
    refine SN_seq ?_
    refine SC_seq ?_
    refine SC_region ?_
    refine SR_pu (RD_move rfl) rfl ?_
    refine SR_pu (RD_assign rfl) rfl ?_
    refine SR_nil ?_
    refine SN.le (l := [(6, _)]) ?_ (.cons rfl (.nil))
    refine SN_seq ?_
    refine SC_ret1 rfl rfl ?_
    exact ⟨pre ++ [0], wa, wc, hc2 [0] .root, by simp; omega, by simp, by simp only [List.length_append, List.length_cons, List.length_nil, Nat.zero_add]; exact .fin⟩

end Go.Proofs.Ytdmmaammpjdmbaa
