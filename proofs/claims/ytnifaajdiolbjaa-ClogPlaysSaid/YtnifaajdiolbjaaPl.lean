/- Logs over any tree, in plain Lean. -/
import Derived.Test.YtnifaajdiolbjaaCx
namespace Go.Proofs.Ytnifaajdiolbjaa
open Go Go.Proofs
theorem pnd_inj {l : List Int} (h : l.Nodup) {x y : Nat} {d : Int} (hx : l[x]? = some d) (hy : l[y]? = some d) : x = y := by
  obtain ⟨h1, e1⟩ := List.getElem?_eq_some_iff.1 hx
  obtain ⟨h2, e2⟩ := List.getElem?_eq_some_iff.1 hy
  rw [List.nodup_iff_pairwise_ne, List.pairwise_iff_getElem] at h
  rcases Nat.lt_trichotomy x y with h3 | h3 | h3
  · exact absurd (e1.trans e2.symm) (h x y h1 h2 h3)
  · exact h3
  · exact absurd (e2.trans e1.symm) (h y x h2 h1 h3)
/-- The places of a block's way back. -/
inductive PWC (ds : List Int) (bs : List Blk) : Nat → List Nat → Prop
  | root : PWC ds bs 0 [0]
  | step {x y : Nat} {b : Blk} {W : List Nat} : x ≠ 0 → bs[x]? = some b → ds[y]? = some b.jb → PWC ds bs y W → PWC ds bs x (x :: W)
theorem PWC.lt {ds : List Int} {bs : List Blk} {x : Nat} {W : List Nat} (h : PWC ds bs x W) (hl : ds.length = bs.length) (h0 : 0 < ds.length) : ∀ y ∈ W, y < ds.length := by
  induction h with
  | root => intro y hy; simp at hy; omega
  | step h1 h2 h3 h4 ih =>
    intro y hy
    rcases List.mem_cons.1 hy with rfl | hy
    · have := (List.getElem?_eq_some_iff.1 h2).1; omega
    · exact ih y hy
theorem PWC.head {ds : List Int} {bs : List Blk} {x : Nat} {W : List Nat} (h : PWC ds bs x W) : W[0]? = some x := by
  cases h <;> rfl
def pdsF (ds : List Int) (x : Nat) : Int := ds.getD x 0
/-- A tree and the blocks that were put in it, each by an author of its own. -/
structure PB (w : Nat) (s : TS) (l : List (List UInt8)) (ds : List Int) (bs : List Blk) : Prop where
  w : s.w = w
  tl : TL s l
  ok : s.Ok
  root : s.root = 1
  len : ds.length = bs.length
  first : ds[0]? = some 1
  get : ∀ (j : Nat) d b, ds[j]? = some d → bs[j]? = some b → mget s.T d = some b
  mem : ∀ d b, mget s.T d = some b → d ∈ ds
  nd : ds.Nodup
  auth : ∀ (j : Nat) b, bs[j + 1]? = some b → b.author = (j : Int)
  vw : ∀ b ∈ bs, 0 ≤ b.view ∧ b.view ≤ 4 * bs.length
  eg : ∀ b ∈ bs, EG l b.envs
  tlen : s.T.length = ds.length
theorem PB.start (w : Nat) {l : List (List UInt8)} (hl : Ext [rootB] l) : PB w (tS0 w) l [1] [zBlk] := by
  have h := TL.start (l := [rootB]) w (by simp)
  rw [show dnum [rootB] rootB = 1 by simp [dnum]] at h
  refine ⟨rfl, TL.ext (s := tS0 w) h hl, TS.Ok.new w 1, rfl, rfl, rfl, fun j d b hj hb => ?_, fun d b hd => ?_, by simp, fun j b hb => by simp at hb, fun b hb => ?_, fun b hb => ?_, rfl⟩
  · have : j = 0 := by have := (List.getElem?_eq_some_iff.1 hj).1; simp at this; omega
    subst this; simp at hj hb; subst hj; subst hb; rfl
  · by_cases h : d = 1
    · subst h; simp
    · simp [tS0, mget, h] at hd
  · simp at hb; subst hb; exact ⟨by decide, by decide⟩
  · simp at hb; subst hb; exact fun x hx => nomatch hx
theorem PB.add {w : Nat} {st : TS} {l : List (List UInt8)} {ds : List Int} {bs : List Blk} (h : PB w st l ds bs) {on : Nat} {d : Int} {p : Blk} (hd : ds[on]? = some d) (hp : bs[on]? = some p) {q : Int} (hq : 0 ≤ q ∧ q ≤ 3) {i : Nat} (hi : bs.length = i + 1) {E : List EnvD} (hE : ∀ e ∈ E, e.Good) (hl : l.length ≤ 10000) (hn : bs.length ≤ 50) (hEl : E.length ≤ 100) :
    ∃ D st', st.add l ⟨p.view + 1 + q, (i : Int), p.view, d, [], E⟩ = ((D, 0), st', blkL l ⟨p.view + 1 + q, (i : Int), p.view, d, [], E⟩) ∧ PB w st' (blkL l ⟨p.view + 1 + q, (i : Int), p.view, d, [], E⟩) (ds ++ [D]) (bs ++ [⟨p.view + 1 + q, (i : Int), p.view, d, [], E⟩]) := by
  have hg := h.get on d p hd hp
  obtain ⟨hv1, hv2⟩ := h.vw p (List.mem_of_getElem? hp)
  have hpi : I64 d := by
    by_cases hr : d = st.root
    · rw [hr, h.tl.root]; exact dnum_i64 (by omega) _
    · rw [(h.tl.blk d p hg hr).2.2.2]; exact dnum_i64 (by omega) _
  have hgood : Blk.Good ⟨p.view + 1 + q, (i : Int), p.view, d, [], E⟩ := ⟨by unfold I64; dsimp only; omega, by unfold I64; dsimp only; omega, by unfold I64; dsimp only; omega, hpi, fun x hx => (nomatch hx), hE, by simp, by dsimp only; omega⟩
  have hno := (h.tl.new hgood (by omega) fun x hx => by
    obtain ⟨j, hj, e⟩ := List.getElem_of_mem (h.mem _ _ hx)
    have hj2 : ds[j]? = some x := by rw [List.getElem?_eq_getElem hj, e]
    cases j with
    | zero => rw [h.first] at hj2; cases hj2; exact h.root.symm
    | succ j =>
      have hb := h.get (j + 1) x _ hj2 (List.getElem?_eq_getElem (by rw [← h.len]; exact hj))
      rw [hx] at hb
      have ha := h.auth j _ (List.getElem?_eq_getElem (by rw [← h.len]; exact hj))
      rw [← Option.some.inj hb] at ha
      have := h.len
      dsimp only at ha
      omega).1
  obtain ⟨h1, h2, h3⟩ := h.tl.add h.ok hgood (by omega) (by rw [h.tlen, h.len]; omega) hg rfl (by dsimp only; omega) hno
  generalize hD : ((blkD l ⟨p.view + 1 + q, (i : Int), p.view, d, [], E⟩ : Nat) : Int) = D at *
  have hex := blkL_ext l ⟨p.view + 1 + q, (i : Int), p.view, d, [], E⟩
  have hget := fun x => mget_app st.T D x ⟨p.view + 1 + q, (i : Int), p.view, d, [], E⟩ hno
  have hnd : D ∉ ds := fun hm => by
    obtain ⟨j, hj, e⟩ := List.getElem_of_mem hm
    have := h.get j D _ (by rw [List.getElem?_eq_getElem hj, e]) (List.getElem?_eq_getElem (by rw [← h.len]; exact hj))
    rw [hno] at this; cases this
  have hlen := h.len
  refine ⟨D, _, h1, ⟨h.w, h2, h3, h.root, by simp [hlen], ?_, fun j x b hj hb => ?_, fun x b hx => ?_, ?_, fun j b hb => ?_, fun b hb => ?_, fun b hb => ?_, by simp [h.tlen]⟩⟩
  · rw [List.getElem?_append_left (by omega)]; exact h.first
  · show mget (st.T ++ _) x = _
    rw [hget]
    by_cases hj2 : j < ds.length
    · rw [List.getElem?_append_left hj2] at hj
      rw [List.getElem?_append_left (by omega)] at hb
      have hx := h.get j x b hj hb
      rw [if_neg (fun e => by rw [e, hno] at hx; cases hx)]; exact hx
    · have hj3 : j < (ds ++ [D]).length := (List.getElem?_eq_some_iff.1 hj).1
      have hj4 : j = ds.length := by simp at hj3; omega
      subst hj4
      rw [List.getElem?_append_right (by omega), Nat.sub_self] at hj
      rw [hlen, List.getElem?_append_right (by omega), Nat.sub_self] at hb
      cases hj; cases hb
      rw [if_pos rfl]
  · have hx2 : (if x = D then some _ else mget st.T x) = some b := (hget x) ▸ hx
    split at hx2
    · rename_i e; subst e; simp
    · exact List.mem_append_left _ (h.mem x b hx2)
  · rw [List.nodup_append]; exact ⟨h.nd, by simp, fun x hx y hy e => by simp at hy; subst hy; subst e; exact hnd hx⟩
  · by_cases hj2 : j + 1 < bs.length
    · rw [List.getElem?_append_left hj2] at hb; exact h.auth j b hb
    · have hj3 : j + 1 < (bs ++ [_]).length := (List.getElem?_eq_some_iff.1 hb).1
      have hj4 : j = i := by simp at hj3; omega
      rw [List.getElem?_append_right (by omega)] at hb
      rw [show j + 1 - bs.length = 0 by omega] at hb
      cases hb; rw [hj4]
  · rcases List.mem_append.1 hb with hb | hb
    · have := h.vw b hb; simp; omega
    · simp at hb; subst hb; simp; omega
  · rcases List.mem_append.1 hb with hb | hb
    · exact fun e he => ⟨(h.eg b hb e he).1, hex.mem (h.eg b hb e he).2⟩
    · simp at hb; subst hb
      exact fun e he => ⟨hE e he, (Ext.put _ _).mem (digsL_mem (e := e) he)⟩
theorem PWC.desc {w : Nat} {s : TS} {l : List (List UInt8)} {ds : List Int} {bs : List Blk} (hB : PB w s l ds bs) {x : Nat} {W : List Nat} (h : PWC ds bs x W) : ∀ (on a : Nat), 0 < on → W[on]? = some a → ∀ ba bx, bs[a]? = some ba → bs[x]? = some bx → ba.view < bx.view := by
  have hlen := hB.len
  induction h with
  | root => intro on a h0 ha; have h1 := (List.getElem?_eq_some_iff.1 ha).1; simp at h1; omega
  | @step x y b W h1 h2 h3 h4 ih =>
    intro on a h0 ha ba bx hba hbx
    obtain rfl : b = bx := Option.some.inj (h2.symm.trans hbx)
    have hx := (List.getElem?_eq_some_iff.1 h2).1
    have hdx : ds[x]? = some (ds[x]'(by omega)) := List.getElem?_eq_getElem (by omega)
    have hgx := hB.get x _ b hdx h2
    have hr : ¬ ds[x]'(by omega) = s.root := fun e => h1 (pnd_inj hB.nd hdx (by rw [e, hB.root]; exact hB.first))
    obtain ⟨q, hq, hqv, hlt⟩ := hB.ok.up _ _ hgx hr
    have hy := (List.getElem?_eq_some_iff.1 h3).1
    have hby : bs[y]? = some q := by
      have hy2 : bs[y]? = some (bs[y]'(by omega)) := List.getElem?_eq_getElem (by omega)
      have := hB.get y _ _ h3 hy2
      rw [hq] at this
      rw [hy2, ← Option.some.inj this]
    cases on with
    | zero => omega
    | succ n =>
      simp at ha
      by_cases hn : n = 0
      · subst hn
        rw [h4.head] at ha; cases ha
        rw [hby] at hba; cases hba
        omega
      · have := ih n a (by omega) ha ba q hba hby
        omega
theorem PWC.way {w : Nat} {s : TS} {l : List (List UInt8)} {ds : List Int} {bs : List Blk} (hB : PB w s l ds bs) {a : Nat} {da : Int} (ha : ds[a]? = some da) {x : Nat} {W : List Nat} (h : PWC ds bs x W) :
    ∀ dx, ds[x]? = some dx → (a ∉ W → s.way da dx = none) ∧ ∀ on : Nat, W[on]? = some a → s.way da dx = some (((W.take on).reverse).map (pdsF ds)) := by
  have hlen := hB.len
  have hget : ∀ (x : Nat) (d : Int), ds[x]? = some d → ∃ b, bs[x]? = some b ∧ mget s.T d = some b := fun x d hx => by
    have h1 := (List.getElem?_eq_some_iff.1 hx).1
    exact ⟨bs[x]'(by omega), List.getElem?_eq_getElem (by omega), hB.get x d _ hx (List.getElem?_eq_getElem (by omega))⟩
  have hinj : ∀ {x y : Nat} {d : Int}, ds[x]? = some d → ds[y]? = some d → x = y := fun hx hy => pnd_inj hB.nd hx hy
  obtain ⟨ba, _, hga⟩ := hget a da ha
  induction h with
  | root =>
    intro dx hdx
    have h0 := hB.first
    rw [h0] at hdx; cases hdx
    obtain ⟨b0, _, hg0⟩ := hget 0 1 h0
    have hr : s.root = 1 := hB.root
    rw [way_eq hB.ok hg0]
    constructor
    · intro hn
      have : ¬ (1 : Int) = da := fun e => hn (by rw [← e] at ha; rw [hinj ha h0]; simp)
      rw [if_neg this, if_pos hr.symm]
    · intro on hon
      have h1 := (List.getElem?_eq_some_iff.1 hon).1
      simp at h1; subst h1
      simp at hon; subst hon
      rw [h0] at ha; cases ha
      rw [if_pos rfl]; rfl
  | @step x y b W h1 h2 h3 h4 ih =>
    intro dx hdx
    obtain ⟨b', hb', hgx⟩ := hget x dx hdx
    obtain rfl : b' = b := Option.some.inj (hb'.symm.trans h2)
    obtain ⟨ih1, ih2⟩ := ih b'.jb h3
    have hr : ¬ dx = s.root := fun e => h1 (hinj hdx (by rw [e, hB.root]; exact hB.first))
    obtain ⟨q, hq, hqv, hlt⟩ := hB.ok.up dx _ hgx hr
    rw [way_eq hB.ok hgx]
    constructor
    · intro hn
      have hne : ¬ dx = da := fun e => hn (by rw [e] at hdx; rw [hinj ha hdx]; simp)
      rw [if_neg hne, if_neg hr, ih1 fun h => hn (by simp [h])]; rfl
    · intro on hon
      cases on with
      | zero =>
        simp at hon; subst hon
        rw [hdx] at ha; cases ha
        rw [if_pos rfl]; rfl
      | succ n =>
        simp at hon
        have hw := ih2 n hon
        have hne : ¬ dx = da := fun e => by
          have hxa : x = a := hinj hdx (by rw [e]; exact ha)
          rw [← hxa] at hon
          have hbq : bs[y]? = some q := by
            have hy := (List.getElem?_eq_some_iff.1 h3).1
            have hy2 : bs[y]? = some (bs[y]'(by omega)) := List.getElem?_eq_getElem (by omega)
            have h5 := hB.get y _ _ h3 hy2
            rw [hq] at h5
            rw [hy2, ← Option.some.inj h5]
          by_cases hn0 : n = 0
          · subst hn0
            rw [h4.head] at hon
            rw [← Option.some.inj hon, hbq] at h2
            rw [← Option.some.inj h2] at hqv hlt
            omega
          · have := h4.desc hB n x (by omega) hon _ _ h2 hbq
            omega
        rw [if_neg hne, if_neg hr, hw]
        simp only [Option.map_some, List.take_succ_cons, List.reverse_cons, List.map_append, List.map_cons, List.map_nil]
        congr 2
        simp [pdsF, List.getD, hdx]
/-- What the blocks at places hold, behind what is there. -/
def gW (bs : List Blk) (es : List EnvD) (P : List Nat) : List EnvD := P.foldl (fun acc z => growE acc (bs[z]?.elim [] Blk.envs)) es
theorem PB.eg_at {w : Nat} {s : TS} {l : List (List UInt8)} {ds : List Int} {bs : List Blk} (h : PB w s l ds bs) (z : Nat) : EG l (bs[z]?.elim [] Blk.envs) := by
  cases hz : bs[z]? with
  | none => exact fun x hx => nomatch hx
  | some b => exact h.eg b (List.mem_of_getElem? hz)
theorem PB.gW_eg {w : Nat} {s : TS} {l : List (List UInt8)} {ds : List Int} {bs : List Blk} (h : PB w s l ds bs) : ∀ (P : List Nat) (es : List EnvD), EG l es → EG l (gW bs es P)
  | [], _, he => he
  | z :: P, es, he => h.gW_eg P _ (he.grow (h.eg_at z))
theorem PB.goB {w : Nat} {s : TS} {l : List (List UInt8)} {ds : List Int} {bs : List Blk} (h : PB w s l ds bs) (t : Nat) : ∀ (P : List Nat) (x : Int) (es : List EnvD), EG l es → (∀ z ∈ P, z < ds.length) → (LS.of w t x l es).goB l s (P.map (pdsF ds)) = LS.of w t ((P.getLast?.map (pdsF ds)).getD x) l (gW bs es P)
  | [], x, es, _, _ => rfl
  | z :: P, x, es, he, hP => by
    have hz := hP z (by simp)
    have hlen := h.len
    have hdz : ds[z]? = some (pdsF ds z) := by rw [List.getElem?_eq_getElem hz]; simp [pdsF, List.getD, hz]
    have hbz : bs[z]? = some (bs[z]'(by omega)) := List.getElem?_eq_getElem (by omega)
    have hg := h.get z _ _ hdz hbz
    have hst : LS.step l s (LS.of w t x l es) (pdsF ds z) = LS.of w t (pdsF ds z) l (growE es (bs[z]?.elim [] Blk.envs)) := by
      unfold LS.step
      rw [hg, Option.getD_some, takeB_of _ _ he (h.eg _ (List.mem_of_getElem? hbz)), hbz]; rfl
    show LS.goB l s (LS.step l s (LS.of w t x l es) (pdsF ds z)) (P.map (pdsF ds)) = _
    rw [hst, h.goB t P _ _ (he.grow (h.eg_at z)) fun y hy => hP y (by simp [hy])]
    rw [List.getLast?_cons]
    cases P.getLast? <;> rfl
theorem PB.commit {w t : Nat} {s : TS} {l : List (List UInt8)} {ds : List Int} {bs : List Blk} (h : PB w s l ds bs) {tip k : Nat} {dt dk : Int} (ht : ds[tip]? = some dt) (hk : ds[k]? = some dk) {Wk Wt : List Nat} (hWk : PWC ds bs k Wk) (hWt : PWC ds bs tip Wt) {es : List EnvD} (hes : EG l es) :
    (k ∈ Wt → (LS.of w t dt l es).commit l s dk = (true, LS.of w t dt l es)) ∧ (k ∉ Wt → tip ∉ Wk → (LS.of w t dt l es).commit l s dk = (false, LS.of w t dt l es)) ∧
    (k ∉ Wt → ∀ on, Wk[on]? = some tip → (LS.of w t dt l es).commit l s dk = (true, LS.of w t dk l (gW bs es (Wk.take on).reverse))) ∧ (k ∈ Wt → ∀ on, Wk[on]? = some tip → on = 0 ∧ k = tip) := by
  have hlen := h.len
  have hpos : 0 < ds.length := (List.getElem?_eq_some_iff.1 h.first).1
  have w1 := hWt.way h hk dt ht
  have w2 := hWk.way h ht dk hk
  have et : (LS.of w t dt l es).tip = dt := rfl
  refine ⟨fun hm => ?_, fun hn hn2 => ?_, fun hn on hon => ?_, fun hm on hon => ?_⟩
  · obtain ⟨o, ho⟩ := List.getElem?_of_mem hm
    unfold LS.commit
    rw [et, w1.2 o ho]; rfl
  · unfold LS.commit
    rw [et, w1.1 hn, w2.1 hn2]; rfl
  · have h0 : on ≠ 0 := fun e => by
      subst e
      rw [hWk.head] at hon; cases hon
      exact hn (List.mem_of_getElem? hWt.head)
    have hol := (List.getElem?_eq_some_iff.1 hon).1
    unfold LS.commit
    rw [et, w1.1 hn, w2.2 on hon]
    refine (if_neg (by simp)).trans ?_
    rw [Option.isSome_some, Option.getD_some, h.goB t _ dt es hes fun z hz => hWk.lt hlen hpos z (List.mem_of_mem_take (List.mem_reverse.1 hz))]
    have hh : (Wk.take on).reverse.getLast? = some k := by
      rw [List.getLast?_reverse, List.head?_take, if_neg h0, List.head?_eq_getElem?, hWk.head]
    rw [hh]
    simp [pdsF, List.getD, hk]
  · obtain ⟨o, ho⟩ := List.getElem?_of_mem hm
    have hkl := (List.getElem?_eq_some_iff.1 hk).1
    have htl := (List.getElem?_eq_some_iff.1 ht).1
    have hbk : bs[k]? = some (bs[k]'(by omega)) := List.getElem?_eq_getElem (by omega)
    have hbt : bs[tip]? = some (bs[tip]'(by omega)) := List.getElem?_eq_getElem (by omega)
    by_cases h1 : o = 0
    · subst h1
      rw [hWt.head] at ho; cases ho
      refine ⟨?_, rfl⟩
      by_cases h2 : on = 0
      · exact h2
      · have := hWk.desc h on _ (by omega) hon _ _ hbt hbk; omega
    · have hd1 := hWt.desc h o k (by omega) ho _ _ hbk hbt
      by_cases h2 : on = 0
      · subst h2; rw [hWk.head] at hon; cases hon; omega
      · have := hWk.desc h on tip (by omega) hon _ _ hbt hbk; omega
end Go.Proofs.Ytnifaajdiolbjaa
