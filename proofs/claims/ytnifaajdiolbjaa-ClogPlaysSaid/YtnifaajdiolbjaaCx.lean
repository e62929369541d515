/- Logs along one way, in plain Lean. -/
import Derived.Test.YtnifaajdiolbjaaCl2
namespace Go.Proofs.Ytnifaajdiolbjaa
open Go Go.Proofs
theorem numE_mem {l : List (List UInt8)} {es : List EnvD} {e : EnvD} (hes : ∀ x ∈ es, x.Good ∧ envB x ∈ l) (he : e.Good) : ((dnum l (envB e) : Nat) : Int) ∈ numsE l es ↔ e ∈ es := by
  unfold numsE
  rw [List.mem_map]
  constructor
  · rintro ⟨x, hx, h⟩
    have h2 : dnum l (envB x) = dnum l (envB e) := by omega
    have := envB_inj (hes x hx).1 he (dnum_inj (hes x hx).2 h2)
    rw [← this]; exact hx
  · intro h; exact ⟨e, h, rfl⟩
/-- A log of such envelopes. -/
def LS.of (w t : Nat) (tip : Int) (l : List (List UInt8)) (es : List EnvD) : LS := ⟨w, t, tip, es, numsE l es⟩
def EG (l : List (List UInt8)) (es : List EnvD) : Prop := ∀ x ∈ es, x.Good ∧ envB x ∈ l
theorem growE_one (es : List EnvD) (e : EnvD) : growE es [e] = if e ∈ es then es else es ++ [e] := rfl
theorem take1_of {w t : Nat} {tip : Int} {l : List (List UInt8)} {es : List EnvD} (hes : EG l es) {e : EnvD} (he : e.Good) : (LS.of w t tip l es).take1 l e = LS.of w t tip l (growE es [e]) := by
  rw [growE_one]
  by_cases h : e ∈ es
  · rw [if_pos h]; exact if_pos ((numE_mem hes he).2 h)
  · rw [if_neg h]
    refine (if_neg fun q => h ((numE_mem hes he).1 q)).trans ?_
    unfold LS.of numsE
    rw [List.map_append]; rfl
theorem growE_mem {x : EnvD} : ∀ {m l : List EnvD}, x ∈ growE l m ↔ x ∈ l ∨ x ∈ m
  | [], l => by simp [growE]
  | e :: m, l => by
    have := growE_mem (x := x) (m := m) (l := if e ∈ l then l else l ++ [e])
    show x ∈ growE (if e ∈ l then l else l ++ [e]) m ↔ _
    rw [this]
    by_cases h : e ∈ l
    · rw [if_pos h, List.mem_cons]
      constructor
      · rintro (q | q); exact .inl q; exact .inr (.inr q)
      · rintro (q | rfl | q); exact .inl q; exact .inl h; exact .inr q
    · rw [if_neg h, List.mem_cons, List.mem_append, List.mem_singleton]
      constructor
      · rintro ((q | q) | q); exact .inl q; exact .inr (.inl q); exact .inr (.inr q)
      · rintro (q | q | q); exact .inl (.inl q); exact .inl (.inr q); exact .inr q
theorem growE_cons (l : List EnvD) (e : EnvD) (m : List EnvD) : growE l (e :: m) = growE (growE l [e]) m := rfl
theorem growE_nodup : ∀ (m l : List EnvD), l.Nodup → (growE l m).Nodup
  | [], l, h => h
  | e :: m, l, h => by
    rw [growE_cons]
    refine growE_nodup m _ ?_
    rw [growE_one]
    split
    · exact h
    · rename_i q
      exact List.nodup_append.2 ⟨h, by simp, fun x hx y hy e2 => by simp at hy; subst hy; subst e2; exact q hx⟩
theorem growE_prefix : ∀ (m l : List EnvD), ∃ r, growE l m = l ++ r
  | [], l => ⟨[], by simp [growE]⟩
  | e :: m, l => by
    rw [growE_cons, growE_one]
    split
    · exact growE_prefix m l
    · obtain ⟨r, hr⟩ := growE_prefix m (l ++ [e])
      exact ⟨e :: r, by rw [hr]; simp⟩
theorem EG.grow {l : List (List UInt8)} {es fs : List EnvD} (h : EG l es) (h2 : EG l fs) : EG l (growE es fs) := fun x hx => (growE_mem.1 hx).elim (h x) (h2 x)
theorem takeB_of {w t : Nat} {tip : Int} {l : List (List UInt8)} : ∀ (fs es : List EnvD), EG l es → EG l fs → (LS.of w t tip l es).takeB l fs = LS.of w t tip l (growE es fs)
  | [], es, _, _ => rfl
  | e :: fs, es, h, h2 => by
    show ((LS.of w t tip l es).take1 l e).takeB l fs = _
    rw [take1_of h (h2 e (by simp)).1, takeB_of fs _ (h.grow fun x hx => by simp at hx; subst hx; exact h2 x (by simp)) (fun x hx => h2 x (by simp [hx])), ← growE_cons]
/-- What the blocks up to one hold. -/
def EV (Es : List (List EnvD)) (n : Nat) : List EnvD := (Es.take n).foldl growE []
theorem EV_zero (Es : List (List EnvD)) : EV Es 0 = [] := rfl
theorem EV_succ {Es : List (List EnvD)} {n : Nat} {E : List EnvD} (h : Es[n]? = some E) : EV Es (n + 1) = growE (EV Es n) E := by
  unfold EV; rw [List.take_add_one, h]; simp
theorem EV_app {Es : List (List EnvD)} {n : Nat} (h : n ≤ Es.length) (E : List EnvD) : EV (Es ++ [E]) n = EV Es n := by
  unfold EV; rw [List.take_append_of_le_length h]
theorem EV_mem {Es : List (List EnvD)} {P : EnvD → Prop} (h : ∀ E ∈ Es, ∀ e ∈ E, P e) : ∀ n, ∀ e ∈ EV Es n, P e := by
  intro n
  unfold EV
  have : ∀ (L : List (List EnvD)) (acc : List EnvD), (∀ E ∈ L, ∀ e ∈ E, P e) → (∀ e ∈ acc, P e) → ∀ e ∈ L.foldl growE acc, P e := by
    intro L
    induction L with
    | nil => intro acc _ h; exact h
    | cons E L ih => intro acc h1 h2; exact ih _ (fun E2 hE => h1 E2 (by simp [hE])) fun e he => (growE_mem.1 he).elim (h2 e) (h1 E (by simp) e)
  exact this _ _ (fun E hE => h E (List.mem_of_mem_take hE)) (fun e he => nomatch he)
theorem EV_nodup (Es : List (List EnvD)) : ∀ n, (EV Es n).Nodup := by
  intro n
  unfold EV
  have : ∀ (L : List (List EnvD)) (acc : List EnvD), acc.Nodup → (L.foldl growE acc).Nodup := by
    intro L
    induction L with
    | nil => intro acc h; exact h
    | cons E L ih => intro acc h; exact ih _ (growE_nodup E acc h)
  exact this _ _ (by simp)
theorem EV_prefix (Es : List (List EnvD)) {a b : Nat} (h : a ≤ b) : ∃ r, EV Es b = EV Es a ++ r := by
  have h2 : Es.take b = Es.take a ++ (Es.take b).drop a := by
    have := (List.take_append_drop a (Es.take b)).symm
    rwa [List.take_take, Nat.min_eq_left h] at this
  unfold EV
  rw [h2, List.foldl_append]
  generalize (Es.take b).drop a = L
  generalize (Es.take a).foldl growE [] = acc
  induction L generalizing acc with
  | nil => exact ⟨[], by simp⟩
  | cons E L ih =>
    obtain ⟨r, hr⟩ := growE_prefix E acc
    obtain ⟨r2, hr2⟩ := ih (growE acc E)
    exact ⟨r ++ r2, by rw [List.foldl_cons, hr2, hr, List.append_assoc]⟩
theorem nodup_len {α : Type} [DecidableEq α] {l B : List α} (hn : l.Nodup) (h : ∀ w ∈ l, w ∈ B) : l.length ≤ B.length := by
  induction l generalizing B with
  | nil => simp
  | cons x l ih =>
    have hx := h x (by simp)
    have hn2 := List.nodup_cons.1 hn
    have h3 := ih (B := B.erase x) hn2.2 (fun w hw => by
      have hne : w ≠ x := fun e => hn2.1 (e ▸ hw)
      exact (List.mem_erase_of_ne hne).2 (h w (by simp [hw])))
    rw [List.length_erase_of_mem hx] at h3
    have := List.length_pos_of_mem hx
    simp; omega
/-- A tree that is one way. -/
structure Ch (w : Nat) (st : TS) (l : List (List UInt8)) (ds : List Int) (Es : List (List EnvD)) : Prop where
  w : st.w = w
  tl : TL st l
  ok : st.Ok
  len : ds.length = Es.length + 1
  tlen : st.T.length = Es.length + 1
  at0 : ds[0]? = some st.root
  get0 : mget st.T st.root = some zBlk
  get : ∀ (j : Nat) E d p, Es[j]? = some E → ds[j + 1]? = some d → ds[j]? = some p → mget st.T d = some ⟨(j : Int) + 1, 0, (j : Int), p, [], E⟩
  top : ∀ d b, mget st.T d = some b → b.view ≤ Es.length
  eg : ∀ E ∈ Es, EG l E
theorem Ch.at {w : Nat} {st : TS} {l : List (List UInt8)} {ds : List Int} {Es : List (List EnvD)} (h : Ch w st l ds Es) {j : Nat} {d : Int} (hd : ds[j]? = some d) : ∃ b, mget st.T d = some b ∧ b.view = j := by
  cases j with
  | zero => rw [h.at0] at hd; cases hd; exact ⟨zBlk, h.get0, rfl⟩
  | succ j =>
    have hj : j + 1 < ds.length := (List.getElem?_eq_some_iff.1 hd).1
    have hl := h.len
    exact ⟨_, h.get j _ d _ (List.getElem?_eq_getElem (by omega)) hd (List.getElem?_eq_getElem (by omega)), by dsimp only; omega⟩
theorem Ch.inj {w : Nat} {st : TS} {l : List (List UInt8)} {ds : List Int} {Es : List (List EnvD)} (h : Ch w st l ds Es) {i j : Nat} {d : Int} (hi : ds[i]? = some d) (hj : ds[j]? = some d) : i = j := by
  obtain ⟨b, h1, h2⟩ := h.at hi
  obtain ⟨c, h3, h4⟩ := h.at hj
  rw [h1] at h3; cases h3; omega
theorem Ch.arena {w : Nat} {st : TS} {l : List (List UInt8)} {ds : List Int} {Es : List (List EnvD)} (h : Ch w st l ds Es) : ∀ x b, mget st.T x = some b → ∀ e ∈ b.envs, envB e ∈ l := fun x b hx e he => by
  by_cases hr : x = st.root
  · rw [hr, h.get0] at hx; cases hx; simp [zBlk] at he
  · exact (h.tl.blk x b hx hr).2.1 e he
theorem Ch.start (w : Nat) {l : List (List UInt8)} (hl : Ext [rootB] l) : Ch w (tS0 w) l [1] [] := by
  have h := TL.start (l := [rootB]) w (by simp)
  rw [show dnum [rootB] rootB = 1 by simp [dnum]] at h
  exact ⟨rfl, TL.ext (s := tS0 w) h hl, TS.Ok.new w 1, rfl, rfl, rfl, rfl, (fun j E d p h => by simp at h), (fun d b h => by
    simp only [tS0, mget] at h
    split at h
    · cases h; simp [zBlk]
    · cases h), fun E hE => nomatch hE⟩
theorem Ch.add {w : Nat} {st : TS} {l : List (List UInt8)} {ds : List Int} {Es : List (List EnvD)} (h : Ch w st l ds Es) {E : List EnvD} (hE : ∀ e ∈ E, e.Good) (hl : l.length ≤ 10000) (hn : Es.length ≤ 50) (hEl : E.length ≤ 100) {p : Int} (hp : ds[Es.length]? = some p) :
    ∃ D st', st.add l ⟨(Es.length : Int) + 1, 0, (Es.length : Int), p, [], E⟩ = ((D, 0), st', blkL l ⟨(Es.length : Int) + 1, 0, (Es.length : Int), p, [], E⟩) ∧ Ch w st' (blkL l ⟨(Es.length : Int) + 1, 0, (Es.length : Int), p, [], E⟩) (ds ++ [D]) (Es ++ [E]) := by
  obtain ⟨q, hq, hqv⟩ := h.at hp
  have hpi : I64 p := by
    by_cases hr : p = st.root
    · rw [hr, h.tl.root]; exact dnum_i64 (by omega) _
    · rw [(h.tl.blk p q hq hr).2.2.2]; exact dnum_i64 (by omega) _
  have hg : Blk.Good ⟨(Es.length : Int) + 1, 0, (Es.length : Int), p, [], E⟩ := ⟨by unfold I64; dsimp only; omega, by unfold I64; dsimp only; omega, by unfold I64; dsimp only; omega, hpi, fun x hx => (nomatch hx), hE, by simp, by dsimp only; omega⟩
  have hno := (h.tl.new hg (by omega) fun d hd => by have := h.top d _ hd; dsimp only at this; omega).1
  obtain ⟨h1, h2, h3⟩ := h.tl.add h.ok hg (by omega) (by rw [h.tlen]; omega) hq hqv.symm (by dsimp only; omega) hno
  generalize hD : ((blkD l ⟨(Es.length : Int) + 1, 0, (Es.length : Int), p, [], E⟩ : Nat) : Int) = D at *
  have hex := blkL_ext l ⟨(Es.length : Int) + 1, 0, (Es.length : Int), p, [], E⟩
  have hget := fun d => mget_app st.T D d ⟨(Es.length : Int) + 1, 0, (Es.length : Int), p, [], E⟩ hno
  have hold : ∀ d b, mget st.T d = some b → mget (st.T ++ [(D, ⟨(Es.length : Int) + 1, 0, (Es.length : Int), p, [], E⟩)]) d = some b := fun d b hb => by
    rw [hget, if_neg (fun e => by rw [e, hno] at hb; cases hb)]; exact hb
  have hlen := h.len
  refine ⟨D, _, h1, ⟨h.w, h2, h3, by simp [hlen], by simp [h.tlen], ?_, hold _ _ h.get0, ?_, ?_, ?_⟩⟩
  · show (ds ++ [D])[0]? = some st.root
    rw [List.getElem?_append_left (by omega)]; exact h.at0
  · intro j E2 d p2 hj hd hp2
    by_cases hj1 : j < Es.length
    · rw [List.getElem?_append_left hj1] at hj
      rw [List.getElem?_append_left (by omega)] at hd hp2
      exact hold _ _ (h.get j E2 d p2 hj hd hp2)
    · have hj2 : j < (Es ++ [E]).length := (List.getElem?_eq_some_iff.1 hj).1
      have hj3 : j = Es.length := by simp at hj2; omega
      subst hj3
      rw [List.getElem?_append_right (by omega), Nat.sub_self] at hj
      rw [List.getElem?_append_right (by omega), hlen, Nat.sub_self] at hd
      rw [List.getElem?_append_left (by omega), hp] at hp2
      cases hj; cases hd; cases hp2
      show mget (st.T ++ _) D = _
      rw [hget, if_pos rfl]
  · intro d b hb
    have hb2 : (if d = D then some _ else mget st.T d) = some b := (hget d) ▸ hb
    split at hb2
    · cases hb2; simp
    · have := h.top d b hb2; simp; omega
  · intro E2 hE2
    rcases List.mem_append.1 hE2 with h4 | h4
    · exact fun e he => ⟨(h.eg E2 h4 e he).1, hex.mem (h.eg E2 h4 e he).2⟩
    · simp at h4; subst h4
      exact fun e he => ⟨hE e he, (Ext.put _ _).mem (digsL_mem (e := e) he)⟩
theorem Ch.way {w : Nat} {st : TS} {l : List (List UInt8)} {ds : List Int} {Es : List (List EnvD)} (h : Ch w st l ds Es) {a : Nat} {x : Int} (hx : ds[a]? = some x) : ∀ (b : Nat) (y : Int), ds[b]? = some y → st.way x y = if a ≤ b then some ((ds.take (b + 1)).drop (a + 1)) else none := by
  intro b
  induction b with
  | zero =>
    intro y hy
    have h0 := h.at0
    rw [h0] at hy; cases hy
    rw [way_eq h.ok h.get0]
    by_cases ha : a = 0
    · subst ha; rw [h0] at hx; cases hx
      rw [if_pos rfl, if_pos (Nat.le_refl _), List.drop_of_length_le (by simp; omega)]
    · rw [if_neg (fun e => ha (h.inj (by rw [hx, ← e]) h0)), if_pos rfl, if_neg (by omega)]
  | succ b ih =>
    intro y hy
    have hl := h.len
    have hb : b + 1 < ds.length := (List.getElem?_eq_some_iff.1 hy).1
    obtain ⟨p, hp⟩ : ∃ p, ds[b]? = some p := ⟨_, List.getElem?_eq_getElem (by omega)⟩
    have hg := h.get b _ y p (List.getElem?_eq_getElem (by omega)) hy hp
    rw [way_eq h.ok hg, if_neg (show ¬ y = st.root from fun e => by have := h.inj hy (e ▸ h.at0); omega)]
    by_cases ha : a = b + 1
    · subst ha; rw [hx] at hy; cases hy
      rw [if_pos rfl, if_pos (Nat.le_refl _), List.drop_of_length_le (by simp; omega)]
    · rw [if_neg (fun e => ha (h.inj hx (by rw [hy, e]))), ih p hp]
      by_cases hab : a ≤ b
      · rw [if_pos hab, if_pos (by omega), Option.map_some, List.take_add_one (i := b + 1), hy, List.drop_append_of_le_length (by simp; omega)]; rfl
      · rw [if_neg hab, if_neg (by omega)]; rfl
theorem Ch.go {w t : Nat} {st : TS} {l : List (List UInt8)} {ds : List Int} {Es : List (List EnvD)} (h : Ch w st l ds Es) {a : Nat} {x : Int} (hx : ds[a]? = some x) : ∀ (b : Nat) (y : Int), a ≤ b → ds[b]? = some y → (LS.of w t x l (EV Es a)).goB l st ((ds.take (b + 1)).drop (a + 1)) = LS.of w t y l (EV Es b) := by
  intro b
  induction b with
  | zero =>
    intro y ha hy
    obtain rfl : a = 0 := by omega
    rw [hx] at hy; cases hy
    rw [List.drop_of_length_le (by simp; omega)]; rfl
  | succ b ih =>
    intro y ha hy
    have hl := h.len
    have hb : b + 1 < ds.length := (List.getElem?_eq_some_iff.1 hy).1
    by_cases hab : a = b + 1
    · subst hab; rw [hx] at hy; cases hy
      rw [List.drop_of_length_le (by simp; omega)]; rfl
    · obtain ⟨p, hp⟩ : ∃ p, ds[b]? = some p := ⟨_, List.getElem?_eq_getElem (by omega)⟩
      obtain ⟨E, hE⟩ : ∃ E, Es[b]? = some E := ⟨_, List.getElem?_eq_getElem (by omega)⟩
      have hg := h.get b E y p hE hy hp
      rw [List.take_add_one (i := b + 1), hy, List.drop_append_of_le_length (by simp; omega)]
      show LS.goB l st _ (_ ++ [y]) = _
      rw [goB_snoc, ih p (by omega) hp]
      unfold LS.step
      rw [hg, Option.getD_some, takeB_of _ _ (EV_mem (P := fun e => e.Good ∧ envB e ∈ l) (fun E hE => h.eg E hE) b) (h.eg E (List.mem_of_getElem? hE)), EV_succ hE]
      rfl
theorem Ch.commit {w t : Nat} {st : TS} {l : List (List UInt8)} {ds : List Int} {Es : List (List EnvD)} (h : Ch w st l ds Es) {a b : Nat} {x y : Int} (hx : ds[a]? = some x) (hy : ds[b]? = some y) {m : Nat} (hm : m = max a b) {z : Int} (hz : ds[m]? = some z) : (LS.of w t x l (EV Es a)).commit l st y = (true, LS.of w t z l (EV Es m)) := by
  unfold LS.commit
  rw [show (LS.of w t x l (EV Es a)).tip = x from rfl, h.way hy a x hx, h.way hx b y hy]
  by_cases hba : b ≤ a
  · rw [if_pos hba]
    refine (if_pos rfl).trans ?_
    obtain rfl : m = a := by omega
    rw [hx] at hz; cases hz; rfl
  · rw [if_neg hba, if_neg (by simp), if_pos (by omega)]
    obtain rfl : m = b := by omega
    rw [hy] at hz; cases hz
    rw [Option.getD_some, h.go hx m y (by omega) hy]; rfl
theorem Ch.views {w : Nat} {st : TS} {l : List (List UInt8)} {ds : List Int} {Es : List (List EnvD)} (h : Ch w st l ds Es) (hn : Es.length ≤ 50) (d : Int) : (viewOf (mget st.T d)).toNat ≤ 1000 := by
  cases hd : mget st.T d with
  | none => simp [viewOf]
  | some b => have := h.top d b hd; simp [viewOf]; omega
end Go.Proofs.Ytnifaajdiolbjaa
