/- Blocks on those that are certified, votes, what is fixed: the law's rows. Plain Lean. -/
import Derived.Test.YtmigjpmadhebfaaFp
namespace Go.Proofs.Ytmigjpmadhebfaa
open Go Go.Proofs
/-- A tree and the blocks that were laid. -/
structure GI (w : Nat) (s : TS) (l : List (List UInt8)) (ds : List Int) (m : Nat) : Prop where
  tl : TL s l
  ok : s.Ok
  w : s.w = w
  root : s.root = 1
  first : ds[0]? = some 1
  in_ : ∀ d ∈ ds, ∃ b, mget s.T d = some b
  mem : ∀ d b, mget s.T d = some b → d ∈ ds
  flat : ∀ d b, mget s.T d = some b → 0 ≤ b.view ∧ b.view ≤ 2 * m ∧ (d ≠ s.root → 0 ≤ b.author ∧ b.author < m)
  dig : ∀ d ∈ ds, 0 < d ∧ d ≤ l.length
  size : ds.length ≤ m + 1
  arena : l.length ≤ m + 1
  tlen : s.T.length = ds.length
  nd : ds.Nodup
theorem GI.next {w : Nat} {s : TS} {l : List (List UInt8)} {ds : List Int} {m : Nat} (h : GI w s l ds m) : GI w s l ds (m + 1) :=
  ⟨h.tl, h.ok, h.w, h.root, h.first, h.in_, h.mem, fun d b hd => by obtain ⟨h1, h2, h3⟩ := h.flat d b hd; exact ⟨h1, by omega, fun hr => by have := h3 hr; omega⟩, h.dig, by have := h.size; omega, by have := h.arena; omega, h.tlen, h.nd⟩
theorem GI.zero {w : Nat} {s : TS} {l : List (List UInt8)} {ds : List Int} {m : Nat} (h : GI w s l ds m) : mget s.T 0 = none := by
  cases hg : mget s.T 0 with
  | none => rfl
  | some b => have := (h.dig 0 (h.mem 0 b hg)).1; omega
theorem GI.views {w : Nat} {s : TS} {l : List (List UInt8)} {ds : List Int} {m : Nat} (h : GI w s l ds m) (hm : m ≤ 100) (d : Int) : -1 ≤ viewOf (mget s.T d) ∧ viewOf (mget s.T d) ≤ 200 := by
  cases hg : mget s.T d with
  | none => simp [viewOf]
  | some b => obtain ⟨h1, h2, _⟩ := h.flat d b hg; show -1 ≤ b.view ∧ b.view ≤ 200; omega
theorem GI.start (w : Nat) : GI w (tS0 w) [rootB] [1] 0 := by
  have h := TL.start (l := [rootB]) w (by simp)
  rw [show dnum [rootB] rootB = 1 by simp [dnum]] at h
  have hg : ∀ d b, mget (tS0 w).T d = some b → d = 1 ∧ b = zBlk := fun d b hd => by
    by_cases h : d = 1
    · subst h; simp [tS0, mget] at hd; exact ⟨rfl, hd.symm⟩
    · simp [tS0, mget, h] at hd
  refine ⟨h, TS.Ok.new w 1, rfl, rfl, rfl, fun d hd => ?_, fun d b hd => ?_, fun d b hd => ?_, fun d hd => ?_, by simp, by simp, rfl, by simp⟩
  · simp at hd; subst hd; exact ⟨zBlk, by simp [tS0, mget]⟩
  · rw [(hg d b hd).1]; simp
  · obtain ⟨h1, h2⟩ := hg d b hd
    subst h2
    exact ⟨by decide, by decide, fun hr => absurd h1 hr⟩
  · simp at hd; subst hd; simp
theorem GI.lay {w : Nat} {s : TS} {l : List (List UInt8)} {ds : List Int} {i : Nat} (h : GI w s l ds i) (hi : i ≤ 80) {dk x : Int} (hk : dk ∈ ds) (hx : x = 0 ∨ x = 1) {b : Blk} (hb : b = ⟨vw s dk + 1 + x, (i : Int), vw s dk, dk, [], []⟩) :
    ∃ s' l', s.add l b = ((((blkD l b : Nat) : Int), 0), s', l') ∧ GI w s' l' (ds ++ [((blkD l b : Nat) : Int)]) (i + 1) ∧ mget s.T ((blkD l b : Nat) : Int) = none ∧ ((blkD l b : Nat) : Int) ≠ 0 ∧ s'.root = s.root ∧ ∀ e, mget s'.T e = if e = ((blkD l b : Nat) : Int) then some b else mget s.T e := by
  have har := h.arena
  have hsz := h.size
  have htl := h.tlen
  obtain ⟨q, hq⟩ := h.in_ dk hk
  have hv := vw_of hq
  obtain ⟨q1, q2, _⟩ := h.flat dk q hq
  have hdk := h.dig dk hk
  have hgood : b.Good := hb ▸ good_nil (by unfold I64; omega) (by unfold I64; omega) (by unfold I64; omega) (by unfold I64; omega)
  have hba : b.author = i := by rw [hb]
  have hbv : b.view = vw s dk + 1 + x := by rw [hb]
  have hbj : b.jv = vw s dk := by rw [hb]
  have hbk : b.jb = dk := by rw [hb]
  have hbe : b.envs = [] := by rw [hb]
  have hnew := h.tl.new hgood (by omega) fun d hd => Classical.byContradiction fun hr => by
    have := (h.flat d b hd).2.2 hr
    omega
  obtain ⟨e1, e2, e3⟩ := h.tl.add h.ok hgood (by omega) (by omega) (by rw [hbk]; exact hq) (by rw [hbj, hv]) (by rw [hbj, hbv]; omega) hnew.1
  have hget : ∀ d, mget (s.T ++ [(((blkD l b : Nat) : Int), b)]) d = if d = ((blkD l b : Nat) : Int) then some b else mget s.T d := fun d => mget_app _ _ _ _ hnew.1
  have hlen := blkL_len l b
  rw [hbe, List.length_nil] at hlen
  have hext := (blkL_ext l b).len
  have hpos : 0 < ((blkD l b : Nat) : Int) ∧ ((blkD l b : Nat) : Int) ≤ (blkL l b).length := by
    unfold blkD
    have h1 := dnum_pos (dput_mem (digsL l b.envs) (blkB (digsL l b.envs) b))
    have h2 := dnum_le (blkL l b) (blkB (digsL l b.envs) b)
    unfold blkL at h2 ⊢
    omega
  refine ⟨_, _, e1, ⟨e2, e3, h.w, h.root, ?_, fun d hd => ?_, fun d c hc => ?_, fun d c hc => ?_, fun d hd => ?_, by simp; omega, by omega, by simp [h.tlen], ?_⟩, hnew.1, by omega, rfl, hget⟩
  · rw [List.getElem?_append_left (List.getElem?_eq_some_iff.1 h.first).1]; exact h.first
  · rcases List.mem_append.1 hd with hd | hd
    · obtain ⟨c, hc⟩ := h.in_ d hd
      refine ⟨c, ?_⟩
      rw [hget, if_neg (fun e => by rw [e, hnew.1] at hc; cases hc)]; exact hc
    · simp at hd; exact ⟨b, by rw [hget, if_pos hd]⟩
  · rw [hget] at hc
    split at hc
    · rename_i e; rw [e]; simp
    · exact List.mem_append_left _ (h.mem d c hc)
  · rw [hget] at hc
    split at hc
    · cases hc; refine ⟨by omega, by omega, fun _ => by omega⟩
    · obtain ⟨h1, h2, h3⟩ := h.flat d c hc
      exact ⟨h1, by omega, fun hr => by have := h3 hr; omega⟩
  · rcases List.mem_append.1 hd with hd | hd
    · have := h.dig d hd; omega
    · simp at hd; rw [hd]; exact hpos
  · rw [List.nodup_append]
    refine ⟨h.nd, by simp, fun x hx y hy e => ?_⟩
    simp at hy; subst hy
    obtain ⟨c, hc⟩ := h.in_ x hx
    rw [e, hnew.1] at hc; cases hc
/-- What is certified. -/
def CC (ds : List Int) (ce : List Bool) (e : Int) : Prop := ∃ j : Nat, ds[j]? = some e ∧ ce[j]? = some true
def sat (L : List (Nat × SS)) (h : Nat) : SS := ((L[h]?).map Prod.snd).getD ⟨0, 0, 0, 1, 0⟩
theorem sat_of {L : List (Nat × SS)} {h : Nat} {y : Nat × SS} (e : L[h]? = some y) : sat L h = y.2 := by unfold sat; rw [e]; rfl
theorem sat_set {L : List (Nat × SS)} {w : Nat} (y : Nat × SS) (h : w < L.length) : sat (L.set w y) = upd (sat L) w y.2 := by
  funext v
  unfold sat upd
  by_cases e : v = w
  · subst e; rw [List.getElem?_set_self h, if_pos rfl]; rfl
  · rw [List.getElem?_set_ne (fun h => e h.symm), if_neg e]
/-- The votes for those that are not certified yet. -/
def VV (ds : List Int) (ce : List Bool) (vo : List Nat) (Q : Int → Nat → Prop) : Prop := ∀ (j : Nat) d m, ds[j]? = some d → ce[j]? = some false → vo[j]? = some m → ∀ h, h < 3 → m.testBit h = true → Q d h
structure FJ (s : TS) (p : Nat) (ds : List Int) (L : List (Nat × SS)) (ce : List Bool) (vo : List Nat) (fx : Int) : Prop where
  si : ∃ Q, SI s (CC ds ce) Q (sat L) ∧ VV ds ce vo Q
  fix : Fix s (CC ds ce) fx
  lc : ce.length = ds.length
  lv : vo.length = ds.length
  v8 : ∀ m ∈ vo, m < 8
  ll : L.length = 3
  lt : ∀ x ∈ L, x.2.t = p
theorem FJ.start (w p y0 y1 y2 : Nat) : FJ (tS0 w) p [1] [(y0, ⟨p, 0, 1, 1, 0⟩), (y1, ⟨p, 0, 1, 1, 0⟩), (y2, ⟨p, 0, 1, 1, 0⟩)] [true] [7] 1 := by
  have hg := GI.start w
  have hS : ∀ h, (sat [(y0, (⟨p, 0, 1, 1, 0⟩ : SS)), (y1, ⟨p, 0, 1, 1, 0⟩), (y2, ⟨p, 0, 1, 1, 0⟩)] h).lock = 1 ∧ 0 ≤ (sat [(y0, (⟨p, 0, 1, 1, 0⟩ : SS)), (y1, ⟨p, 0, 1, 1, 0⟩), (y2, ⟨p, 0, 1, 1, 0⟩)] h).last := fun h => by
    rcases h with _ | _ | _ | h <;> simp [sat]
  have hC1 : CC [1] [true] 1 := ⟨0, rfl, rfl⟩
  have hone : ∀ d b, mget (tS0 w).T d = some b → d = 1 := fun d b h => by have := hg.mem d b h; simpa using this
  refine ⟨⟨fun _ _ => False, ⟨hC1, fun d hd => ?_, fun d b hb hr => absurd (hone d b hb) hr, fun d hd hr => ?_, fun _ _ h => h.elim, fun _ _ _ h => h.elim, fun h => ?_, fun _ _ h => h.elim, fun _ _ _ h => h.elim, fun h => (hS h).2⟩, ?_⟩, .inl rfl, rfl, rfl, by simp, rfl, by simp⟩
  · obtain ⟨j, h1, h2⟩ := hd; exact hg.in_ d (List.mem_of_getElem? h1)
  · obtain ⟨j, h1, h2⟩ := hd
    have := List.mem_of_getElem? h1
    simp at this
    exact absurd this hr
  · rw [(hS h).1]; exact hC1
  · intro j d m h1 h2
    have := List.mem_of_getElem? h2
    simp at this
section
variable {w p : Nat} {s : TS} {l : List (List UInt8)} {ds : List Int} {i : Nat} {L : List (Nat × SS)} {ce : List Bool} {vo : List Nat} {fx : Int}
theorem CC.mem {e : Int} (h : CC ds ce e) : e ∈ ds := by obtain ⟨j, h1, _⟩ := h; exact List.mem_of_getElem? h1
theorem CC.app {e D : Int} (hl : ce.length = ds.length) : CC (ds ++ [D]) (ce ++ [false]) e ↔ CC ds ce e := by
  constructor
  · rintro ⟨j, h1, h2⟩
    by_cases hj : j < ds.length
    · rw [List.getElem?_append_left hj] at h1
      rw [List.getElem?_append_left (by omega)] at h2
      exact ⟨j, h1, h2⟩
    · have := (List.getElem?_eq_some_iff.1 h1).1
      simp at this
      obtain rfl : j = ds.length := by omega
      rw [← hl] at h2
      simp at h2
  · rintro ⟨j, h1, h2⟩
    have h3 := (List.getElem?_eq_some_iff.1 h1).1
    exact ⟨j, by rw [List.getElem?_append_left h3]; exact h1, by rw [List.getElem?_append_left (by omega)]; exact h2⟩
theorem CC.set {e d : Int} {k : Nat} (hd : ds[k]? = some d) (hl : ce.length = ds.length) : CC ds (ce.set k true) e ↔ (CC ds ce e ∨ e = d) := by
  have hk := (List.getElem?_eq_some_iff.1 hd).1
  constructor
  · rintro ⟨j, h1, h2⟩
    by_cases e1 : j = k
    · subst e1; rw [hd] at h1; cases h1; exact .inr rfl
    · rw [List.getElem?_set_ne (fun h => e1 h.symm)] at h2; exact .inl ⟨j, h1, h2⟩
  · rintro (⟨j, h1, h2⟩ | rfl)
    · by_cases e1 : j = k
      · subst e1; exact ⟨j, h1, List.getElem?_set_self (by omega)⟩
      · exact ⟨j, h1, by rw [List.getElem?_set_ne (fun h => e1 h.symm)]; exact h2⟩
    · exact ⟨k, hd, List.getElem?_set_self (by omega)⟩
theorem FJ.lay (h : FJ s p ds L ce vo fx) (hg : GI w s l ds i) {s' : TS} {D : Int} {b : Blk} (ho' : s'.Ok) (h0 : D ≠ 0) (hr : s'.root = s.root) (hno : mget s.T D = none) (hget : ∀ e, mget s'.T e = if e = D then some b else mget s.T e) (hp : CC ds ce b.jb) : FJ s' p (ds ++ [D]) L (ce ++ [false]) (vo ++ [0]) fx := by
  obtain ⟨Q, h1, h2⟩ := h.si
  obtain ⟨h3, h4⟩ := h1.lay hg.ok ho' hg.zero h0 hr hno hget hp
  refine ⟨⟨Q, h3.equiv fun e => (CC.app h.lc).symm, fun j d m e1 e2 e3 v hv hb => ?_⟩, (h4 fx h.fix).mono fun e => (CC.app h.lc).2, by simp [h.lc], by simp [h.lv], fun m hm => ?_, h.ll, h.lt⟩
  · by_cases hj : j < ds.length
    · rw [List.getElem?_append_left hj] at e1
      rw [List.getElem?_append_left (by rw [h.lc]; exact hj)] at e2
      rw [List.getElem?_append_left (by rw [h.lv]; exact hj)] at e3
      exact h2 j d m e1 e2 e3 v hv hb
    · have := (List.getElem?_eq_some_iff.1 e1).1
      simp at this
      obtain rfl : j = ds.length := by omega
      rw [← h.lv] at e3
      simp at e3; subst e3
      simp at hb
  · rcases List.mem_append.1 hm with hm | hm
    · exact h.v8 m hm
    · simp at hm; omega
theorem FJ.more (h : FJ s p ds L ce vo fx) {k : Nat} {y : Nat} {x x' : SS} (hk : L[k]? = some (y, x)) (hm : (∀ Q, SI s (CC ds ce) Q (sat L) → More s (CC ds ce) x x') ∧ x'.t = x.t) : FJ s p ds (L.set k (y, x')) ce vo fx := by
  obtain ⟨Q, h1, h2⟩ := h.si
  have hkl := (List.getElem?_eq_some_iff.1 hk).1
  refine ⟨⟨Q, ?_, h2⟩, h.fix, h.lc, h.lv, h.v8, by simp [h.ll], fun z hz => ?_⟩
  · rw [sat_set _ hkl]
    exact h1.turn (by rw [sat_of hk]; exact hm.1 Q h1)
  · rcases List.mem_or_eq_of_mem_set hz with hz | rfl
    · exact h.lt z hz
    · rw [hm.2]; exact h.lt _ (List.mem_of_getElem? hk)
theorem FJ.lockC (h : FJ s p ds L ce vo fx) {k y : Nat} {x : SS} (hk : L[k]? = some (y, x)) : CC ds ce x.lock ∧ x.t = p := by
  obtain ⟨Q, h1, h2⟩ := h.si
  have := h1.lock k
  rw [sat_of hk] at this
  exact ⟨this, h.lt _ (List.mem_of_getElem? hk)⟩
theorem FJ.skip (h : FJ s p ds L ce vo fx) {k y : Nat} {x : SS} (hk : L[k]? = some (y, x)) (v : Int) : FJ s p ds (L.set k (y, ⟨x.t, x.hv, x.hb, x.lock, max x.last v⟩)) ce vo fx :=
  h.more hk ⟨fun Q hq => ⟨(h.lockC hk).1, Int.le_refl _, Int.le_max_left _ _⟩, rfl⟩
theorem FJ.see (h : FJ s p ds L ce vo fx) (hg : GI w s l ds i) {k y : Nat} {x : SS} (hk : L[k]? = some (y, x)) {e : Int} (he : CC ds ce e) :
    FJ s p ds (L.set k (y, (x.see s (viewOf (mget s.T e)) e).2)) ce vo fx ∧ vw s (parOf s e) ≤ vw s (x.see s (viewOf (mget s.T e)) e).2.lock ∧ ((x.see s (viewOf (mget s.T e)) e).1 ≠ 0 → Fixed s (CC ds ce) (x.see s (viewOf (mget s.T e)) e).1) := by
  obtain ⟨Q, h1, h2⟩ := h.si
  obtain ⟨h3, h4, h5, h6⟩ := h1.see hg.ok hg.zero (h.lockC hk).1 he (viewOf (mget s.T e))
  exact ⟨h.more hk ⟨fun _ _ => h3, h4⟩, h5 rfl, h6⟩
theorem FJ.refix (h : FJ s p ds L ce vo fx) (hg : GI w s l ds i) {c : Int} (hc : Fixed s (CC ds ce) c) : FJ s p ds L ce vo (if onw s fx c then c else fx) ∧ (onw s fx c || onw s c fx) = true := by
  obtain ⟨Q, h1, h2⟩ := h.si
  have h3 := h1.oneway hg.ok h.fix (.inr hc)
  refine ⟨⟨h.si, ?_, h.lc, h.lv, h.v8, h.ll, h.lt⟩, by rcases h3 with h3 | h3 <;> simp [h3]⟩
  split
  · exact .inr hc
  · exact h.fix
theorem FJ.in_ (h : FJ s p ds L ce vo fx) (hg : GI w s l ds i) {c : Int} (hc : Fix s (CC ds ce) c) : CC ds ce c ∧ (∃ b, mget s.T c = some b) ∧ 0 < c := by
  obtain ⟨Q, h1, h2⟩ := h.si
  have h3 := h1.fixC hc
  exact ⟨h3, h1.cin c h3, (hg.dig c h3.mem).1⟩
theorem FJ.parC (h : FJ s p ds L ce vo fx) (hg : GI w s l ds i) {d : Int} (hd : d ∈ ds) (h0 : parOf s d ≠ 0) : CC ds ce (parOf s d) := by
  obtain ⟨Q, h1, h2⟩ := h.si
  obtain ⟨b, hb⟩ := hg.in_ d hd
  exact h1.par d b hb fun e => h0 (by rw [e]; exact hg.ok.vroot.2.1)
theorem FJ.vote (h : FJ s p ds L ce vo fx) (hg : GI w s l ds i) {k y : Nat} {x : SS} (hk : L[k]? = some (y, x)) {o : Nat} {d : Int} (hd : ds[o]? = some d) {m : Nat} (hm : vo[o]? = some m) (hs : vw s (parOf s (parOf s d)) ≤ vw s x.lock) :
    ((x.vote s d).1 = true → FJ s p ds (L.set k (y, (x.vote s d).2)) ce (vo.set o (m ||| (1 <<< k))) fx) ∧ ((x.vote s d).1 = false → FJ s p ds (L.set k (y, (x.vote s d).2)) ce vo fx) := by
  have hmore := h.more (x' := (x.vote s d).2) hk ⟨fun Q hq => (SS.vote_more (h.lockC hk).1).1, (SS.vote_more (C := fun _ => True) (s := s) (d := d) (x := x) trivial).2⟩
  refine ⟨fun hv => ?_, fun _ => hmore⟩
  have hkl := (List.getElem?_eq_some_iff.1 hk).1
  have hk3 : k < 3 := by rw [← h.ll]; exact hkl
  have hol := (List.getElem?_eq_some_iff.1 hd).1
  have hm8 := h.v8 m (List.mem_of_getElem? hm)
  have hor : m ||| 1 <<< k < 8 := by
    have : 1 <<< k < 2 ^ 3 := by
      rcases k with _ | _ | _ | k <;> first | decide | omega
    exact Nat.or_lt_two_pow (n := 3) (by omega) this
  have h8 : ∀ z ∈ vo.set o (m ||| (1 <<< k)), z < 8 := fun z hz => by
    rcases List.mem_or_eq_of_mem_set hz with hz | rfl
    · exact h.v8 z hz
    · exact hor
  have hbit : ∀ v, (m ||| 1 <<< k).testBit v = true → m.testBit v = true ∨ v = k := fun v hb => by
    rw [Nat.testBit_or, Bool.or_eq_true] at hb
    rcases hb with hb | hb
    · exact .inl hb
    · rw [Nat.one_shiftLeft, Nat.testBit_two_pow] at hb
      exact .inr (of_decide_eq_true hb).symm
  by_cases hce : CC ds ce d
  · obtain ⟨Q, h1, h2⟩ := hmore.si
    refine ⟨⟨Q, h1, fun j e z e1 e2 e3 v hv' hb => ?_⟩, h.fix, h.lc, by simp [h.lv], h8, hmore.ll, hmore.lt⟩
    by_cases hj : j = o
    · subst hj
      rw [hd] at e1; cases e1
      obtain ⟨j', g1, g2⟩ := hce
      have : j' = j := (List.getElem?_inj (List.getElem?_eq_some_iff.1 g1).1 hg.nd).1 (g1.trans hd.symm)
      subst this
      rw [g2] at e2; cases e2
    · rw [List.getElem?_set_ne (fun h => hj h.symm)] at e3
      exact h2 j e z e1 e2 e3 v hv' hb
  · obtain ⟨Q, h1, h2⟩ := h.si
    have h3 := h1.vote hg.ok (w := k) (d := d) hk3 hce (by rw [sat_of hk]; exact hv) (by rw [sat_of hk]; exact hs)
    rw [sat_of hk] at h3
    refine ⟨⟨_, by rw [sat_set _ hkl]; exact h3, fun j e z e1 e2 e3 v hv' hb => ?_⟩, h.fix, h.lc, by simp [h.lv], h8, hmore.ll, hmore.lt⟩
    by_cases hj : j = o
    · subst hj
      rw [hd] at e1; cases e1
      rw [List.getElem?_set_self (by rw [h.lv]; exact hol)] at e3; cases e3
      rcases hbit v hb with hb | hb
      · exact .inl (h2 j d m hd e2 hm v hv' hb)
      · exact .inr ⟨rfl, hb⟩
    · rw [List.getElem?_set_ne (fun h => hj h.symm)] at e3
      exact .inl (h2 j e z e1 e2 e3 v hv' hb)
theorem two_of {m : Nat} (h : m = 3 ∨ m = 5 ∨ m = 6 ∨ m = 7) : ∃ a, a < 3 ∧ ∀ v, v < 3 → v ≠ a → m.testBit v = true := by
  rcases h with rfl | rfl | rfl | rfl
  · exact ⟨2, by omega, fun v h1 h2 => by rcases v with _ | _ | _ | v <;> first | decide | omega⟩
  · exact ⟨1, by omega, fun v h1 h2 => by rcases v with _ | _ | _ | v <;> first | decide | omega⟩
  · exact ⟨0, by omega, fun v h1 h2 => by rcases v with _ | _ | _ | v <;> first | decide | omega⟩
  · exact ⟨0, by omega, fun v h1 h2 => by rcases v with _ | _ | _ | v <;> first | decide | omega⟩
theorem FJ.certify (h : FJ s p ds L ce vo fx) (hg : GI w s l ds i) {o : Nat} {d : Int} (hd : ds[o]? = some d) (hn : ce[o]? = some false) {m : Nat} (hm : vo[o]? = some m) (h2 : m = 3 ∨ m = 5 ∨ m = 6 ∨ m = 7) :
    FJ s p ds L (ce.set o true) vo fx ∧ (vw s fx < vw s d → onw s fx d = true) ∧ ∀ (j : Nat) e, j ≠ o → ds[j]? = some e → (ce.set o true)[j]? = some true → vw s e ≠ vw s d := by
  obtain ⟨Q, h1, hvv⟩ := h.si
  obtain ⟨b, hb⟩ := hg.in_ d (List.mem_of_getElem? hd)
  obtain ⟨a, ha, hq⟩ := two_of h2
  have h3 := h1.certify hb ⟨a, ha, fun v hv hne => hvv o d m hd hn hm v hv (hq v hv hne)⟩
  have h4 := h3.equiv (C' := CC ds (ce.set o true)) fun e => (CC.set hd h.lc).symm
  have hfix : Fix s (CC ds (ce.set o true)) fx := h.fix.mono fun e he => (CC.set hd h.lc).2 (.inl he)
  have hcd : CC ds (ce.set o true) d := (CC.set hd h.lc).2 (.inr rfl)
  refine ⟨⟨⟨Q, h4, fun j e z e1 e2 e3 v hv hbt => ?_⟩, hfix, by simp [h.lc], h.lv, h.v8, h.ll, h.lt⟩, fun hlt => h4.ahead hg.ok hfix hcd (by omega), fun j e hj he hc hve => ?_⟩
  · by_cases hj : j = o
    · subst hj; rw [List.getElem?_set_self (by rw [h.lc]; exact (List.getElem?_eq_some_iff.1 hd).1)] at e2; cases e2
    · rw [List.getElem?_set_ne (fun h => hj h.symm)] at e2; exact hvv j e z e1 e2 e3 v hv hbt
  · have := h4.one hg.ok ⟨j, he, hc⟩ hcd hve
    subst this
    exact hj ((List.getElem?_inj (List.getElem?_eq_some_iff.1 he).1 hg.nd).1 (he.trans hd.symm))
end
end Go.Proofs.Ytmigjpmadhebfaa
