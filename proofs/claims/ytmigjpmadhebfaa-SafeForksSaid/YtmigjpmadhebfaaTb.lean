/- Rows of blocks: plain Lean. -/
import Derived.Test.YtmigjpmadhebfaaTq
namespace Go.Proofs.Ytmigjpmadhebfaa
open Go Go.Proofs
/-- The cells of a block that holds no rows. -/
def Blk.cells0 (b : Blk) : List Value := [.int .i64 b.view, .int .i64 b.author, .int .i64 b.jv, .int .i64 b.jb, .slice none 0 0, .slice none 0 0]
instance onesBlk0 (b : Blk) : Ones b.cells0 := by unfold Blk.cells0; infer_instance
theorem Blk.cells0_len (b : Blk) : b.cells0.length = 6 := rfl
instance onesBlks (l : List Blk) : Ones (l.flatMap Blk.cells0) := ⟨fun v hv => by
  obtain ⟨e, _, he⟩ := List.mem_flatMap.1 hv
  exact (onesBlk0 e).h v he⟩
theorem blk_get {l : List Blk} {i : Nat} {e : Blk} (h : l[i]? = some e) (o : Nat) (ho : o < 6) : (l.flatMap Blk.cells0)[i * 6 + o]? = e.cells0[o]? := by
  induction l generalizing i with
  | nil => simp at h
  | cons x l ih =>
    cases i with
    | zero => simp at h; subst h; rw [List.flatMap_cons, Nat.zero_mul, Nat.zero_add, List.getElem?_append_left (by rw [Blk.cells0_len]; exact ho)]
    | succ i =>
      rw [List.flatMap_cons, List.getElem?_append_right (by rw [Blk.cells0_len]; omega), Blk.cells0_len, show (i + 1) * 6 + o - 6 = i * 6 + o by omega]
      exact ih (by simpa using h)
theorem blks_len (l : List Blk) : (l.flatMap Blk.cells0).length = l.length * 6 := by
  induction l with
  | nil => rfl
  | cons x l ih => rw [List.flatMap_cons, List.length_append, ih, Blk.cells0_len, List.length_cons]; omega
def Blk.toD (b : Blk) : BlkD := ⟨b.view, b.author, b.jv, b.jb, ⟨none, 0, 0, []⟩, ⟨none, 0, 0, []⟩⟩
/-- A tree and the blocks that were put in it. -/
structure BI (w : Nat) (s : TS) (l : List (List UInt8)) (ds : List Int) (bs : List Blk) (m : Nat) : Prop where
  tl : TL s l
  ok : s.Ok
  w : s.w = w
  root : s.root = 1
  len : ds.length = bs.length
  first : ds[0]? = some 1
  get : ∀ (j : Nat) d b, ds[j]? = some d → bs[j]? = some b → mget s.T d = some b
  mem : ∀ d b, mget s.T d = some b → d ∈ ds
  flat : ∀ b ∈ bs, b.by_ = [] ∧ b.envs = [] ∧ 0 ≤ b.view ∧ b.view ≤ 3 * m
  dig : ∀ d ∈ ds, 0 < d ∧ d ≤ l.length
  size : ds.length ≤ m + 1
  arena : l.length ≤ m + 1
  tlen : s.T.length = ds.length
  nd : ds.Nodup
structure NB (b : Blk) (m : Nat) : Prop where
  by_ : b.by_ = []
  envs : b.envs = []
  view : 0 ≤ b.view ∧ b.view ≤ 3 * m
  author : 0 ≤ b.author ∧ b.author ≤ 3
  jv : 0 ≤ b.jv ∧ b.jv ≤ 1000
  jb : 0 ≤ b.jb ∧ b.jb ≤ 1000
theorem NB.good {b : Blk} {m : Nat} (h : NB b m) (hm : m ≤ 100) : b.Good := by
  have h1 := h.view; have h2 := h.author; have h3 := h.jv; have h4 := h.jb
  exact ⟨by unfold I64; omega, by unfold I64; omega, by unfold I64; omega, by unfold I64; omega, by rw [h.by_]; exact fun x h => (nomatch h), by rw [h.envs]; exact fun x h => (nomatch h), by rw [h.by_]; simp, by rw [h.envs]; simp⟩
theorem NB.pure {b : Blk} {m : Nat} (h : NB b m) : b.toD.pure = b := by
  obtain ⟨v, a, j, k, by_, es⟩ := b
  have h1 := h.by_; have h2 := h.envs
  dsimp only at h1 h2
  subst h1; subst h2; rfl
theorem NB.blkL {b : Blk} {m : Nat} (h : NB b m) (l : List (List UInt8)) : blkL l b = dput l (blkB [] b) := by
  unfold Go.Proofs.Ytmigjpmadhebfaa.blkL blkB blkN numsE digsL
  rw [h.envs]; rfl
theorem NB.blkD {b : Blk} {m : Nat} (h : NB b m) (l : List (List UInt8)) : Go.Proofs.Ytmigjpmadhebfaa.blkD l b = dnum (dput l (blkB [] b)) (blkB [] b) := by
  unfold Go.Proofs.Ytmigjpmadhebfaa.blkD
  rw [h.blkL]
  congr 1
  unfold blkB blkN numsE digsL
  rw [h.envs]; rfl
theorem NB.again {b : Blk} {m : Nat} (h : NB b m) (l : List (List UInt8)) : Go.Proofs.Ytmigjpmadhebfaa.blkL (Go.Proofs.Ytmigjpmadhebfaa.blkL l b) b = Go.Proofs.Ytmigjpmadhebfaa.blkL l b ∧ Go.Proofs.Ytmigjpmadhebfaa.blkD (Go.Proofs.Ytmigjpmadhebfaa.blkL l b) b = Go.Proofs.Ytmigjpmadhebfaa.blkD l b := by
  rw [h.blkL, h.blkL, h.blkD, h.blkD, dput_idem (dput_mem _ _)]
  exact ⟨rfl, rfl⟩
/-- What comes of a block that is put, by the rows. -/
theorem BI.put {w : Nat} {s : TS} {l : List (List UInt8)} {ds : List Int} {bs : List Blk} {m : Nat} (h : BI w s l ds bs m) {b : Blk} (hb : NB b (m + 1)) (hm : m ≤ 30) :
    ((∀ d ∈ ds, d ≠ b.jb) ∧ s.add (blkL l b) b = ((0, 12), s, blkL l b) ∧ BI w s (blkL l b) ds bs (m + 1)) ∨
    (∃ q, mget s.T b.jb = some q ∧ (b.jv ≠ q.view ∨ b.view ≤ q.view) ∧ s.add (blkL l b) b = ((0, 13), s, blkL l b) ∧ BI w s (blkL l b) ds bs (m + 1)) ∨
    (∃ q, mget s.T b.jb = some q ∧ ¬ (b.jv ≠ q.view ∨ b.view ≤ q.view) ∧ ((blkD l b : Nat) : Int) ∈ ds ∧ s.add (blkL l b) b = ((((blkD l b : Nat) : Int), 10), s, blkL l b) ∧ BI w s (blkL l b) ds bs (m + 1)) ∨
    (∃ q s', mget s.T b.jb = some q ∧ ¬ (b.jv ≠ q.view ∨ b.view ≤ q.view) ∧ ¬ ((blkD l b : Nat) : Int) ∈ ds ∧ s.add (blkL l b) b = ((((blkD l b : Nat) : Int), 0), s', blkL l b) ∧ BI w s' (blkL l b) (ds ++ [((blkD l b : Nat) : Int)]) (bs ++ [b]) (m + 1)) := by
  have hgood := hb.good (by omega)
  obtain ⟨ha1, ha2⟩ := hb.again l
  have hext : Ext l (blkL l b) := blkL_ext l b
  have hlen := blkL_len l b
  rw [hb.envs, List.length_nil] at hlen
  have hL := h.arena
  have hsame : BI w s (blkL l b) ds bs (m + 1) := ⟨h.tl.ext hext, h.ok, h.w, h.root, h.len, h.first, h.get, h.mem, fun c hc => by obtain ⟨h1, h2, h3, h4⟩ := h.flat c hc; exact ⟨h1, h2, h3, by omega⟩, fun d hd => by have := h.dig d hd; have := hext.len; omega, by have := h.size; omega, by omega, h.tlen, h.nd⟩
  cases hp : mget s.T b.jb with
  | none =>
    refine .inl ⟨fun d hd e => ?_, by unfold TS.add; rw [hp], hsame⟩
    obtain ⟨j, hj, e2⟩ := List.getElem_of_mem hd
    have := h.get j d (bs[j]'(by rw [← h.len]; exact hj)) (by rw [List.getElem?_eq_getElem hj, e2]) (by rw [List.getElem?_eq_getElem])
    rw [e, hp] at this; cases this
  | some q =>
    right
    by_cases hv : b.jv ≠ q.view ∨ b.view ≤ q.view
    · refine .inl ⟨q, rfl, hv, ?_, hsame⟩
      unfold TS.add; rw [hp]
      exact if_pos (by omega)
    · right
      have hmem : ((blkD l b : Nat) : Int) ∈ ds ↔ (mget s.T ((blkD l b : Nat) : Int)).isSome = true := by
        constructor
        · intro hd
          obtain ⟨j, hj, e2⟩ := List.getElem_of_mem hd
          rw [h.get j _ (bs[j]'(by rw [← h.len]; exact hj)) (by rw [List.getElem?_eq_getElem hj, e2]) (by rw [List.getElem?_eq_getElem])]
          rfl
        · intro hs
          obtain ⟨c, hc⟩ := Option.isSome_iff_exists.1 hs
          exact h.mem _ _ hc
      by_cases hd : ((blkD l b : Nat) : Int) ∈ ds
      · refine .inl ⟨q, rfl, hv, hd, ?_, hsame⟩
        unfold TS.add; rw [hp]
        refine (if_neg (by omega)).trans ?_
        rw [ha1, ha2]
        exact if_pos (hmem.1 hd)
      · right
        have hno : mget s.T ((blkD (blkL l b) b : Nat) : Int) = none := by
          rw [ha2]
          cases hc : mget s.T ((blkD l b : Nat) : Int) with
          | none => rfl
          | some c => exact absurd (h.mem _ _ hc) hd
        obtain ⟨e1, e2, e3⟩ := hsame.tl.add h.ok hgood (by omega) (by have := h.tlen; have := h.size; omega) hp (by omega) (by omega) hno
        rw [ha1, ha2] at e1 e2
        rw [ha2] at e3 hno
        have hget : ∀ d, mget (s.T ++ [(((blkD l b : Nat) : Int), b)]) d = if d = ((blkD l b : Nat) : Int) then some b else mget s.T d := fun d => mget_app _ _ _ _ hno
        have hdpos : 0 < ((blkD l b : Nat) : Int) ∧ ((blkD l b : Nat) : Int) ≤ (blkL l b).length := by
          rw [hb.blkD, hb.blkL]
          have h1 := dnum_pos (dput_mem l (blkB [] b)); have h2 := dnum_le (dput l (blkB [] b)) (blkB [] b)
          omega
        refine ⟨q, _, rfl, hv, hd, e1, ⟨e2, e3, h.w, h.root, by simp [h.len], ?_, fun j d c hj hc => ?_, fun d c hc => ?_, fun c hc => ?_, fun d hc => ?_, by have := h.size; simp; omega, by omega, by simp [h.tlen], by rw [List.nodup_append]; exact ⟨h.nd, by simp, fun x hx y hy e => by simp at hy; subst hy; exact hd (e ▸ hx)⟩⟩⟩
        · rw [List.getElem?_append_left (by have := (List.getElem?_eq_some_iff.1 h.first).1; exact this)]; exact h.first
        · rw [hget]
          by_cases hjl : j < ds.length
          · rw [List.getElem?_append_left hjl] at hj
            rw [List.getElem?_append_left (by rw [← h.len]; exact hjl)] at hc
            rw [if_neg (fun (e : d = ((blkD l b : Nat) : Int)) => hd (e ▸ List.mem_of_getElem? hj))]
            exact h.get j d c hj hc
          · have h1 := (List.getElem?_eq_some_iff.1 hj).1
            simp at h1
            obtain rfl : j = ds.length := by omega
            rw [List.getElem?_append_right (by omega)] at hj
            rw [h.len, List.getElem?_append_right (by omega)] at hc
            simp at hj hc
            rw [if_pos hj.symm, hc]
        · rw [hget] at hc
          split at hc
          · rename_i e; rw [e]; simp
          · exact List.mem_append_left _ (h.mem d c hc)
        · rcases List.mem_append.1 hc with hc | hc
          · obtain ⟨h1, h2, h3, h4⟩ := h.flat c hc; exact ⟨h1, h2, h3, by omega⟩
          · simp at hc; subst hc; exact ⟨hb.by_, hb.envs, hb.view.1, by have := hb.view.2; omega⟩
        · rcases List.mem_append.1 hc with hc | hc
          · have := h.dig d hc; have := hext.len; omega
          · simp at hc; subst hc; exact hdpos
theorem BI.start (w : Nat) : BI w (tS0 w) [rootB] [1] [zBlk] 0 := by
  have h := TL.start (l := [rootB]) w (by simp)
  rw [show dnum [rootB] rootB = 1 by simp [dnum]] at h
  refine ⟨h, TS.Ok.new w 1, rfl, rfl, rfl, rfl, fun j d b hj hb => ?_, fun d b hd => ?_, fun b hb => ?_, fun d hd => ?_, by simp, by simp, rfl, by simp⟩
  · have : j = 0 := by have := (List.getElem?_eq_some_iff.1 hj).1; simp at this; omega
    subst this; simp at hj hb; subst hj; subst hb; rfl
  · by_cases h : d = 1
    · subst h; simp
    · simp [tS0, mget, h] at hd
  · simp at hb; subst hb; exact ⟨rfl, rfl, by decide, by decide⟩
  · simp at hd; subst hd; simp
end Go.Proofs.Ytmigjpmadhebfaa
