/- Forks: plain Lean. -/
import Derived.Test.YtmigjpmadhebfaaTr6
namespace Go.Proofs.Ytmigjpmadhebfaa
open Go Go.Proofs
/-- A tree of forks: the first i have all, the next one has k. -/
structure FI (w g : Nat) (s : TS) (l : List (List UInt8)) (i k : Nat) : Prop where
  tl : TL s l
  ok : s.Ok
  w : s.w = w
  root : s.root = 1
  blk : ∀ d b, mget s.T d = some b → d ≠ s.root → b.view = b.jv + 1 ∧ (b.jb = s.root ∨ ∃ q, mget s.T b.jb = some q ∧ b.jb ≠ s.root ∧ q.author = b.author) ∧ ((0 ≤ b.author ∧ b.author < i) ∨ (b.author = i ∧ b.view ≤ k))
  len : s.T.length = 1 + i * g + k
  arena : l.length ≤ 1 + i * g + k
def EP (s : TS) (g : Nat) (E : List Int) : Prop := ∀ (j : Nat) (e : Int), E[j]? = some e → ∃ b, mget s.T e = some b ∧ e ≠ s.root ∧ b.view = g ∧ b.author = j
def ON (s : TS) (i k : Nat) (on : Int) : Prop := ∃ q, mget s.T on = some q ∧ q.view = k ∧ (k = 0 → on = s.root) ∧ (0 < k → on ≠ s.root ∧ q.author = i)
theorem FI.next {w g : Nat} {s : TS} {l : List (List UInt8)} {i : Nat} (h : FI w g s l i g) : FI w g s l (i + 1) 0 :=
  ⟨h.tl, h.ok, h.w, h.root, fun d b hd hr => by
    obtain ⟨h1, h2, h3⟩ := h.blk d b hd hr
    exact ⟨h1, h2, .inl (by omega)⟩, by have := h.len; rw [Nat.add_mul]; omega, by have := h.arena; rw [Nat.add_mul]; omega⟩
theorem FI.step {w g : Nat} {s : TS} {l : List (List UInt8)} {i k : Nat} (h : FI w g s l i k) {on : Int} (ho : ON s i k on) (hi : i ≤ 10) (hk : k ≤ 10) (hg : g ≤ 10) {b : Blk} (hb : b = ⟨(k : Int) + 1, i, k, on, [(i : Int)], []⟩) :
    ∃ s' l', s.add l b = ((((blkD l b : Nat) : Int), 0), s', l') ∧ FI w g s' l' i (k + 1) ∧ ON s' i (k + 1) ((blkD l b : Nat) : Int) ∧ (∀ E, EP s g E → EP s' g E) := by
  obtain ⟨q, hq, hv, h0, h1⟩ := ho
  have hig : i * g ≤ 100 := Nat.mul_le_mul hi hg
  have hlen := h.len
  have har := h.arena
  have honI : I64 on := by
    rcases Nat.eq_zero_or_pos k with hk0 | hk0
    · rw [h0 hk0, h.root]; unfold I64; omega
    · obtain ⟨_, _, _, h4⟩ := h.tl.blk on q hq (h1 hk0).1
      rw [h4]; exact dnum_i64 (by omega) _
  have hgood : b.Good := hb ▸ good_one (by unfold I64; omega) (by unfold I64; omega) (by unfold I64; omega) honI (by unfold I64; omega)
  have hbv : b.view = (k : Int) + 1 := by rw [hb]
  have hba : b.author = i := by rw [hb]
  have hbj : b.jv = k := by rw [hb]
  have hbo : b.jb = on := by rw [hb]
  have hno := (h.tl.new hgood (by omega) fun d hd => Classical.byContradiction fun hr => by
    obtain ⟨_, _, h4⟩ := h.blk d b hd hr
    rw [hba, hbv] at h4
    omega).1
  have hnr := (h.tl.new hgood (by omega) fun d hd => Classical.byContradiction fun hr => by
    obtain ⟨_, _, h4⟩ := h.blk d b hd hr
    rw [hba, hbv] at h4
    omega).2
  obtain ⟨e1, e2, e3⟩ := h.tl.add h.ok hgood (by omega) (by omega) (by rw [hbo]; exact hq) (by rw [hbj, hv]) (by rw [hbj, hbv]; omega) hno
  have hget : ∀ d, mget (s.T ++ [(((blkD l b : Nat) : Int), b)]) d = if d = ((blkD l b : Nat) : Int) then some b else mget s.T d := fun d => mget_app _ _ _ _ hno
  have hold : ∀ d c, mget s.T d = some c → mget (s.T ++ [(((blkD l b : Nat) : Int), b)]) d = some c := fun d c hc => by
    rw [hget, if_neg (fun e => by rw [e, hno] at hc; cases hc)]; exact hc
  refine ⟨_, _, e1, ⟨e2, e3, h.w, h.root, fun d c hd hr => ?_, by simp; omega, ?_⟩, ?_, fun E hE j e he => ?_⟩
  · rw [hget] at hd
    split at hd
    · cases hd
      refine ⟨by rw [hbv, hbj], ?_, .inr ⟨hba, by rw [hbv]; omega⟩⟩
      rw [hbo]
      rcases Nat.eq_zero_or_pos k with hk0 | hk0
      · exact .inl (h0 hk0)
      · exact .inr ⟨q, hold _ _ hq, (h1 hk0).1, by rw [(h1 hk0).2, hba]⟩
    · obtain ⟨h4, h5, h6⟩ := h.blk d c hd hr
      refine ⟨h4, h5.imp id fun ⟨q', h7, h8, h9⟩ => ⟨q', hold _ _ h7, h8, h9⟩, by omega⟩
  · have := blkL_len l b
    have hbe : b.envs.length = 0 := by rw [hb]; rfl
    omega
  · refine ⟨b, by rw [hget, if_pos rfl], by rw [hbv]; omega, fun e => by omega, fun _ => ⟨hnr, hba⟩⟩
  · obtain ⟨c, h4, h5⟩ := hE j e he
    exact ⟨c, hold _ _ h4, h5⟩
theorem FI.way_root {w g : Nat} {s : TS} {l : List (List UInt8)} {i k : Nat} (h : FI w g s l i k) : ∀ (v : Nat) (d : Int) (b : Blk), mget s.T d = some b → b.view.toNat = v → ∃ p, s.way s.root d = some p ∧ p.length = v := by
  intro v
  induction v with
  | zero =>
    intro d b hd hv
    rw [way_eq h.ok hd]
    by_cases h1 : d = s.root
    · rw [if_pos h1]; exact ⟨[], rfl, rfl⟩
    · obtain ⟨q, h2, h3, h4⟩ := h.ok.up d b hd h1
      have := h.ok.pos _ _ h2
      omega
  | succ v ih =>
    intro d b hd hv
    rw [way_eq h.ok hd]
    by_cases h1 : d = s.root
    · obtain ⟨r, h2, h3, _⟩ := h.ok.root
      rw [h1, h2] at hd; cases hd; omega
    · rw [if_neg h1, if_neg h1]
      obtain ⟨q, h2, h3, h4⟩ := h.ok.up d b hd h1
      have h5 := (h.blk d b hd h1).1
      obtain ⟨p, h6, h7⟩ := ih b.jb q h2 (by omega)
      exact ⟨p ++ [d], by rw [h6]; rfl, by simp [h7]⟩
theorem tn {a b : Int} {v : Nat} (h : b.toNat = v + 1) (e : b = a + 1) : a.toNat = v := by omega
theorem FI.way_author {w g : Nat} {s : TS} {l : List (List UInt8)} {i k : Nat} (h : FI w g s l i k) {f : Int} {c : Blk} (hf : mget s.T f = some c) (hr : f ≠ s.root) : ∀ (v : Nat) (t : Int) (b : Blk), mget s.T t = some b → b.view.toNat = v → ∀ p, s.way f t = some p → t ≠ s.root ∧ b.author = c.author := by
  intro v
  induction v with
  | zero =>
    intro t b hb hv p hp
    rw [way_eq h.ok hb] at hp
    by_cases h1 : t = f
    · subst h1; rw [hf] at hb; cases hb; exact ⟨hr, rfl⟩
    · rw [if_neg h1] at hp
      by_cases h2 : t = s.root
      · rw [if_pos h2] at hp; cases hp
      · obtain ⟨q, h3, h4, h5⟩ := h.ok.up t b hb h2
        have := h.ok.pos _ _ h3
        omega
  | succ v ih =>
    intro t b hb hv p hp
    rw [way_eq h.ok hb] at hp
    by_cases h1 : t = f
    · subst h1; rw [hf] at hb; cases hb; exact ⟨hr, rfl⟩
    · rw [if_neg h1] at hp
      by_cases h2 : t = s.root
      · rw [if_pos h2] at hp; cases hp
      · rw [if_neg h2] at hp
        obtain ⟨q, h3, h4, h5⟩ := h.ok.up t b hb h2
        obtain ⟨h6, h7, _⟩ := h.blk t b hb h2
        have hvq : q.view.toNat = v := by
          rw [h4]; exact tn hv h6
        cases hw : s.way f b.jb with
        | none => rw [hw] at hp; cases hp
        | some p' =>
          obtain ⟨h8, h9⟩ := ih b.jb q h3 hvq p' hw
          rcases h7 with h7 | ⟨q', h10, _, h12⟩
          · exact absurd h7 h8
          · rw [h3] at h10; cases h10
            exact ⟨h2, by rw [← h12, h9]⟩
/-- Ends: whose way comes to whose. -/
theorem FI.ends {w g : Nat} {s : TS} {l : List (List UInt8)} {i k : Nat} (h : FI w g s l i k) {E : List Int} (hE : EP s g E) {x y : Nat} {d e : Int} (hx : E[x]? = some d) (hy : E[y]? = some e) : (s.way e d).isSome = decide (x = y) := by
  obtain ⟨b, h1, h2, h3, h4⟩ := hE x d hx
  obtain ⟨c, h5, h6, h7, h8⟩ := hE y e hy
  by_cases hxy : x = y
  · subst hxy
    rw [hx] at hy; cases hy
    rw [way_eq h.ok h1, if_pos rfl]; simp
  · cases hw : s.way e d with
    | none => simp [hxy]
    | some p =>
      have := (h.way_author h5 h6 b.view.toNat d b h1 rfl p hw).2
      omega
end Go.Proofs.Ytmigjpmadhebfaa
