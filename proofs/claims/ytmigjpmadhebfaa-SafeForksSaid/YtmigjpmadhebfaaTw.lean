/- Ways: plain Lean. -/
import Derived.Test.YtmigjpmadhebfaaTb2
namespace Go.Proofs.Ytmigjpmadhebfaa
open Go Go.Proofs
theorem way_view {s : TS} (h : s.Ok) {f : Int} {c : Blk} (hf : mget s.T f = some c) : ∀ (v : Nat) (t : Int) (b : Blk), mget s.T t = some b → b.view.toNat = v → ∀ p, s.way f t = some p → c.view + p.length ≤ b.view ∧ (p = [] → t = f) := by
  intro v
  induction v using Nat.strongRecOn with
  | _ v ih =>
    intro t b hb hv p hp
    rw [way_eq h hb] at hp
    by_cases h1 : t = f
    · rw [if_pos h1] at hp; cases hp
      subst h1; rw [hf] at hb; cases hb
      simp
    · rw [if_neg h1] at hp
      by_cases h2 : t = s.root
      · rw [if_pos h2] at hp; cases hp
      · rw [if_neg h2] at hp
        obtain ⟨q, h3, h4, h5⟩ := h.up t b hb h2
        have h0 := h.pos _ _ h3
        cases hw : s.way f b.jb with
        | none => rw [hw] at hp; cases hp
        | some p' =>
          rw [hw] at hp; cases hp
          have := (ih q.view.toNat (by omega) b.jb q h3 rfl p' hw).1
          simp; omega
theorem way_some {s : TS} (h : s.Ok) : ∀ (v : Nat) (t : Int) (b : Blk), mget s.T t = some b → b.view.toNat = v → ∃ p, s.way s.root t = some p := by
  intro v
  induction v using Nat.strongRecOn with
  | _ v ih =>
    intro t b hb hv
    rw [way_eq h hb]
    by_cases h1 : t = s.root
    · rw [if_pos h1]; exact ⟨[], rfl⟩
    · rw [if_neg h1, if_neg h1]
      obtain ⟨q, h3, h4, h5⟩ := h.up t b hb h1
      have h0 := h.pos _ _ h3
      obtain ⟨p, hp⟩ := ih q.view.toNat (by omega) b.jb q h3 rfl
      exact ⟨p ++ [t], by rw [hp]; rfl⟩
theorem way_comp {s : TS} (h : s.Ok) {x y : Int} {bx b1 : Blk} (hx : mget s.T x = some bx) (hy : mget s.T y = some b1) {p : List Int} (hp : s.way x y = some p) : ∀ (v : Nat) (z : Int) (b : Blk), mget s.T z = some b → b.view.toNat = v → ∀ q, s.way y z = some q → s.way x z = some (p ++ q) := by
  intro v
  induction v using Nat.strongRecOn with
  | _ v ih =>
    intro z b hb hv q hq
    have hq0 := hq
    rw [way_eq h hb] at hq
    by_cases h1 : z = y
    · rw [if_pos h1] at hq; cases hq
      rw [h1, hp]; simp
    · rw [if_neg h1] at hq
      by_cases h2 : z = s.root
      · rw [if_pos h2] at hq; cases hq
      · rw [if_neg h2] at hq
        obtain ⟨c, h3, h4, h5⟩ := h.up z b hb h2
        have h0 := h.pos _ _ h3
        cases hw : s.way y b.jb with
        | none => rw [hw] at hq; cases hq
        | some q' =>
          rw [hw] at hq; cases hq
          have h6 := ih c.view.toNat (by omega) b.jb c h3 rfl q' hw
          have h7 := (way_view h hx b1.view.toNat y b1 hy rfl p hp).1
          have h8 := (way_view h hy b.view.toNat z b hb rfl _ hq0).1
          have hne : ¬ z = x := fun e => by
            rw [e, hx] at hb; cases hb
            simp at h8; omega
          rw [way_eq h hb, if_neg hne, if_neg h2, h6]
          simp
theorem way_anti {s : TS} (h : s.Ok) {x y : Int} {bx b1 : Blk} (hx : mget s.T x = some bx) (hy : mget s.T y = some b1) {p q : List Int} (hp : s.way x y = some p) (hq : s.way y x = some q) : x = y := by
  have h1 := way_view h hx b1.view.toNat y b1 hy rfl p hp
  have h2 := way_view h hy bx.view.toNat x bx hx rfl q hq
  have : p.length = 0 := by omega
  exact (h1.2 (List.length_eq_zero_iff.1 this)).symm
theorem way_chain {s : TS} (h : s.Ok) {f : Int} : ∀ (v : Nat) (t : Int) (b : Blk), mget s.T t = some b → b.view.toNat = v → ∀ p, s.way f t = some p →
    (∀ (j : Nat) d, p[j]? = some d → ∃ c, mget s.T d = some c ∧ (f :: p)[j]? = some c.jb ∧ ∃ q, mget s.T c.jb = some q ∧ q.view < c.view) ∧ (f :: p)[p.length]? = some t := by
  intro v
  induction v using Nat.strongRecOn with
  | _ v ih =>
    intro t b hb hv p hp
    rw [way_eq h hb] at hp
    by_cases h1 : t = f
    · rw [if_pos h1] at hp; cases hp
      exact ⟨fun j d hj => by simp at hj, by simp [h1]⟩
    · rw [if_neg h1] at hp
      by_cases h2 : t = s.root
      · rw [if_pos h2] at hp; cases hp
      · rw [if_neg h2] at hp
        obtain ⟨q, h3, h4, h5⟩ := h.up t b hb h2
        have h0 := h.pos _ _ h3
        cases hw : s.way f b.jb with
        | none => rw [hw] at hp; cases hp
        | some p' =>
          rw [hw] at hp; cases hp
          obtain ⟨h6, h7⟩ := ih q.view.toNat (by omega) b.jb q h3 rfl p' hw
          have hap : f :: (p' ++ [t]) = (f :: p') ++ [t] := rfl
          refine ⟨fun j d hj => ?_, by simp⟩
          by_cases hjl : j < p'.length
          · rw [List.getElem?_append_left hjl] at hj
            obtain ⟨c, e1, e2, e3⟩ := h6 j d hj
            exact ⟨c, e1, by rw [hap, List.getElem?_append_left (by simp; omega)]; exact e2, e3⟩
          · have h8 := (List.getElem?_eq_some_iff.1 hj).1
            simp at h8
            obtain rfl : j = p'.length := by omega
            rw [List.getElem?_append_right (by omega)] at hj
            simp at hj; subst hj
            exact ⟨b, hb, by rw [hap, List.getElem?_append_left (by simp)]; exact h7, q, h3, by omega⟩
theorem way_len {s : TS} (h : s.Ok) {x y : Int} {bx b1 : Blk} (hx : mget s.T x = some bx) (hy : mget s.T y = some b1) {p r : List Int} (hp : s.way x y = some p) (hr : s.way s.root y = some r) : p.length ≤ r.length := by
  obtain ⟨a, ha⟩ := way_some h bx.view.toNat x bx hx rfl
  obtain ⟨br, hbr, _⟩ := h.root
  have := way_comp h hbr hx ha b1.view.toNat y b1 hy rfl p hp
  rw [this] at hr; cases hr
  simp
end Go.Proofs.Ytmigjpmadhebfaa
