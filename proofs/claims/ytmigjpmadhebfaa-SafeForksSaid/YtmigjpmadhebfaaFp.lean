/- What is fixed is never contradicted: plain Lean. -/
import Derived.Test.YtmigjpmadhebfaaSa2
import Derived.Test.YtmigjpmadhebfaaTw
namespace Go.Proofs.Ytmigjpmadhebfaa
open Go Go.Proofs
abbrev vw (s : TS) (d : Int) : Int := viewOf (mget s.T d)
abbrev onw (s : TS) (f t : Int) : Bool := (s.way f t).isSome
theorem par_of {s : TS} {d : Int} {b : Blk} (h : mget s.T d = some b) : parOf s d = b.jb := by unfold parOf; rw [h]; rfl
theorem vw_of {s : TS} {d : Int} {b : Blk} (h : mget s.T d = some b) : vw s d = b.view := by unfold vw; rw [h]; rfl
theorem TS.Ok.par {s : TS} (h : s.Ok) {d : Int} {b : Blk} (hb : mget s.T d = some b) (hr : d ≠ s.root) : (∃ q, mget s.T (parOf s d) = some q) ∧ vw s (parOf s d) = b.jv ∧ vw s (parOf s d) < vw s d := by
  obtain ⟨q, h1, h2, h3⟩ := h.up d b hb hr
  rw [par_of hb, vw_of h1, vw_of hb]
  exact ⟨⟨q, h1⟩, h2, by omega⟩
theorem TS.Ok.vroot {s : TS} (h : s.Ok) : vw s s.root = 0 ∧ parOf s s.root = 0 ∧ ∃ b, mget s.T s.root = some b := by
  obtain ⟨r, h1, h2, h3⟩ := h.root
  rw [vw_of h1, par_of h1]
  exact ⟨h2, h3, ⟨r, h1⟩⟩
theorem TS.Ok.vpos {s : TS} (h : s.Ok) {d : Int} {b : Blk} (hb : mget s.T d = some b) : 0 ≤ vw s d := by rw [vw_of hb]; exact h.pos _ _ hb
theorem TS.Ok.rise {s : TS} (h : s.Ok) {d : Int} {b : Blk} (hb : mget s.T d = some b) (hr : d ≠ s.root) : 0 < vw s d := by
  obtain ⟨⟨q, h1⟩, _, h3⟩ := h.par hb hr
  have := h.vpos h1
  omega
theorem onw_refl {s : TS} (h : s.Ok) {d : Int} {b : Blk} (hb : mget s.T d = some b) : onw s d d = true := by
  unfold onw; rw [way_eq h hb, if_pos rfl]; rfl
theorem onw_step {s : TS} (h : s.Ok) {f d : Int} {b : Blk} (hb : mget s.T d = some b) (hr : d ≠ s.root) (ho : onw s f (parOf s d) = true) : onw s f d = true := by
  unfold onw at ho ⊢
  rw [way_eq h hb]
  rw [par_of hb] at ho
  split
  · rfl
  · first | (rw [Option.isSome_map]; exact ho) | (rw [if_neg hr, Option.isSome_map]; exact ho)
theorem onw_view {s : TS} (h : s.Ok) {f d : Int} {c b : Blk} (hf : mget s.T f = some c) (hb : mget s.T d = some b) (ho : onw s f d = true) : vw s f ≤ vw s d ∧ (f ≠ d → vw s f < vw s d) := by
  unfold onw at ho
  obtain ⟨p, hp⟩ := Option.isSome_iff_exists.1 ho
  have h1 := way_view h hf _ d b hb rfl p hp
  rw [vw_of hf, vw_of hb]
  refine ⟨by omega, fun hne => ?_⟩
  cases p with
  | nil => exact absurd (h1.2 rfl) (fun e => hne e.symm)
  | cons x p => have := h1.1; simp at this; omega
theorem onw_trans {s : TS} (h : s.Ok) {x y z : Int} {bx b1 b2 : Blk} (hx : mget s.T x = some bx) (hy : mget s.T y = some b1) (hz : mget s.T z = some b2) (h1 : onw s x y = true) (h2 : onw s y z = true) : onw s x z = true := by
  unfold onw at *
  obtain ⟨p, hp⟩ := Option.isSome_iff_exists.1 h1
  obtain ⟨q, hq⟩ := Option.isSome_iff_exists.1 h2
  rw [way_comp h hx hy hp _ z b2 hz rfl q hq]; rfl
theorem onw_root {s : TS} (h : s.Ok) {d : Int} {b : Blk} (hb : mget s.T d = some b) : onw s s.root d = true := by
  obtain ⟨p, hp⟩ := way_some h _ d b hb rfl
  unfold onw; rw [hp]; rfl
/-- b is fixed: three that stand on each other, one view behind the other, are certified. -/
def Fixed (s : TS) (C : Int → Prop) (b : Int) : Prop := ∃ b2, C b2 ∧ b2 ≠ s.root ∧ parOf s b2 ≠ s.root ∧ parOf s (parOf s b2) = b ∧ vw s b2 = vw s (parOf s b2) + 1 ∧ vw s (parOf s b2) = vw s b + 1
/-- What holds among three that keep to the rules. -/
structure SI (s : TS) (C : Int → Prop) (Q : Int → Nat → Prop) (S : Nat → SS) : Prop where
  root : C s.root
  cin : ∀ d, C d → ∃ b, mget s.T d = some b
  par : ∀ d b, mget s.T d = some b → d ≠ s.root → C (parOf s d)
  q2 : ∀ d, C d → d ≠ s.root → ∃ m, m < 3 ∧ ∀ h, h < 3 → h ≠ m → Q d h
  qin : ∀ d h, Q d h → (∃ b, mget s.T d = some b) ∧ d ≠ s.root ∧ vw s d ≤ (S h).last
  uniq : ∀ d e h, Q d h → Q e h → vw s d = vw s e → d = e
  lock : ∀ h, C (S h).lock
  seen : ∀ d h, Q d h → vw s (parOf s (parOf s d)) ≤ vw s (S h).lock
  link : ∀ i j h, Q i h → Q j h → vw s i < vw s j → ∃ x, C x ∧ x ≠ j ∧ onw s x j = true ∧ vw s (parOf s (parOf s i)) ≤ vw s x
  last : ∀ h, 0 ≤ (S h).last
theorem meet3 {m n : Nat} : ∃ h, h < 3 ∧ h ≠ m ∧ h ≠ n := by
  by_cases h0 : 0 ≠ m ∧ 0 ≠ n
  · exact ⟨0, by omega, h0⟩
  · by_cases h1 : 1 ≠ m ∧ 1 ≠ n
    · exact ⟨1, by omega, h1⟩
    · exact ⟨2, by omega, by omega, by omega⟩
section
variable {s : TS} {C : Int → Prop} {Q : Int → Nat → Prop} {S : Nat → SS}
theorem SI.one (h : SI s C Q S) (ho : s.Ok) {d e : Int} (hd : C d) (he : C e) (hv : vw s d = vw s e) : d = e := by
  obtain ⟨b, hb⟩ := h.cin d hd
  obtain ⟨c, hc⟩ := h.cin e he
  have hr := ho.vroot.1
  by_cases h1 : d = s.root
  · by_cases h2 : e = s.root
    · rw [h1, h2]
    · have := ho.rise hc h2; rw [h1] at hv; omega
  · by_cases h2 : e = s.root
    · have := ho.rise hb h1; rw [h2] at hv; omega
    · obtain ⟨m, _, hm⟩ := h.q2 d hd h1
      obtain ⟨n, _, hn⟩ := h.q2 e he h2
      obtain ⟨x, hx, h3, h4⟩ := meet3 (m := m) (n := n)
      exact h.uniq d e x (hm x hx h3) (hn x hx h4) hv
theorem SI.fixedC (h : SI s C Q S) {b : Int} (hf : Fixed s C b) : C b := by
  obtain ⟨b2, h1, h2, h3, rfl, _⟩ := hf
  obtain ⟨c2, hc2⟩ := h.cin b2 h1
  obtain ⟨c1, hc1⟩ := h.cin _ (h.par b2 c2 hc2 h2)
  exact h.par _ c1 hc1 h3
/-- The law of safety. -/
theorem SI.safe (h : SI s C Q S) (ho : s.Ok) {b : Int} (hf : Fixed s C b) : ∀ (n : Nat) (x : Int), C x → (vw s x).toNat = n → vw s b ≤ vw s x → onw s b x = true := by
  have hbC := h.fixedC hf
  obtain ⟨cb, hcb⟩ := h.cin b hbC
  obtain ⟨b2, h1, h2, h3, h4, h5, h6⟩ := hf
  obtain ⟨c2, hc2⟩ := h.cin b2 h1
  have hC1 := h.par b2 c2 hc2 h2
  obtain ⟨c1, hc1⟩ := h.cin _ hC1
  have hb1 : onw s b (parOf s b2) = true := onw_step ho hc1 h3 (by rw [h4]; exact onw_refl ho hcb)
  have hb2 : onw s b b2 = true := onw_step ho hc2 h2 hb1
  intro n
  induction n using Nat.strongRecOn with
  | _ n ih =>
    intro x hx hn hv
    obtain ⟨cx, hcx⟩ := h.cin x hx
    by_cases e0 : vw s x = vw s b
    · rw [h.one ho hx hbC e0]; exact onw_refl ho hcb
    · by_cases e1 : vw s x = vw s (parOf s b2)
      · rw [h.one ho hx hC1 e1]; exact hb1
      · by_cases e2 : vw s x = vw s b2
        · rw [h.one ho hx h1 e2]; exact hb2
        · have hlt : vw s b2 < vw s x := by omega
          have hbv := ho.vpos hcb
          have hxr : x ≠ s.root := fun e => by rw [e, ho.vroot.1] at hlt; omega
          obtain ⟨m, _, hm⟩ := h.q2 b2 h1 h2
          obtain ⟨m', _, hm'⟩ := h.q2 x hx hxr
          obtain ⟨w, hw, h7, h8⟩ := meet3 (m := m) (n := m')
          obtain ⟨y, hy, hyx, hyo, hyv⟩ := h.link b2 x w (hm w hw h7) (hm' w hw h8) hlt
          rw [h4] at hyv
          obtain ⟨cy, hcy⟩ := h.cin y hy
          have hyl := (onw_view ho hcy hcx hyo).2 hyx
          have hy0 := ho.vpos hcy
          exact onw_trans ho hcb hcy hcx (ih _ (by omega) y hy rfl hyv) hyo
/-- What is fixed: the root, or some that are certified. -/
def Fix (s : TS) (C : Int → Prop) (f : Int) : Prop := f = s.root ∨ Fixed s C f
theorem SI.fixC (h : SI s C Q S) {f : Int} (hf : Fix s C f) : C f := by
  rcases hf with rfl | hf
  · exact h.root
  · exact h.fixedC hf
theorem SI.ahead (h : SI s C Q S) (ho : s.Ok) {f x : Int} (hf : Fix s C f) (hx : C x) (hv : vw s f ≤ vw s x) : onw s f x = true := by
  obtain ⟨b, hb⟩ := h.cin x hx
  rcases hf with rfl | hf
  · exact onw_root ho hb
  · exact h.safe ho hf _ x hx rfl hv
/-- Of two that are fixed one is on the other's way. -/
theorem SI.oneway (h : SI s C Q S) (ho : s.Ok) {f c : Int} (hf : Fix s C f) (hc : Fix s C c) : onw s f c = true ∨ onw s c f = true := by
  rcases Int.le_total (vw s f) (vw s c) with h1 | h1
  · exact .inl (h.ahead ho hf (h.fixC hc) h1)
  · exact .inr (h.ahead ho hc (h.fixC hf) h1)
/-! ### What is done -/
/-- A replica that knows more. -/
structure More (s : TS) (C : Int → Prop) (x y : SS) : Prop where
  lock : C y.lock
  up : vw s x.lock ≤ vw s y.lock
  last : x.last ≤ y.last
theorem SI.more (h : SI s C Q S) {S' : Nat → SS} (hm : ∀ w, More s C (S w) (S' w)) : SI s C Q S' :=
  ⟨h.root, h.cin, h.par, h.q2, fun d w hq => by obtain ⟨h1, h2, h3⟩ := h.qin d w hq; exact ⟨h1, h2, Int.le_trans h3 (hm w).last⟩, h.uniq, fun w => (hm w).lock, fun d w hq => Int.le_trans (h.seen d w hq) (hm w).up, h.link, fun w => Int.le_trans (h.last w) (hm w).last⟩
theorem More.refl {x : SS} (h : C x.lock) : More s C x x := ⟨h, Int.le_refl _, Int.le_refl _⟩
theorem SI.see (h : SI s C Q S) (ho : s.Ok) (hz : mget s.T 0 = none) {x : SS} (hx : C x.lock) {e : Int} (he : C e) (v : Int) :
    More s C x (x.see s v e).2 ∧ (x.see s v e).2.t = x.t ∧ (v = vw s e → vw s (parOf s e) ≤ vw s (x.see s v e).2.lock) ∧ ((x.see s v e).1 ≠ 0 → Fixed s C (x.see s v e).1) := by
  obtain ⟨b, hb⟩ := h.cin e he
  obtain ⟨c, hc⟩ := h.cin _ hx
  have hc0 := ho.vpos hc
  unfold SS.see
  by_cases hbad : (mget s.T e).isSome = false ∨ v ≠ viewOf (mget s.T e)
  · rw [if_pos hbad]
    refine ⟨More.refl hx, rfl, fun hv => ?_, fun h => absurd rfl h⟩
    rcases hbad with h1 | h1
    · rw [hb] at h1; cases h1
    · exact absurd hv h1
  · rw [if_neg hbad]
    have h1 : C (x.lock2 s (parOf s e)) ∧ vw s x.lock ≤ vw s (x.lock2 s (parOf s e)) ∧ vw s (parOf s e) ≤ vw s (x.lock2 s (parOf s e)) := by
      unfold SS.lock2
      split
      · rename_i hgt
        refine ⟨?_, by unfold vw; omega, Int.le_refl _⟩
        have hgt' : vw s x.lock < vw s (parOf s e) := hgt
        exact h.par e b hb fun hr => by
          rw [hr, ho.vroot.2.1] at hgt'
          have : vw s 0 = -1 := by unfold vw; rw [hz]; rfl
          omega
      · exact ⟨hx, Int.le_refl _, by unfold vw; omega⟩
    refine ⟨⟨h1.1, h1.2.1, Int.le_refl _⟩, rfl, fun _ => h1.2.2, fun hne => ?_⟩
    by_cases hfx : fixes s e
    · dsimp only at hne ⊢
      rw [if_pos hfx]
      unfold fixes at hfx
      refine ⟨e, he, fun h => hfx (.inl h), fun h => hfx (.inr (.inl h)), rfl, ?_, ?_⟩
      · exact Classical.byContradiction fun h => hfx (.inr (.inr (.inl h)))
      · exact Classical.byContradiction fun h => hfx (.inr (.inr (.inr h)))
    · dsimp only at hne; rw [if_neg hfx] at hne; exact absurd rfl hne
/-- A vote. -/
theorem SS.vote_yes {x : SS} {d : Int} (h : (x.vote s d).1 = true) : ∃ b, mget s.T d = some b ∧ x.last < b.view ∧ ¬ (b.jv < viewOf (mget s.T x.lock) ∧ s.way x.lock d = none) ∧ (x.vote s d).2 = ⟨x.t, x.hv, x.hb, x.lock, b.view⟩ := by
  unfold SS.vote at h ⊢
  cases hb : mget s.T d with
  | none => rw [hb] at h; cases h
  | some b =>
    rw [hb] at h
    dsimp only at h ⊢
    by_cases h1 : b.view ≤ x.last
    · rw [if_pos h1] at h; cases h
    · rw [if_neg h1] at h ⊢
      by_cases h2 : b.jv < viewOf (mget s.T x.lock) ∧ s.way x.lock d = none
      · rw [if_pos h2] at h; cases h
      · rw [if_neg h2]; exact ⟨b, rfl, by omega, h2, rfl⟩
theorem SS.vote_no {x : SS} {d : Int} (h : (x.vote s d).1 = false) : (x.vote s d).2 = x := by
  unfold SS.vote at h ⊢
  split
  · rfl
  · split
    · rfl
    · split
      · rfl
      · rename_i h1 h2 h3; rw [h1] at h; dsimp only at h; rw [if_neg h2, if_neg h3] at h; cases h
theorem SS.vote_more {x : SS} {d : Int} (hx : C x.lock) : More s C x (x.vote s d).2 ∧ (x.vote s d).2.t = x.t := by
  by_cases h : (x.vote s d).1 = true
  · obtain ⟨b, _, h1, _, h2⟩ := SS.vote_yes h
    rw [h2]; exact ⟨⟨hx, Int.le_refl _, by dsimp only; omega⟩, rfl⟩
  · rw [SS.vote_no (by simpa using h)]; exact ⟨More.refl hx, rfl⟩
def upd {X : Type} (S : Nat → X) (w : Nat) (x : X) : Nat → X := fun h => if h = w then x else S h
theorem SI.turn (h : SI s C Q S) {w : Nat} {x : SS} (hm : More s C (S w) x) : SI s C Q (upd S w x) :=
  h.more fun v => by
    unfold upd
    by_cases e : v = w
    · rw [if_pos e, e]; exact hm
    · rw [if_neg e]; exact More.refl (h.lock v)
/-- A vote for one that is not certified yet. -/
theorem SI.vote (h : SI s C Q S) (ho : s.Ok) {w : Nat} {d : Int} (hw : w < 3) (hd : ¬ C d) (hv : ((S w).vote s d).1 = true) (hs : vw s (parOf s (parOf s d)) ≤ vw s (S w).lock) :
    SI s C (fun e v => Q e v ∨ (e = d ∧ v = w)) (upd S w ((S w).vote s d).2) := by
  obtain ⟨b, hb, hl, hn, hx⟩ := SS.vote_yes hv
  have h0 := h.turn (SS.vote_more (s := s) (d := d) (h.lock w)).1
  have hdr : d ≠ s.root := fun e => hd (e ▸ h.root)
  have hvd := vw_of hb
  obtain ⟨⟨q, hq⟩, hj, hjl⟩ := ho.par hb hdr
  have hself : ∀ v, (upd S w ((S w).vote s d).2 v).last = if v = w then b.view else (S v).last := fun v => by
    unfold upd; rw [hx]; by_cases e : v = w <;> simp [e]
  have hlk : ∀ v, (upd S w ((S w).vote s d).2 v).lock = (S v).lock := fun v => by
    unfold upd; rw [hx]; by_cases e : v = w <;> simp [e]
  refine ⟨h0.root, h0.cin, h0.par, fun e he hr => ?_, fun e v hqv => ?_, fun e f v h1 h2 hvv => ?_, h0.lock, fun e v hqv => ?_, fun i j v h1 h2 hlt => ?_, h0.last⟩
  · obtain ⟨m, h1, h2⟩ := h0.q2 e he hr
    exact ⟨m, h1, fun x h3 h4 => .inl (h2 x h3 h4)⟩
  · rcases hqv with h1 | ⟨rfl, rfl⟩
    · exact h0.qin e v h1
    · refine ⟨⟨b, hb⟩, hdr, ?_⟩
      rw [hself, if_pos rfl, hvd]; exact Int.le_refl _
  · rcases h1 with h1 | ⟨rfl, rfl⟩
    · rcases h2 with h2 | ⟨rfl, rfl⟩
      · exact h.uniq e f v h1 h2 hvv
      · have := (h.qin e v h1).2.2; omega
    · rcases h2 with h2 | ⟨rfl, _⟩
      · have := (h.qin f v h2).2.2; omega
      · rfl
  · rcases hqv with h1 | ⟨rfl, rfl⟩
    · exact h0.seen e v h1
    · rw [hlk]; exact hs
  · rcases h1 with h1 | ⟨rfl, rfl⟩
    · rcases h2 with h2 | ⟨rfl, rfl⟩
      · exact h.link i j v h1 h2 hlt
      · have hsn := h.seen i v h1
        obtain ⟨cl, hcl⟩ := h.cin _ (h.lock v)
        by_cases hjv : b.jv < viewOf (mget s.T (S v).lock)
        · have hon : onw s (S v).lock j = true := by
            unfold onw
            cases hw2 : s.way (S v).lock j with
            | none => exact absurd ⟨hjv, hw2⟩ hn
            | some _ => rfl
          exact ⟨_, h.lock v, fun e => hd (e ▸ h.lock v), hon, hsn⟩
        · refine ⟨parOf s j, h.par j b hb hdr, fun e => ?_, onw_step ho hb hdr (onw_refl ho hq), ?_⟩
          · rw [e] at hjl; omega
          · rw [hj]; have hv2 : vw s (S v).lock = viewOf (mget s.T (S v).lock) := rfl; omega
    · rcases h2 with h2 | ⟨rfl, _⟩
      · have := (h.qin j v h2).2.2; omega
      · omega
/-- One more is certified. -/
theorem SI.certify (h : SI s C Q S) {d : Int} {b : Blk} (hb : mget s.T d = some b) (hq : ∃ m, m < 3 ∧ ∀ v, v < 3 → v ≠ m → Q d v) : SI s (fun e => C e ∨ e = d) Q S :=
  ⟨.inl h.root, fun e he => by rcases he with he | rfl; exact h.cin e he; exact ⟨b, hb⟩, fun e c he hr => .inl (h.par e c he hr), fun e he hr => by rcases he with he | rfl; exact h.q2 e he hr; exact hq,
    h.qin, h.uniq, fun v => .inl (h.lock v), h.seen, fun i j v h1 h2 h3 => by obtain ⟨x, h4, h5⟩ := h.link i j v h1 h2 h3; exact ⟨x, .inl h4, h5⟩, h.last⟩
theorem Fix.mono {C' : Int → Prop} {f : Int} (h : Fix s C f) (hc : ∀ e, C e → C' e) : Fix s C' f := by
  rcases h with h | ⟨b2, h1, h2⟩
  · exact .inl h
  · exact .inr ⟨b2, hc _ h1, h2⟩
theorem SI.equiv {C' : Int → Prop} (h : SI s C Q S) (hc : ∀ e, C e ↔ C' e) : SI s C' Q S := by
  have : C = C' := funext fun e => propext (hc e)
  exact this ▸ h
/-! ### A block that is laid -/
theorem way_old {s' : TS} (ho : s.Ok) (hr : s'.root = s.root) (hold : ∀ d b, mget s.T d = some b → mget s'.T d = some b) : ∀ (n : Nat) (f t : Int), (∃ b, mget s.T t = some b) → wayF s' n f t = wayF s n f t
  | 0, f, t, _ => rfl
  | n + 1, f, t, ⟨b, hb⟩ => by
    unfold wayF
    rw [hr, hold t b hb, hb]
    split
    · rfl
    · split
      · rfl
      · rename_i h1 h2
        obtain ⟨q, h3, _⟩ := ho.up t b hb h2
        dsimp only
        rw [way_old ho hr hold n f b.jb ⟨q, h3⟩]
theorem SI.lay {s' : TS} {d : Int} {b : Blk} (h : SI s C Q S) (ho : s.Ok) (ho' : s'.Ok) (hz : mget s.T 0 = none) (hd0 : d ≠ 0) (hr : s'.root = s.root) (hno : mget s.T d = none) (hget : ∀ e, mget s'.T e = if e = d then some b else mget s.T e) (hp : C b.jb) : SI s' C Q S ∧ (∀ f, Fix s C f → Fix s' C f) := by
  have hold : ∀ e c, mget s.T e = some c → mget s'.T e = some c := fun e c hc => by
    rw [hget, if_neg (fun h => by rw [h, hno] at hc; cases hc)]; exact hc
  have hne : ∀ e, (∃ c, mget s.T e = some c) → e ≠ d := fun e ⟨c, hc⟩ h => by rw [h, hno] at hc; cases hc
  have hsame : ∀ e, e ≠ d → mget s'.T e = mget s.T e := fun e he => by rw [hget, if_neg he]
  have hvw : ∀ e, e ≠ d → vw s' e = vw s e := fun e he => by unfold vw; rw [hsame e he]
  have hpar : ∀ e, e ≠ d → parOf s' e = parOf s e := fun e he => by unfold parOf; rw [hsame e he]
  have hpne : ∀ e, (∃ c, mget s.T e = some c) → parOf s e ≠ d := fun e ⟨c, hc⟩ => by
    by_cases h1 : e = s.root
    · rw [h1, ho.vroot.2.1]; exact fun h => hd0 h.symm
    · exact hne _ (ho.par hc h1).1
  have hpp : ∀ e, (∃ c, mget s.T e = some c) → e ≠ s.root → vw s' (parOf s' (parOf s' e)) = vw s (parOf s (parOf s e)) := fun e he h1 => by
    have h2 := (ho.par he.choose_spec h1).1
    rw [hpar e (hne e he), hpar _ (hne _ h2), hvw _ (hpne _ h2)]
  have hon : ∀ f t, (∃ c, mget s.T t = some c) → onw s' f t = onw s f t := fun f t ht => by
    have h2 := hvw t (hne t ht)
    unfold onw TS.way
    unfold vw at h2
    rw [h2, way_old ho hr hold _ f t ht]
  refine ⟨⟨hr ▸ h.root, fun e he => ?_, fun e c he hr' => ?_, fun e he hr' => h.q2 e he (hr ▸ hr'), fun e v hq => ?_, fun e f v h1 h2 hv => ?_, h.lock, fun e v hq => ?_, fun i j v h1 h2 hlt => ?_, h.last⟩, fun f hf => ?_⟩
  · obtain ⟨c, hc⟩ := h.cin e he; exact ⟨c, hold e c hc⟩
  · by_cases e1 : e = d
    · rw [hget, if_pos e1] at he; cases he
      have : parOf s' e = b.jb := by unfold parOf; rw [hget, if_pos e1]; rfl
      rw [this]; exact hp
    · rw [hsame e e1] at he; rw [hpar e e1]; exact h.par e c he (hr ▸ hr')
  · obtain ⟨⟨c, hc⟩, h2, h3⟩ := h.qin e v hq
    exact ⟨⟨c, hold e c hc⟩, hr ▸ h2, by rw [hvw e (hne e ⟨c, hc⟩)]; exact h3⟩
  · rw [hvw e (hne e (h.qin e v h1).1), hvw f (hne f (h.qin f v h2).1)] at hv
    exact h.uniq e f v h1 h2 hv
  · obtain ⟨h1, h2, _⟩ := h.qin e v hq
    rw [hpp e h1 h2, hvw _ (hne _ (h.cin _ (h.lock v)))]
    exact h.seen e v hq
  · obtain ⟨h3, h4, _⟩ := h.qin i v h1
    obtain ⟨h5, h6, _⟩ := h.qin j v h2
    rw [hvw i (hne i h3), hvw j (hne j h5)] at hlt
    obtain ⟨x, h7, h8, h9, h10⟩ := h.link i j v h1 h2 hlt
    exact ⟨x, h7, h8, by rw [hon x j h5]; exact h9, by rw [hpp i h3 h4, hvw x (hne x (h.cin x h7))]; exact h10⟩
  · rcases hf with hf | ⟨b2, h1, h2, h3, h4, h5, h6⟩
    · exact .inl (hr ▸ hf)
    · have i2 := h.cin b2 h1
      have i1 := (ho.par i2.choose_spec h2).1
      have i0 := (ho.par i1.choose_spec h3).1
      have e1 := hpar b2 (hne _ i2)
      have e2 := hpar (parOf s b2) (hne _ i1)
      refine .inr ⟨b2, h1, hr ▸ h2, by rw [e1, hr]; exact h3, by rw [e1, e2]; exact h4, ?_, ?_⟩
      · rw [e1, hvw b2 (hne _ i2), hvw _ (hne _ i1)]; exact h5
      · rw [e1, hvw _ (hne _ i1), hvw f (h4 ▸ hne _ i0)]; exact h6
end
end Go.Proofs.Ytmigjpmadhebfaa
