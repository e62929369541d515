/- Heaps as sets of blocks: what one owns, apart from the rest. Plain Lean over the model's world; no program in sight. -/
import Derived.Tactics
import Derived.OrdersHeld
import Derived.Below
namespace Go.Proofs.Ytmigjpmadhebfaa
open Go

abbrev Hp := Nat → Option Obj
abbrev HProp := Hp → Prop

def disj (h k : Hp) : Prop := ∀ b, h b = none ∨ k b = none
def join (h k : Hp) : Hp := fun b => (h b).or (k b)
def Sub (h k : Hp) : Prop := ∀ b o, h b = some o → k b = some o
/-- One block, alone. -/
def pt (b : Nat) (o : Obj) : HProp := fun h => ∀ k, h k = if k = b then some o else none

def Den : List HProp → HProp
  | [] => fun h => ∀ b, h b = none
  | A :: L => fun h => ∃ h1 h2, disj h1 h2 ∧ h = join h1 h2 ∧ A h1 ∧ Den L h2

theorem disj_comm {h k : Hp} (d : disj h k) : disj k h := fun b => (d b).symm
theorem join_comm {h k : Hp} (d : disj h k) : join h k = join k h := by
  funext b
  rcases d b with e | e
  · simp [join, e]
  · simp [join, e]
theorem join_assoc (h k m : Hp) : join (join h k) m = join h (join k m) := by
  funext b; simp [join, Option.or_assoc]
theorem disj_join {h k m : Hp} : disj h (join k m) ↔ disj h k ∧ disj h m := by
  constructor
  · intro d
    refine ⟨fun b => ?_, fun b => ?_⟩ <;> rcases d b with e | e
    · exact .inl e
    · simp [join] at e; exact .inr e.1
    · exact .inl e
    · simp [join] at e; exact .inr e.2
  · rintro ⟨d, e⟩ b
    rcases d b with x | x
    · exact .inl x
    · rcases e b with y | y
      · exact .inl y
      · exact .inr (by simp [join, x, y])

theorem Den_swap {A B : HProp} {L : List HProp} {h : Hp} (H : Den (A :: B :: L) h) : Den (B :: A :: L) h := by
  obtain ⟨h1, h23, d, rfl, a, h2, h3, d2, rfl, b, l⟩ := H
  obtain ⟨d12, d13⟩ := disj_join.1 d
  refine ⟨h2, join h1 h3, disj_join.2 ⟨disj_comm d12, d2⟩, ?_, b, h1, h3, d13, rfl, a, l⟩
  rw [← join_assoc, join_comm d12, join_assoc]

theorem Den_perm {L L' : List HProp} (p : L.Perm L') : ∀ h, Den L h → Den L' h := by
  induction p with
  | nil => exact fun h H => H
  | cons A _ ih => rintro h ⟨h1, h2, d, e, a, l⟩; exact ⟨h1, h2, d, e, a, ih _ l⟩
  | swap A B L => exact fun h H => Den_swap H
  | trans _ _ i j => exact fun h H => j _ (i _ H)

theorem Den_append {L M : List HProp} : ∀ {h : Hp}, Den (L ++ M) h ↔ ∃ h1 h2, disj h1 h2 ∧ h = join h1 h2 ∧ Den L h1 ∧ Den M h2 := by
  induction L with
  | nil =>
    intro h
    constructor
    · intro H; exact ⟨fun _ => none, h, fun b => .inl rfl, by funext b; simp [join], fun _ => rfl, H⟩
    · rintro ⟨h1, h2, _, rfl, e, H⟩
      have : join h1 h2 = h2 := by funext b; simp [join, e b]
      rw [this]; exact H
  | cons A L ih =>
    intro h
    constructor
    · rintro ⟨h1, h2, d, rfl, a, H⟩
      obtain ⟨k1, k2, d2, rfl, l, m⟩ := ih.1 H
      obtain ⟨d1, d3⟩ := disj_join.1 d
      exact ⟨join h1 k1, k2, disj_comm (disj_join.2 ⟨disj_comm d3, disj_comm d2⟩), by rw [join_assoc], ⟨h1, k1, d1, rfl, a, l⟩, m⟩
    · rintro ⟨hl, k2, d, rfl, ⟨h1, k1, d1, rfl, a, l⟩, m⟩
      have dd := disj_join.1 (disj_comm d)
      exact ⟨h1, join k1 k2, disj_join.2 ⟨d1, disj_comm dd.1⟩, by rw [join_assoc], a, ih.2 ⟨k1, k2, disj_comm dd.2, rfl, l, m⟩⟩

/-- The world w has just these blocks; its streams are W's. -/
def Sat (W : World) (L : List HProp) (w : World) : Prop := w.os = W.os ∧ w.tape = W.tape ∧ w.output = W.output ∧ Den L (fun b => w.heap[b]?)

theorem Sat.imp {W : World} {L L' : List HProp} {w : World} (H : Sat W L w) (h : ∀ m, Den L m → Den L' m) : Sat W L' w :=
  ⟨H.1, H.2.1, H.2.2.1, h _ H.2.2.2⟩
theorem Sat.perm {W : World} {L L' : List HProp} {w : World} (H : Sat W L w) (p : L.Perm L') : Sat W L' w := H.imp (Den_perm p)

/-- Number i first. -/
def pick (i : Nat) (L : List HProp) : List HProp :=
  match L[i]? with
  | some A => A :: L.eraseIdx i
  | none => L
theorem pick_perm (i : Nat) (L : List HProp) : L.Perm (pick i L) := by
  unfold pick
  cases h : L[i]? with
  | none => exact .refl _
  | some A =>
    induction L generalizing i with
    | nil => simp at h
    | cons B L ih =>
      cases i with
      | zero => simp at h; subst h; exact .refl _
      | succ i =>
        simp at h
        exact ((ih i h).cons B).trans (.swap A B _)

theorem pt_get {b : Nat} {o : Obj} {h : Hp} (H : pt b o h) : h b = some o := by simpa using H b
theorem Den_head {A : HProp} {L : List HProp} {h : Hp} (H : Den (A :: L) h) : ∃ h1, A h1 ∧ Sub h1 h := by
  obtain ⟨h1, h2, d, rfl, a, _⟩ := H
  exact ⟨h1, a, fun b o e => by simp [join, e]⟩
theorem Sat.get {W : World} {b : Nat} {o : Obj} {L : List HProp} {w : World} (H : Sat W (pt b o :: L) w) : w.heap[b]? = some o := by
  obtain ⟨h1, a, s⟩ := Den_head H.2.2.2
  exact s b o (pt_get a)

/-- One block turned. -/
theorem Den_turn {b : Nat} {o o' : Obj} {L : List HProp} {h : Hp} (H : Den (pt b o :: L) h) : Den (pt b o' :: L) (fun k => if k = b then some o' else h k) := by
  obtain ⟨h1, h2, d, rfl, a, l⟩ := H
  refine ⟨fun k => if k = b then some o' else none, h2, fun k => ?_, ?_, fun k => rfl, l⟩
  · by_cases e : k = b
    · subst e
      rcases d k with x | x
      · rw [pt_get a] at x; cases x
      · exact .inr x
    · exact .inl (by simp [e])
  · funext k
    by_cases e : k = b
    · simp [join, e]
    · have := a k
      simp [e] at this
      simp [join, e, this]
theorem Sat.turn {W : World} {b : Nat} {o o' : Obj} {L : List HProp} {w w' : World} (H : Sat W (pt b o :: L) w) (h1 : w'.os = w.os) (h2 : w'.tape = w.tape) (h3 : w'.output = w.output)
    (hb : ∀ k, w'.heap[k]? = if k = b then some o' else w.heap[k]?) : Sat W (pt b o' :: L) w' :=
  ⟨h1.trans H.1, h2.trans H.2.1, h3.trans H.2.2.1, by
    have := Den_turn (o' := o') H.2.2.2
    have e : (fun k => w'.heap[k]?) = (fun k => if k = b then some o' else w.heap[k]?) := funext hb
    rw [e]; exact this⟩

theorem Sat.setCell {W : World} {b : Nat} {cs : Array Value} {T : TypeId} {fz : Nat × Nat} {L : List HProp} {w : World} (H : Sat W (pt b (.cells cs T fz) :: L) w) (i : Nat) (v : Value) :
    Sat W (pt b (.cells (cs.setIfInBounds i v) T fz) :: L) (w.setCell ⟨b, i, none⟩ v) := by
  have hg := H.get
  refine H.turn rfl rfl rfl fun k => ?_
  simp only [World.setCell, Array.getElem?_modify]
  by_cases e : k = b
  · subst e; simp [hg]
  · rw [if_neg (fun x => e x.symm), if_neg e]

theorem Sat.setObj {W : World} {b : Nat} {o o' : Obj} {L : List HProp} {w : World} (H : Sat W (pt b o :: L) w) :
    Sat W (pt b o' :: L) { w with heap := w.heap.setIfInBounds b o' } := by
  have hg := H.get
  have hb : b < w.heap.size := (Array.getElem?_eq_some_iff.1 hg).1
  refine H.turn rfl rfl rfl fun k => ?_
  simp only []
  by_cases e : k = b
  · subst e; simp [hb]
  · rw [Array.getElem?_setIfInBounds_ne (fun x => e x.symm), if_neg e]

theorem Sat.new {W : World} {L : List HProp} {w : World} (H : Sat W L w) (o : Obj) : Sat W (pt w.heap.size o :: L) { w with heap := w.heap.push o } :=
  ⟨H.1, H.2.1, H.2.2.1, fun k => if k = w.heap.size then some o else none, fun b => w.heap[b]?,
    fun b => by
      by_cases e : b = w.heap.size
      · exact .inr (by subst e; simp)
      · exact .inl (by simp [e]),
    by
      funext b
      simp only [join, Array.getElem?_push]
      by_cases e : b = w.heap.size
      · simp [e]
      · simp [e], fun k => rfl, H.2.2.2⟩

theorem Sat.drew {W : World} {L : List HProp} {w : World} (H : Sat W L w) (n : Nat) : Sat W L { w with drawn := n } := H

theorem pt_ne {b c : Nat} {o o' : Obj} {L : List HProp} {h : Hp} (H : Den (pt b o :: pt c o' :: L) h) : b ≠ c := by
  rintro rfl
  obtain ⟨h1, h2, d, rfl, a, h3, h4, _, rfl, a', _⟩ := H
  have := (disj_join.1 d).1 b
  rw [pt_get a, pt_get a'] at this
  rcases this with x | x <;> cases x

/-- A fact on a heap that stays true where the heap grows: what one may read. -/
def Up (R : Hp → Prop) : Prop := ∀ h k, Sub h k → R h → R k
/-- Whoever has these blocks may read R. -/
def Reads (L : List HProp) (R : Hp → Prop) : Prop := Up R ∧ ∀ h, Den L h → R h
theorem Reads.sat {W : World} {L M : List HProp} {R : Hp → Prop} (hr : Reads L R) {w : World} (H : Sat W (M ++ L) w) : R (fun b => w.heap[b]?) := by
  obtain ⟨h1, h2, d, e, _, l⟩ := Den_append.1 H.2.2.2
  rw [e]
  refine hr.1 h2 _ (fun b o x => ?_) (hr.2 _ l)
  have := d b
  rw [x] at this
  rcases this with y | y
  · simp [join, y, x]
  · cases y
theorem Reads.cons {A : HProp} {L : List HProp} {R : Hp → Prop} (hr : Reads L R) : Reads (A :: L) R :=
  ⟨hr.1, by
    rintro h ⟨h1, h2, d, rfl, _, l⟩
    refine hr.1 h2 _ (fun b o x => ?_) (hr.2 _ l)
    have := d b
    rw [x] at this
    rcases this with y | y
    · simp [join, y, x]
    · cases y⟩
theorem Reads.head {A : HProp} {L : List HProp} {R : Hp → Prop} (hu : Up R) (ha : ∀ h, A h → R h) : Reads (A :: L) R :=
  ⟨hu, fun h H => by obtain ⟨h1, a, s⟩ := Den_head H; exact hu _ _ s (ha _ a)⟩
theorem Reads.perm {L L' : List HProp} {R : Hp → Prop} (hr : Reads L R) (p : L.Perm L') : Reads L' R :=
  ⟨hr.1, fun h H => hr.2 h (Den_perm p.symm h H)⟩

/-- Just the blocks that W has. -/
def old (W : World) : HProp := fun h => ∀ b, h b = W.heap[b]?
theorem Sat.start (W : World) : Sat W [old W] W :=
  ⟨rfl, rfl, rfl, fun b => W.heap[b]?, fun _ => none, fun b => .inr rfl, by funext b; simp [join], fun _ => rfl, fun _ => rfl⟩
theorem Sat.below {W : World} {M L : List HProp} {w : World} (H : Sat W (M ++ old W :: L) w) : Go.RowKit.Below W.heap.size W w := by
  have key : ∀ (k : Nat) (o : Obj), W.heap[k]? = some o → w.heap[k]? = some o := by
    have : Reads (old W :: L) (fun (h : Hp) => ∀ (k : Nat) (o : Obj), W.heap[k]? = some o → h k = some o) :=
      Reads.head (fun h k s H j o e => s j o (H j o e)) (fun h H j o e => Eq.trans (H j) e)
    exact fun k o e => (this.sat H) k o e
  have hk : ∀ k, k < W.heap.size → w.heap[k]? = W.heap[k]? := fun k hk => by
    rw [key k W.heap[k] (Array.getElem?_eq_getElem hk), Array.getElem?_eq_getElem hk]
  refine ⟨H.1, H.2.1, H.2.2.1, ?_, hk⟩
  rcases Nat.lt_or_ge w.heap.size W.heap.size with h | h
  · have := hk w.heap.size h
    rw [Array.getElem?_eq_getElem h] at this
    simp at this
  · exact h
end Go.Proofs.Ytmigjpmadhebfaa
