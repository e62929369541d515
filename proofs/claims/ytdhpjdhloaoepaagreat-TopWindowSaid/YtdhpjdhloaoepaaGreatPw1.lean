/- Part 1 of the proof: lemmas that the walk of TopWindow needs. -/
import Derived.Tactics
import Derived.OrdersHeld
import Derived.Below
import Derived.IntWalk
import Derived.Laws.StructEq
import Derived.Laws.Small
import Derived.Laws.Cells
import Derived.Laws.Slices
import Derived.Laws.Strings
import Derived.Laws.Tables
import Derived.Laws.BytesArg
import Derived.Lib.ConvBytes
import Derived.Great.BuildSlice
set_option linter.unusedSimpArgs false
set_option linter.unusedVariables false
/- Heaps as sets of blocks: what one owns, apart from the rest. Plain Lean over the model's world; no program in sight. -/
namespace Go.Proofs.YtdhpjdhloaoepaaGreat
open Go

abbrev Hp := Nat → Option Obj
abbrev HProp := Hp → Prop

def disj (h k : Hp) : Prop := ∀ b, h b = none ∨ k b = none
def join (h k : Hp) : Hp := fun b => (h b).or (k b)
def Sub (h k : Hp) : Prop := ∀ b o, h b = some o → k b = some o
/-- One block, alone. -/
def pt (b : Nat) (o : Obj) : HProp := fun h => ∀ k, h k = if k = b then some o else none

def Den : List HProp → HProp
  | [] => fun h => ∀ b, h b = none
  | A :: L => fun h => ∃ h1 h2, disj h1 h2 ∧ h = join h1 h2 ∧ A h1 ∧ Den L h2

theorem disj_comm {h k : Hp} (d : disj h k) : disj k h := fun b => (d b).symm
theorem join_comm {h k : Hp} (d : disj h k) : join h k = join k h := by
  funext b
  rcases d b with e | e
  · simp [join, e]
  · simp [join, e]
theorem join_assoc (h k m : Hp) : join (join h k) m = join h (join k m) := by
  funext b; simp [join, Option.or_assoc]
theorem disj_join {h k m : Hp} : disj h (join k m) ↔ disj h k ∧ disj h m := by
  constructor
  · intro d
    refine ⟨fun b => ?_, fun b => ?_⟩ <;> rcases d b with e | e
    · exact .inl e
    · simp [join] at e; exact .inr e.1
    · exact .inl e
    · simp [join] at e; exact .inr e.2
  · rintro ⟨d, e⟩ b
    rcases d b with x | x
    · exact .inl x
    · rcases e b with y | y
      · exact .inl y
      · exact .inr (by simp [join, x, y])

theorem Den_swap {A B : HProp} {L : List HProp} {h : Hp} (H : Den (A :: B :: L) h) : Den (B :: A :: L) h := by
  obtain ⟨h1, h23, d, rfl, a, h2, h3, d2, rfl, b, l⟩ := H
  obtain ⟨d12, d13⟩ := disj_join.1 d
  refine ⟨h2, join h1 h3, disj_join.2 ⟨disj_comm d12, d2⟩, ?_, b, h1, h3, d13, rfl, a, l⟩
  rw [← join_assoc, join_comm d12, join_assoc]

theorem Den_perm {L L' : List HProp} (p : L.Perm L') : ∀ h, Den L h → Den L' h := by
  induction p with
  | nil => exact fun h H => H
  | cons A _ ih => rintro h ⟨h1, h2, d, e, a, l⟩; exact ⟨h1, h2, d, e, a, ih _ l⟩
  | swap A B L => exact fun h H => Den_swap H
  | trans _ _ i j => exact fun h H => j _ (i _ H)

theorem Den_append {L M : List HProp} : ∀ {h : Hp}, Den (L ++ M) h ↔ ∃ h1 h2, disj h1 h2 ∧ h = join h1 h2 ∧ Den L h1 ∧ Den M h2 := by
  induction L with
  | nil =>
    intro h
    constructor
    · intro H; exact ⟨fun _ => none, h, fun b => .inl rfl, by funext b; simp [join], fun _ => rfl, H⟩
    · rintro ⟨h1, h2, _, rfl, e, H⟩
      have : join h1 h2 = h2 := by funext b; simp [join, e b]
      rw [this]; exact H
  | cons A L ih =>
    intro h
    constructor
    · rintro ⟨h1, h2, d, rfl, a, H⟩
      obtain ⟨k1, k2, d2, rfl, l, m⟩ := ih.1 H
      obtain ⟨d1, d3⟩ := disj_join.1 d
      exact ⟨join h1 k1, k2, disj_comm (disj_join.2 ⟨disj_comm d3, disj_comm d2⟩), by rw [join_assoc], ⟨h1, k1, d1, rfl, a, l⟩, m⟩
    · rintro ⟨hl, k2, d, rfl, ⟨h1, k1, d1, rfl, a, l⟩, m⟩
      have dd := disj_join.1 (disj_comm d)
      exact ⟨h1, join k1 k2, disj_join.2 ⟨d1, disj_comm dd.1⟩, by rw [join_assoc], a, ih.2 ⟨k1, k2, disj_comm dd.2, rfl, l, m⟩⟩

/-- The world w has just these blocks; its streams are W's. -/
def Sat (W : World) (L : List HProp) (w : World) : Prop := w.os = W.os ∧ w.tape = W.tape ∧ w.output = W.output ∧ Den L (fun b => w.heap[b]?)

theorem Sat.imp {W : World} {L L' : List HProp} {w : World} (H : Sat W L w) (h : ∀ m, Den L m → Den L' m) : Sat W L' w :=
  ⟨H.1, H.2.1, H.2.2.1, h _ H.2.2.2⟩
theorem Sat.perm {W : World} {L L' : List HProp} {w : World} (H : Sat W L w) (p : L.Perm L') : Sat W L' w := H.imp (Den_perm p)

/-- Number i first. -/
def pick (i : Nat) (L : List HProp) : List HProp :=
  match L[i]? with
  | some A => A :: L.eraseIdx i
  | none => L
theorem pick_perm (i : Nat) (L : List HProp) : L.Perm (pick i L) := by
  unfold pick
  cases h : L[i]? with
  | none => exact .refl _
  | some A =>
    induction L generalizing i with
    | nil => simp at h
    | cons B L ih =>
      cases i with
      | zero => simp at h; subst h; exact .refl _
      | succ i =>
        simp at h
        exact ((ih i h).cons B).trans (.swap A B _)

theorem pt_get {b : Nat} {o : Obj} {h : Hp} (H : pt b o h) : h b = some o := by simpa using H b
theorem Den_head {A : HProp} {L : List HProp} {h : Hp} (H : Den (A :: L) h) : ∃ h1, A h1 ∧ Sub h1 h := by
  obtain ⟨h1, h2, d, rfl, a, _⟩ := H
  exact ⟨h1, a, fun b o e => by simp [join, e]⟩
theorem Sat.get {W : World} {b : Nat} {o : Obj} {L : List HProp} {w : World} (H : Sat W (pt b o :: L) w) : w.heap[b]? = some o := by
  obtain ⟨h1, a, s⟩ := Den_head H.2.2.2
  exact s b o (pt_get a)

/-- One block turned. -/
theorem Den_turn {b : Nat} {o o' : Obj} {L : List HProp} {h : Hp} (H : Den (pt b o :: L) h) : Den (pt b o' :: L) (fun k => if k = b then some o' else h k) := by
  obtain ⟨h1, h2, d, rfl, a, l⟩ := H
  refine ⟨fun k => if k = b then some o' else none, h2, fun k => ?_, ?_, fun k => rfl, l⟩
  · by_cases e : k = b
    · subst e
      rcases d k with x | x
      · rw [pt_get a] at x; cases x
      · exact .inr x
    · exact .inl (by simp [e])
  · funext k
    by_cases e : k = b
    · simp [join, e]
    · have := a k
      simp [e] at this
      simp [join, e, this]
theorem Sat.turn {W : World} {b : Nat} {o o' : Obj} {L : List HProp} {w w' : World} (H : Sat W (pt b o :: L) w) (h1 : w'.os = w.os) (h2 : w'.tape = w.tape) (h3 : w'.output = w.output)
    (hb : ∀ k, w'.heap[k]? = if k = b then some o' else w.heap[k]?) : Sat W (pt b o' :: L) w' :=
  ⟨h1.trans H.1, h2.trans H.2.1, h3.trans H.2.2.1, by
    have := Den_turn (o' := o') H.2.2.2
    have e : (fun k => w'.heap[k]?) = (fun k => if k = b then some o' else w.heap[k]?) := funext hb
    rw [e]; exact this⟩

theorem Sat.setCell {W : World} {b : Nat} {cs : Array Value} {T : TypeId} {fz : Nat × Nat} {L : List HProp} {w : World} (H : Sat W (pt b (.cells cs T fz) :: L) w) (i : Nat) (v : Value) :
    Sat W (pt b (.cells (cs.setIfInBounds i v) T fz) :: L) (w.setCell ⟨b, i, none⟩ v) := by
  have hg := H.get
  refine H.turn rfl rfl rfl fun k => ?_
  simp only [World.setCell, Array.getElem?_modify]
  by_cases e : k = b
  · subst e; simp [hg]
  · rw [if_neg (fun x => e x.symm), if_neg e]

theorem Sat.setObj {W : World} {b : Nat} {o o' : Obj} {L : List HProp} {w : World} (H : Sat W (pt b o :: L) w) :
    Sat W (pt b o' :: L) { w with heap := w.heap.setIfInBounds b o' } := by
  have hg := H.get
  have hb : b < w.heap.size := (Array.getElem?_eq_some_iff.1 hg).1
  refine H.turn rfl rfl rfl fun k => ?_
  simp only []
  by_cases e : k = b
  · subst e; simp [hb]
  · rw [Array.getElem?_setIfInBounds_ne (fun x => e x.symm), if_neg e]

theorem Sat.new {W : World} {L : List HProp} {w : World} (H : Sat W L w) (o : Obj) : Sat W (pt w.heap.size o :: L) { w with heap := w.heap.push o } :=
  ⟨H.1, H.2.1, H.2.2.1, fun k => if k = w.heap.size then some o else none, fun b => w.heap[b]?,
    fun b => by
      by_cases e : b = w.heap.size
      · exact .inr (by subst e; simp)
      · exact .inl (by simp [e]),
    by
      funext b
      simp only [join, Array.getElem?_push]
      by_cases e : b = w.heap.size
      · simp [e]
      · simp [e], fun k => rfl, H.2.2.2⟩

theorem Sat.drew {W : World} {L : List HProp} {w : World} (H : Sat W L w) (n : Nat) : Sat W L { w with drawn := n } := H

/-- A fact on a heap that stays true where the heap grows: what one may read. -/
def Up (R : Hp → Prop) : Prop := ∀ h k, Sub h k → R h → R k
/-- Whoever has these blocks may read R. -/
def Reads (L : List HProp) (R : Hp → Prop) : Prop := Up R ∧ ∀ h, Den L h → R h
theorem Reads.sat {W : World} {L M : List HProp} {R : Hp → Prop} (hr : Reads L R) {w : World} (H : Sat W (M ++ L) w) : R (fun b => w.heap[b]?) := by
  obtain ⟨h1, h2, d, e, _, l⟩ := Den_append.1 H.2.2.2
  rw [e]
  refine hr.1 h2 _ (fun b o x => ?_) (hr.2 _ l)
  have := d b
  rw [x] at this
  rcases this with y | y
  · simp [join, y, x]
  · cases y
theorem Reads.cons {A : HProp} {L : List HProp} {R : Hp → Prop} (hr : Reads L R) : Reads (A :: L) R :=
  ⟨hr.1, by
    rintro h ⟨h1, h2, d, rfl, _, l⟩
    refine hr.1 h2 _ (fun b o x => ?_) (hr.2 _ l)
    have := d b
    rw [x] at this
    rcases this with y | y
    · simp [join, y, x]
    · cases y⟩
theorem Reads.head {A : HProp} {L : List HProp} {R : Hp → Prop} (hu : Up R) (ha : ∀ h, A h → R h) : Reads (A :: L) R :=
  ⟨hu, fun h H => by obtain ⟨h1, a, s⟩ := Den_head H; exact hu _ _ s (ha _ a)⟩
theorem Reads.perm {L L' : List HProp} {R : Hp → Prop} (hr : Reads L R) (p : L.Perm L') : Reads L' R :=
  ⟨hr.1, fun h H => hr.2 h (Den_perm p.symm h H)⟩

/-- Just the blocks that W has. -/
def old (W : World) : HProp := fun h => ∀ b, h b = W.heap[b]?
theorem Sat.start (W : World) : Sat W [old W] W :=
  ⟨rfl, rfl, rfl, fun b => W.heap[b]?, fun _ => none, fun b => .inr rfl, by funext b; simp [join], fun _ => rfl, fun _ => rfl⟩
theorem Sat.below {W : World} {M L : List HProp} {w : World} (H : Sat W (M ++ old W :: L) w) : Go.RowKit.Below W.heap.size W w := by
  have key : ∀ (k : Nat) (o : Obj), W.heap[k]? = some o → w.heap[k]? = some o := by
    have : Reads (old W :: L) (fun (h : Hp) => ∀ (k : Nat) (o : Obj), W.heap[k]? = some o → h k = some o) :=
      Reads.head (fun h k s H j o e => s j o (H j o e)) (fun h H j o e => Eq.trans (H j) e)
    exact fun k o e => (this.sat H) k o e
  have hk : ∀ k, k < W.heap.size → w.heap[k]? = W.heap[k]? := fun k hk => by
    rw [key k W.heap[k] (Array.getElem?_eq_getElem hk), Array.getElem?_eq_getElem hk]
  refine ⟨H.1, H.2.1, H.2.2.1, ?_, hk⟩
  rcases Nat.lt_or_ge w.heap.size W.heap.size with h | h
  · have := hk w.heap.size h
    rw [Array.getElem?_eq_getElem h] at this
    simp at this
  · exact h
end Go.Proofs.YtdhpjdhloaoepaaGreat

/- A walk over code whose memory is told by what one owns: the frame as a list of slots, the way on as a list of codes. -/
namespace Go.Proofs.YtdhpjdhloaoepaaGreat
open Go

theorem nbeq {a b : Nat} (h : a ≠ b) : Nat.beq a b = false := by
  cases e : Nat.beq a b with
  | false => rfl
  | true => exact absurd (Nat.eq_of_beq_eq_true e) h

abbrev Env := List (Nat × Value)
def look : Env → Nat → Option Value
  | [], _ => none
  | (d, v) :: l, t => bif Nat.beq d t then some v else look l t
def ev (l : Env) : Operand → Option Value
  | .tmp t => look l t
  | .const v => some v
  | .global g => some (.pointer (some ⟨g, 0, none⟩))
  | .func f => some (.func (.func f) #[] #[])
structure Agree (n : Nat) (l : Env) (a : Act) : Prop where
  defers : a.defers = []
  size : a.tmps.size = n
  slot : ∀ t v, look l t = some v → a.tmps[t]? = some v

theorem Agree.eval {n : Nat} {l : Env} {a : Act} (h : Agree n l a) {x : Operand} {v : Value} (hx : ev l x = some v) : a.eval x = v := by
  cases x with
  | tmp t => simp [Act.eval, h.slot t v hx]
  | _ => simpa [ev, Act.eval] using hx
def putE (dst : Option Tmp) (v : Value) (l : Env) : Env :=
  match dst with
  | some d => (d, v) :: l
  | none => l
theorem Agree.put {n : Nat} {l : Env} {a : Act} (h : Agree n l a) {dst : Option Tmp} {v : Value} (hd : ∀ d, dst = some d → d < n) : Agree n (putE dst v l) (a.put dst v) := by
  cases dst with
  | none => exact h
  | some d =>
    have hdn := hd d rfl
    refine ⟨h.defers, by simp [Act.put, h.size], fun t u hu => ?_⟩
    simp only [putE, look] at hu
    simp only [Act.put]
    by_cases e : d = t
    · subst e
      simp at hu
      subst hu
      simp [h.size, hdn]
    · have : Nat.beq d t = false := nbeq e
      rw [this] at hu
      rw [Array.getElem?_setIfInBounds_ne e]
      exact h.slot t u hu

/-- What the one frame knows, the other knows too. -/
def EnvLe (l l' : Env) : Prop := ∀ t v, look l t = some v → look l' t = some v
theorem EnvLe.refl (l : Env) : EnvLe l l := fun _ _ h => h
theorem EnvLe.nil {l : Env} : EnvLe [] l := fun _ _ h => by cases h
theorem EnvLe.cons {d : Nat} {v : Value} {l l' : Env} (h : look l' d = some v) (r : EnvLe l l') : EnvLe ((d, v) :: l) l' := fun t u hu => by
  simp only [look] at hu
  by_cases e : d = t
  · subst e; simp at hu; subst hu; exact h
  · have : Nat.beq d t = false := nbeq e
    rw [this] at hu
    exact r t u hu
theorem Agree.le {n : Nat} {l l' : Env} {a : Act} (h : Agree n l' a) (e : EnvLe l l') : Agree n l a := ⟨h.defers, h.size, fun t v hv => h.slot t v (e t v hv)⟩

inductive Kont where
  | stop (fn : Func) (K : Value → List HProp → Prop)
  | seq (c : Code) (k : Kont)
  | block (id : Nat) (k : Kont)
  | loop (c : Code) (k : Kont)
/-- A loop that goes on with a round of c. -/
def Goes (P : Program) (c : Code) (Q : Exit → Act → World → Prop) (a : Act) (w : World) : Prop :=
  ∀ (b : Frame) (ks : List Item) (cs : List Frame), ∃ e a' w', Q e a' w' ∧ Arrives P (lone (b.at a (.code c :: .inLoop c :: ks)) cs w) b ks cs e a' w'
def den (W : World) (P : Program) : Kont → Exit → Act → World → Prop
  | .stop fn K => bodyPost P fn fun e w => ∃ v L, e = .returned v ∧ K v L ∧ Sat W L w
  | .seq c k => Exit.then (c.wp P (den W P k)) (den W P k)
  | .block id k => Exit.inBlock id (den W P k)
  | .loop c k => Exit.then (Goes P c (den W P k)) (den W P k)
def Kont.root : Kont → Func × (Value → List HProp → Prop)
  | .stop fn K => (fn, K)
  | .seq _ k | .block _ k | .loop _ k => k.root
def Kont.out (id : Nat) : Kont → Option Kont
  | .stop .. => none
  | .seq _ k => k.out id
  | .block id' k => bif Nat.beq id id' then some k else k.out id
  | .loop _ k => k.out id

section
variable {W : World} {P : Program} {n : Nat}
theorem den_ret (k : Kont) (a : Act) (w : World) : den W P k .ret a w = bodyPost P k.root.1 (fun e w => ∃ v L, e = .returned v ∧ k.root.2 v L ∧ Sat W L w) .ret a w := by
  induction k with
  | stop => rfl
  | seq c k ih => exact ih
  | block id k ih => exact ih
  | loop c k ih => exact ih
theorem den_panic (k : Kont) (c : List PanicEntry) (a : Act) (w : World) : den W P k (.panic c) a w → False := by
  induction k with
  | stop =>
    rintro ⟨_, v, L, e, _⟩
    cases e
  | seq c k ih => exact ih
  | block id k ih => exact ih
  | loop c k ih => exact ih
theorem den_out {id : Nat} {k k' : Kont} (h : k.out id = some k') {a : Act} {w : World} (hd : den W P k' .normal a w) : den W P k (.exit id) a w := by
  induction k with
  | stop => cases h
  | seq c k ih => exact ih h
  | block id' k ih =>
    simp only [Kont.out] at h
    by_cases e : id = id'
    · subst e; simp at h; subst h; simpa [den, Exit.inBlock] using hd
    · have hb : Nat.beq id id' = false := nbeq e
      rw [hb] at h
      simpa [den, Exit.inBlock, e] using ih h
  | loop c k ih => exact ih h

/-- From a frame that knows l, in a world of the blocks L, the code c goes as k wants. -/
def SC (W : World) (P : Program) (n : Nat) (c : Code) (k : Kont) (l : Env) (L : List HProp) : Prop := ∀ a w, Agree n l a → Sat W L w → c.wp P (den W P k) a w
/-- .. the way on k goes as it wants. -/
def SN (W : World) (P : Program) (n : Nat) (k : Kont) (l : Env) (L : List HProp) : Prop := ∀ a w, Agree n l a → Sat W L w → den W P k .normal a w
/-- .. the operations os of a region. -/
def SR (W : World) (P : Program) (n : Nat) (ops : Array Oper) (os : List Oper) (k : Kont) (l : Env) (L : List HProp) : Prop := ∀ a w, Agree n l a → Sat W L w → wpList P ops (den W P k) os a w

variable {k k' : Kont} {l l' : Env} {L L' : List HProp} {c c' : Code}
theorem SC.le (h : SC W P n c k l L) (e : EnvLe l l') : SC W P n c k l' L := fun a w ha hw => h a w (ha.le e) hw
theorem SN.le (h : SN W P n k l L) (e : EnvLe l l') : SN W P n k l' L := fun a w ha hw => h a w (ha.le e) hw
theorem SR.le {ops : Array Oper} {os : List Oper} (h : SR W P n ops os k l L) (e : EnvLe l l') : SR W P n ops os k l' L := fun a w ha hw => h a w (ha.le e) hw
theorem SC.imp (e : ∀ m, Den L' m → Den L m) (h : SC W P n c k l L) : SC W P n c k l L' := fun a w ha hw => h a w ha (hw.imp e)
theorem SN.imp (e : ∀ m, Den L' m → Den L m) (h : SN W P n k l L) : SN W P n k l L' := fun a w ha hw => h a w ha (hw.imp e)
theorem SR.imp {ops : Array Oper} {os : List Oper} (e : ∀ m, Den L' m → Den L m) (h : SR W P n ops os k l L) : SR W P n ops os k l L' := fun a w ha hw => h a w ha (hw.imp e)
theorem SC.pick (i : Nat) (h : SC W P n c k l (pick i L)) : SC W P n c k l L := h.imp fun m => Den_perm (pick_perm i L) m
theorem SN.pick (i : Nat) (h : SN W P n k l (pick i L)) : SN W P n k l L := h.imp fun m => Den_perm (pick_perm i L) m
theorem SR.pick (i : Nat) {ops : Array Oper} {os : List Oper} (h : SR W P n ops os k l (pick i L)) : SR W P n ops os k l L := h.imp fun m => Den_perm (pick_perm i L) m

theorem SC_seq (h : SC W P n c (.seq c' k) l L) : SC W P n (.seq c c') k l L := fun a w ha hw => wp_seq (h a w ha hw)
theorem SC_skip (h : SN W P n k l L) : SC W P n .skip k l L := fun a w ha hw => wp_skip (h a w ha hw)
theorem SC_block {id : Nat} (h : SC W P n c (.block id k) l L) : SC W P n (.block id c) k l L := fun a w ha hw => wp_block (h a w ha hw)
theorem SC_exit {id : Nat} (ho : k.out id = some k') (h : SN W P n k' l L) : SC W P n (.exit id) k l L := fun a w ha hw => wp_exit (den_out ho (h a w ha hw))
theorem SC_cond {x : Operand} {t : Bool} (hx : ev l x = some (.bool t)) (h1 : t = true → SC W P n c k l L) (h2 : t = false → SC W P n c' k l L) : SC W P n (.cond x c c') k l L :=
  fun a w ha hw => wp_cond_split (ha.eval hx) (fun e => h1 e a w ha hw) (fun e => h2 e a w ha hw)
theorem SC_cond_true {x : Operand} {t : Bool} (hx : ev l x = some (.bool t)) (ht : t = true) (h1 : SC W P n c k l L) : SC W P n (.cond x c c') k l L :=
  SC_cond hx (fun _ => h1) (fun e => by rw [ht] at e; cases e)
theorem SC_cond_false {x : Operand} {t : Bool} (hx : ev l x = some (.bool t)) (ht : t = false) (h1 : SC W P n c' k l L) : SC W P n (.cond x c c') k l L :=
  SC_cond hx (fun e => by rw [ht] at e; cases e) (fun _ => h1)
theorem Goes_of (h : SC W P n c (.loop c k) l L) {a : Act} {w : World} (ha : Agree n l a) (hw : Sat W L w) : Goes P c (den W P k) a w := by
  intro b ks cs
  obtain ⟨e, a1, w1, hq, harr⟩ := h a w ha hw b (.inLoop c :: ks) cs
  cases e with
  | normal =>
    obtain ⟨e2, a2, w2, hq2, harr2⟩ := hq b ks cs
    exact ⟨e2, a2, w2, hq2, .of_steps (Steps.trans harr (.one step_inLoop)) harr2⟩
  | exit id => exact ⟨_, a1, w1, hq, .pass (x := .inLoop c) rfl (fun _ _ => .inl (by simp)) harr⟩
  | goto l => exact ⟨_, a1, w1, hq, .pass (x := .inLoop c) rfl (fun _ _ => .inl (by simp)) harr⟩
  | ret => exact ⟨_, a1, w1, hq, .pass (x := .inLoop c) rfl (fun _ _ => .inl (by simp)) harr⟩
  | panic ch => exact ⟨_, a1, w1, hq, .pass (x := .inLoop c) rfl (fun _ _ => .inl (by simp)) harr⟩
  | outgrown => exact ⟨_, a1, w1, hq, .pass (x := .inLoop c) rfl (fun _ _ => .inl (by simp)) harr⟩
/-- A loop is entered: its body, with the loop itself behind it. -/
theorem SC_loop (h : SC W P n c (.loop c k) l L) : SC W P n (.loop c) k l L := fun a w ha hw b ks cs =>
  let ⟨e, a', w', q, r⟩ := Goes_of h ha hw b ks cs
  ⟨e, a', w', q, .of_steps (.one step_loop) r⟩
theorem SN_loop (h : SC W P n c (.loop c k) l L) : SN W P n (.loop c k) l L := fun _ _ ha hw => Goes_of h ha hw
theorem SN_seq (h : SC W P n c k l L) : SN W P n (.seq c k) l L := h
theorem SN_block {id : Nat} (h : SN W P n k l L) : SN W P n (.block id k) l L := h
theorem SC_region {id : Nat} {os : List Oper} (h : SR W P n os.toArray os k l L) : SC W P n (.region id os.toArray false) k l L := fun a w ha hw => wp_region_lit (h a w ha hw)
theorem SR_nil {ops : Array Oper} (h : SN W P n k l L) : SR W P n ops [] k l L := h
end
end Go.Proofs.YtdhpjdhloaoepaaGreat

/- The rules of the walk: a call's contract, a function's entry and end, and one rule an operation. -/
namespace Go.Proofs.YtdhpjdhloaoepaaGreat
open Go

/-- Called so in a world of the blocks L the function returns a value and leaves blocks that K allows. -/
def CallsK (W : World) (P : Program) (f : FuncId) (args : Array Value) (L : List HProp) (K : Value → List HProp → Prop) : Prop :=
  ∀ w, Sat W L w → Calls P f args w fun e w' => ∃ v L', e = .returned v ∧ K v L' ∧ Sat W L' w'

def argsE : Nat → List Value → Env
  | _, [] => []
  | i, v :: r => (i, v) :: argsE (i + 1) r

section
variable {W : World} {P : Program} {n : Nat} {k k' : Kont} {l l' : Env} {L L' : List HProp} {c c' : Code} {ops : Array Oper} {os : List Oper}

theorem CallsK.imp {f : FuncId} {args : Array Value} {K K' : Value → List HProp → Prop} (h : CallsK W P f args L K) (hk : ∀ v M, K v M → K' v M) : CallsK W P f args L K' :=
  fun w hw => (h w hw).mono fun _ _ ⟨v, M, e, q, s⟩ => ⟨v, M, e, hk v M q, s⟩
theorem CallsK.pre {f : FuncId} {args : Array Value} {K : Value → List HProp → Prop} (h : CallsK W P f args L K) (e : ∀ m, Den L' m → Den L m) : CallsK W P f args L' K :=
  fun w hw => h w (hw.imp e)
theorem CallsK.perm {f : FuncId} {args : Array Value} {K : Value → List HProp → Prop} (p : L'.Perm L) (h : CallsK W P f args L K) : CallsK W P f args L' K :=
  h.pre fun m => Den_perm p m
theorem CallsK.pick {f : FuncId} {args : Array Value} {K : Value → List HProp → Prop} (i : Nat) (h : CallsK W P f args (pick i L) K) : CallsK W P f args L K :=
  h.perm (pick_perm i L)

theorem look_argsE : ∀ (r : List Value) (i t : Nat) (v : Value), look (argsE i r) t = some v → i ≤ t ∧ r[t - i]? = some v
  | [], _, _, _, h => by cases h
  | u :: r, i, t, v, h => by
    simp only [argsE, look] at h
    by_cases e : i = t
    · subst e; simp at h; subst h; simp
    · rw [nbeq e] at h
      obtain ⟨h1, h2⟩ := look_argsE r (i + 1) t v h
      refine ⟨by omega, ?_⟩
      have : t - i = (t - (i + 1)) + 1 := by omega
      rw [this]; simpa using h2
theorem CallsK_enter {f : FuncId} {fn : Func} {args : Array Value} {K : Value → List HProp → Prop} (hf : P.funcs[f]? = some fn) (hb : fn.body = some c) (hn : fn.ntmps = n)
    (ha : Nat.ble args.size n = true) (h : SC W P n c (.stop fn K) (argsE 0 args.toList) L) : CallsK W P f args L K := by
  have ha := Nat.le_of_ble_eq_true ha
  intro w hw
  refine calls_of_wp hf hb (h _ w ⟨rfl, by simp [hn]; omega, fun t v hv => ?_⟩ hw)
  obtain ⟨_, h2⟩ := look_argsE _ _ _ _ hv
  simp at h2
  have : t < args.size := (Array.getElem?_eq_some_iff.1 h2).1
  simp only []
  rw [Array.getElem?_append_left this]; exact h2

theorem SC_ret {v : Value} (hv : ∀ tmps : Array Value, (∀ t u, look l t = some u → tmps[t]? = some u) → ∀ w, Sat W L w → (results k.root.1 tmps).run P w = .ok v w) (hk : k.root.2 v L) : SC W P n .ret k l L :=
  fun a w ha hw => wp_ret (by rw [den_ret]; exact ⟨ha.defers, v, hv _ ha.slot w hw, v, L, rfl, hk, hw⟩)
theorem SC_ret1 {t : Tmp} {v : Value} (hr : k.root.1.results = #[.tmp t]) (hv : look l t = some v) (hk : k.root.2 v L) : SC W P n .ret k l L :=
  SC_ret (fun tmps h w _ => by rw [results_tmp hr]; simp [h t v hv]) hk
theorem SC_ret2 {t u : Tmp} {v x : Value} (hr : k.root.1.results = #[.tmp t, .tmp u]) (hv : look l t = some v) (hx : look l u = some x) (hk : k.root.2 (.tuple #[v, x]) L) : SC W P n .ret k l L :=
  SC_ret (fun tmps h w _ => by rw [results_tmp2 hr]; simp [h t v hv, h u x hx]) hk
theorem SC_ret0 (hr : k.root.1.results = #[]) (hk : k.root.2 (.tuple #[]) L) : SC W P n .ret k l L :=
  SC_ret (fun tmps _ w _ => by rw [results_none hr]) hk
theorem SN_stop0 {fn : Func} {K : Value → List HProp → Prop} (hr : fn.results = #[]) (hk : K (.tuple #[]) L) : SN W P n (.stop fn K) l L :=
  fun a w ha hw => ⟨ha.defers, .tuple #[], results_none hr _ _ _, _, L, rfl, hk, hw⟩

/-- What operands come to. -/
inductive EvA (l : Env) : List Operand → List Value → Prop where
  | nil : EvA l [] []
  | cons {x : Operand} {v : Value} {xs : List Operand} {vs : List Value} (h : ev l x = some v) (r : EvA l xs vs) : EvA l (x :: xs) (v :: vs)
theorem EvA.eval {l : Env} {a : Act} (ha : Agree n l a) : ∀ {xs : List Operand} {vs : List Value}, EvA l xs vs → xs.map a.eval = vs
  | _, _, .nil => rfl
  | _, _, .cons h r => by simp [ha.eval h, r.eval ha]
inductive EvL (l : Env) : List (Nat × Operand) → List (Nat × Value) → Prop where
  | nil : EvL l [] []
  | cons {i : Nat} {x : Operand} {v : Value} {xs : List (Nat × Operand)} {vs : List (Nat × Value)} (h : ev l x = some v) (r : EvL l xs vs) : EvL l ((i, x) :: xs) ((i, v) :: vs)
theorem EvL.eval {l : Env} {ρ : Operand → Value} (hρ : ∀ x v, ev l x = some v → ρ x = v) : ∀ {xs : List (Nat × Operand)} {vs : List (Nat × Value)}, EvL l xs vs → xs.map (fun p => (p.1, ρ p.2)) = vs
  | _, _, .nil => rfl
  | _, _, .cons h r => by simp [hρ _ _ h, r.eval hρ]

/-- A guarded operation that is wanted, and one that is not. -/
theorem SR_yes {dst : Option Tmp} {op : Op} {ty : TypeId} {pos : String} {after : Array Edge} {j : Nat} {want : Bool} {d : Tmp} {b : Bool}
    (hj : (ops[j]?).bind (·.dst) = some d) (hb : look l d = some (.bool b)) (e : b = want)
    (h : SR W P n ops (⟨dst, op, ty, pos, after, none⟩ :: os) k l L) : SR W P n ops (⟨dst, op, ty, pos, after, some (j, want)⟩ :: os) k l L := by
  intro a w ha hw
  have h1 := h a w ha hw
  have hy : yielded ops a.tmps j = some b := by
    unfold yielded; rw [hj]; simp [ha.slot d _ hb]
  unfold wpList at h1 ⊢
  rw [if_pos (by simp [Region.wanted])] at h1
  rw [if_pos (by simp [Region.wanted, hy, e])]
  exact h1
theorem SR_no {dst : Option Tmp} {op : Op} {ty : TypeId} {pos : String} {after : Array Edge} {j : Nat} {want : Bool} {d : Tmp} {b : Bool}
    (hj : (ops[j]?).bind (·.dst) = some d) (hb : look l d = some (.bool b)) (e : b = !want) (hd : ∀ d, dst = some d → d < n)
    (h : SR W P n ops os k (putE dst undef l) L) : SR W P n ops (⟨dst, op, ty, pos, after, some (j, want)⟩ :: os) k l L := by
  intro a w ha hw
  have hy : yielded ops a.tmps j = some b := by
    unfold yielded; rw [hj]; simp [ha.slot d _ hb]
  unfold wpList
  rw [if_neg (by simp only [Region.wanted, hy, e]; cases want <;> simp)]
  exact h _ w (ha.put hd) hw

/-- A guard that is not known: both ways. -/
theorem SR_guard {dst : Option Tmp} {op : Op} {ty : TypeId} {pos : String} {after : Array Edge} {j : Nat} {want : Bool} {d : Tmp} {b : Bool}
    (hj : (ops[j]?).bind (·.dst) = some d) (hb : look l d = some (.bool b))
    (h1 : b = want → SR W P n ops (⟨dst, op, ty, pos, after, some (j, want)⟩ :: os) k l L) (h2 : b = !want → SR W P n ops (⟨dst, op, ty, pos, after, some (j, want)⟩ :: os) k l L) : SR W P n ops (⟨dst, op, ty, pos, after, some (j, want)⟩ :: os) k l L := by
  have _ := hj; have _ := hb
  cases b <;> cases want <;> first | exact h1 rfl | exact h2 rfl

/-- Any operation, by what it does. -/
theorem SR_op {dst : Option Tmp} {op : Op} {ty : TypeId} {pos : String} {after : Array Edge} {K : Value → List HProp → Prop}
    (hx : ∀ ρ : Operand → Value, (∀ x v, ev l x = some v → ρ x = v) → ∀ w, Sat W L w →
      ∃ nx w' v L', (execOp ρ ⟨dst, op, ty, pos, after, none⟩).run P w = .ok nx w' ∧ (nx = .value v ∨ (nx = .skip ∧ v = undef)) ∧ K v L' ∧ Sat W L' w')
    (hd : ∀ d, dst = some d → d < n) (h : ∀ v L', K v L' → SR W P n ops os k (putE dst v l) L') :
    SR W P n ops (⟨dst, op, ty, pos, after, none⟩ :: os) k l L := by
  intro a w ha hw
  obtain ⟨nx, w', v, L', hr, hn, hk, hs⟩ := hx a.eval (fun x v e => ha.eval e) w hw
  refine wpList_plain rfl fun K' hK' => ?_
  unfold Oper.wp
  rw [hr]
  have := hK' _ _ (h v L' hk _ w' (ha.put (v := v) hd) hs)
  rcases hn with rfl | ⟨rfl, rfl⟩
  · exact this
  · exact this
/-- An operation that comes to one value. -/
theorem SR_val {dst : Option Tmp} {op : Op} {ty : TypeId} {pos : String} {after : Array Edge} {v : Value}
    (hx : ∀ ρ : Operand → Value, (∀ x v, ev l x = some v → ρ x = v) → ∀ w, Sat W L w → (execOp ρ ⟨dst, op, ty, pos, after, none⟩).run P w = .ok (.value v) w)
    (hd : ∀ d, dst = some d → d < n) (h : SR W P n ops os k (putE dst v l) L) :
    SR W P n ops (⟨dst, op, ty, pos, after, none⟩ :: os) k l L :=
  SR_op (K := fun v' L' => v' = v ∧ L' = L) (fun ρ hρ w hw => ⟨_, w, v, L, hx ρ hρ w hw, .inl rfl, ⟨rfl, rfl⟩, hw⟩) hd (by rintro _ _ ⟨rfl, rfl⟩; exact h)
theorem run_call {dst : Option Tmp} {f : FuncId} {xs : Array Operand} {ats : Array TypeId} {ty : TypeId} {pos : String} {after : Array Edge} {g : Option (Nat × Bool)} {args : Array Value} {a : Act} (ha : Agree n l a)
    (hcall : ∀ args w, (callFunc f args).run P w = .ok (.enter f args) w) (hargs : EvA l xs.toList args.toList) (w : World) :
    (execOp a.eval ⟨dst, .call ⟨.value (.func f), xs, ats⟩, ty, pos, after, g⟩).run P w = .ok (.enter f args) w := by
  have hm : xs.map a.eval = args := Array.ext' (by rw [Array.toList_map]; exact hargs.eval ha)
  simp only [execOp, resolve, hm]
  simp only [Act.eval, Deferred.ofValue]
  simp [invoke, hcall]
/-- A call, by its contract. -/
theorem SR_call {dst : Option Tmp} {f : FuncId} {xs : Array Operand} {ats : Array TypeId} {ty : TypeId} {pos : String} {after : Array Edge} {args : Array Value} {K : Value → List HProp → Prop}
    (hcall : ∀ args w, (callFunc f args).run P w = .ok (.enter f args) w) (hargs : EvA l xs.toList args.toList)
    (hc : CallsK W P f args L K) (hd : ∀ d, dst = some d → d < n) (h : ∀ v L', K v L' → SR W P n ops os k (putE dst v l) L') :
    SR W P n ops (⟨dst, .call ⟨.value (.func f), xs, ats⟩, ty, pos, after, none⟩ :: os) k l L := by
  intro a w ha hw
  refine wpList_plain rfl fun K' hK' => ?_
  have hr := run_call (dst := dst) (ats := ats) (ty := ty) (pos := pos) (after := after) (g := none) ha hcall hargs w
  unfold Oper.wp
  rw [hr]
  refine (hc w hw).mono fun e w' ⟨v, L', he, hk, hs⟩ => ?_
  subst he
  exact hK' _ _ (h v L' hk _ w' (ha.put (v := v) hd) hs)
end
end Go.Proofs.YtdhpjdhloaoepaaGreat

/- Regions whose order is drawn: a row of operations in one order stands for all orders, where those that only read come first and keep their facts. -/
namespace Go.Proofs.YtdhpjdhloaoepaaGreat
open Go

/-- Blocks L let one read R. -/
def Has (W : World) (L : List HProp) (R : Hp → Prop) : Prop := ∀ w, Sat W L w → R (fun b => w.heap[b]?)
/-- Where R is read, operation op comes to v and turns nothing. -/
def RD (P : Program) (l : Env) (op : Op) (ty : TypeId) (R : Hp → Prop) (v : Value) : Prop :=
  ∀ (ρ : Operand → Value), (∀ x u, ev l x = some u → ρ x = u) → ∀ (w : World), R (fun b => w.heap[b]?) →
    ∀ dst pos after g, (execOp ρ ⟨dst, op, ty, pos, after, g⟩).run P w = .ok (.value v) w
def RU : Hp → Prop := fun _ => True
/-- What operation op does to the blocks L. -/
def OX (W : World) (P : Program) (l : Env) (L : List HProp) (op : Op) (ty : TypeId) (K : Value → List HProp → Prop) : Prop :=
  ∀ (ρ : Operand → Value), (∀ x u, ev l x = some u → ρ x = u) → ∀ (w : World), Sat W L w → ∀ dst pos after g,
    ∃ nx w' v L', (execOp ρ ⟨dst, op, ty, pos, after, g⟩).run P w = .ok nx w' ∧ (nx = .value v ∨ (nx = .skip ∧ v = undef)) ∧ K v L' ∧ Sat W L' w'

section
variable {W : World} {P : Program} {n : Nat} {k k' : Kont} {l l' : Env} {L L' : List HProp} {ops : Array Oper} {os : List Oper}
variable {op : Op} {ty : TypeId} {pos : String} {after : Array Edge} {R : Hp → Prop} {v : Value} {d : Nat}

theorem Has.u : Has W L RU := fun _ _ => trivial
theorem lts {d : Nat} (h : Nat.blt d n = true) : ∀ e, some d = some e → e < n := fun e he => by
  cases he; exact Nat.le_of_ble_eq_true h
theorem ltn : ∀ e, (none : Option Nat) = some e → e < n := fun _ he => by cases he

theorem SR_rd (hr : RD P l op ty R v) (hR : Has W L R) (hd : Nat.blt d n = true) (h : SR W P n ops os k ((d, v) :: l) L) : SR W P n ops (⟨some d, op, ty, pos, after, none⟩ :: os) k l L :=
  SR_val (fun ρ hρ w hw => hr ρ hρ w (hR w hw) _ _ _ _) (lts hd) h
theorem SR_pu (hr : RD P l op ty RU v) (hd : Nat.blt d n = true) (h : SR W P n ops os k ((d, v) :: l) L) : SR W P n ops (⟨some d, op, ty, pos, after, none⟩ :: os) k l L :=
  SR_rd hr Has.u hd h
theorem SR_ox {K : Value → List HProp → Prop} (hx : OX W P l L op ty K) (hd : Nat.blt d n = true) (h : ∀ v L', K v L' → SR W P n ops os k ((d, v) :: l) L') :
    SR W P n ops (⟨some d, op, ty, pos, after, none⟩ :: os) k l L :=
  SR_op (fun ρ hρ w hw => hx ρ hρ w hw _ _ _ _) (lts hd) h
theorem SR_ox0 {K : Value → List HProp → Prop} (hx : OX W P l L op ty K) (h : ∀ v L', K v L' → SR W P n ops os k l L') :
    SR W P n ops (⟨none, op, ty, pos, after, none⟩ :: os) k l L :=
  SR_op (fun ρ hρ w hw => hx ρ hρ w hw _ _ _ _) ltn h
end

/-! ### The drawn order -/
/-- Does operation j wait for operation q? -/
def waits (ops : Array Oper) (j q : Nat) : Bool :=
  match ops.toList[j]? with
  | some o => o.after.toList.any fun e => Region.binds .any e && Nat.beq e.on q
  | none => false
abbrev Facts := List (Nat × (Hp → Prop))
/-- The facts that must still hold behind operation j. -/
def Holds (ops : Array Oper) (j : Nat) (w w' : World) : Facts → Prop
  | [] => True
  | (q, T) :: r => (waits ops j q = false → T (fun b => w.heap[b]?) → T (fun b => w'.heap[b]?)) ∧ Holds ops j w w' r
theorem Holds.refl {ops : Array Oper} {j : Nat} {w : World} : ∀ Ts, Holds ops j w w Ts
  | [] => trivial
  | _ :: r => ⟨fun _ h => h, Holds.refl r⟩
/-- Whatever order comes, and the facts hold behind each operation that does not wait for their reader. -/
def wpAnyT (P : Program) (ops : Array Oper) (Q : Exit → Act → World → Prop) (Ts : Facts) : Nat → Array Bool → Act → World → Prop
  | 0, listed, a, w => Region.ready .any ops listed = [] ∧ Q .normal a w
  | fuel + 1, listed, a, w =>
    (Region.ready .any ops listed = [] → Q .normal a w) ∧
    ∀ i ∈ Region.ready .any ops listed, wpOp P ops Q i (fun a' w' => Holds ops i w w' Ts ∧ wpAnyT P ops Q Ts fuel (listed.setIfInBounds i true) a' w') a w

section
variable {P : Program} {ops : Array Oper} {Q : Exit → Act → World → Prop}
theorem wpAny_of_T {Ts : Facts} : ∀ (fuel : Nat) (listed : Array Bool) (a : Act) (w : World), wpAnyT P ops Q Ts fuel listed a w → wpAny P .any ops Q fuel listed a w
  | 0, _, _, _, h => h
  | fuel + 1, _, _, _, h => ⟨h.1, fun i hi => wpOp_mono (fun a' w' h' => wpAny_of_T fuel _ a' w' h'.2) (h.2 i hi)⟩
theorem wpAnyT_less {T : Nat × (Hp → Prop)} {Ts : Facts} : ∀ (fuel : Nat) (listed : Array Bool) (a : Act) (w : World), wpAnyT P ops Q (T :: Ts) fuel listed a w → wpAnyT P ops Q Ts fuel listed a w
  | 0, _, _, _, h => h
  | fuel + 1, _, _, _, h => ⟨h.1, fun i hi => wpOp_mono (fun a' w' h' => ⟨h'.1.2, wpAnyT_less fuel _ a' w' h'.2⟩) (h.2 i hi)⟩

theorem wpAnyT_first {i : Nat} {oi : Oper} {v : Value} {T : Hp → Prop} {Ts : Facts} (hi : ops[i]? = some oi) (hsel : ∀ (j : Nat) (o : Oper) cs b, ops[j]? = some o → o.op ≠ .select cs b)
    (hQ : ∀ c a w, Q (.panic c) (a.put oi.dst v) w → Q (.panic c) a w) :
    ∀ (fuel : Nat) (listed : Array Bool) (a : Act) (w : World),
      (∀ j oj, ops[j]? = some oj → j ≠ i → listed.getD j true = false → (∀ e ∈ oj.after, Region.binds .any e = true → e.on ≠ i) → oi.apart ops oj = true) →
      i ∈ Region.ready .any ops listed → YieldsIf P ops (fun w => T (fun b => w.heap[b]?)) oi v a → T (fun b => w.heap[b]?) →
      wpAnyT P ops Q ((i, T) :: Ts) fuel (listed.setIfInBounds i true) (a.put oi.dst v) w → wpAnyT P ops Q Ts (fuel + 1) listed a w := by
  intro fuel
  induction fuel with
  | zero =>
    intro listed a w _ hr hy hS H
    refine ⟨fun h => (by rw [h] at hr; cases hr), fun j hj => ?_⟩
    by_cases hji : j = i
    · subst hji; exact hy.wpOp hi hS ⟨Holds.refl _, H⟩
    · have := ready_mono hj hji
      rw [H.1] at this
      cases this
  | succ fuel ih =>
    intro listed a w hfree hr hy hS H
    refine ⟨fun h => (by rw [h] at hr; cases hr), fun j hj => ?_⟩
    by_cases hji : j = i
    · subst hji; exact hy.wpOp hi hS ⟨Holds.refl _, wpAnyT_less _ _ _ _ H⟩
    · have h1 := H.2 j (ready_mono hj hji)
      obtain ⟨hjun, oj, hoj, hall⟩ := mem_ready.1 hj
      have hnot : ∀ e ∈ oj.after, Region.binds .any e = true → e.on ≠ i := fun e he hb heq => by
        have h1 := hall e he hb
        have h0 := (mem_ready.1 hr).1
        rw [heq] at h1
        rcases Nat.lt_or_ge i listed.size with h' | h'
        · simp [h'] at h0 h1; rw [h0] at h1; cases h1
        · simp [Array.getElem?_eq_none h'] at h1
      have hw : waits ops j i = false := by
        unfold waits
        rw [Array.getElem?_toList, hoj]
        simp only [List.any_eq_false]
        intro e he
        cases hb : Region.binds .any e
        · simp
        · simp only [Bool.true_and]
          rw [nbeq (hnot e (Array.mem_toList_iff.1 he) hb)]; simp
      have h2 := wpOp_putIf hoj (hfree j oj hoj hji hjun hnot) (fun cs b => hsel i oi cs b hi) (fun cs b => hsel j oj cs b hoj) hQ hy h1
      have hfree' : ∀ k ok, ops[k]? = some ok → k ≠ i → (listed.setIfInBounds j true).getD k true = false →
          (∀ e ∈ ok.after, Region.binds .any e = true → e.on ≠ i) → oi.apart ops ok = true := fun k ok hk hki hun hno => by
        refine hfree k ok hk hki ?_ hno
        by_cases hjk : j = k
        · subst hjk; exact hjun
        · rw [getD_set_ne true hjk] at hun; exact hun
      refine wpOp_mono (fun a' w' h3 => ⟨h3.2.1.2, ih (listed.setIfInBounds j true) a' w' hfree' (ready_mono hr (Ne.symm hji)) h3.1 (h3.2.1.1 hw hS) ?_⟩) h2
      rw [Array.setIfInBounds_comm _ _ hji]
      exact h3.2.2
end

/-- A plan: 'true' for an operation that only reads and may come first, 'false' for the one that alone may come; or whichever of several comes. -/
inductive Ord where
  | nil
  | cons (i : Nat) (q : Bool) (r : Ord)
  | alts (l : List Nat) (f : Nat → Ord)
  | goto (d : List Bool) (m : Nat)
def chkOrd (ops : Array Oper) : Ord → Array Bool → Nat → Bool
  | .nil, listed, _ => (Region.ready .any ops listed).isEmpty
  | .cons i q r, listed, m => match m with
    | 0 => false
    | m + 1 => (bif q then (Region.ready .any ops listed).contains i && Region.free .any ops listed i else Region.ready .any ops listed == [i]) && chkOrd ops r (listed.setIfInBounds i true) m
  | .alts l f, listed, m => match m with
    | 0 => false
    | m + 1 => !l.isEmpty && Region.ready .any ops listed == l && l.all fun i => chkOrd ops (f i) (listed.setIfInBounds i true) m
  | .goto d m0, listed, m => listed.toList == d && Nat.ble m0 m
theorem chkOrd_mono {ops : Array Oper} : ∀ (r : Ord) (listed : Array Bool) (m m' : Nat), m ≤ m' → chkOrd ops r listed m = true → chkOrd ops r listed m' = true
  | .nil, _, _, _, _, h => h
  | .cons i q r, listed, m, m', hm, h => by
    cases m with
    | zero => simp [chkOrd] at h
    | succ m =>
      cases m' with
      | zero => omega
      | succ m' =>
        simp only [chkOrd, Bool.and_eq_true] at h ⊢
        exact ⟨h.1, chkOrd_mono r _ m m' (by omega) h.2⟩
  | .alts l f, listed, m, m', hm, h => by
    cases m with
    | zero => simp [chkOrd] at h
    | succ m =>
      cases m' with
      | zero => omega
      | succ m' =>
        simp only [chkOrd, Bool.and_eq_true, List.all_eq_true] at h ⊢
        exact ⟨h.1, fun i hi => chkOrd_mono (f i) _ m m' (by omega) (h.2 i hi)⟩
  | .goto d m0, listed, m, m', hm, h => by
    simp only [chkOrd, Bool.and_eq_true] at h ⊢
    exact ⟨h.1, Nat.ble_eq ▸ Nat.le_trans (Nat.le_of_ble_eq_true h.2) hm⟩
/-- The row walked in one order. -/
def SQ (W : World) (P : Program) (n : Nat) (ops : Array Oper) (r : Ord) (Ts : Facts) (k : Kont) (l : Env) (L : List HProp) : Prop :=
  Region.noSelect ops = true → ∀ listed fuel, chkOrd ops r listed fuel = true → ∀ a w, Agree n l a → Sat W L w → wpAnyT P ops (den W P k) Ts fuel listed a w

/-- The facts that L keeps behind operation j. -/
def Keeps (W : World) (ops : Array Oper) (j : Nat) (L : List HProp) : Facts → Prop
  | [] => True
  | (q, T) :: r => (bif waits ops j q then True else Has W L T) ∧ Keeps W ops j L r
theorem Keeps.nil {W : World} {ops : Array Oper} {j : Nat} {L : List HProp} : Keeps W ops j L [] := trivial
theorem Keeps.w {W : World} {ops : Array Oper} {j q : Nat} {L : List HProp} {T : Hp → Prop} {r : Facts} (h : waits ops j q = true) (k : Keeps W ops j L r) : Keeps W ops j L ((q, T) :: r) := ⟨by rw [h]; trivial, k⟩
theorem Keeps.h {W : World} {ops : Array Oper} {j q : Nat} {L : List HProp} {T : Hp → Prop} {r : Facts} (h : Has W L T) (k : Keeps W ops j L r) : Keeps W ops j L ((q, T) :: r) := ⟨by cases waits ops j q <;> first | exact h | trivial, k⟩
theorem Keeps.holds {W : World} {ops : Array Oper} {j : Nat} {L : List HProp} {w w' : World} (hw : Sat W L w') : ∀ {Ts : Facts}, Keeps W ops j L Ts → Holds ops j w w' Ts
  | [], _ => trivial
  | (_, _) :: _, h => ⟨fun e _ => by have := h.1; rw [e] at this; exact this w' hw, h.2.holds hw⟩

section
variable {W : World} {P : Program} {n : Nat} {k k' : Kont} {l l' : Env} {L L' : List HProp} {ops : Array Oper} {r : Ord} {Ts : Facts}
variable {op : Op} {ty : TypeId} {pos : String} {after : Array Edge} {R : Hp → Prop} {v : Value} {d i : Nat}
theorem SQ.le (h : SQ W P n ops r Ts k l L) (e : EnvLe l l') : SQ W P n ops r Ts k l' L := fun hs li f hc a w ha hw => h hs li f hc a w (ha.le e) hw
theorem SQ.imp (e : ∀ m, Den L' m → Den L m) (h : SQ W P n ops r Ts k l L) : SQ W P n ops r Ts k l L' := fun hs li f hc a w ha hw => h hs li f hc a w ha (hw.imp e)
theorem SQ_nil (h : SN W P n k l L) : SQ W P n ops .nil Ts k l L := fun _ listed fuel hc a w ha hw => by
  have hr : Region.ready .any ops listed = [] := by simpa [chkOrd] using hc
  cases fuel with
  | zero => exact ⟨hr, h a w ha hw⟩
  | succ f => exact ⟨fun _ => h a w ha hw, by rw [hr]; simp⟩
theorem SC_drawn {id : Nat} {os : List Oper} (r : Ord) (hm : P.follows .mixedOrders = true)
    (hc : (Region.noSelect os.toArray && chkOrd os.toArray r (Array.replicate os.toArray.size false) os.toArray.size) = true)
    (h : SQ W P n os.toArray r [] k l L) : SC W P n (.region id os.toArray true) k l L := fun a w ha hw => by
  simp only [Bool.and_eq_true] at hc
  exact wp_region_any hm (wpAny_of_T _ _ _ _ (h hc.1 _ _ hc.2 a _ ha hw))

/-- A reader, taken first. -/
theorem SQ_rdg {dst : Option Tmp} {g : Option (Nat × Bool)} (hi : ops[i]? = some ⟨dst, op, ty, pos, after, g⟩)
    (hy : ∀ a, Agree n l a → YieldsIf P ops (fun w => R (fun b => w.heap[b]?)) ⟨dst, op, ty, pos, after, g⟩ v a) (hR : Has W L R) (hd : ∀ d, dst = some d → d < n)
    (h : SQ W P n ops r ((i, R) :: Ts) k (putE dst v l) L) : SQ W P n ops (.cons i true r) Ts k l L := fun hs listed fuel hc a w ha hw => by
  cases fuel with
  | zero => simp [chkOrd] at hc
  | succ fuel =>
    simp only [chkOrd, cond_true, Bool.and_eq_true] at hc
    refine wpAnyT_first (T := R) hi (Region.noSelect_spec hs) (fun c a w hp => (den_panic _ _ _ _ hp).elim) fuel listed a w (Region.free_spec hi hc.1.2) (by simpa using hc.1.1) (hy a ha) (hR w hw) ?_
    exact h hs _ fuel hc.2 _ w (ha.put hd) hw
theorem SQ_rd (hi : ops[i]? = some ⟨some d, op, ty, pos, after, none⟩) (hr : RD P l op ty R v) (hR : Has W L R) (hd : Nat.blt d n = true)
    (h : SQ W P n ops r ((i, R) :: Ts) k ((d, v) :: l) L) : SQ W P n ops (.cons i true r) Ts k l L :=
  SQ_rdg hi (fun a ha => .inl ⟨by simp [Region.wanted], fun w hw => hr _ (fun x u e => ha.eval e) w hw _ _ _ _⟩) hR (lts hd) h
theorem SQ.less {T : Nat × (Hp → Prop)} (h : SQ W P n ops r Ts k l L) (hT : ∀ h, T.2 h) : SQ W P n ops r (T :: Ts) k l L := fun hs listed fuel hc a w ha hw => by
  have key : ∀ fuel listed a w, wpAnyT P ops (den W P k) Ts fuel listed a w → wpAnyT P ops (den W P k) (T :: Ts) fuel listed a w := by
    intro fuel
    induction fuel with
    | zero => exact fun _ _ _ h => h
    | succ f ih => exact fun _ _ _ h => ⟨h.1, fun i hi => wpOp_mono (fun a' w' h' => ⟨⟨fun _ _ => hT _, h'.1⟩, ih _ _ _ h'.2⟩) (h.2 i hi)⟩
  exact key _ _ _ _ (h hs listed fuel hc a w ha hw)
theorem SQ_pu (hi : ops[i]? = some ⟨some d, op, ty, pos, after, none⟩) (hr : RD P l op ty RU v) (hd : Nat.blt d n = true)
    (h : SQ W P n ops r Ts k ((d, v) :: l) L) : SQ W P n ops (.cons i true r) Ts k l L := SQ_rd hi hr Has.u hd (h.less fun _ => trivial)
/-- A reader with a guard. -/
theorem SQ_yes {j : Nat} {want : Bool} {e : Tmp} {b : Bool} (hi : ops[i]? = some ⟨some d, op, ty, pos, after, some (j, want)⟩) (hj : (ops[j]?).bind (·.dst) = some e) (hb : look l e = some (.bool b)) (eq : b = want)
    (hr : RD P l op ty R v) (hR : Has W L R) (hd : Nat.blt d n = true)
    (h : SQ W P n ops r ((i, R) :: Ts) k ((d, v) :: l) L) : SQ W P n ops (.cons i true r) Ts k l L :=
  SQ_rdg hi (fun a ha => .inl ⟨by
    have hy : yielded ops a.tmps j = some b := by unfold yielded; rw [hj]; simp [ha.slot e _ hb]
    simp [Region.wanted, hy, eq], fun w hw => hr _ (fun x u e => ha.eval e) w hw _ _ _ _⟩) hR (lts hd) h
theorem SQ_pyes {j : Nat} {want : Bool} {e : Tmp} {b : Bool} (hi : ops[i]? = some ⟨some d, op, ty, pos, after, some (j, want)⟩) (hj : (ops[j]?).bind (·.dst) = some e) (hb : look l e = some (.bool b)) (eq : b = want)
    (hr : RD P l op ty RU v) (hd : Nat.blt d n = true)
    (h : SQ W P n ops r Ts k ((d, v) :: l) L) : SQ W P n ops (.cons i true r) Ts k l L := SQ_yes hi hj hb eq hr Has.u hd (h.less fun _ => trivial)
theorem SQ_no {dst : Option Tmp} {j : Nat} {want : Bool} {e : Tmp} {b : Bool} (hi : ops[i]? = some ⟨dst, op, ty, pos, after, some (j, want)⟩) (hj : (ops[j]?).bind (·.dst) = some e) (hb : look l e = some (.bool b)) (eq : b = !want)
    (hd : ∀ d, dst = some d → d < n)
    (h : SQ W P n ops r Ts k (putE dst undef l) L) : SQ W P n ops (.cons i true r) Ts k l L :=
  SQ_rdg (R := RU) hi (fun a ha => .inr ⟨by
    have hy : yielded ops a.tmps j = some b := by unfold yielded; rw [hj]; simp [ha.slot e _ hb]
    simp only [Region.wanted, hy, eq]; cases want <;> simp, rfl⟩) Has.u hd (h.less fun _ => trivial)

theorem SQ_guard {dst : Option Tmp} {j : Nat} {want : Bool} {e : Tmp} {b : Bool} (hi : ops[i]? = some ⟨dst, op, ty, pos, after, some (j, want)⟩) (hj : (ops[j]?).bind (·.dst) = some e) (hb : look l e = some (.bool b))
    (h1 : b = want → SQ W P n ops r Ts k l L) (h2 : b = !want → SQ W P n ops r Ts k l L) : SQ W P n ops r Ts k l L := by
  have _ := hi; have _ := hj; have _ := hb
  cases b <;> cases want <;> first | exact h1 rfl | exact h2 rfl

/-- .. and where several may come: each as if it alone came. -/
theorem SQ_alts {ls : List Nat} {f : Nat → Ord} (h : ∀ i ∈ ls, ∀ listed fuel, Region.noSelect ops = true → chkOrd ops (f i) listed fuel = true → ∀ a w, Agree n l a → Sat W L w →
      wpOp P ops (den W P k) i (fun a' w' => Holds ops i w w' Ts ∧ wpAnyT P ops (den W P k) Ts fuel listed a' w') a w) : SQ W P n ops (.alts ls f) Ts k l L := fun hs listed fuel hc a w ha hw => by
  cases fuel with
  | zero => simp [chkOrd] at hc
  | succ fuel =>
    simp only [chkOrd, Bool.and_eq_true, List.all_eq_true] at hc
    obtain ⟨⟨h0, hr⟩, hall⟩ := hc
    have hr : Region.ready .any ops listed = ls := by simpa using hr
    refine ⟨fun e => by rw [hr] at e; rw [e] at h0; simp at h0, fun j hj => ?_⟩
    rw [hr] at hj
    exact h j hj _ _ hs (hall j hj) a w ha hw
/-- One of several. -/
def SA (W : World) (P : Program) (n : Nat) (ops : Array Oper) (i : Nat) (r : Ord) (Ts : Facts) (k : Kont) (l : Env) (L : List HProp) : Prop :=
  ∀ listed fuel, Region.noSelect ops = true → chkOrd ops r listed fuel = true → ∀ a w, Agree n l a → Sat W L w →
      wpOp P ops (den W P k) i (fun a' w' => Holds ops i w w' Ts ∧ wpAnyT P ops (den W P k) Ts fuel listed a' w') a w
theorem SQ_two {i j : Nat} {f : Nat → Ord} (h1 : SA W P n ops i (f i) Ts k l L) (h2 : SA W P n ops j (f j) Ts k l L) : SQ W P n ops (.alts [i, j] f) Ts k l L :=
  SQ_alts fun m hm => by rcases List.mem_cons.1 hm with rfl | hm; exact h1; rcases List.mem_cons.1 hm with rfl | hm; exact h2; cases hm
theorem SQ_one (h : SA W P n ops i r Ts k l L) : SQ W P n ops (.cons i false r) Ts k l L := by
  intro hs listed fuel hc a w ha hw
  cases fuel with
  | zero => simp [chkOrd] at hc
  | succ fuel =>
    simp only [chkOrd, cond_false, Bool.and_eq_true] at hc
    have hr : Region.ready .any ops listed = [i] := by simpa using hc.1
    refine ⟨by rw [hr]; simp, fun j hj => ?_⟩
    rw [hr] at hj
    obtain rfl : j = i := by simpa using hj
    exact h _ _ hs hc.2 a w ha hw
/-- The guard of an operation, if it has one, is met. -/
inductive Met (ops : Array Oper) (l : Env) : Option (Nat × Bool) → Prop where
  | free : Met ops l none
  | met {j e : Nat} {b : Bool} (hj : (ops[j]?).bind (·.dst) = some e) (hb : look l e = some (.bool b)) : Met ops l (some (j, b))
theorem Met.wanted {n : Nat} {a : Act} {l : Env} {ops : Array Oper} {dst : Option Tmp} {op : Op} {ty : TypeId} {pos : String} {after : Array Edge} {g : Option (Nat × Bool)} (h : Met ops l g) (ha : Agree n l a) : Region.wanted ⟨dst, op, ty, pos, after, g⟩ (yielded ops a.tmps) = true := by
  cases h with
  | free => rfl
  | met hj hb => simp only [Region.wanted, yielded, hj, Option.bind_some, ha.slot _ _ hb]; simp
theorem SA_oxg {dst : Option Tmp} {g : Option (Nat × Bool)} {K : Value → List HProp → Prop} (hi : ops[i]? = some ⟨dst, op, ty, pos, after, g⟩) (hg : Met ops l g) (hx : OX W P l L op ty K) (hd : ∀ d, dst = some d → d < n)
    (h : ∀ v L', K v L' → Keeps W ops i L' Ts ∧ SQ W P n ops r Ts k (putE dst v l) L') : SA W P n ops i r Ts k l L :=
  fun listed fuel hs hc a w ha hw => by
    obtain ⟨nx, w', v, L', hr, hn, hk, hs'⟩ := hx a.eval (fun x u e => ha.eval e) w hw dst pos after g
    obtain ⟨h1, h2⟩ := h v L' hk
    have := h2 hs _ _ hc _ w' (ha.put (dst := dst) (v := v) hd) hs'
    unfold wpOp
    rw [hi]
    simp only [hg.wanted ha, if_true]
    refine .inl ?_
    unfold Oper.wp
    rw [hr]
    rcases hn with rfl | ⟨rfl, rfl⟩
    · exact ⟨h1.holds hs', this⟩
    · exact ⟨h1.holds hs', this⟩
theorem SA_ox {g : Option (Nat × Bool)} {K : Value → List HProp → Prop} (hi : ops[i]? = some ⟨some d, op, ty, pos, after, g⟩) (hg : Met ops l g) (hx : OX W P l L op ty K) (hd : Nat.blt d n = true)
    (h : ∀ v L', K v L' → Keeps W ops i L' Ts ∧ SQ W P n ops r Ts k ((d, v) :: l) L') : SA W P n ops i r Ts k l L := SA_oxg hi hg hx (lts hd) h
theorem SA_ox0 {g : Option (Nat × Bool)} {K : Value → List HProp → Prop} (hi : ops[i]? = some ⟨none, op, ty, pos, after, g⟩) (hg : Met ops l g) (hx : OX W P l L op ty K)
    (h : ∀ v L', K v L' → Keeps W ops i L' Ts ∧ SQ W P n ops r Ts k l L') : SA W P n ops i r Ts k l L := SA_oxg hi hg hx ltn h
theorem SA_call {dst : Option Tmp} {g : Option (Nat × Bool)} {f : FuncId} {xs : Array Operand} {ats : Array TypeId} {args : Array Value} {K : Value → List HProp → Prop}
    (hi : ops[i]? = some ⟨dst, .call ⟨.value (.func f), xs, ats⟩, ty, pos, after, g⟩) (hg : Met ops l g)
    (hcall : ∀ args w, (callFunc f args).run P w = .ok (.enter f args) w) (hargs : EvA l xs.toList args.toList)
    (hc : CallsK W P f args L K) (hd : ∀ d, dst = some d → d < n) (h : ∀ v L', K v L' → Keeps W ops i L' Ts ∧ SQ W P n ops r Ts k (putE dst v l) L') : SA W P n ops i r Ts k l L :=
  fun listed fuel hs hck a w ha hw => by
    have hr := run_call (dst := dst) (ats := ats) (ty := ty) (pos := pos) (after := after) (g := g) ha hcall hargs w
    unfold wpOp
    rw [hi]
    simp only [hg.wanted ha, if_true]
    refine .inl ?_
    unfold Oper.wp
    rw [hr]
    refine (hc w hw).mono fun e w' ⟨v, L', he, hk, hs'⟩ => ?_
    subst he
    obtain ⟨h1, h2⟩ := h v L' hk
    exact ⟨h1.holds hs', h2 hs _ _ hck _ w' (ha.put hd) hs'⟩
theorem SQ_ox {K : Value → List HProp → Prop} (hi : ops[i]? = some ⟨some d, op, ty, pos, after, none⟩) (hx : OX W P l L op ty K) (hd : Nat.blt d n = true)
    (h : ∀ v L', K v L' → Keeps W ops i L' Ts ∧ SQ W P n ops r Ts k ((d, v) :: l) L') : SQ W P n ops (.cons i false r) Ts k l L := SQ_one (SA_ox hi .free hx hd h)
theorem SQ_ox0 {K : Value → List HProp → Prop} (hi : ops[i]? = some ⟨none, op, ty, pos, after, none⟩) (hx : OX W P l L op ty K)
    (h : ∀ v L', K v L' → Keeps W ops i L' Ts ∧ SQ W P n ops r Ts k l L') : SQ W P n ops (.cons i false r) Ts k l L := SQ_one (SA_ox0 hi .free hx h)
theorem SQ_call {dst : Option Tmp} {f : FuncId} {xs : Array Operand} {ats : Array TypeId} {args : Array Value} {K : Value → List HProp → Prop}
    (hi : ops[i]? = some ⟨dst, .call ⟨.value (.func f), xs, ats⟩, ty, pos, after, none⟩)
    (hcall : ∀ args w, (callFunc f args).run P w = .ok (.enter f args) w) (hargs : EvA l xs.toList args.toList)
    (hc : CallsK W P f args L K) (hd : ∀ d, dst = some d → d < n) (h : ∀ v L', K v L' → Keeps W ops i L' Ts ∧ SQ W P n ops r Ts k (putE dst v l) L') : SQ W P n ops (.cons i false r) Ts k l L :=
  SQ_one (SA_call hi .free hcall hargs hc hd h)
/-- A guarded one. -/
theorem Met.mk {j e : Nat} {want b : Bool} (hj : (ops[j]?).bind (·.dst) = some e) (hb : look l e = some (.bool b)) (eq : b = want) : Met ops l (some (j, want)) := eq ▸ .met hj hb
end
end Go.Proofs.YtdhpjdhloaoepaaGreat

/- The operations that only read: what each comes to. -/
namespace Go.Proofs.YtdhpjdhloaoepaaGreat
open Go

/-- A cell holds v. -/
def cellR (b off : Nat) (v : Value) : Hp → Prop := fun h => ∃ cs T fz, h b = some (.cells cs T fz) ∧ cs[off]? = some v
def cellsR (b off : Nat) (vs : List Value) : Hp → Prop := fun h => ∀ j v, vs[j]? = some v → cellR b (off + j) v h
/-- A map holds these entries. -/
def mapR (b : Nat) (es : Array MapEntry) : Hp → Prop := fun h => ∃ ck, h b = some (.map es ck)
theorem cellR.up {b off : Nat} {v : Value} : Up (cellR b off v) := fun _ _ s ⟨cs, T, fz, e, x⟩ => ⟨cs, T, fz, s _ _ e, x⟩
theorem cellsR.up {b off : Nat} {vs : List Value} : Up (cellsR b off vs) := fun _ _ s H j v e => cellR.up _ _ s (H j v e)
theorem mapR.up {b : Nat} {es : Array MapEntry} : Up (mapR b es) := fun _ _ s ⟨ck, e⟩ => ⟨ck, s _ _ e⟩
theorem cellR.cell {b off : Nat} {v : Value} {w : World} (h : cellR b off v (fun b => w.heap[b]?)) : w.cell? ⟨b, off, none⟩ = some v := by
  obtain ⟨cs, T, fz, e, x⟩ := h
  simp only at e
  simp [World.cell?, e, x]
theorem Addr.add_eq (b off m : Nat) : Addr.add ⟨b, off, none⟩ m = ⟨b, off + m, none⟩ := by
  unfold Addr.add; split
  · rename_i h; simp [h]
  · rfl
theorem cellsR.cell {b off : Nat} {vs : List Value} {w : World} (h : cellsR b off vs (fun b => w.heap[b]?)) : ∀ j v, vs[j]? = some v → w.cell? (Addr.add ⟨b, off, none⟩ j) = some v := by
  intro j v hj
  rw [Addr.add_eq]
  exact (h j v hj).cell

section
variable {W : World} {L : List HProp}
theorem Has.imp {R R' : Hp → Prop} (h : Has W L R) (e : ∀ m, R m → R' m) : Has W L R' := fun w hw => e _ (h w hw)
theorem Has.of_reads {R : Hp → Prop} (h : Reads L R) : Has W L R := fun _ hw => h.sat (M := []) hw
theorem Has.at {i b : Nat} {o : Obj} {R : Hp → Prop} (hi : L[i]? = some (pt b o)) (hR : ∀ h : Hp, h b = some o → R h) : Has W L R := fun w hw => by
  have : pick i L = pt b o :: L.eraseIdx i := by simp [pick, hi]
  exact hR _ (this ▸ hw.perm (pick_perm i L)).get
theorem Has.cell {i b : Nat} {cs : Array Value} {T : TypeId} {fz : Nat × Nat} {off : Nat} {v : Value} (hi : L[i]? = some (pt b (.cells cs T fz))) (hv : cs[off]? = some v) : Has W L (cellR b off v) :=
  Has.at hi fun _ e => ⟨cs, T, fz, e, hv⟩
theorem Has.cells {i b : Nat} {cs : Array Value} {T : TypeId} {fz : Nat × Nat} {off : Nat} {vs : List Value} (hi : L[i]? = some (pt b (.cells cs T fz))) (hv : ∀ j v, vs[j]? = some v → cs[off + j]? = some v) : Has W L (cellsR b off vs) :=
  Has.at hi fun _ e j v h => ⟨cs, T, fz, e, hv j v h⟩
theorem Has.map {i b : Nat} {es : Array MapEntry} {ck : Nat} (hi : L[i]? = some (pt b (.map es ck))) : Has W L (mapR b es) :=
  Has.at hi fun _ e => ⟨ck, e⟩
end

theorem beqBytes (a b : ByteArray) : (a.toList == b.toList) = decide (a = b) := by
  rw [Bool.eq_iff_iff]
  simp only [beq_iff_eq, decide_eq_true_eq, ByteArray.toList_eq]
  constructor
  · intro h
    cases a with | mk x => cases b with | mk y => exact congrArg ByteArray.mk (Array.ext' h)
  · rintro rfl; rfl
section
variable {P : Program} {l : Env} {ty : TypeId} {v : Value}
theorem RD_move {x : Operand} (hx : ev l x = some v) : RD P l (.move x) ty RU v := fun ρ hρ w _ _ _ _ _ => by simp [execOp, hρ x v hx]
theorem RD_assign {x : Operand} (hx : ev l x = some v) : RD P l (.assign x) ty RU v := fun ρ hρ w _ _ _ _ _ => by simp [execOp, hρ x v hx]
theorem RD_pick {c x y : Operand} {b : Bool} {u : Value} (hc : ev l c = some (.bool b)) (hx : ev l x = some v) (hy : ev l y = some u) : RD P l (.pick c x y) ty RU (if b then v else u) :=
  fun ρ hρ w _ _ _ _ _ => by simp [execOp, hρ c _ hc, hρ x v hx, hρ y u hy, asBool]
theorem RD_pick_t {c x y : Operand} {b : Bool} (hc : ev l c = some (.bool b)) (e : b = true) (hx : ev l x = some v) : RD P l (.pick c x y) ty RU v :=
  fun ρ hρ w _ _ _ _ _ => by simp [execOp, hρ c _ hc, hρ x v hx, asBool, e]
theorem RD_pick_f {c x y : Operand} {b : Bool} (hc : ev l c = some (.bool b)) (e : b = false) (hy : ev l y = some v) : RD P l (.pick c x y) ty RU v :=
  fun ρ hρ w _ _ _ _ _ => by simp [execOp, hρ c _ hc, hρ y v hy, asBool, e]
theorem RD_nilCheck {x : Operand} {a : Addr} (hx : ev l x = some (.pointer (some a))) : RD P l (.nilCheck x) ty RU (.pointer (some a)) := fun ρ hρ w _ _ _ _ _ => by simp [execOp, hρ x _ hx]

theorem RD_fieldAddr {x : Operand} {s i : Nat} {fs : Array Field} {f : Field} {b off m : Nat} (o : Nat) (hs : ∀ w, (underlying s).run P w = .ok (.struct fs) w) (hf : fs[i]? = some f) (ho : Nat.beq f.offset o = true)
    (hz : ∀ w, (sizeOf f.type).run P w = .ok (m + 1) w) (hx : ev l x = some (.pointer (some ⟨b, off, none⟩))) : RD P l (.fieldAddr s x i) ty RU (.pointer (some ⟨b, off + o, none⟩)) := fun ρ hρ w _ _ _ _ _ => by
  rw [← Nat.eq_of_beq_eq_true ho]
  simp [execOp, hρ x _ hx, Instr.fieldAt, hs, hf, Instr.sureAddr, fieldPlace, hz, Addr.add_eq]
theorem RD_fieldAddr0 {x : Operand} {s i : Nat} {fs : Array Field} {f : Field} {b off m : Nat} (hs : ∀ w, (underlying s).run P w = .ok (.struct fs) w) (hf : fs[i]? = some f) (ho : Nat.beq f.offset 0 = true)
    (hz : ∀ w, (sizeOf f.type).run P w = .ok (m + 1) w) (hx : ev l x = some (.pointer (some ⟨b, off, none⟩))) : RD P l (.fieldAddr s x i) ty RU (.pointer (some ⟨b, off, none⟩)) :=
  RD_fieldAddr 0 hs hf ho hz hx
theorem RD_load {x : Operand} {t b off : Nat} (hg : ∀ w, (isAgg t).run P w = .ok false w) (hx : ev l x = some (.pointer (some ⟨b, off, none⟩))) : RD P l (.load t x) ty (cellR b off v) v := fun ρ hρ w hR _ _ _ _ => by
  simp [execOp, hρ x _ hx, Instr.loadAt, Instr.sureAddr, loadVar, hg, hR.cell]
theorem RD_loadA {x : Operand} {t b off : Nat} {vs : List Value} {m : Nat} (hg : ∀ w, (isAgg t).run P w = .ok true w) (hs : ∀ w, (sizeOf t).run P w = .ok m w) (hm : vs.length = m)
    (hx : ev l x = some (.pointer (some ⟨b, off, none⟩))) : RD P l (.load t x) ty (cellsR b off vs) (.agg vs.toArray) := fun ρ hρ w hR _ _ _ _ => by
  subst hm
  simp [execOp, hρ x _ hx, Instr.loadAt, Instr.sureAddr, loadVar, hg, hs, run_loadCells_list w _ _ hR.cell]
theorem RD_field {x : Operand} {t i : Nat} {fs : Array Field} {f : Field} {cs : Array Value} (hs : ∀ w, (underlying t).run P w = .ok (.struct fs) w) (hf : fs[i]? = some f)
    (hg : ∀ w, (isAgg f.type).run P w = .ok false w) (hx : ev l x = some (.agg cs)) (hv : cs[f.offset]? = some v) : RD P l (.field t x i) ty RU v := fun ρ hρ w _ _ _ _ _ => by
  simp [execOp, hρ x _ hx, Instr.field, hs, hf, asAgg, part, hg, hv]
theorem RD_fieldA {x : Operand} {t i m : Nat} {fs : Array Field} {f : Field} {cs : Array Value} (hs : ∀ w, (underlying t).run P w = .ok (.struct fs) w) (hf : fs[i]? = some f)
    (hg : ∀ w, (isAgg f.type).run P w = .ok true w) (hz : ∀ w, (sizeOf f.type).run P w = .ok m w) (hx : ev l x = some (.agg cs)) {us : Array Value} (hv : cs.extract f.offset (f.offset + m) = us) : RD P l (.field t x i) ty RU (.agg us) := fun ρ hρ w _ _ _ _ _ => by
  simp [execOp, hρ x _ hx, Instr.field, hs, hf, asAgg, part, hg, hz, hv]
theorem RD_extract {x : Operand} {i : Nat} {vs : Array Value} (hx : ev l x = some (.tuple vs)) (hv : vs[i]? = some v) : RD P l (.extract x i) ty RU v := fun ρ hρ w _ _ _ _ _ => by
  simp [execOp, hρ x _ hx, Instr.extract, hv]
theorem RD_indexAddrA {x y : Operand} {t e b off n m : Nat} {k : IntKind} {i : Int} (hs : ∀ w, (underlying t).run P w = .ok (.array n e) w) (hz : ∀ w, (sizeOf e).run P w = .ok m w)
    (hx : ev l x = some (.pointer (some ⟨b, off, none⟩))) (hy : ev l y = some (.int k i)) (h0 : 0 ≤ i) (h1 : i < n) : RD P l (.indexAddr t x y) ty RU (.pointer (some ⟨b, off + i.toNat * m, none⟩)) := fun ρ hρ w _ _ _ _ _ => by
  simp [execOp, hρ x _ hx, hρ y _ hy, Instr.indexAt, asIntOf, hs, hz, h0, h1, Addr.add_eq, Instr.sureAddr]

/-! Integers -/
theorem RD_add {x y : Operand} {t yt : TypeId} {k : IntKind} {a b : Int} (hx : ev l x = some (.int k a)) (hy : ev l y = some (.int k b)) : RD P l (.binOp .add t x y yt) ty RU (.int k (k.wrap (a + b))) := fun ρ hρ w _ _ _ _ _ => by
  simp [execOp, hρ x _ hx, hρ y _ hy, eqGuard, binOp, Op.intArith]
theorem RD_sub {x y : Operand} {t yt : TypeId} {k : IntKind} {a b : Int} (hx : ev l x = some (.int k a)) (hy : ev l y = some (.int k b)) : RD P l (.binOp .sub t x y yt) ty RU (.int k (k.wrap (a - b))) := fun ρ hρ w _ _ _ _ _ => by
  simp [execOp, hρ x _ hx, hρ y _ hy, eqGuard, binOp, Op.intArith]
theorem RD_mul {x y : Operand} {t yt : TypeId} {k : IntKind} {a b : Int} (hx : ev l x = some (.int k a)) (hy : ev l y = some (.int k b)) : RD P l (.binOp .mul t x y yt) ty RU (.int k (k.wrap (a * b))) := fun ρ hρ w _ _ _ _ _ => by
  simp [execOp, hρ x _ hx, hρ y _ hy, eqGuard, binOp, Op.intArith]
theorem RD_addi {x y : Operand} {t yt : TypeId} {a b : Int} (hx : ev l x = some (.int .i64 a)) (hy : ev l y = some (.int .i64 b)) (h1 : -9223372036854775808 ≤ a + b) (h2 : a + b ≤ 9223372036854775807) :
    RD P l (.binOp .add t x y yt) ty RU (.int .i64 (a + b)) := by have := RD_add (P := P) (ty := ty) (t := t) (yt := yt) hx hy; rwa [IntWalk.i64_in _ ⟨h1, h2⟩] at this
theorem RD_subi {x y : Operand} {t yt : TypeId} {a b : Int} (hx : ev l x = some (.int .i64 a)) (hy : ev l y = some (.int .i64 b)) (h1 : -9223372036854775808 ≤ a - b) (h2 : a - b ≤ 9223372036854775807) :
    RD P l (.binOp .sub t x y yt) ty RU (.int .i64 (a - b)) := by have := RD_sub (P := P) (ty := ty) (t := t) (yt := yt) hx hy; rwa [IntWalk.i64_in _ ⟨h1, h2⟩] at this
theorem RD_muli {x y : Operand} {t yt : TypeId} {a b : Int} (hx : ev l x = some (.int .i64 a)) (hy : ev l y = some (.int .i64 b)) (h1 : -9223372036854775808 ≤ a * b) (h2 : a * b ≤ 9223372036854775807) :
    RD P l (.binOp .mul t x y yt) ty RU (.int .i64 (a * b)) := by have := RD_mul (P := P) (ty := ty) (t := t) (yt := yt) hx hy; rwa [IntWalk.i64_in _ ⟨h1, h2⟩] at this
/-- Go's & | ^ on a kind. -/
def band (k : IntKind) (a b : Int) : Int := k.wrap (BitVec.ofInt k.bits a &&& BitVec.ofInt k.bits b).toNat
def bor (k : IntKind) (a b : Int) : Int := k.wrap (BitVec.ofInt k.bits a ||| BitVec.ofInt k.bits b).toNat
theorem RD_and {x y : Operand} {t yt : TypeId} {k : IntKind} {a b : Int} (hx : ev l x = some (.int k a)) (hy : ev l y = some (.int k b)) : RD P l (.binOp .and t x y yt) ty RU (.int k (band k a b)) := fun ρ hρ w _ _ _ _ _ => by
  simp [execOp, hρ x _ hx, hρ y _ hy, eqGuard, binOp, Op.intBits, band]
theorem RD_or {x y : Operand} {t yt : TypeId} {k : IntKind} {a b : Int} (hx : ev l x = some (.int k a)) (hy : ev l y = some (.int k b)) : RD P l (.binOp .or t x y yt) ty RU (.int k (bor k a b)) := fun ρ hρ w _ _ _ _ _ => by
  simp [execOp, hρ x _ hx, hρ y _ hy, eqGuard, binOp, Op.intBits, bor]
theorem RD_rem {x y : Operand} {t yt : TypeId} {k : IntKind} {a b : Int} (hx : ev l x = some (.int k a)) (hy : ev l y = some (.int k b)) (h0 : b ≠ 0) : RD P l (.binOp .rem t x y yt) ty RU (.int k (a.tmod b)) := fun ρ hρ w _ _ _ _ _ => by
  simp [execOp, hρ x _ hx, hρ y _ hy, eqGuard, binOp, Op.intDiv, h0]
theorem RD_remi {x y : Operand} {t yt : TypeId} {k : IntKind} {a b : Int} (hx : ev l x = some (.int k a)) (hy : ev l y = some (.int k b)) (ha : 0 ≤ a) (h0 : 0 < b) : RD P l (.binOp .rem t x y yt) ty RU (.int k (a % b)) := by
  have := RD_rem (P := P) (ty := ty) (t := t) (yt := yt) hx hy (by omega); rwa [Int.tmod_eq_emod_of_nonneg ha] at this
theorem RD_quo {x y : Operand} {t yt : TypeId} {k : IntKind} {a b : Int} (hx : ev l x = some (.int k a)) (hy : ev l y = some (.int k b)) (h0 : b ≠ 0) : RD P l (.binOp .quo t x y yt) ty RU (.int k (k.wrap (a.tdiv b))) := fun ρ hρ w _ _ _ _ _ => by
  simp [execOp, hρ x _ hx, hρ y _ hy, eqGuard, binOp, Op.intDiv, h0]
theorem RD_shl {x y : Operand} {t yt : TypeId} {k yk : IntKind} {a b : Int} (hx : ev l x = some (.int k a)) (hy : ev l y = some (.int yk b)) (h0 : 0 ≤ b) : RD P l (.binOp .shl t x y yt) ty RU (.int k (k.wrap (a * 2 ^ (min b.toNat k.bits)))) := fun ρ hρ w _ _ _ _ _ => by
  simp [execOp, hρ x _ hx, hρ y _ hy, eqGuard, binOp, Op.shift, show ¬ b < 0 from by omega]
theorem RD_shr {x y : Operand} {t yt : TypeId} {k yk : IntKind} {a b : Int} (hx : ev l x = some (.int k a)) (hy : ev l y = some (.int yk b)) (h0 : 0 ≤ b) : RD P l (.binOp .shr t x y yt) ty RU (.int k (a.fdiv (2 ^ (min b.toNat k.bits)))) := fun ρ hρ w _ _ _ _ _ => by
  simp [execOp, hρ x _ hx, hρ y _ hy, eqGuard, binOp, Op.shift, show ¬ b < 0 from by omega]
theorem RD_lss {x y : Operand} {t yt : TypeId} {k : IntKind} {a b : Int} (hx : ev l x = some (.int k a)) (hy : ev l y = some (.int k b)) : RD P l (.binOp .lss t x y yt) ty RU (.bool (decide (a < b))) := fun ρ hρ w _ _ _ _ _ => by
  simp [execOp, hρ x _ hx, hρ y _ hy, eqGuard, binOp, Op.intCmp]
theorem RD_leq {x y : Operand} {t yt : TypeId} {k : IntKind} {a b : Int} (hx : ev l x = some (.int k a)) (hy : ev l y = some (.int k b)) : RD P l (.binOp .leq t x y yt) ty RU (.bool (decide (a ≤ b))) := fun ρ hρ w _ _ _ _ _ => by
  simp [execOp, hρ x _ hx, hρ y _ hy, eqGuard, binOp, Op.intCmp]
theorem RD_gtr {x y : Operand} {t yt : TypeId} {k : IntKind} {a b : Int} (hx : ev l x = some (.int k a)) (hy : ev l y = some (.int k b)) : RD P l (.binOp .gtr t x y yt) ty RU (.bool (decide (b < a))) := fun ρ hρ w _ _ _ _ _ => by
  simp [execOp, hρ x _ hx, hρ y _ hy, eqGuard, binOp, Op.intCmp]
theorem RD_geq {x y : Operand} {t yt : TypeId} {k : IntKind} {a b : Int} (hx : ev l x = some (.int k a)) (hy : ev l y = some (.int k b)) : RD P l (.binOp .geq t x y yt) ty RU (.bool (decide (b ≤ a))) := fun ρ hρ w _ _ _ _ _ => by
  simp [execOp, hρ x _ hx, hρ y _ hy, eqGuard, binOp, Op.intCmp]
theorem RD_eql {x y : Operand} {t yt : TypeId} {k : IntKind} {a b : Int} (hx : ev l x = some (.int k a)) (hy : ev l y = some (.int k b)) : RD P l (.binOp .eql t x y yt) ty RU (.bool (decide (a = b))) := fun ρ hρ w _ _ _ _ _ => by
  simp [execOp, hρ x _ hx, hρ y _ hy, eqGuard, binOp, Op.intCmp]; rfl
theorem RD_neq {x y : Operand} {t yt : TypeId} {k : IntKind} {a b : Int} (hx : ev l x = some (.int k a)) (hy : ev l y = some (.int k b)) : RD P l (.binOp .neq t x y yt) ty RU (.bool (!decide (a = b))) := fun ρ hρ w _ _ _ _ _ => by
  simp [execOp, hρ x _ hx, hρ y _ hy, eqGuard, binOp, Op.intCmp]; rfl
theorem RD_eqlS {x y : Operand} {t yt : TypeId} {a b : ByteArray} (hx : ev l x = some (.string a)) (hy : ev l y = some (.string b)) : RD P l (.binOp .eql t x y yt) ty RU (.bool (decide (a = b))) := fun ρ hρ w _ _ _ _ _ => by
  have := beqBytes a b
  simp [execOp, hρ x _ hx, hρ y _ hy, eqGuard, binOp, Op.stringOp, this]
theorem RD_not {x : Operand} {t : TypeId} {a : Bool} (hx : ev l x = some (.bool a)) : RD P l (.unOp .not t x) ty RU (.bool (!a)) := fun ρ hρ w _ _ _ _ _ => by
  simp [execOp, hρ x _ hx, Op.unary]
theorem RD_convI {x : Operand} {s t : TypeId} {k j : IntKind} {a : Int} {d : TypeDesc} (hs : ∀ w, (underlying s).run P w = .ok d w) (ht : ∀ w, (underlying t).run P w = .ok (.int k) w) (hx : ev l x = some (.int j a)) : RD P l (.convert s t x) ty RU (.int k (k.wrap a)) := fun ρ hρ w _ _ _ _ _ => by
  simp [execOp, hρ x _ hx, convert, hs, ht, Conv.intToInt]
theorem run_equalIn_p (d : Nat) (t e : TypeId) (a : Option Addr) (w : World) (ht : (underlying t).run P w = .ok (.pointer e) w) : (Op.equalIn (d + 1) t (.pointer a) (.pointer none)).run P w = .ok a.isNone w := by
  cases a <;> simp [Op.equalIn, ht]
theorem run_equalIn_m (d : Nat) (t e f : TypeId) (a : Option Nat) (w : World) (ht : (underlying t).run P w = .ok (.map e f) w) : (Op.equalIn (d + 1) t (.map a) (.map none)).run P w = .ok a.isNone w := by
  cases a <;> simp [Op.equalIn, ht]
theorem RD_eqlP {x y : Operand} {t yt e : TypeId} {a : Option Addr} (ht : P.underlying t = some (.pointer e)) (hx : ev l x = some (.pointer a)) (hy : ev l y = some (.pointer none)) : RD P l (.binOp .eql t x y yt) ty RU (.bool a.isNone) := fun ρ hρ w _ _ _ _ _ => by
  have h1 : (underlying t).run P w = .ok (.pointer e) w := by simp [underlying, ht]
  have h2 := run_equalIn_p 9999 t e a w h1
  simp [execOp, hρ x _ hx, hρ y _ hy, eqGuard, binOp, Op.equal, Op.maxDepth, h2]
theorem RD_neqP {x y : Operand} {t yt e : TypeId} {a : Option Addr} (ht : P.underlying t = some (.pointer e)) (hx : ev l x = some (.pointer a)) (hy : ev l y = some (.pointer none)) : RD P l (.binOp .neq t x y yt) ty RU (.bool (!a.isNone)) := fun ρ hρ w _ _ _ _ _ => by
  have h1 : (underlying t).run P w = .ok (.pointer e) w := by simp [underlying, ht]
  have h2 := run_equalIn_p 9999 t e a w h1
  simp [execOp, hρ x _ hx, hρ y _ hy, eqGuard, binOp, Op.equal, Op.maxDepth, h2]
theorem RD_eqlM {x y : Operand} {t yt e f : TypeId} {a : Option Nat} (ht : P.underlying t = some (.map e f)) (hx : ev l x = some (.map a)) (hy : ev l y = some (.map none)) : RD P l (.binOp .eql t x y yt) ty RU (.bool a.isNone) := fun ρ hρ w _ _ _ _ _ => by
  have h1 : (underlying t).run P w = .ok (.map e f) w := by simp [underlying, ht]
  have h2 := run_equalIn_m 9999 t e f a w h1
  simp [execOp, hρ x _ hx, hρ y _ hy, eqGuard, binOp, Op.equal, Op.maxDepth, h2]
theorem RD_len {x : Operand} {t e : TypeId} {a : Option Addr} {n c : Nat} (ht : ∀ w, (underlying t).run P w = .ok (.slice e) w) (hx : ev l x = some (.slice a n c)) : RD P l (.call ⟨.builtin .len, #[x], #[t]⟩) ty RU (.int .i64 n) := fun ρ hρ w _ _ _ _ _ => by
  simp [execOp, resolve, hρ x _ hx, invoke, builtin, Builtin.len_, ht, goInt]
theorem RD_min {x y : Operand} {ts : Array TypeId} {k k' : IntKind} {a b : Int} (hx : ev l x = some (.int k a)) (hy : ev l y = some (.int k' b)) : RD P l (.call ⟨.builtin .min, #[x, y], ts⟩) ty RU (.int k (if b < a then b else a)) := fun ρ hρ w _ _ _ _ _ => by
  simp [execOp, resolve, hρ x _ hx, hρ y _ hy, invoke, builtin, run_min_int2]
theorem RD_max {x y : Operand} {ts : Array TypeId} {k k' : IntKind} {a b : Int} (hx : ev l x = some (.int k a)) (hy : ev l y = some (.int k' b)) : RD P l (.call ⟨.builtin .max, #[x, y], ts⟩) ty RU (.int k (if b > a then b else a)) := fun ρ hρ w _ _ _ _ _ => by
  simp [execOp, resolve, hρ x _ hx, hρ y _ hy, invoke, builtin, run_max_int2]
end
end Go.Proofs.YtdhpjdhloaoepaaGreat

/- Rows: slices by their base, whatever it is; bytes and strings. -/
namespace Go.Proofs.YtdhpjdhloaoepaaGreat
open Go

/-! ### Bytes and strings -/
def byteV (c : UInt8) : Value := .int .u8 c.toNat
def intV (n : Int) : Value := .int .i64 n
def bstr (bs : List UInt8) : ByteArray := ⟨bs.toArray⟩
theorem bstr_inj {a b : List UInt8} : bstr a = bstr b ↔ a = b := by
  constructor
  · intro h; have := congrArg ByteArray.data h; simpa [bstr] using this
  · rintro rfl; rfl
theorem strOfNums_bytes (bs : List UInt8) : strOfNums (bs.map fun c => (c.toNat : Int)) = bstr bs := by
  unfold bstr
  cases h : strOfNums (bs.map fun c => (c.toNat : Int)) with | mk d =>
  have h1 := strOfNums_data (bs.map fun c => (c.toNat : Int))
  rw [h] at h1
  congr 1
  apply Array.ext'
  rw [h1]
  simp [List.map_map, Function.comp_def]

/-- The cells behind a slice's base. -/
def rowR (a : Option Addr) (cs : List Value) : Hp → Prop := fun h =>
  match a with
  | some ⟨b, off, none⟩ => cellsR b off cs h
  | _ => cs = []
theorem rowR.up {a : Option Addr} {cs : List Value} : Up (rowR a cs) := fun h k s H => by
  unfold rowR at *
  split
  · exact cellsR.up h k s H
  · rename_i x hx
    split at H
    · rename_i b off; exact absurd rfl (hx b off)
    · exact H
theorem rowR_nil {a : Option Addr} (h : Hp) : rowR a [] h := by
  unfold rowR; split
  · intro j v e; simp at e
  · rfl
/-- The address of cell j behind a base. -/
def elA : Option Addr → Nat → Addr
  | some p, j => ⟨p.block, p.off + j, none⟩
  | none, _ => default
theorem rowR.some {a : Option Addr} {cs : List Value} {h : Hp} (H : rowR a cs h) (hc : 0 < cs.length) : ∃ b off, a = .some ⟨b, off, none⟩ ∧ cellsR b off cs h := by
  unfold rowR at H
  split at H
  · exact ⟨_, _, rfl, H⟩
  · subst H; simp at hc
theorem rowR.el {a : Option Addr} {cs : List Value} {w : World} (H : rowR a cs (fun b => w.heap[b]?)) {j : Nat} {v : Value} (hv : cs[j]? = .some v) : w.cell? (elA a j) = .some v := by
  have hj : j < cs.length := (List.getElem?_eq_some_iff.1 hv).1
  obtain ⟨b, off, rfl, hc⟩ := H.some (by omega)
  exact (hc j v hv).cell
theorem lt_len {cs : List Value} {j : Nat} {v : Value} (hv : cs[j]? = some v) : j < cs.length := (List.getElem?_eq_some_iff.1 hv).1
theorem elA_add (a : Option Addr) (h : a.isSome = true) (j m : Nat) : (elA a j).add m = elA a (j + m) := by
  cases a with
  | none => cases h
  | some p => simp only [elA]; rw [Addr.add_eq]; simp [Nat.add_assoc]

section
variable {W : World} {P : Program} {l : Env} {ty : TypeId} {L R F : List HProp} {v : Value}
theorem RD_b2s {x : Operand} {src dst e : TypeId} {n c : Nat} {a : Option Addr} {bs : List UInt8} (hs : P.underlying src = some (.slice e)) (hd : P.underlying dst = some .string) (he : P.underlying e = some (.int .u8))
    (hx : ev l x = some (.slice a n c)) (hn : bs.length = n) : RD P l (.convert src dst x) ty (rowR a (bs.map byteV)) (.string (bstr bs)) := fun ρ hρ w hR _ _ _ _ => by
  have key : (convert src dst (.slice a n c)).run P w = .ok (.string (bstr bs)) w := by
    by_cases h0 : bs = []
    · subst h0; simp at hn; subst hn
      have hl : ∀ a, (loadCells a 0).run P w = .ok #[] w := fun _ => rfl
      have h1 : ByteArray.empty = bstr [] := rfl
      cases a with
      | none => rw [run_convert_bytes_nil w src e hs he 0 c dst hd, h1]
      | some p =>
        have := run_bytesToString (P := P) w p 0 c [] (hl p)
        rw [run_convert_bytes_string w src dst e _ 0 c hs he hd, this]; rfl
    · obtain ⟨b, off, rfl, hc⟩ := hR.some (by simpa [List.length_pos_iff] using h0)
      have := run_convert_bytes_arg (P := P) w src e hs he b off n c (bs.map fun c => (c.toNat : Int)) (by simpa using hn) (fun i hi => by
        have hi' : i < bs.length := by omega
        have := (hc i (byteV bs[i]) (by simp [hi'])).cell
        rw [this]; simp [byteV, List.getD, hi']) dst hd
      rw [this, strOfNums_bytes]
  simp [execOp, hρ x _ hx, key]
theorem RD_ixO {x y : Operand} {t e n c m : Nat} {k : IntKind} {i : Int} {a : Option Addr} {cs : List Value} (hs : ∀ w, (underlying t).run P w = .ok (.slice e) w) (hz : ∀ w, (sizeOf e).run P w = .ok (m + 1) w)
    (hx : ev l x = some (.slice a n c)) (hy : ev l y = some (.int k i)) (hc : cs.length = n * (m + 1)) (h0 : 0 ≤ i) (h1 : i < n) :
    RD P l (.indexAddr t x y) ty (rowR a cs) (.pointer (some (elA a (i.toNat * (m + 1))))) := fun ρ hρ w hR _ _ _ _ => by
  have hpos : 0 < cs.length := by rw [hc]; exact Nat.mul_pos (by omega) (by omega)
  obtain ⟨b, off, rfl, _⟩ := hR.some hpos
  simp [execOp, hρ x _ hx, hρ y _ hy, Instr.indexAt, asIntOf, hs, hz, h0, h1, Addr.add_eq, elA]
theorem RD_loadO {x : Operand} {t j : Nat} {a : Option Addr} {cs : List Value} (hg : ∀ w, (isAgg t).run P w = .ok false w) (hx : ev l x = some (.pointer (some (elA a j)))) (hv : cs[j]? = some v) : RD P l (.load t x) ty (rowR a cs) v := fun ρ hρ w hR _ _ _ _ => by
  simp [execOp, hρ x _ hx, Instr.loadAt, Instr.sureAddr, loadVar, hg, hR.el hv]
theorem RD_loadAO {x : Operand} {t j m : Nat} {a : Option Addr} {cs vs : List Value} (hg : ∀ w, (isAgg t).run P w = .ok true w) (hs : ∀ w, (sizeOf t).run P w = .ok m w) (hx : ev l x = some (.pointer (some (elA a j)))) (hm : vs.length = m) (hp : 0 < m)
    (hv : ∀ i v, vs[i]? = some v → cs[j + i]? = some v) : RD P l (.load t x) ty (rowR a cs) (.agg vs.toArray) := fun ρ hρ w hR _ _ _ _ => by
  subst hm
  have h0 : vs[0]? = some vs[0] := by simp [hp]
  obtain ⟨b, off, rfl, _⟩ := hR.some (by have := lt_len (hv 0 _ h0); omega)
  have : ∀ i v, vs[i]? = some v → w.cell? (Addr.add (elA (some ⟨b, off, none⟩) j) i) = some v := fun i v h => by
    rw [elA_add _ rfl]; exact hR.el (hv i v h)
  simp [execOp, hρ x _ hx, Instr.loadAt, Instr.sureAddr, loadVar, hg, hs, run_loadCells_list w _ _ this]
theorem RD_fieldAddrO {x : Operand} {s i : Nat} {fs : Array Field} {f : Field} {j m : Nat} {a : Option Addr} {cs : List Value} (o : Nat) (hs : ∀ w, (underlying s).run P w = .ok (.struct fs) w) (hf : fs[i]? = some f) (ho : Nat.beq f.offset o = true)
    (hz : ∀ w, (sizeOf f.type).run P w = .ok (m + 1) w) (hx : ev l x = some (.pointer (some (elA a j)))) (hj : 0 < cs.length) : RD P l (.fieldAddr s x i) ty (rowR a cs) (.pointer (some (elA a (j + o)))) := fun ρ hρ w hR _ _ _ _ => by
  obtain ⟨b, off, rfl, _⟩ := hR.some hj
  rw [← Nat.eq_of_beq_eq_true ho]
  simp [execOp, hρ x _ hx, Instr.fieldAt, hs, hf, Instr.sureAddr, fieldPlace, hz, elA_add]
/-! ### Slicing -/
def sBase (a : Option Addr) (lo z m : Nat) : Option Addr := if m = lo then a else a.map (·.add (lo * z))
theorem rowR_slice {a : Option Addr} {cs : List Value} {h : Hp} (H : rowR a cs h) (d k : Nat) : rowR (a.map (·.add d)) ((cs.drop d).take k) h := by
  cases a with
  | none => have : cs = [] := H; subst this; simp; rfl
  | some p =>
    obtain ⟨b, off, sp⟩ := p
    cases sp with
    | none =>
      simp only [Option.map_some, Addr.add_eq]
      intro j v e
      rw [List.getElem?_take] at e
      split at e
      · rw [List.getElem?_drop] at e
        have := H (d + j) v e
        rwa [← Nat.add_assoc] at this
      · cases e
    | some s =>
      have : cs = [] := H
      subst this
      simp only [List.drop_nil, List.take_nil]
      exact rowR_nil h
theorem RD_slice {x : Operand} {t e z n c : Nat} {a : Option Addr} {lo hi mx : Option Operand} {kl kh km : IntKind} {il ih im : Int} (hs : ∀ w, (underlying t).run P w = .ok (.slice e) w) (hz : ∀ w, (sizeOf e).run P w = .ok z w)
    (hx : ev l x = some (.slice a n c))
    (hl : (lo = none ∧ il = 0) ∨ ∃ o, lo = some o ∧ ev l o = some (.int kl il)) (hh : (hi = none ∧ mx = none ∧ ih = n) ∨ ∃ o, hi = some o ∧ ev l o = some (.int kh ih)) (hm : (mx = none ∧ im = c) ∨ ∃ o, mx = some o ∧ ev l o = some (.int km im))
    (h0 : 0 ≤ il) (h1 : il ≤ ih) (h2 : ih ≤ im) (h3 : im ≤ c) :
    RD P l (.slice t x lo hi mx) ty RU (.slice (sBase a il.toNat z im.toNat) (ih.toNat - il.toNat) (im.toNat - il.toNat)) := fun ρ hρ w _ _ _ _ _ => by
  have hh0 : 0 ≤ ih := by omega
  have hm0 : 0 ≤ im := by omega
  have e1 : ∀ (y : Nat) (k : IntKind) (i : Int) (code : BoundsCode), 0 ≤ i → i ≤ y → (Instr.sliceBound (.int k i) y code).run P w = .ok i.toNat w := fun y k i code a b => by
    simp [Instr.sliceBound, asIntOf, a, b]
  have ic : (im.toNat : Int) = im := Int.toNat_of_nonneg hm0
  have ih' : (ih.toNat : Int) = ih := Int.toNat_of_nonneg hh0
  have hmx : (match mx.map ρ with | some v => Instr.sliceBound v c .slice3Acap | none => pure c : Sem Nat).run P w = .ok im.toNat w := by
    rcases hm with ⟨rfl, rfl⟩ | ⟨o, rfl, ho⟩
    · simp
    · simp [hρ o _ ho, e1 c km im _ hm0 h3]
  have key : (Instr.sliceBounds true n c (lo.map ρ) (hi.map ρ) (mx.map ρ)).run P w = .ok (il.toNat, ih.toNat, im.toNat) w := by
    rcases hm with ⟨rfl, rfl⟩ | ⟨o, rfl, ho⟩ <;> rcases hh with ⟨rfl, hmx, rfl⟩ | ⟨p, rfl, hp⟩ <;> rcases hl with ⟨rfl, rfl⟩ | ⟨q, rfl, hq⟩
    all_goals first
      | (cases hmx; done)
      | (simp [Instr.sliceBounds]; done)
      | (simp [Instr.sliceBounds, hρ _ _ hq, e1 n kl il _ h0 h1]; done)
      | (simp [Instr.sliceBounds, hρ _ _ hp, e1 c kh ih _ hh0 (by omega)]; done)
      | (simp [Instr.sliceBounds, hρ _ _ hp, hρ _ _ hq, e1 c kh ih _ hh0 (by omega), e1 ih.toNat kl il _ h0 (by omega)]; done)
      | (simp [Instr.sliceBounds, hρ _ _ ho, hρ _ _ hp, e1 c km im _ hm0 h3, e1 im.toNat kh ih _ hh0 (by omega)]; done)
      | (simp [Instr.sliceBounds, hρ _ _ ho, hρ _ _ hp, hρ _ _ hq, e1 c km im _ hm0 h3, e1 im.toNat kh ih _ hh0 (by omega), e1 ih.toNat kl il _ h0 (by omega)]; done)
  have key2 : (Instr.sliceAt t (.slice a n c) (lo.map ρ) (hi.map ρ) (mx.map ρ)).run P w = .ok (.slice (sBase a il.toNat z im.toNat) (ih.toNat - il.toNat) (im.toNat - il.toNat)) w := by
    simp [Instr.sliceAt, hs, Instr.slice, key, hz, sBase]
  simp [execOp, hρ x _ hx, key2]
end
end Go.Proofs.YtdhpjdhloaoepaaGreat

/- The operations that make or turn memory. -/
namespace Go.Proofs.YtdhpjdhloaoepaaGreat
open Go

/-- A row of one's own: n elements of z cells each, their cells; the base is whatever it is where there is no room. -/
def rowP (E z : Nat) (a : Option Addr) (n c : Nat) (cs : List Value) : HProp := fun h =>
  (n = 0 ∧ c = 0 ∧ cs = [] ∧ ∀ b, h b = none) ∨
  ∃ b off xs fz, a = some ⟨b, off, none⟩ ∧ pt b (.cells xs E fz) h ∧ cs.length = n * z ∧ n ≤ c ∧ off + c * z ≤ xs.size ∧ (fz = (0, 0) ∨ xs.size ≤ fz.1) ∧ ∀ j v, cs[j]? = some v → xs[off + j]? = some v
/-- These blocks swallow whatever is given up. -/
class Abs (F : List HProp) : Prop where
  h : ∀ (A : HProp) h, Den (A :: F) h → Den F h
def junk : HProp := fun _ => True
instance Abs.junk {F : List HProp} : Abs (junk :: F) := ⟨fun A h ⟨h1, h2, d, e, _, h3, h4, d2, e2, _, f⟩ => by
  subst e2
  obtain ⟨d3, d4⟩ := disj_join.1 d
  refine ⟨join h1 h3, h4, disj_comm (disj_join.2 ⟨disj_comm d4, disj_comm d2⟩), ?_, trivial, f⟩
  rw [e, join_assoc]⟩
instance Abs.cons {A : HProp} {F : List HProp} [h : Abs F] : Abs (A :: F) := ⟨fun B m H => by
  have := Den_swap H
  obtain ⟨h1, h2, d, e, a, r⟩ := this
  exact ⟨h1, h2, d, e, a, h.h B h2 r⟩⟩

section
variable {W : World} {P : Program} {l : Env} {ty : TypeId} {L R F : List HProp} {v : Value}

theorem rowP_nil {E z : Nat} {a : Option Addr} {h : Hp} (H : Den R h) : Den (rowP E z a 0 0 [] :: R) h :=
  ⟨fun _ => none, h, fun b => .inl rfl, by funext b; simp [join], .inl ⟨rfl, rfl, rfl, fun _ => rfl⟩, H⟩
theorem rowP_len {E z n c : Nat} {a : Option Addr} {cs : List Value} {h : Hp} (H : rowP E z a n c cs h) : cs.length = n * z ∧ n ≤ c := by
  rcases H with ⟨rfl, rfl, rfl, _⟩ | ⟨_, _, _, _, _, _, h1, h2, _⟩
  · simp
  · exact ⟨h1, h2⟩
theorem rowP_reads {E z n c : Nat} {a : Option Addr} {cs : List Value} {h : Hp} (H : rowP E z a n c cs h) : rowR a cs h := by
  rcases H with ⟨rfl, rfl, rfl, _⟩ | ⟨b, off, xs, fz, rfl, hp, _, _, _, _, hx⟩
  · exact rowR_nil h
  · exact fun j v e => ⟨xs, E, fz, pt_get hp, hx j v e⟩
theorem Has.row {i E z n c : Nat} {a : Option Addr} {cs : List Value} (hi : L[i]? = some (rowP E z a n c cs)) : Has W L (rowR a cs) := fun w hw => by
  have : pick i L = rowP E z a n c cs :: L.eraseIdx i := by simp [pick, hi]
  have hw := this ▸ hw.perm (pick_perm i L)
  obtain ⟨h1, H, s⟩ := Den_head hw.2.2.2
  exact rowR.up _ _ s (rowP_reads H)
theorem OX_box {x : Operand} {t : TypeId} {v : Value} {cs : List Value} (hx : ev l x = some v) (hc : v.cells = cs.toArray) :
    OX W P l L (.box t x) ty (fun u L' => ∃ b, u = .pointer (some ⟨b, 0, none⟩) ∧ L' = pt b (.cells cs.toArray t) :: L) := fun ρ hρ w hw _ _ _ _ =>
  ⟨.value (.pointer (some ⟨w.heap.size, 0, none⟩)), { w with heap := w.heap.push (.cells cs.toArray t) }, _, _, by simp [execOp, hρ x _ hx, Instr.box, newVar, newRow, hc], .inl rfl, ⟨_, rfl, rfl⟩, hw.new _⟩
theorem OX_alloc {t : TypeId} {z : Value} {cs : List Value} (hz : ∀ w, (zeroValue t).run P w = .ok z w) (hc : z.cells = cs.toArray) :
    OX W P l L (.alloc t) ty (fun u L' => ∃ b, u = .pointer (some ⟨b, 0, none⟩) ∧ L' = pt b (.cells cs.toArray t) :: L) := fun ρ hρ w hw _ _ _ _ =>
  ⟨.value (.pointer (some ⟨w.heap.size, 0, none⟩)), { w with heap := w.heap.push (.cells cs.toArray t) }, _, _, by simp [execOp, Instr.alloc, newVar, newRow, hz, hc], .inl rfl, ⟨_, rfl, rfl⟩, hw.new _⟩
theorem OX_makeMap {t : TypeId} : OX W P l L (.makeMap t none) ty (fun u L' => ∃ b, u = .map (some b) ∧ L' = pt b (.map #[] 0) :: L) := fun ρ hρ w hw _ _ _ _ =>
  ⟨.value (.map (some w.heap.size)), { w with heap := w.heap.push (.map #[] 0) }, _, _, by simp [execOp, Instr.makeMap], .inl rfl, ⟨_, rfl, rfl⟩, hw.new _⟩
theorem OX_buildSlice {t e len : Nat} {parts : Array (Nat × Operand)} {ps : List (Nat × Value)} {cs : List Value} {ie : TypeInfo} {z : Value}
    (hu : P.underlying t = some (.slice e)) (hie : P.info? e = some ie) (hz : ie.zero = some z) (hsmall : ¬ len * ie.size > 2 ^ 24) (hpos : ¬ len * ie.size = 0)
    (hp : EvL l parts.toList ps)
    (h : Instr.fill (fun i => some (i * ie.size, ie.size)) ((Array.range (len * ie.size)).map (z.cells[· % z.cells.size]!)) ps = some cs.toArray) :
    OX W P l L (.buildSlice t len parts) ty (fun u L' => ∃ b, u = .slice (some ⟨b, 0, none⟩) len len ∧ L' = pt b (.cells cs.toArray e) :: L) := fun ρ hρ w hw _ _ _ _ => by
  have hm : (parts.map fun p => (p.1, ρ p.2)).toList = ps := by rw [Array.toList_map]; exact hp.eval hρ
  refine ⟨.value (.slice (some ⟨w.heap.size, 0, none⟩) len len), { w with heap := w.heap.push (.cells cs.toArray e) }, _, _, ?_, .inl rfl, ⟨_, rfl, rfl⟩, hw.new _⟩
  have := run_buildSlice (P := P) w t e len (parts.map fun p => (p.1, ρ p.2)) cs.toArray ie z hu hie hz hsmall hpos (by rw [hm]; exact h)
  simp [execOp, this]
/-- A slice literal without elements. -/
theorem OX_buildSlice0 {t e : Nat} {m : Nat} (hu : ∀ w, (underlying t).run P w = .ok (.slice e) w) (hz : ∀ w, (sizeOf e).run P w = .ok m w) :
    OX W P l L (.buildSlice t 0 #[]) ty (fun u L' => ∃ b, u = .slice (some ⟨b, 0, none⟩) 0 0 ∧ L' = pt b (.cells #[] e) :: L) := fun ρ hρ w hw _ _ _ _ =>
  ⟨.value (.slice (some ⟨w.heap.size, 0, none⟩) 0 0), { w with heap := w.heap.push (.cells #[] e) }, _, _, by
    have h0 : Array.map (fun _ => (default : Value)) (Array.range 0) = #[] := by simp
    simp [execOp, Instr.buildSlice, hu, hz, Instr.fill, newRow, h0], .inl rfl, ⟨_, rfl, rfl⟩, hw.new _⟩
theorem RD_build {t : Nat} {parts : Array (Nat × Operand)} {ps : List (Nat × Value)} {cs : Array Value}
    (hp : EvL l parts.toList ps) (h : P.built t ps = some cs) : RD P l (.build t parts) ty RU (.agg cs) := fun ρ hρ w _ _ _ _ _ => by
  have hm : (parts.map fun p => (p.1, ρ p.2)).toList = ps := by rw [Array.toList_map]; exact hp.eval hρ
  have := run_build (P := P) w t (parts.map fun p => (p.1, ρ p.2)) cs (by rw [hm]; exact h)
  simp [execOp, this]

/-! ### Stores -/
theorem run_store1 {w : World} {b off : Nat} {cs : List Value} {T : TypeId} {fz : Nat × Nat} {v u : Value} (H : Sat W (pt b (.cells cs.toArray T fz) :: R) w) (hf : fz = (0, 0) ∨ cs.length ≤ fz.1)
    (ho : v.oneCell' = true) (hu : cs[off]? = some u) : (store ⟨b, off, none⟩ v).run P w = .ok () (w.setCell ⟨b, off, none⟩ v) := by
  have hb := H.get
  have hlt : off < cs.length := (List.getElem?_eq_some_iff.1 hu).1
  have hc : w.cell? ⟨b, off, none⟩ = some u := by simp [World.cell?, hb, hu]
  have hz : w.frozen? ⟨b, off, none⟩ = false := by
    rcases hf with rfl | hf
    · simp [World.frozen?, hb]
    · simp [World.frozen?, hb]; omega
  rw [run_store P w _ v .plain ho, hc]
  simp [hz]
theorem OX_store {x y : Operand} {t b off : Nat} {cs : List Value} {T : TypeId} {v : Value} (hz : ∀ w, (sizeOf t).run P w = .ok 1 w)
    (hx : ev l x = some (.pointer (some ⟨b, off, none⟩))) (hy : ev l y = some v) (ho : v.oneCell' = true) (ho2 : v.cells = #[v]) (hlt : Nat.blt off cs.length = true) :
    OX W P l (pt b (.cells cs.toArray T) :: R) (.store t x y) ty (fun _ L' => L' = pt b (.cells (cs.set off v).toArray T) :: R) := fun ρ hρ w hw _ _ _ _ => by
  have hlt : off < cs.length := Nat.le_of_ble_eq_true hlt
  have hs := run_store1 (P := P) hw (.inl rfl) ho (off := off) (u := cs[off]) (by simp [hlt])
  refine ⟨.skip, w.setCell ⟨b, off, none⟩ v, undef, _, ?_, .inr ⟨rfl, rfl⟩, rfl, by simpa using hw.setCell off v⟩
  simp [execOp, hρ x _ hx, hρ y _ hy, Instr.storeAt, Instr.sureAddr, storeVar, hz, ho2, storeCells, Addr.add_eq, hs]

/-- cells written from place i on -/
def setL (xs : List Value) (i : Nat) : List Value → List Value
  | [] => xs
  | v :: r => setL (xs.set i v) (i + 1) r
theorem setL_length (vs : List Value) : ∀ (xs : List Value) (i : Nat), (setL xs i vs).length = xs.length := by
  induction vs with
  | nil => intro xs i; rfl
  | cons v r ih => intro xs i; simp [setL, ih]
theorem setL_get (vs : List Value) : ∀ (xs : List Value) (i j : Nat), i + vs.length ≤ xs.length → (setL xs i vs)[j]? = if i ≤ j ∧ j < i + vs.length then vs[j - i]? else xs[j]? := by
  induction vs with
  | nil => intro xs i j _; simp [setL]; omega
  | cons v r ih =>
    intro xs i j h
    simp at h
    simp only [setL]
    rw [ih _ _ _ (by simp; omega)]
    by_cases h1 : i + 1 ≤ j ∧ j < i + 1 + r.length
    · rw [if_pos h1, if_pos (by simp; omega)]
      have : j - i = (j - (i + 1)) + 1 := by omega
      rw [this]; rfl
    · rw [if_neg h1]
      by_cases h2 : j = i
      · subst h2
        rw [if_pos (by simp), List.getElem?_set_self (by omega)]; simp
      · rw [List.getElem?_set_ne (Ne.symm h2), if_neg (by simp; omega)]
theorem run_storeCells {T : TypeId} {fz : Nat × Nat} {b off : Nat} : ∀ (vs : List Value) (i : Nat) (cs : List Value) (w : World), Sat W (pt b (.cells cs.toArray T fz) :: R) w → (fz = (0, 0) ∨ cs.length ≤ fz.1) →
    (∀ v ∈ vs, v.oneCell' = true) → off + i + vs.length ≤ cs.length →
    ∃ w', (storeCells ⟨b, off, none⟩ vs i).run P w = .ok () w' ∧ Sat W (pt b (.cells (setL cs (off + i) vs).toArray T fz) :: R) w'
  | [], i, cs, w, H, _, _, _ => ⟨w, by simp [storeCells], H⟩
  | v :: r, i, cs, w, H, hf, ho, hl => by
    simp only [List.length_cons] at hl
    have hi : off + i < cs.length := by omega
    have hs := run_store1 (P := P) H hf (ho v (by simp)) (off := off + i) (u := cs[off + i]) (by simp [hi])
    have H' : Sat W (pt b (.cells (cs.set (off + i) v).toArray T fz) :: R) (w.setCell ⟨b, off + i, none⟩ v) := by simpa using H.setCell (off + i) v
    obtain ⟨w', hr, hS⟩ := run_storeCells (off := off) r (i + 1) (cs.set (off + i) v) _ H' (by simpa using hf) (fun u hu => ho u (by simp [hu])) (by simp; omega)
    refine ⟨w', ?_, by simpa [setL, Nat.add_assoc] using hS⟩
    simp [storeCells, Addr.add_eq, hs, hr]
/-- A struct stored whole. -/
theorem OX_storeA {x y : Operand} {t b off m : Nat} {cs vs : List Value} {T : TypeId} (hz : ∀ w, (sizeOf t).run P w = .ok m w) (hm : vs.length = m)
    (hx : ev l x = some (.pointer (some ⟨b, off, none⟩))) (hy : ev l y = some (.agg vs.toArray)) (ho : ∀ v ∈ vs, v.oneCell' = true) (hlt : off + m ≤ cs.length) :
    OX W P l (pt b (.cells cs.toArray T) :: R) (.store t x y) ty (fun _ L' => L' = pt b (.cells (setL cs off vs).toArray T) :: R) := fun ρ hρ w hw _ _ _ _ => by
  obtain ⟨w', hr, hS⟩ := run_storeCells (P := P) (off := off) vs 0 cs w hw (.inl rfl) ho (by omega)
  refine ⟨.skip, w', undef, _, ?_, .inr ⟨rfl, rfl⟩, rfl, by simpa using hS⟩
  simp [execOp, hρ x _ hx, hρ y _ hy, Instr.storeAt, Instr.sureAddr, storeVar, hz, Value.cells, hm, hr]
end
end Go.Proofs.YtdhpjdhloaoepaaGreat

/- Rows that grow, bytes out of strings, maps. -/
namespace Go.Proofs.YtdhpjdhloaoepaaGreat
open Go

section
variable {W : World} {P : Program} {l : Env} {ty : TypeId} {L R F : List HProp} {v : Value}

theorem run_firstCells {z m c2 : Nat} {a2 : Option Addr} {ds : List Value} {w : World} (hd : ds.length = m * z) (hR : rowR a2 ds (fun b => w.heap[b]?)) :
    (Builtin.firstCells z m (.slice a2 m c2)).run P w = .ok ds.toArray w := by
  by_cases h0 : ds = []
  · subst h0
    have hm : m * z = 0 := hd.symm
    cases a2 with
    | none => simp [Builtin.firstCells]
    | some p =>
      simp only [Builtin.firstCells, hm]
      rfl
  · obtain ⟨b, off, rfl, hc⟩ := hR.some (List.length_pos_iff.2 h0)
    have := run_loadCells_list (P := P) w ⟨b, off, none⟩ ds (fun j v h => by rw [Addr.add_eq]; exact (hc j v h).cell)
    simp [Builtin.firstCells, ← hd, this]

theorem zeroCells_size (zs : Array Value) (k : Nat) : (Builtin.zeroCells zs k).size = k * zs.size := by simp [Builtin.zeroCells]

theorem rowP_abs {E z : Nat} {a : Option Addr} {n c : Nat} {cs : List Value} [hF : Abs R] {h : Hp} (H : Den (rowP E z a n c cs :: R) h) : Den R h := hF.h _ _ H

theorem OX_append {x y : Operand} {t t2 E z n c m c2 : Nat} {a a2 : Option Addr} {cs ds : List Value} {i : TypeInfo} {zv : Value}
    (ht : P.underlying t = some (.slice E)) (ht2 : P.underlying t2 = some (.slice E)) (hi : P.info? E = some i) (hz : i.zero = some zv) (hsz : i.size = z) (hzc : zv.cells.size = z)
    [hF : Abs R] (hx : ev l x = some (.slice a n c)) (hy : ev l y = some (.slice a2 m c2)) (hds : ds.length = m * z) (hone : ∀ v ∈ ds, v.oneCell' = true)
    (hR : Has W (rowP E z a n c cs :: R) (rowR a2 ds)) (hb : (n + m) * i.bytes ≤ 140737488355328) (hb2 : n + m ≤ 9223372036854775807) :
    OX W P l (rowP E z a n c cs :: R) (.call ⟨.builtin .append, #[x, y], #[t, t2]⟩) ty
      (fun u L' => ∃ a' c', u = .slice a' (n + m) c' ∧ L' = rowP E z a' (n + m) c' (cs ++ ds) :: R) := fun ρ hρ w hw _ _ _ _ => by
  have hlen : cs.length = n * z ∧ n ≤ c := by
    obtain ⟨h1, H, _⟩ := Den_head hw.2.2.2; exact rowP_len H
  have hcs : ∀ w, Sat W (rowP E z a n c cs :: R) w → (Builtin.firstCells z n (.slice a n c)).run P w = .ok cs.toArray w := fun w hw =>
    run_firstCells hlen.1 (Has.row (i := 0) rfl w hw)
  have hdsr : ∀ w, Sat W (rowP E z a n c cs :: R) w → (Builtin.firstCells z m (.slice a2 m c2)).run P w = .ok ds.toArray w := fun w hw =>
    run_firstCells hds (hR w hw)
  have hu : ∀ w, (underlying t).run P w = .ok (.slice E) w := fun w => run_underlying ht w
  have hu2 : ∀ w, (underlying t2).run P w = .ok (.slice E) w := fun w => run_underlying ht2 w
  have hs : ∀ w, (sizeOf E).run P w = .ok z w := fun w => by simp [sizeOf, typeInfo, hi, hsz]
  have hti : ∀ w, (typeInfo E).run P w = .ok i w := fun w => by simp [typeInfo, hi]
  have hzv : ∀ w, (zeroValue E).run P w = .ok zv w := fun w => by simp [zeroValue, typeInfo, hi, hz]
  have run : ∀ (v : Value) (w' : World), (Builtin.append_ #[t, t2] ty #[.slice a n c, .slice a2 m c2]).run P w = .ok v w' →
      ∀ d p af g, (execOp ρ ⟨d, .call ⟨.builtin .append, #[x, y], #[t, t2]⟩, ty, p, af, g⟩).run P w = .ok (.value v) w' := fun v w' h d p af g => by
    simp [execOp, resolve, hρ x _ hx, hρ y _ hy, invoke, builtin, h]
  by_cases hroom : n + m ≤ c
  · obtain ⟨h1, h2, hdj, e, H, hr⟩ := hw.2.2.2
    rcases H with ⟨rfl, rfl, rfl, he⟩ | ⟨b, off, xs, fz, rfl, hp, hl, hnc, hoff, hfz, hcell⟩
    · have hm : m = 0 := by omega
      subst hm
      have hd0 : ds = [] := by simpa using hds
      subst hd0
      refine ⟨_, w, .slice a 0 0, _, run _ w ?_ _ _ _ _, .inl rfl, ⟨a, 0, rfl, rfl⟩, hw⟩
      have h0 := hdsr w hw
      have hst : ∀ p : Addr, (storeCells p []).run P w = .ok () w := fun p => by simp [storeCells]
      cases a <;> simp [Builtin.append_, hu, hu2, hs, Builtin.lenOf, h0, hst]
    · have hw' : Sat W (pt b (.cells xs.toList.toArray E fz) :: R) w := ⟨hw.1, hw.2.1, hw.2.2.1, h1, h2, hdj, e, by simpa using hp, hr⟩
      have hnm : off + n * z + ds.length ≤ xs.toList.length := by
        have : (n + m) * z ≤ c * z := Nat.mul_le_mul_right _ hroom
        rw [Nat.add_mul] at this
        simp; omega
      obtain ⟨w1, hr1, hS⟩ := run_storeCells (P := P) (off := off + n * z) ds 0 xs.toList w hw' (by simpa using hfz) hone hnm
      refine ⟨_, w1, .slice (some ⟨b, off, none⟩) (n + m) c, _, run _ w1 ?_ _ _ _ _, .inl rfl, ⟨some ⟨b, off, none⟩, c, rfl, rfl⟩, hS.imp ?_⟩
      · have h0 := hdsr w hw
        simp [Builtin.append_, hu, hu2, hs, Builtin.lenOf, h0, hroom, Addr.add_eq, hr1]
      · rintro q ⟨q1, q2, qd, qe, qp, qr⟩
        refine ⟨q1, q2, qd, qe, .inr ⟨b, off, _, fz, rfl, qp, ?_, hroom, ?_, ?_, ?_⟩, qr⟩
        · simp [hl, hds, Nat.add_mul]
        · simpa [setL_length] using hoff
        · simpa [setL_length] using hfz
        · intro j v hv
          have hg := setL_get ds xs.toList (off + n * z) (off + j) hnm
          simp only [List.getElem?_toArray, Nat.add_zero]
          rw [hg]
          rw [List.getElem?_append] at hv
          split at hv
          · rename_i hj
            rw [if_neg (by omega)]
            simpa using hcell j v hv
          · rename_i hj
            have hjd := lt_len hv
            rw [if_pos (by omega)]
            rw [← hv]; congr 1; omega
  · have hg : c < n + m := by omega
    have hfit := growslice_fits (bytes := i.bytes) hg hb
    have h63 : ¬ (9223372036854775807 < ((n : Int) + (m : Int))) := by omega
    have h48 : ¬ (281474976710656 < Builtin.nextslicecap (n + m) c * i.bytes) := by omega
    have hwd : Sat W (rowP E z a n c cs :: R) w.drew := hw
    have h1 := hcs _ hwd
    have h2 := hdsr _ hwd
    have hge := grownCap_ge w (n + m) c E
    let N := grownCap w (n + m) c E
    let ys : Array Value := cs.toArray ++ ds.toArray ++ Builtin.zeroCells zv.cells (N - (n + m))
    have hys : ys.size = N * z := by
      have : (N - (n + m)) * z + (n + m) * z = N * z := by rw [← Nat.add_mul]; congr 1; omega
      rw [Nat.add_mul] at this
      simp [ys, zeroCells_size, hzc, hlen.1, hds]; omega
    refine ⟨_, w.drew.alloc (.cells ys E), .slice (some ⟨w.heap.size, 0, none⟩) (n + m) N, _, run _ _ ?_ _ _ _ _, .inl rfl, ⟨_, N, rfl, rfl⟩, (hwd.new (.cells ys E)).imp ?_⟩
    · simp [Builtin.append_, hu, hu2, hs, hti, hzv, Builtin.lenOf, hroom, h63, h48, Question.forced, h1, h2, newRow, grownCap, ys, N]
    · rintro q ⟨q1, q2, qd, qe, qp, qr⟩
      refine ⟨q1, q2, qd, qe, .inr ⟨w.heap.size, 0, ys, (0, 0), rfl, qp, by simp [hlen.1, hds, Nat.add_mul], hge, by rw [hys]; simp, .inl rfl, ?_⟩, rowP_abs qr⟩
      intro j v hv
      have hj := lt_len hv
      have hj2 : j < (cs.toArray ++ ds.toArray).size := by simpa using hj
      simp only [ys, Nat.zero_add]
      rw [Array.getElem?_append_left hj2]
      simpa using hv

/-- string to []byte: a new row. -/
theorem OX_s2b {x : Operand} {src dst e : TypeId} {s : ByteArray} {d : TypeDesc} (hs : P.underlying src = some d) (hd : P.underlying dst = some (.slice e)) (he : P.underlying e = some (.int .u8)) (hx : ev l x = some (.string s)) :
    OX W P l L (.convert src dst x) ty (fun u L' => ∃ b c, u = .slice (some ⟨b, 0, none⟩) s.size c ∧ L' = rowP e 1 (some ⟨b, 0, none⟩) s.size c (s.data.toList.map byteV) :: L) := fun ρ hρ w hw _ _ _ _ => by
  have hrun := Lib.run_convert_string_bytes (P := P) w src dst e s hs hd he
  let cells := Lib.bytesCells w e s
  have h1 : Sat W (pt w.heap.size (.cells cells e) :: L) (w.drew.alloc (.cells cells e)) := Sat.new (w := w.drew) hw _
  have h2 : Sat W (pt w.heap.size (.cells cells e (cells.size, cells.size + 1)) :: L) (Lib.bytesWorld w e s) := by
    refine h1.turn rfl rfl rfl fun k => ?_
    by_cases hk : k = w.heap.size
    · subst hk; rw [if_pos rfl]; exact Lib.bytesWorld_at_new w e s
    · rw [if_neg hk]
      simp only [Lib.bytesWorld, World.freeze]
      rw [if_neg (by decide)]
      rw [Array.getElem?_modify, if_neg (fun x => hk x.symm)]
  have hge := grownCap_ge w s.size 0 e
  have hsz : cells.size = grownCap w s.size 0 e := by
    have hge' : s.data.size ≤ grownCap w s.size 0 e := hge
    simp only [cells, Lib.bytesCells, Array.size_append, Array.size_map, Array.size_replicate]
    show s.data.size + (grownCap w s.size 0 e - s.data.size) = _
    omega
  refine ⟨_, Lib.bytesWorld w e s, .slice (some ⟨w.heap.size, 0, none⟩) s.size (grownCap w s.size 0 e), _, by simp [execOp, hρ x _ hx, hrun], .inl rfl, ⟨_, _, rfl, rfl⟩, h2.imp ?_⟩
  rintro q ⟨q1, q2, qd, qe, qp, qr⟩
  refine ⟨q1, q2, qd, qe, .inr ⟨w.heap.size, 0, _, _, rfl, qp, by rw [List.length_map, Array.length_toList, Nat.mul_one]; rfl, hge, ?_, .inr (Nat.le_refl _), ?_⟩, qr⟩
  · rw [hsz]; omega
  · intro j v hv
    have hj := lt_len hv
    simp only [cells, Lib.bytesCells, Nat.zero_add]
    rw [Array.getElem?_append_left (by simpa using hj)]
    simpa [byteV] using hv

/-! ### A store into a row of one's own -/
theorem OX_storeRow {x y : Operand} {t E z n c j : Nat} {a : Option Addr} {cs : List Value} {v : Value} (hz : ∀ w, (sizeOf t).run P w = .ok 1 w)
    (hx : ev l x = some (.pointer (some (elA a j)))) (hy : ev l y = some v) (ho : v.oneCell' = true) (ho2 : v.cells = #[v]) (hlt : j < cs.length) :
    OX W P l (rowP E z a n c cs :: R) (.store t x y) ty (fun _ L' => L' = rowP E z a n c (cs.set j v) :: R) := fun ρ hρ w hw _ _ _ _ => by
  obtain ⟨h1, h2, hdj, e, H, hr⟩ := hw.2.2.2
  rcases H with ⟨_, _, rfl, _⟩ | ⟨b, off, xs, fz, rfl, hp, hl, hnc, hoff, hfz, hcell⟩
  · simp at hlt
  · have hw' : Sat W (pt b (.cells xs.toList.toArray E fz) :: R) w := ⟨hw.1, hw.2.1, hw.2.2.1, h1, h2, hdj, e, by simpa using hp, hr⟩
    have hx1 := hcell j cs[j] (by simp)
    have hs := run_store1 (P := P) hw' (by simpa using hfz) ho (off := off + j) (u := cs[j]) (by simpa using hx1)
    have hj2 : off + j < xs.size := (Array.getElem?_eq_some_iff.1 hx1).1
    refine ⟨.skip, w.setCell ⟨b, off + j, none⟩ v, undef, _, ?_, .inr ⟨rfl, rfl⟩, rfl, (hw'.setCell (off + j) v).imp ?_⟩
    · simp only [elA] at hx
      simp [execOp, hρ x _ hx, hρ y _ hy, Instr.storeAt, Instr.sureAddr, storeVar, hz, ho2, storeCells, Addr.add_eq, hs]
    · rintro q ⟨q1, q2, qd, qe, qp, qr⟩
      refine ⟨q1, q2, qd, qe, .inr ⟨b, off, _, fz, rfl, qp, by simpa using hl, hnc, by simpa using hoff, by simpa using hfz, ?_⟩, qr⟩
      intro k u hk
      by_cases e : k = j
      · subst e
        rw [List.getElem?_set_self hlt] at hk
        cases hk
        simp [hj2]
      · rw [List.getElem?_set_ne (Ne.symm e)] at hk
        rw [Array.getElem?_setIfInBounds_ne (by omega)]
        simpa using hcell k u hk
end
end Go.Proofs.YtdhpjdhloaoepaaGreat
