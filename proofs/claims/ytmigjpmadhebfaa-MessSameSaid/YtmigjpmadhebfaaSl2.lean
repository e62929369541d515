/- A walk over code whose memory is told by what one owns: the frame as a list of slots, the way on as a list of codes. -/
import Derived.Test.YtmigjpmadhebfaaSl1
namespace Go.Proofs.Ytmigjpmadhebfaa
open Go

theorem nbeq {a b : Nat} (h : a ≠ b) : Nat.beq a b = false := by
  cases e : Nat.beq a b with
  | false => rfl
  | true => exact absurd (Nat.eq_of_beq_eq_true e) h

abbrev Env := List (Nat × Value)
def look : Env → Nat → Option Value
  | [], _ => none
  | (d, v) :: l, t => bif Nat.beq d t then some v else look l t
def ev (l : Env) : Operand → Option Value
  | .tmp t => look l t
  | .const v => some v
  | .global g => some (.pointer (some ⟨g, 0, none⟩))
  | .func f => some (.func (.func f) #[] #[])
structure Agree (n : Nat) (l : Env) (a : Act) : Prop where
  defers : a.defers = []
  size : a.tmps.size = n
  slot : ∀ t v, look l t = some v → a.tmps[t]? = some v

theorem Agree.eval {n : Nat} {l : Env} {a : Act} (h : Agree n l a) {x : Operand} {v : Value} (hx : ev l x = some v) : a.eval x = v := by
  cases x with
  | tmp t => simp [Act.eval, h.slot t v hx]
  | _ => simpa [ev, Act.eval] using hx
def putE (dst : Option Tmp) (v : Value) (l : Env) : Env :=
  match dst with
  | some d => (d, v) :: l
  | none => l
theorem Agree.put {n : Nat} {l : Env} {a : Act} (h : Agree n l a) {dst : Option Tmp} {v : Value} (hd : ∀ d, dst = some d → d < n) : Agree n (putE dst v l) (a.put dst v) := by
  cases dst with
  | none => exact h
  | some d =>
    have hdn := hd d rfl
    refine ⟨h.defers, by simp [Act.put, h.size], fun t u hu => ?_⟩
    simp only [putE, look] at hu
    simp only [Act.put]
    by_cases e : d = t
    · subst e
      simp at hu
      subst hu
      simp [h.size, hdn]
    · have : Nat.beq d t = false := nbeq e
      rw [this] at hu
      rw [Array.getElem?_setIfInBounds_ne e]
      exact h.slot t u hu

/-- What the one frame knows, the other knows too. -/
def EnvLe (l l' : Env) : Prop := ∀ t v, look l t = some v → look l' t = some v
theorem EnvLe.refl (l : Env) : EnvLe l l := fun _ _ h => h
theorem EnvLe.nil {l : Env} : EnvLe [] l := fun _ _ h => by cases h
theorem EnvLe.cons {d : Nat} {v : Value} {l l' : Env} (h : look l' d = some v) (r : EnvLe l l') : EnvLe ((d, v) :: l) l' := fun t u hu => by
  simp only [look] at hu
  by_cases e : d = t
  · subst e; simp at hu; subst hu; exact h
  · have : Nat.beq d t = false := nbeq e
    rw [this] at hu
    exact r t u hu
theorem Agree.le {n : Nat} {l l' : Env} {a : Act} (h : Agree n l' a) (e : EnvLe l l') : Agree n l a := ⟨h.defers, h.size, fun t v hv => h.slot t v (e t v hv)⟩

inductive Kont where
  | stop (fn : Func) (K : Value → List HProp → Prop)
  | seq (c : Code) (k : Kont)
  | block (id : Nat) (k : Kont)
  | loop (c : Code) (k : Kont)
/-- A loop that goes on with a round of c. -/
def Goes (P : Program) (c : Code) (Q : Exit → Act → World → Prop) (a : Act) (w : World) : Prop :=
  ∀ (b : Frame) (ks : List Item) (cs : List Frame), ∃ e a' w', Q e a' w' ∧ Arrives P (lone (b.at a (.code c :: .inLoop c :: ks)) cs w) b ks cs e a' w'
def den (W : World) (P : Program) : Kont → Exit → Act → World → Prop
  | .stop fn K => bodyPost P fn fun e w => ∃ v L, e = .returned v ∧ K v L ∧ Sat W L w
  | .seq c k => Exit.then (c.wp P (den W P k)) (den W P k)
  | .block id k => Exit.inBlock id (den W P k)
  | .loop c k => Exit.then (Goes P c (den W P k)) (den W P k)
def Kont.root : Kont → Func × (Value → List HProp → Prop)
  | .stop fn K => (fn, K)
  | .seq _ k | .block _ k | .loop _ k => k.root
def Kont.out (id : Nat) : Kont → Option Kont
  | .stop .. => none
  | .seq _ k => k.out id
  | .block id' k => bif Nat.beq id id' then some k else k.out id
  | .loop _ k => k.out id

section
variable {W : World} {P : Program} {n : Nat}
theorem den_ret (k : Kont) (a : Act) (w : World) : den W P k .ret a w = bodyPost P k.root.1 (fun e w => ∃ v L, e = .returned v ∧ k.root.2 v L ∧ Sat W L w) .ret a w := by
  induction k with
  | stop => rfl
  | seq c k ih => exact ih
  | block id k ih => exact ih
  | loop c k ih => exact ih
theorem den_panic (k : Kont) (c : List PanicEntry) (a : Act) (w : World) : den W P k (.panic c) a w → False := by
  induction k with
  | stop =>
    rintro ⟨_, v, L, e, _⟩
    cases e
  | seq c k ih => exact ih
  | block id k ih => exact ih
  | loop c k ih => exact ih
theorem den_out {id : Nat} {k k' : Kont} (h : k.out id = some k') {a : Act} {w : World} (hd : den W P k' .normal a w) : den W P k (.exit id) a w := by
  induction k with
  | stop => cases h
  | seq c k ih => exact ih h
  | block id' k ih =>
    simp only [Kont.out] at h
    by_cases e : id = id'
    · subst e; simp at h; subst h; simpa [den, Exit.inBlock] using hd
    · have hb : Nat.beq id id' = false := nbeq e
      rw [hb] at h
      simpa [den, Exit.inBlock, e] using ih h
  | loop c k ih => exact ih h

/-- From a frame that knows l, in a world of the blocks L, the code c goes as k wants. -/
def SC (W : World) (P : Program) (n : Nat) (c : Code) (k : Kont) (l : Env) (L : List HProp) : Prop := ∀ a w, Agree n l a → Sat W L w → c.wp P (den W P k) a w
/-- .. the way on k goes as it wants. -/
def SN (W : World) (P : Program) (n : Nat) (k : Kont) (l : Env) (L : List HProp) : Prop := ∀ a w, Agree n l a → Sat W L w → den W P k .normal a w
/-- .. the operations os of a region. -/
def SR (W : World) (P : Program) (n : Nat) (ops : Array Oper) (os : List Oper) (k : Kont) (l : Env) (L : List HProp) : Prop := ∀ a w, Agree n l a → Sat W L w → wpList P ops (den W P k) os a w

variable {k k' : Kont} {l l' : Env} {L L' : List HProp} {c c' : Code}
theorem SC.le (h : SC W P n c k l L) (e : EnvLe l l') : SC W P n c k l' L := fun a w ha hw => h a w (ha.le e) hw
theorem SN.le (h : SN W P n k l L) (e : EnvLe l l') : SN W P n k l' L := fun a w ha hw => h a w (ha.le e) hw
theorem SR.le {ops : Array Oper} {os : List Oper} (h : SR W P n ops os k l L) (e : EnvLe l l') : SR W P n ops os k l' L := fun a w ha hw => h a w (ha.le e) hw
theorem SC.imp (e : ∀ m, Den L' m → Den L m) (h : SC W P n c k l L) : SC W P n c k l L' := fun a w ha hw => h a w ha (hw.imp e)
theorem SN.imp (e : ∀ m, Den L' m → Den L m) (h : SN W P n k l L) : SN W P n k l L' := fun a w ha hw => h a w ha (hw.imp e)
theorem SR.imp {ops : Array Oper} {os : List Oper} (e : ∀ m, Den L' m → Den L m) (h : SR W P n ops os k l L) : SR W P n ops os k l L' := fun a w ha hw => h a w ha (hw.imp e)
theorem SC.pick (i : Nat) (h : SC W P n c k l (pick i L)) : SC W P n c k l L := h.imp fun m => Den_perm (pick_perm i L) m
theorem SN.pick (i : Nat) (h : SN W P n k l (pick i L)) : SN W P n k l L := h.imp fun m => Den_perm (pick_perm i L) m
theorem SR.pick (i : Nat) {ops : Array Oper} {os : List Oper} (h : SR W P n ops os k l (pick i L)) : SR W P n ops os k l L := h.imp fun m => Den_perm (pick_perm i L) m

theorem SC_seq (h : SC W P n c (.seq c' k) l L) : SC W P n (.seq c c') k l L := fun a w ha hw => wp_seq (h a w ha hw)
theorem SC_skip (h : SN W P n k l L) : SC W P n .skip k l L := fun a w ha hw => wp_skip (h a w ha hw)
theorem SC_block {id : Nat} (h : SC W P n c (.block id k) l L) : SC W P n (.block id c) k l L := fun a w ha hw => wp_block (h a w ha hw)
theorem SC_exit {id : Nat} (ho : k.out id = some k') (h : SN W P n k' l L) : SC W P n (.exit id) k l L := fun a w ha hw => wp_exit (den_out ho (h a w ha hw))
theorem SC_cond {x : Operand} {t : Bool} (hx : ev l x = some (.bool t)) (h1 : t = true → SC W P n c k l L) (h2 : t = false → SC W P n c' k l L) : SC W P n (.cond x c c') k l L :=
  fun a w ha hw => wp_cond_split (ha.eval hx) (fun e => h1 e a w ha hw) (fun e => h2 e a w ha hw)
theorem SC_cond_true {x : Operand} {t : Bool} (hx : ev l x = some (.bool t)) (ht : t = true) (h1 : SC W P n c k l L) : SC W P n (.cond x c c') k l L :=
  SC_cond hx (fun _ => h1) (fun e => by rw [ht] at e; cases e)
theorem SC_cond_false {x : Operand} {t : Bool} (hx : ev l x = some (.bool t)) (ht : t = false) (h1 : SC W P n c' k l L) : SC W P n (.cond x c c') k l L :=
  SC_cond hx (fun e => by rw [ht] at e; cases e) (fun _ => h1)
theorem Goes_of (h : SC W P n c (.loop c k) l L) {a : Act} {w : World} (ha : Agree n l a) (hw : Sat W L w) : Goes P c (den W P k) a w := by
  intro b ks cs
  obtain ⟨e, a1, w1, hq, harr⟩ := h a w ha hw b (.inLoop c :: ks) cs
  cases e with
  | normal =>
    obtain ⟨e2, a2, w2, hq2, harr2⟩ := hq b ks cs
    exact ⟨e2, a2, w2, hq2, .of_steps (Steps.trans harr (.one step_inLoop)) harr2⟩
  | exit id => exact ⟨_, a1, w1, hq, .pass (x := .inLoop c) rfl (fun _ _ => .inl (by simp)) harr⟩
  | goto l => exact ⟨_, a1, w1, hq, .pass (x := .inLoop c) rfl (fun _ _ => .inl (by simp)) harr⟩
  | ret => exact ⟨_, a1, w1, hq, .pass (x := .inLoop c) rfl (fun _ _ => .inl (by simp)) harr⟩
  | panic ch => exact ⟨_, a1, w1, hq, .pass (x := .inLoop c) rfl (fun _ _ => .inl (by simp)) harr⟩
  | outgrown => exact ⟨_, a1, w1, hq, .pass (x := .inLoop c) rfl (fun _ _ => .inl (by simp)) harr⟩
/-- A loop is entered: its body, with the loop itself behind it. -/
theorem SC_loop (h : SC W P n c (.loop c k) l L) : SC W P n (.loop c) k l L := fun a w ha hw b ks cs =>
  let ⟨e, a', w', q, r⟩ := Goes_of h ha hw b ks cs
  ⟨e, a', w', q, .of_steps (.one step_loop) r⟩
theorem SN_loop (h : SC W P n c (.loop c k) l L) : SN W P n (.loop c k) l L := fun _ _ ha hw => Goes_of h ha hw
theorem SN_seq (h : SC W P n c k l L) : SN W P n (.seq c k) l L := h
theorem SN_block {id : Nat} (h : SN W P n k l L) : SN W P n (.block id k) l L := h
theorem SC_region {id : Nat} {os : List Oper} (h : SR W P n os.toArray os k l L) : SC W P n (.region id os.toArray false) k l L := fun a w ha hw => wp_region_lit (h a w ha hw)
theorem SR_nil {ops : Array Oper} (h : SN W P n k l L) : SR W P n ops [] k l L := h
end
end Go.Proofs.Ytmigjpmadhebfaa
