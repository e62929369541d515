/- Regions whose order is drawn: a row of operations in one order stands for all orders, where those that only read come first and keep their facts. -/
import Derived.Test.YtmigjpmadhebfaaSl3
namespace Go.Proofs.Ytmigjpmadhebfaa
open Go

/-- Blocks L let one read R. -/
def Has (W : World) (L : List HProp) (R : Hp → Prop) : Prop := ∀ w, Sat W L w → R (fun b => w.heap[b]?)
/-- Where R is read, operation op comes to v and turns nothing. -/
def RD (P : Program) (l : Env) (op : Op) (ty : TypeId) (R : Hp → Prop) (v : Value) : Prop :=
  ∀ (ρ : Operand → Value), (∀ x u, ev l x = some u → ρ x = u) → ∀ (w : World), R (fun b => w.heap[b]?) →
    ∀ dst pos after g, (execOp ρ ⟨dst, op, ty, pos, after, g⟩).run P w = .ok (.value v) w
def RU : Hp → Prop := fun _ => True
/-- What operation op does to the blocks L. -/
def OX (W : World) (P : Program) (l : Env) (L : List HProp) (op : Op) (ty : TypeId) (K : Value → List HProp → Prop) : Prop :=
  ∀ (ρ : Operand → Value), (∀ x u, ev l x = some u → ρ x = u) → ∀ (w : World), Sat W L w → ∀ dst pos after g,
    ∃ nx w' v L', (execOp ρ ⟨dst, op, ty, pos, after, g⟩).run P w = .ok nx w' ∧ (nx = .value v ∨ (nx = .skip ∧ v = undef)) ∧ K v L' ∧ Sat W L' w'

section
variable {W : World} {P : Program} {n : Nat} {k k' : Kont} {l l' : Env} {L L' : List HProp} {ops : Array Oper} {os : List Oper}
variable {op : Op} {ty : TypeId} {pos : String} {after : Array Edge} {R : Hp → Prop} {v : Value} {d : Nat}

theorem Has.u : Has W L RU := fun _ _ => trivial
theorem lts {d : Nat} (h : Nat.blt d n = true) : ∀ e, some d = some e → e < n := fun e he => by
  cases he; exact Nat.le_of_ble_eq_true h
theorem ltn : ∀ e, (none : Option Nat) = some e → e < n := fun _ he => by cases he

theorem SR_rd (hr : RD P l op ty R v) (hR : Has W L R) (hd : Nat.blt d n = true) (h : SR W P n ops os k ((d, v) :: l) L) : SR W P n ops (⟨some d, op, ty, pos, after, none⟩ :: os) k l L :=
  SR_val (fun ρ hρ w hw => hr ρ hρ w (hR w hw) _ _ _ _) (lts hd) h
theorem SR_pu (hr : RD P l op ty RU v) (hd : Nat.blt d n = true) (h : SR W P n ops os k ((d, v) :: l) L) : SR W P n ops (⟨some d, op, ty, pos, after, none⟩ :: os) k l L :=
  SR_rd hr Has.u hd h
theorem SR_ox {K : Value → List HProp → Prop} (hx : OX W P l L op ty K) (hd : Nat.blt d n = true) (h : ∀ v L', K v L' → SR W P n ops os k ((d, v) :: l) L') :
    SR W P n ops (⟨some d, op, ty, pos, after, none⟩ :: os) k l L :=
  SR_op (fun ρ hρ w hw => hx ρ hρ w hw _ _ _ _) (lts hd) h
theorem SR_ox0 {K : Value → List HProp → Prop} (hx : OX W P l L op ty K) (h : ∀ v L', K v L' → SR W P n ops os k l L') :
    SR W P n ops (⟨none, op, ty, pos, after, none⟩ :: os) k l L :=
  SR_op (fun ρ hρ w hw => hx ρ hρ w hw _ _ _ _) ltn h
end

/-! ### The drawn order -/
/-- Does operation j wait for operation q? -/
def waits (ops : Array Oper) (j q : Nat) : Bool :=
  match ops.toList[j]? with
  | some o => o.after.toList.any fun e => Region.binds .any e && Nat.beq e.on q
  | none => false
abbrev Facts := List (Nat × (Hp → Prop))
/-- The facts that must still hold behind operation j. -/
def Holds (ops : Array Oper) (j : Nat) (w w' : World) : Facts → Prop
  | [] => True
  | (q, T) :: r => (waits ops j q = false → T (fun b => w.heap[b]?) → T (fun b => w'.heap[b]?)) ∧ Holds ops j w w' r
theorem Holds.refl {ops : Array Oper} {j : Nat} {w : World} : ∀ Ts, Holds ops j w w Ts
  | [] => trivial
  | _ :: r => ⟨fun _ h => h, Holds.refl r⟩
/-- Whatever order comes, and the facts hold behind each operation that does not wait for their reader. -/
def wpAnyT (P : Program) (ops : Array Oper) (Q : Exit → Act → World → Prop) (Ts : Facts) : Nat → Array Bool → Act → World → Prop
  | 0, listed, a, w => Region.ready .any ops listed = [] ∧ Q .normal a w
  | fuel + 1, listed, a, w =>
    (Region.ready .any ops listed = [] → Q .normal a w) ∧
    ∀ i ∈ Region.ready .any ops listed, wpOp P ops Q i (fun a' w' => Holds ops i w w' Ts ∧ wpAnyT P ops Q Ts fuel (listed.setIfInBounds i true) a' w') a w

section
variable {P : Program} {ops : Array Oper} {Q : Exit → Act → World → Prop}
theorem wpAny_of_T {Ts : Facts} : ∀ (fuel : Nat) (listed : Array Bool) (a : Act) (w : World), wpAnyT P ops Q Ts fuel listed a w → wpAny P .any ops Q fuel listed a w
  | 0, _, _, _, h => h
  | fuel + 1, _, _, _, h => ⟨h.1, fun i hi => wpOp_mono (fun a' w' h' => wpAny_of_T fuel _ a' w' h'.2) (h.2 i hi)⟩
theorem wpAnyT_less {T : Nat × (Hp → Prop)} {Ts : Facts} : ∀ (fuel : Nat) (listed : Array Bool) (a : Act) (w : World), wpAnyT P ops Q (T :: Ts) fuel listed a w → wpAnyT P ops Q Ts fuel listed a w
  | 0, _, _, _, h => h
  | fuel + 1, _, _, _, h => ⟨h.1, fun i hi => wpOp_mono (fun a' w' h' => ⟨h'.1.2, wpAnyT_less fuel _ a' w' h'.2⟩) (h.2 i hi)⟩

theorem wpAnyT_first {i : Nat} {oi : Oper} {v : Value} {T : Hp → Prop} {Ts : Facts} (hi : ops[i]? = some oi) (hsel : ∀ (j : Nat) (o : Oper) cs b, ops[j]? = some o → o.op ≠ .select cs b)
    (hQ : ∀ c a w, Q (.panic c) (a.put oi.dst v) w → Q (.panic c) a w) :
    ∀ (fuel : Nat) (listed : Array Bool) (a : Act) (w : World),
      (∀ j oj, ops[j]? = some oj → j ≠ i → listed.getD j true = false → (∀ e ∈ oj.after, Region.binds .any e = true → e.on ≠ i) → oi.apart ops oj = true) →
      i ∈ Region.ready .any ops listed → YieldsIf P ops (fun w => T (fun b => w.heap[b]?)) oi v a → T (fun b => w.heap[b]?) →
      wpAnyT P ops Q ((i, T) :: Ts) fuel (listed.setIfInBounds i true) (a.put oi.dst v) w → wpAnyT P ops Q Ts (fuel + 1) listed a w := by
  intro fuel
  induction fuel with
  | zero =>
    intro listed a w _ hr hy hS H
    refine ⟨fun h => (by rw [h] at hr; cases hr), fun j hj => ?_⟩
    by_cases hji : j = i
    · subst hji; exact hy.wpOp hi hS ⟨Holds.refl _, H⟩
    · have := ready_mono hj hji
      rw [H.1] at this
      cases this
  | succ fuel ih =>
    intro listed a w hfree hr hy hS H
    refine ⟨fun h => (by rw [h] at hr; cases hr), fun j hj => ?_⟩
    by_cases hji : j = i
    · subst hji; exact hy.wpOp hi hS ⟨Holds.refl _, wpAnyT_less _ _ _ _ H⟩
    · have h1 := H.2 j (ready_mono hj hji)
      obtain ⟨hjun, oj, hoj, hall⟩ := mem_ready.1 hj
      have hnot : ∀ e ∈ oj.after, Region.binds .any e = true → e.on ≠ i := fun e he hb heq => by
        have h1 := hall e he hb
        have h0 := (mem_ready.1 hr).1
        rw [heq] at h1
        rcases Nat.lt_or_ge i listed.size with h' | h'
        · simp [h'] at h0 h1; rw [h0] at h1; cases h1
        · simp [Array.getElem?_eq_none h'] at h1
      have hw : waits ops j i = false := by
        unfold waits
        rw [Array.getElem?_toList, hoj]
        simp only [List.any_eq_false]
        intro e he
        cases hb : Region.binds .any e
        · simp
        · simp only [Bool.true_and]
          rw [nbeq (hnot e (Array.mem_toList_iff.1 he) hb)]; simp
      have h2 := wpOp_putIf hoj (hfree j oj hoj hji hjun hnot) (fun cs b => hsel i oi cs b hi) (fun cs b => hsel j oj cs b hoj) hQ hy h1
      have hfree' : ∀ k ok, ops[k]? = some ok → k ≠ i → (listed.setIfInBounds j true).getD k true = false →
          (∀ e ∈ ok.after, Region.binds .any e = true → e.on ≠ i) → oi.apart ops ok = true := fun k ok hk hki hun hno => by
        refine hfree k ok hk hki ?_ hno
        by_cases hjk : j = k
        · subst hjk; exact hjun
        · rw [getD_set_ne true hjk] at hun; exact hun
      refine wpOp_mono (fun a' w' h3 => ⟨h3.2.1.2, ih (listed.setIfInBounds j true) a' w' hfree' (ready_mono hr (Ne.symm hji)) h3.1 (h3.2.1.1 hw hS) ?_⟩) h2
      rw [Array.setIfInBounds_comm _ _ hji]
      exact h3.2.2
end

/-- A plan: 'true' for an operation that only reads and may come first, 'false' for the one that alone may come; or whichever of several comes. -/
inductive Ord where
  | nil
  | cons (i : Nat) (q : Bool) (r : Ord)
  | alts (l : List Nat) (f : Nat → Ord)
  | goto (d : List Bool) (m : Nat)
def chkOrd (ops : Array Oper) : Ord → Array Bool → Nat → Bool
  | .nil, listed, _ => (Region.ready .any ops listed).isEmpty
  | .cons i q r, listed, m => match m with
    | 0 => false
    | m + 1 => (bif q then (Region.ready .any ops listed).contains i && Region.free .any ops listed i else Region.ready .any ops listed == [i]) && chkOrd ops r (listed.setIfInBounds i true) m
  | .alts l f, listed, m => match m with
    | 0 => false
    | m + 1 => !l.isEmpty && Region.ready .any ops listed == l && l.all fun i => chkOrd ops (f i) (listed.setIfInBounds i true) m
  | .goto d m0, listed, m => listed.toList == d && Nat.ble m0 m
theorem chkOrd_mono {ops : Array Oper} : ∀ (r : Ord) (listed : Array Bool) (m m' : Nat), m ≤ m' → chkOrd ops r listed m = true → chkOrd ops r listed m' = true
  | .nil, _, _, _, _, h => h
  | .cons i q r, listed, m, m', hm, h => by
    cases m with
    | zero => simp [chkOrd] at h
    | succ m =>
      cases m' with
      | zero => omega
      | succ m' =>
        simp only [chkOrd, Bool.and_eq_true] at h ⊢
        exact ⟨h.1, chkOrd_mono r _ m m' (by omega) h.2⟩
  | .alts l f, listed, m, m', hm, h => by
    cases m with
    | zero => simp [chkOrd] at h
    | succ m =>
      cases m' with
      | zero => omega
      | succ m' =>
        simp only [chkOrd, Bool.and_eq_true, List.all_eq_true] at h ⊢
        exact ⟨h.1, fun i hi => chkOrd_mono (f i) _ m m' (by omega) (h.2 i hi)⟩
  | .goto d m0, listed, m, m', hm, h => by
    simp only [chkOrd, Bool.and_eq_true] at h ⊢
    exact ⟨h.1, Nat.ble_eq ▸ Nat.le_trans (Nat.le_of_ble_eq_true h.2) hm⟩
/-- The row walked in one order. -/
def SQ (W : World) (P : Program) (n : Nat) (ops : Array Oper) (r : Ord) (Ts : Facts) (k : Kont) (l : Env) (L : List HProp) : Prop :=
  Region.noSelect ops = true → ∀ listed fuel, chkOrd ops r listed fuel = true → ∀ a w, Agree n l a → Sat W L w → wpAnyT P ops (den W P k) Ts fuel listed a w

/-- The facts that L keeps behind operation j. -/
def Keeps (W : World) (ops : Array Oper) (j : Nat) (L : List HProp) : Facts → Prop
  | [] => True
  | (q, T) :: r => (bif waits ops j q then True else Has W L T) ∧ Keeps W ops j L r
theorem Keeps.nil {W : World} {ops : Array Oper} {j : Nat} {L : List HProp} : Keeps W ops j L [] := trivial
theorem Keeps.w {W : World} {ops : Array Oper} {j q : Nat} {L : List HProp} {T : Hp → Prop} {r : Facts} (h : waits ops j q = true) (k : Keeps W ops j L r) : Keeps W ops j L ((q, T) :: r) := ⟨by rw [h]; trivial, k⟩
theorem Keeps.h {W : World} {ops : Array Oper} {j q : Nat} {L : List HProp} {T : Hp → Prop} {r : Facts} (h : Has W L T) (k : Keeps W ops j L r) : Keeps W ops j L ((q, T) :: r) := ⟨by cases waits ops j q <;> first | exact h | trivial, k⟩
theorem Keeps.holds {W : World} {ops : Array Oper} {j : Nat} {L : List HProp} {w w' : World} (hw : Sat W L w') : ∀ {Ts : Facts}, Keeps W ops j L Ts → Holds ops j w w' Ts
  | [], _ => trivial
  | (_, _) :: _, h => ⟨fun e _ => by have := h.1; rw [e] at this; exact this w' hw, h.2.holds hw⟩

section
variable {W : World} {P : Program} {n : Nat} {k k' : Kont} {l l' : Env} {L L' : List HProp} {ops : Array Oper} {r : Ord} {Ts : Facts}
variable {op : Op} {ty : TypeId} {pos : String} {after : Array Edge} {R : Hp → Prop} {v : Value} {d i : Nat}
theorem SQ.le (h : SQ W P n ops r Ts k l L) (e : EnvLe l l') : SQ W P n ops r Ts k l' L := fun hs li f hc a w ha hw => h hs li f hc a w (ha.le e) hw
theorem SQ.imp (e : ∀ m, Den L' m → Den L m) (h : SQ W P n ops r Ts k l L) : SQ W P n ops r Ts k l L' := fun hs li f hc a w ha hw => h hs li f hc a w ha (hw.imp e)
theorem SQ_nil (h : SN W P n k l L) : SQ W P n ops .nil Ts k l L := fun _ listed fuel hc a w ha hw => by
  have hr : Region.ready .any ops listed = [] := by simpa [chkOrd] using hc
  cases fuel with
  | zero => exact ⟨hr, h a w ha hw⟩
  | succ f => exact ⟨fun _ => h a w ha hw, by rw [hr]; simp⟩
theorem SC_drawn {id : Nat} {os : List Oper} (r : Ord) (hm : P.follows .mixedOrders = true)
    (hc : (Region.noSelect os.toArray && chkOrd os.toArray r (Array.replicate os.toArray.size false) os.toArray.size) = true)
    (h : SQ W P n os.toArray r [] k l L) : SC W P n (.region id os.toArray true) k l L := fun a w ha hw => by
  simp only [Bool.and_eq_true] at hc
  exact wp_region_any hm (wpAny_of_T _ _ _ _ (h hc.1 _ _ hc.2 a _ ha hw))

/-- A reader, taken first. -/
theorem SQ_rdg {dst : Option Tmp} {g : Option (Nat × Bool)} (hi : ops[i]? = some ⟨dst, op, ty, pos, after, g⟩)
    (hy : ∀ a, Agree n l a → YieldsIf P ops (fun w => R (fun b => w.heap[b]?)) ⟨dst, op, ty, pos, after, g⟩ v a) (hR : Has W L R) (hd : ∀ d, dst = some d → d < n)
    (h : SQ W P n ops r ((i, R) :: Ts) k (putE dst v l) L) : SQ W P n ops (.cons i true r) Ts k l L := fun hs listed fuel hc a w ha hw => by
  cases fuel with
  | zero => simp [chkOrd] at hc
  | succ fuel =>
    simp only [chkOrd, cond_true, Bool.and_eq_true] at hc
    refine wpAnyT_first (T := R) hi (Region.noSelect_spec hs) (fun c a w hp => (den_panic _ _ _ _ hp).elim) fuel listed a w (Region.free_spec hi hc.1.2) (by simpa using hc.1.1) (hy a ha) (hR w hw) ?_
    exact h hs _ fuel hc.2 _ w (ha.put hd) hw
theorem SQ_rd (hi : ops[i]? = some ⟨some d, op, ty, pos, after, none⟩) (hr : RD P l op ty R v) (hR : Has W L R) (hd : Nat.blt d n = true)
    (h : SQ W P n ops r ((i, R) :: Ts) k ((d, v) :: l) L) : SQ W P n ops (.cons i true r) Ts k l L :=
  SQ_rdg hi (fun a ha => .inl ⟨by simp [Region.wanted], fun w hw => hr _ (fun x u e => ha.eval e) w hw _ _ _ _⟩) hR (lts hd) h
theorem SQ.less {T : Nat × (Hp → Prop)} (h : SQ W P n ops r Ts k l L) (hT : ∀ h, T.2 h) : SQ W P n ops r (T :: Ts) k l L := fun hs listed fuel hc a w ha hw => by
  have key : ∀ fuel listed a w, wpAnyT P ops (den W P k) Ts fuel listed a w → wpAnyT P ops (den W P k) (T :: Ts) fuel listed a w := by
    intro fuel
    induction fuel with
    | zero => exact fun _ _ _ h => h
    | succ f ih => exact fun _ _ _ h => ⟨h.1, fun i hi => wpOp_mono (fun a' w' h' => ⟨⟨fun _ _ => hT _, h'.1⟩, ih _ _ _ h'.2⟩) (h.2 i hi)⟩
  exact key _ _ _ _ (h hs listed fuel hc a w ha hw)
theorem SQ_pu (hi : ops[i]? = some ⟨some d, op, ty, pos, after, none⟩) (hr : RD P l op ty RU v) (hd : Nat.blt d n = true)
    (h : SQ W P n ops r Ts k ((d, v) :: l) L) : SQ W P n ops (.cons i true r) Ts k l L := SQ_rd hi hr Has.u hd (h.less fun _ => trivial)
/-- A reader with a guard. -/
theorem SQ_yes {j : Nat} {want : Bool} {e : Tmp} {b : Bool} (hi : ops[i]? = some ⟨some d, op, ty, pos, after, some (j, want)⟩) (hj : (ops[j]?).bind (·.dst) = some e) (hb : look l e = some (.bool b)) (eq : b = want)
    (hr : RD P l op ty R v) (hR : Has W L R) (hd : Nat.blt d n = true)
    (h : SQ W P n ops r ((i, R) :: Ts) k ((d, v) :: l) L) : SQ W P n ops (.cons i true r) Ts k l L :=
  SQ_rdg hi (fun a ha => .inl ⟨by
    have hy : yielded ops a.tmps j = some b := by unfold yielded; rw [hj]; simp [ha.slot e _ hb]
    simp [Region.wanted, hy, eq], fun w hw => hr _ (fun x u e => ha.eval e) w hw _ _ _ _⟩) hR (lts hd) h
theorem SQ_pyes {j : Nat} {want : Bool} {e : Tmp} {b : Bool} (hi : ops[i]? = some ⟨some d, op, ty, pos, after, some (j, want)⟩) (hj : (ops[j]?).bind (·.dst) = some e) (hb : look l e = some (.bool b)) (eq : b = want)
    (hr : RD P l op ty RU v) (hd : Nat.blt d n = true)
    (h : SQ W P n ops r Ts k ((d, v) :: l) L) : SQ W P n ops (.cons i true r) Ts k l L := SQ_yes hi hj hb eq hr Has.u hd (h.less fun _ => trivial)
theorem SQ_no {dst : Option Tmp} {j : Nat} {want : Bool} {e : Tmp} {b : Bool} (hi : ops[i]? = some ⟨dst, op, ty, pos, after, some (j, want)⟩) (hj : (ops[j]?).bind (·.dst) = some e) (hb : look l e = some (.bool b)) (eq : b = !want)
    (hd : ∀ d, dst = some d → d < n)
    (h : SQ W P n ops r Ts k (putE dst undef l) L) : SQ W P n ops (.cons i true r) Ts k l L :=
  SQ_rdg (R := RU) hi (fun a ha => .inr ⟨by
    have hy : yielded ops a.tmps j = some b := by unfold yielded; rw [hj]; simp [ha.slot e _ hb]
    simp only [Region.wanted, hy, eq]; cases want <;> simp, rfl⟩) Has.u hd (h.less fun _ => trivial)

theorem SQ_guard {dst : Option Tmp} {j : Nat} {want : Bool} {e : Tmp} {b : Bool} (hi : ops[i]? = some ⟨dst, op, ty, pos, after, some (j, want)⟩) (hj : (ops[j]?).bind (·.dst) = some e) (hb : look l e = some (.bool b))
    (h1 : b = want → SQ W P n ops r Ts k l L) (h2 : b = !want → SQ W P n ops r Ts k l L) : SQ W P n ops r Ts k l L := by
  have _ := hi; have _ := hj; have _ := hb
  cases b <;> cases want <;> first | exact h1 rfl | exact h2 rfl

/-- The one that alone may come. -/
theorem SQ_op {o : Oper} (hi : ops[i]? = some o)
    (h : ∀ listed fuel, Region.noSelect ops = true → chkOrd ops r listed fuel = true → ∀ a w, Agree n l a → Sat W L w →
      wpOp P ops (den W P k) i (fun a' w' => Holds ops i w w' Ts ∧ wpAnyT P ops (den W P k) Ts fuel listed a' w') a w) : SQ W P n ops (.cons i false r) Ts k l L := fun hs listed fuel hc a w ha hw => by
  cases fuel with
  | zero => simp [chkOrd] at hc
  | succ fuel =>
    simp only [chkOrd, cond_false, Bool.and_eq_true] at hc
    have hr : Region.ready .any ops listed = [i] := by simpa using hc.1
    refine ⟨by rw [hr]; simp, fun j hj => ?_⟩
    rw [hr] at hj
    obtain rfl : j = i := by simpa using hj
    exact h _ _ hs hc.2 a w ha hw
/-- .. and where several may come: each as if it alone came. -/
theorem SQ_alts {ls : List Nat} {f : Nat → Ord} (h : ∀ i ∈ ls, ∀ listed fuel, Region.noSelect ops = true → chkOrd ops (f i) listed fuel = true → ∀ a w, Agree n l a → Sat W L w →
      wpOp P ops (den W P k) i (fun a' w' => Holds ops i w w' Ts ∧ wpAnyT P ops (den W P k) Ts fuel listed a' w') a w) : SQ W P n ops (.alts ls f) Ts k l L := fun hs listed fuel hc a w ha hw => by
  cases fuel with
  | zero => simp [chkOrd] at hc
  | succ fuel =>
    simp only [chkOrd, Bool.and_eq_true, List.all_eq_true] at hc
    obtain ⟨⟨h0, hr⟩, hall⟩ := hc
    have hr : Region.ready .any ops listed = ls := by simpa using hr
    refine ⟨fun e => by rw [hr] at e; rw [e] at h0; simp at h0, fun j hj => ?_⟩
    rw [hr] at hj
    exact h j hj _ _ hs (hall j hj) a w ha hw
/-- One of several. -/
def SA (W : World) (P : Program) (n : Nat) (ops : Array Oper) (i : Nat) (r : Ord) (Ts : Facts) (k : Kont) (l : Env) (L : List HProp) : Prop :=
  ∀ listed fuel, Region.noSelect ops = true → chkOrd ops r listed fuel = true → ∀ a w, Agree n l a → Sat W L w →
      wpOp P ops (den W P k) i (fun a' w' => Holds ops i w w' Ts ∧ wpAnyT P ops (den W P k) Ts fuel listed a' w') a w
theorem SQ_two {i j : Nat} {f : Nat → Ord} (h1 : SA W P n ops i (f i) Ts k l L) (h2 : SA W P n ops j (f j) Ts k l L) : SQ W P n ops (.alts [i, j] f) Ts k l L :=
  SQ_alts fun m hm => by rcases List.mem_cons.1 hm with rfl | hm; exact h1; rcases List.mem_cons.1 hm with rfl | hm; exact h2; cases hm
theorem SQ_three {i j q : Nat} {f : Nat → Ord} (h1 : SA W P n ops i (f i) Ts k l L) (h2 : SA W P n ops j (f j) Ts k l L) (h3 : SA W P n ops q (f q) Ts k l L) : SQ W P n ops (.alts [i, j, q] f) Ts k l L :=
  SQ_alts fun m hm => by rcases List.mem_cons.1 hm with rfl | hm; exact h1; rcases List.mem_cons.1 hm with rfl | hm; exact h2; rcases List.mem_cons.1 hm with rfl | hm; exact h3; cases hm
theorem SQ_one (h : SA W P n ops i r Ts k l L) : SQ W P n ops (.cons i false r) Ts k l L := by
  intro hs listed fuel hc a w ha hw
  cases fuel with
  | zero => simp [chkOrd] at hc
  | succ fuel =>
    simp only [chkOrd, cond_false, Bool.and_eq_true] at hc
    have hr : Region.ready .any ops listed = [i] := by simpa using hc.1
    refine ⟨by rw [hr]; simp, fun j hj => ?_⟩
    rw [hr] at hj
    obtain rfl : j = i := by simpa using hj
    exact h _ _ hs hc.2 a w ha hw
/-- The guard of an operation, if it has one, is met. -/
inductive Met (ops : Array Oper) (l : Env) : Option (Nat × Bool) → Prop where
  | free : Met ops l none
  | met {j e : Nat} {b : Bool} (hj : (ops[j]?).bind (·.dst) = some e) (hb : look l e = some (.bool b)) : Met ops l (some (j, b))
theorem Met.wanted {n : Nat} {a : Act} {l : Env} {ops : Array Oper} {dst : Option Tmp} {op : Op} {ty : TypeId} {pos : String} {after : Array Edge} {g : Option (Nat × Bool)} (h : Met ops l g) (ha : Agree n l a) : Region.wanted ⟨dst, op, ty, pos, after, g⟩ (yielded ops a.tmps) = true := by
  cases h with
  | free => rfl
  | met hj hb => simp only [Region.wanted, yielded, hj, Option.bind_some, ha.slot _ _ hb]; simp
theorem SA_oxg {dst : Option Tmp} {g : Option (Nat × Bool)} {K : Value → List HProp → Prop} (hi : ops[i]? = some ⟨dst, op, ty, pos, after, g⟩) (hg : Met ops l g) (hx : OX W P l L op ty K) (hd : ∀ d, dst = some d → d < n)
    (h : ∀ v L', K v L' → Keeps W ops i L' Ts ∧ SQ W P n ops r Ts k (putE dst v l) L') : SA W P n ops i r Ts k l L :=
  fun listed fuel hs hc a w ha hw => by
    obtain ⟨nx, w', v, L', hr, hn, hk, hs'⟩ := hx a.eval (fun x u e => ha.eval e) w hw dst pos after g
    obtain ⟨h1, h2⟩ := h v L' hk
    have := h2 hs _ _ hc _ w' (ha.put (dst := dst) (v := v) hd) hs'
    unfold wpOp
    rw [hi]
    simp only [hg.wanted ha, if_true]
    refine .inl ?_
    unfold Oper.wp
    rw [hr]
    rcases hn with rfl | ⟨rfl, rfl⟩
    · exact ⟨h1.holds hs', this⟩
    · exact ⟨h1.holds hs', this⟩
theorem SA_ox {g : Option (Nat × Bool)} {K : Value → List HProp → Prop} (hi : ops[i]? = some ⟨some d, op, ty, pos, after, g⟩) (hg : Met ops l g) (hx : OX W P l L op ty K) (hd : Nat.blt d n = true)
    (h : ∀ v L', K v L' → Keeps W ops i L' Ts ∧ SQ W P n ops r Ts k ((d, v) :: l) L') : SA W P n ops i r Ts k l L := SA_oxg hi hg hx (lts hd) h
theorem SA_ox0 {g : Option (Nat × Bool)} {K : Value → List HProp → Prop} (hi : ops[i]? = some ⟨none, op, ty, pos, after, g⟩) (hg : Met ops l g) (hx : OX W P l L op ty K)
    (h : ∀ v L', K v L' → Keeps W ops i L' Ts ∧ SQ W P n ops r Ts k l L') : SA W P n ops i r Ts k l L := SA_oxg hi hg hx ltn h
theorem SA_call {dst : Option Tmp} {g : Option (Nat × Bool)} {f : FuncId} {xs : Array Operand} {ats : Array TypeId} {args : Array Value} {K : Value → List HProp → Prop}
    (hi : ops[i]? = some ⟨dst, .call ⟨.value (.func f), xs, ats⟩, ty, pos, after, g⟩) (hg : Met ops l g)
    (hcall : ∀ args w, (callFunc f args).run P w = .ok (.enter f args) w) (hargs : EvA l xs.toList args.toList)
    (hc : CallsK W P f args L K) (hd : ∀ d, dst = some d → d < n) (h : ∀ v L', K v L' → Keeps W ops i L' Ts ∧ SQ W P n ops r Ts k (putE dst v l) L') : SA W P n ops i r Ts k l L :=
  fun listed fuel hs hck a w ha hw => by
    have hr := run_call (dst := dst) (ats := ats) (ty := ty) (pos := pos) (after := after) (g := g) ha hcall hargs w
    unfold wpOp
    rw [hi]
    simp only [hg.wanted ha, if_true]
    refine .inl ?_
    unfold Oper.wp
    rw [hr]
    refine (hc w hw).mono fun e w' ⟨v, L', he, hk, hs'⟩ => ?_
    subst he
    obtain ⟨h1, h2⟩ := h v L' hk
    exact ⟨h1.holds hs', h2 hs _ _ hck _ w' (ha.put hd) hs'⟩
theorem SQ_ox {K : Value → List HProp → Prop} (hi : ops[i]? = some ⟨some d, op, ty, pos, after, none⟩) (hx : OX W P l L op ty K) (hd : Nat.blt d n = true)
    (h : ∀ v L', K v L' → Keeps W ops i L' Ts ∧ SQ W P n ops r Ts k ((d, v) :: l) L') : SQ W P n ops (.cons i false r) Ts k l L := SQ_one (SA_ox hi .free hx hd h)
theorem SQ_ox0 {K : Value → List HProp → Prop} (hi : ops[i]? = some ⟨none, op, ty, pos, after, none⟩) (hx : OX W P l L op ty K)
    (h : ∀ v L', K v L' → Keeps W ops i L' Ts ∧ SQ W P n ops r Ts k l L') : SQ W P n ops (.cons i false r) Ts k l L := SQ_one (SA_ox0 hi .free hx h)
theorem SQ_call {dst : Option Tmp} {f : FuncId} {xs : Array Operand} {ats : Array TypeId} {args : Array Value} {K : Value → List HProp → Prop}
    (hi : ops[i]? = some ⟨dst, .call ⟨.value (.func f), xs, ats⟩, ty, pos, after, none⟩)
    (hcall : ∀ args w, (callFunc f args).run P w = .ok (.enter f args) w) (hargs : EvA l xs.toList args.toList)
    (hc : CallsK W P f args L K) (hd : ∀ d, dst = some d → d < n) (h : ∀ v L', K v L' → Keeps W ops i L' Ts ∧ SQ W P n ops r Ts k (putE dst v l) L') : SQ W P n ops (.cons i false r) Ts k l L :=
  SQ_one (SA_call hi .free hcall hargs hc hd h)
/-- A guarded one. -/
theorem Met.mk {j e : Nat} {want b : Bool} (hj : (ops[j]?).bind (·.dst) = some e) (hb : look l e = some (.bool b)) (eq : b = want) : Met ops l (some (j, want)) := eq ▸ .met hj hb
end
end Go.Proofs.Ytmigjpmadhebfaa
