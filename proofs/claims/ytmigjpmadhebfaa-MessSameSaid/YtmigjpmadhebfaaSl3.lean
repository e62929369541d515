/- The rules of the walk: a call's contract, a function's entry and end, and one rule an operation. -/
import Derived.Test.YtmigjpmadhebfaaSl2
namespace Go.Proofs.Ytmigjpmadhebfaa
open Go

/-- Called so in a world of the blocks L the function returns a value and leaves blocks that K allows. -/
def CallsK (W : World) (P : Program) (f : FuncId) (args : Array Value) (L : List HProp) (K : Value → List HProp → Prop) : Prop :=
  ∀ w, Sat W L w → Calls P f args w fun e w' => ∃ v L', e = .returned v ∧ K v L' ∧ Sat W L' w'

def argsE : Nat → List Value → Env
  | _, [] => []
  | i, v :: r => (i, v) :: argsE (i + 1) r

section
variable {W : World} {P : Program} {n : Nat} {k k' : Kont} {l l' : Env} {L L' : List HProp} {c c' : Code} {ops : Array Oper} {os : List Oper}

theorem CallsK.imp {f : FuncId} {args : Array Value} {K K' : Value → List HProp → Prop} (h : CallsK W P f args L K) (hk : ∀ v M, K v M → K' v M) : CallsK W P f args L K' :=
  fun w hw => (h w hw).mono fun _ _ ⟨v, M, e, q, s⟩ => ⟨v, M, e, hk v M q, s⟩
theorem CallsK.pre {f : FuncId} {args : Array Value} {K : Value → List HProp → Prop} (h : CallsK W P f args L K) (e : ∀ m, Den L' m → Den L m) : CallsK W P f args L' K :=
  fun w hw => h w (hw.imp e)
theorem CallsK.perm {f : FuncId} {args : Array Value} {K : Value → List HProp → Prop} (p : L'.Perm L) (h : CallsK W P f args L K) : CallsK W P f args L' K :=
  h.pre fun m => Den_perm p m
theorem CallsK.pick {f : FuncId} {args : Array Value} {K : Value → List HProp → Prop} (i : Nat) (h : CallsK W P f args (pick i L) K) : CallsK W P f args L K :=
  h.perm (pick_perm i L)

theorem look_argsE : ∀ (r : List Value) (i t : Nat) (v : Value), look (argsE i r) t = some v → i ≤ t ∧ r[t - i]? = some v
  | [], _, _, _, h => by cases h
  | u :: r, i, t, v, h => by
    simp only [argsE, look] at h
    by_cases e : i = t
    · subst e; simp at h; subst h; simp
    · rw [nbeq e] at h
      obtain ⟨h1, h2⟩ := look_argsE r (i + 1) t v h
      refine ⟨by omega, ?_⟩
      have : t - i = (t - (i + 1)) + 1 := by omega
      rw [this]; simpa using h2
theorem CallsK_enter {f : FuncId} {fn : Func} {args : Array Value} {K : Value → List HProp → Prop} (hf : P.funcs[f]? = some fn) (hb : fn.body = some c) (hn : fn.ntmps = n)
    (ha : Nat.ble args.size n = true) (h : SC W P n c (.stop fn K) (argsE 0 args.toList) L) : CallsK W P f args L K := by
  have ha := Nat.le_of_ble_eq_true ha
  intro w hw
  refine calls_of_wp hf hb (h _ w ⟨rfl, by simp [hn]; omega, fun t v hv => ?_⟩ hw)
  obtain ⟨_, h2⟩ := look_argsE _ _ _ _ hv
  simp at h2
  have : t < args.size := (Array.getElem?_eq_some_iff.1 h2).1
  simp only []
  rw [Array.getElem?_append_left this]; exact h2

theorem SC_ret {v : Value} (hv : ∀ tmps : Array Value, (∀ t u, look l t = some u → tmps[t]? = some u) → ∀ w, Sat W L w → (results k.root.1 tmps).run P w = .ok v w) (hk : k.root.2 v L) : SC W P n .ret k l L :=
  fun a w ha hw => wp_ret (by rw [den_ret]; exact ⟨ha.defers, v, hv _ ha.slot w hw, v, L, rfl, hk, hw⟩)
theorem SC_ret1 {t : Tmp} {v : Value} (hr : k.root.1.results = #[.tmp t]) (hv : look l t = some v) (hk : k.root.2 v L) : SC W P n .ret k l L :=
  SC_ret (fun tmps h w _ => by rw [results_tmp hr]; simp [h t v hv]) hk
theorem SC_ret2 {t u : Tmp} {v x : Value} (hr : k.root.1.results = #[.tmp t, .tmp u]) (hv : look l t = some v) (hx : look l u = some x) (hk : k.root.2 (.tuple #[v, x]) L) : SC W P n .ret k l L :=
  SC_ret (fun tmps h w _ => by rw [results_tmp2 hr]; simp [h t v hv, h u x hx]) hk
theorem SC_ret0 (hr : k.root.1.results = #[]) (hk : k.root.2 (.tuple #[]) L) : SC W P n .ret k l L :=
  SC_ret (fun tmps _ w _ => by rw [results_none hr]) hk
theorem SN_stop0 {fn : Func} {K : Value → List HProp → Prop} (hr : fn.results = #[]) (hk : K (.tuple #[]) L) : SN W P n (.stop fn K) l L :=
  fun a w ha hw => ⟨ha.defers, .tuple #[], results_none hr _ _ _, _, L, rfl, hk, hw⟩

/-- What operands come to. -/
inductive EvA (l : Env) : List Operand → List Value → Prop where
  | nil : EvA l [] []
  | cons {x : Operand} {v : Value} {xs : List Operand} {vs : List Value} (h : ev l x = some v) (r : EvA l xs vs) : EvA l (x :: xs) (v :: vs)
theorem EvA.eval {l : Env} {a : Act} (ha : Agree n l a) : ∀ {xs : List Operand} {vs : List Value}, EvA l xs vs → xs.map a.eval = vs
  | _, _, .nil => rfl
  | _, _, .cons h r => by simp [ha.eval h, r.eval ha]
inductive EvL (l : Env) : List (Nat × Operand) → List (Nat × Value) → Prop where
  | nil : EvL l [] []
  | cons {i : Nat} {x : Operand} {v : Value} {xs : List (Nat × Operand)} {vs : List (Nat × Value)} (h : ev l x = some v) (r : EvL l xs vs) : EvL l ((i, x) :: xs) ((i, v) :: vs)
theorem EvL.eval {l : Env} {ρ : Operand → Value} (hρ : ∀ x v, ev l x = some v → ρ x = v) : ∀ {xs : List (Nat × Operand)} {vs : List (Nat × Value)}, EvL l xs vs → xs.map (fun p => (p.1, ρ p.2)) = vs
  | _, _, .nil => rfl
  | _, _, .cons h r => by simp [hρ _ _ h, r.eval hρ]

/-- A guarded operation that is wanted, and one that is not. -/
theorem SR_yes {dst : Option Tmp} {op : Op} {ty : TypeId} {pos : String} {after : Array Edge} {j : Nat} {want : Bool} {d : Tmp} {b : Bool}
    (hj : (ops[j]?).bind (·.dst) = some d) (hb : look l d = some (.bool b)) (e : b = want)
    (h : SR W P n ops (⟨dst, op, ty, pos, after, none⟩ :: os) k l L) : SR W P n ops (⟨dst, op, ty, pos, after, some (j, want)⟩ :: os) k l L := by
  intro a w ha hw
  have h1 := h a w ha hw
  have hy : yielded ops a.tmps j = some b := by
    unfold yielded; rw [hj]; simp [ha.slot d _ hb]
  unfold wpList at h1 ⊢
  rw [if_pos (by simp [Region.wanted])] at h1
  rw [if_pos (by simp [Region.wanted, hy, e])]
  exact h1
theorem SR_no {dst : Option Tmp} {op : Op} {ty : TypeId} {pos : String} {after : Array Edge} {j : Nat} {want : Bool} {d : Tmp} {b : Bool}
    (hj : (ops[j]?).bind (·.dst) = some d) (hb : look l d = some (.bool b)) (e : b = !want) (hd : ∀ d, dst = some d → d < n)
    (h : SR W P n ops os k (putE dst undef l) L) : SR W P n ops (⟨dst, op, ty, pos, after, some (j, want)⟩ :: os) k l L := by
  intro a w ha hw
  have hy : yielded ops a.tmps j = some b := by
    unfold yielded; rw [hj]; simp [ha.slot d _ hb]
  unfold wpList
  rw [if_neg (by simp only [Region.wanted, hy, e]; cases want <;> simp)]
  exact h _ w (ha.put hd) hw

/-- A guard that is not known: both ways. -/
theorem SR_guard {dst : Option Tmp} {op : Op} {ty : TypeId} {pos : String} {after : Array Edge} {j : Nat} {want : Bool} {d : Tmp} {b : Bool}
    (hj : (ops[j]?).bind (·.dst) = some d) (hb : look l d = some (.bool b))
    (h1 : b = want → SR W P n ops (⟨dst, op, ty, pos, after, some (j, want)⟩ :: os) k l L) (h2 : b = !want → SR W P n ops (⟨dst, op, ty, pos, after, some (j, want)⟩ :: os) k l L) : SR W P n ops (⟨dst, op, ty, pos, after, some (j, want)⟩ :: os) k l L := by
  have _ := hj; have _ := hb
  cases b <;> cases want <;> first | exact h1 rfl | exact h2 rfl

/-- Any operation, by what it does. -/
theorem SR_op {dst : Option Tmp} {op : Op} {ty : TypeId} {pos : String} {after : Array Edge} {K : Value → List HProp → Prop}
    (hx : ∀ ρ : Operand → Value, (∀ x v, ev l x = some v → ρ x = v) → ∀ w, Sat W L w →
      ∃ nx w' v L', (execOp ρ ⟨dst, op, ty, pos, after, none⟩).run P w = .ok nx w' ∧ (nx = .value v ∨ (nx = .skip ∧ v = undef)) ∧ K v L' ∧ Sat W L' w')
    (hd : ∀ d, dst = some d → d < n) (h : ∀ v L', K v L' → SR W P n ops os k (putE dst v l) L') :
    SR W P n ops (⟨dst, op, ty, pos, after, none⟩ :: os) k l L := by
  intro a w ha hw
  obtain ⟨nx, w', v, L', hr, hn, hk, hs⟩ := hx a.eval (fun x v e => ha.eval e) w hw
  refine wpList_plain rfl fun K' hK' => ?_
  unfold Oper.wp
  rw [hr]
  have := hK' _ _ (h v L' hk _ w' (ha.put (v := v) hd) hs)
  rcases hn with rfl | ⟨rfl, rfl⟩
  · exact this
  · exact this
/-- An operation that comes to one value. -/
theorem SR_val {dst : Option Tmp} {op : Op} {ty : TypeId} {pos : String} {after : Array Edge} {v : Value}
    (hx : ∀ ρ : Operand → Value, (∀ x v, ev l x = some v → ρ x = v) → ∀ w, Sat W L w → (execOp ρ ⟨dst, op, ty, pos, after, none⟩).run P w = .ok (.value v) w)
    (hd : ∀ d, dst = some d → d < n) (h : SR W P n ops os k (putE dst v l) L) :
    SR W P n ops (⟨dst, op, ty, pos, after, none⟩ :: os) k l L :=
  SR_op (K := fun v' L' => v' = v ∧ L' = L) (fun ρ hρ w hw => ⟨_, w, v, L, hx ρ hρ w hw, .inl rfl, ⟨rfl, rfl⟩, hw⟩) hd (by rintro _ _ ⟨rfl, rfl⟩; exact h)
theorem run_call {dst : Option Tmp} {f : FuncId} {xs : Array Operand} {ats : Array TypeId} {ty : TypeId} {pos : String} {after : Array Edge} {g : Option (Nat × Bool)} {args : Array Value} {a : Act} (ha : Agree n l a)
    (hcall : ∀ args w, (callFunc f args).run P w = .ok (.enter f args) w) (hargs : EvA l xs.toList args.toList) (w : World) :
    (execOp a.eval ⟨dst, .call ⟨.value (.func f), xs, ats⟩, ty, pos, after, g⟩).run P w = .ok (.enter f args) w := by
  have hm : xs.map a.eval = args := Array.ext' (by rw [Array.toList_map]; exact hargs.eval ha)
  simp only [execOp, resolve, hm]
  simp only [Act.eval, Deferred.ofValue]
  simp [invoke, hcall]
/-- A call, by its contract. -/
theorem SR_call {dst : Option Tmp} {f : FuncId} {xs : Array Operand} {ats : Array TypeId} {ty : TypeId} {pos : String} {after : Array Edge} {args : Array Value} {K : Value → List HProp → Prop}
    (hcall : ∀ args w, (callFunc f args).run P w = .ok (.enter f args) w) (hargs : EvA l xs.toList args.toList)
    (hc : CallsK W P f args L K) (hd : ∀ d, dst = some d → d < n) (h : ∀ v L', K v L' → SR W P n ops os k (putE dst v l) L') :
    SR W P n ops (⟨dst, .call ⟨.value (.func f), xs, ats⟩, ty, pos, after, none⟩ :: os) k l L := by
  intro a w ha hw
  refine wpList_plain rfl fun K' hK' => ?_
  have hr := run_call (dst := dst) (ats := ats) (ty := ty) (pos := pos) (after := after) (g := none) ha hcall hargs w
  unfold Oper.wp
  rw [hr]
  refine (hc w hw).mono fun e w' ⟨v, L', he, hk, hs⟩ => ?_
  subst he
  exact hK' _ _ (h v L' hk _ w' (ha.put (v := v) hd) hs)
end
end Go.Proofs.Ytmigjpmadhebfaa
