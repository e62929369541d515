/- Closures: made, and called by their contracts. -/
import Derived.Test.YtmigjpmadhebfaaSl13
namespace Go.Proofs.Ytmigjpmadhebfaa
open Go Go.Proofs
section
variable {W : World} {P : Program} {n : Nat} {k : Kont} {l : Env} {L L' : List HProp} {ops : Array Oper} {os : List Oper} {ty : TypeId} {pos : String} {after : Array Edge} {i : Nat} {r : Ord} {Ts : Facts}
theorem RD_makeFunc {f : FuncId} {cs : Array Operand} {vs : List Value} (hc : EvA l cs.toList vs) : RD P l (.makeFunc (.func f) #[] cs) ty RU (.func (.func f) #[] vs.toArray) := fun ρ hρ w _ _ _ _ _ => by
  have hm : cs.map ρ = vs.toArray := by
    apply Array.ext'
    rw [Array.toList_map]
    have : ∀ {xs : List Operand} {us : List Value}, EvA l xs us → xs.map ρ = us := by
      intro xs us h
      induction h with
      | nil => rfl
      | cons hx _ ih => simp [hρ _ _ hx, ih]
    exact this hc
  have hmf : ∀ (fn : Fn) (first cap : Array Value) (w : World), (Instr.makeFunc fn first cap).run P w = .ok (.func fn first cap) w := fun _ _ _ _ => rfl
  simp [execOp, hm, hmf]
theorem RD_nilCheckF {x : Operand} {f : FuncId} {vs : Array Value} (hx : ev l x = some (.func (.func f) #[] vs)) : RD P l (.nilCheck x) ty RU (.func (.func f) #[] vs) := fun ρ hρ w _ _ _ _ _ => by simp [execOp, hρ x _ hx]
theorem run_callv {dst : Option Tmp} {x : Operand} {f : FuncId} {cs vs : List Value} {xs : Array Operand} {ats : Array TypeId} {g : Option (Nat × Bool)} {a : Act} (ha : Agree n l a)
    (hx : ev l x = some (.func (.func f) #[] cs.toArray)) (hcall : ∀ args w, (callFunc f args).run P w = .ok (.enter f args) w) (hargs : EvA l xs.toList vs) (w : World) :
    (execOp a.eval ⟨dst, .call ⟨.value x, xs, ats⟩, ty, pos, after, g⟩).run P w = .ok (.enter f (vs ++ cs).toArray) w := by
  have hm : xs.map a.eval = vs.toArray := Array.ext' (by rw [Array.toList_map]; exact hargs.eval ha)
  simp only [execOp, resolve, hm]
  rw [ha.eval hx]
  simp [Deferred.ofValue, invoke, hcall]
theorem SR_callv {dst : Option Tmp} {x : Operand} {f : FuncId} {cs vs : List Value} {xs : Array Operand} {ats : Array TypeId} {K : Value → List HProp → Prop}
    (hx : ev l x = some (.func (.func f) #[] cs.toArray)) (hcall : ∀ args w, (callFunc f args).run P w = .ok (.enter f args) w) (hargs : EvA l xs.toList vs)
    (hc : CallsK W P f (vs ++ cs).toArray L K) (hd : ∀ d, dst = some d → d < n) (h : ∀ v L', K v L' → SR W P n ops os k (putE dst v l) L') :
    SR W P n ops (⟨dst, .call ⟨.value x, xs, ats⟩, ty, pos, after, none⟩ :: os) k l L := by
  intro a w ha hw
  refine wpList_plain rfl fun K' hK' => ?_
  have hr := run_callv (dst := dst) (ats := ats) (ty := ty) (pos := pos) (after := after) (g := none) ha hx hcall hargs w
  unfold Oper.wp
  rw [hr]
  refine (hc w hw).mono fun e w' ⟨v, L', he, hk, hs⟩ => ?_
  subst he
  exact hK' _ _ (h v L' hk _ w' (ha.put (v := v) hd) hs)
theorem SA_callv {dst : Option Tmp} {g : Option (Nat × Bool)} {x : Operand} {f : FuncId} {cs vs : List Value} {xs : Array Operand} {ats : Array TypeId} {K : Value → List HProp → Prop}
    (hi : ops[i]? = some ⟨dst, .call ⟨.value x, xs, ats⟩, ty, pos, after, g⟩) (hg : Met ops l g)
    (hx : ev l x = some (.func (.func f) #[] cs.toArray)) (hcall : ∀ args w, (callFunc f args).run P w = .ok (.enter f args) w) (hargs : EvA l xs.toList vs)
    (hc : CallsK W P f (vs ++ cs).toArray L K) (hd : ∀ d, dst = some d → d < n) (h : ∀ v L', K v L' → Keeps W ops i L' Ts ∧ SQ W P n ops r Ts k (putE dst v l) L') : SA W P n ops i r Ts k l L :=
  fun listed fuel hs hck a w ha hw => by
    have hr := run_callv (dst := dst) (ats := ats) (ty := ty) (pos := pos) (after := after) (g := g) ha hx hcall hargs w
    unfold wpOp
    rw [hi]
    simp only [hg.wanted ha, if_true]
    refine .inl ?_
    unfold Oper.wp
    rw [hr]
    refine (hc w hw).mono fun e w' ⟨v, L', he, hk, hs'⟩ => ?_
    subst he
    obtain ⟨h1, h2⟩ := h v L' hk
    exact ⟨h1.holds hs', h2 hs _ _ hck _ w' (ha.put hd) hs'⟩
theorem SQ_callv {dst : Option Tmp} {x : Operand} {f : FuncId} {cs vs : List Value} {xs : Array Operand} {ats : Array TypeId} {K : Value → List HProp → Prop}
    (hi : ops[i]? = some ⟨dst, .call ⟨.value x, xs, ats⟩, ty, pos, after, none⟩)
    (hx : ev l x = some (.func (.func f) #[] cs.toArray)) (hcall : ∀ args w, (callFunc f args).run P w = .ok (.enter f args) w) (hargs : EvA l xs.toList vs)
    (hc : CallsK W P f (vs ++ cs).toArray L K) (hd : ∀ d, dst = some d → d < n) (h : ∀ v L', K v L' → Keeps W ops i L' Ts ∧ SQ W P n ops r Ts k (putE dst v l) L') : SQ W P n ops (.cons i false r) Ts k l L :=
  SQ_one (SA_callv hi .free hx hcall hargs hc hd h)
end
end Go.Proofs.Ytmigjpmadhebfaa
