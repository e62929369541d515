/- Part 8 of the proof: lemmas that the walk of TopWindow needs. -/
import Derived.Test.YtdhpjdhloaoepaaGreatPw7
set_option linter.unusedSimpArgs false
set_option linter.unusedVariables false
/- Slices of envelopes and messages: looked through, taken from. -/
namespace Go.Proofs.YtdhpjdhloaoepaaGreat
open Go Go.Proofs
attribute [local irreducible] SC SN SR SQ SA SO
set_option maxRecDepth 100000
/-- Where the first one is that is so; -1: nowhere. -/
def idxP {X : Type} (p : X → Bool) : List X → Int
  | [] => -1
  | x :: l => if p x then 0 else (if idxP p l < 0 then -1 else idxP p l + 1)
theorem idxP_no {X : Type} {p : X → Bool} : ∀ {l : List X}, (∀ x ∈ l, p x = false) → idxP p l = -1
  | [], _ => rfl
  | x :: l, h => by
    unfold idxP
    rw [if_neg (by rw [h x (by simp)]; simp), idxP_no (fun y hy => h y (by simp [hy])), if_pos (by omega)]
theorem idxP_at {X : Type} {p : X → Bool} : ∀ {l : List X} {i : Nat} {x : X}, l[i]? = some x → p x = true → (∀ y ∈ l.take i, p y = false) → idxP p l = i
  | [], _, _, h, _, _ => by simp at h
  | y :: l, 0, x, h, hx, _ => by simp at h; subst h; unfold idxP; rw [if_pos hx]; rfl
  | y :: l, i + 1, x, h, hx, hb => by
    unfold idxP
    rw [if_neg (by rw [hb y (by simp)]; simp), idxP_at (i := i) (by simpa using h) hx (fun z hz => hb z (by simp [hz])), if_neg (by omega)]
    omega
theorem idxP_nn {X : Type} {p : X → Bool} (l : List X) : decide (0 ≤ idxP p l) = l.any p := by
  induction l with
  | nil => rfl
  | cons x l ih =>
    unfold idxP
    rw [List.any_cons, ← ih]
    split
    · rename_i h; rw [h]; simp
    · rename_i h
      have : p x = false := by simpa using h
      rw [this, Bool.false_or]
      split
      · rename_i h2; rw [decide_eq_false (by omega)]; simp; omega
      · rename_i h2; rw [decide_eq_true (by omega)]; simp; omega
instance onesMsgs (l : List MsgD) : Ones (l.flatMap MsgD.cells) := ⟨fun v hv => by
  obtain ⟨e, _, he⟩ := List.mem_flatMap.1 hv
  exact (onesMsg e).h v he⟩
theorem flat_take' {X : Type} {C : X → List Value} {z : Nat} (hC : ∀ x, (C x).length = z) (l : List X) (i : Nat) : (l.flatMap C).take (i * z) = (l.take i).flatMap C := by
  induction l generalizing i with
  | nil => simp
  | cons x l ih =>
    cases i with
    | zero => simp
    | succ i => rw [List.flatMap_cons, List.take_succ_cons, List.flatMap_cons, ← ih, List.take_append, hC, List.take_of_length_le (by rw [hC, Nat.succ_mul]; omega), show (i + 1) * z - z = i * z by rw [Nat.succ_mul]; omega]
theorem flat_drop' {X : Type} {C : X → List Value} {z : Nat} (hC : ∀ x, (C x).length = z) (l : List X) (i : Nat) : (l.flatMap C).drop (i * z) = (l.drop i).flatMap C := by
  induction l generalizing i with
  | nil => simp
  | cons x l ih =>
    cases i with
    | zero => simp
    | succ i => rw [List.flatMap_cons, List.drop_succ_cons, ← ih, List.drop_append, hC, List.drop_eq_nil_of_le (by rw [hC, Nat.succ_mul]; omega), show (i + 1) * z - z = i * z by rw [Nat.succ_mul]; omega, List.nil_append]

theorem ev_IndexFunc {W : World} {F : List HProp} [Abs F] (f : FuncId) (vs : List Value) (P : EnvD → Bool) (l : List EnvD) (a : Option Addr) (n c : Nat) {cs : List Value} [HasRow F a cs] (hcs : cs = l.flatMap EnvD.cells) (hn : l.length = n) (hb : n ≤ 1000000000) (hcl : ∀ args w, (callFunc f args).run Tryz.prog w = .ok (.enter f args) w) (hf : ∀ e ∈ l, CallsK W Tryz.prog f ([e.val] ++ vs).toArray F (fun u L => u = .bool (P e) ∧ Lands L F)) :
    CallsK W Tryz.prog 169 #[.slice a n c, .func (.func f) #[] vs.toArray] (F) (fun u L => u = .int .i64 (idxP P l) ∧ Lands L F) := by
  refine CallsK_enter (n := 19) Tryz.func169 rfl rfl rfl ?_
  subst hcs; subst hn
  iterate 14 refine Ws ?_
  refine SC_ind (X := Nat) (fun i => i ≤ l.length ∧ ∀ x ∈ l.take i, P x = false) (fun i => l.length - i) (fun i => [(0, .slice a l.length c), (1, .func (.func f) #[] vs.toArray), (7, .int .i64 (l.length : Nat)), (8, .int .i64 (i : Nat))]) (fun i => F) (0) (⟨by omega, by simp⟩) (.cons rfl (.cons rfl (.cons rfl (.cons rfl (.nil))))) (.fin) ?_
  intro i hi ih
  obtain ⟨hi1, hi2⟩ := hi
  iterate 6 refine Ws ?_
  refine SC_cond rfl (fun hc9 => ?_) (fun hc9 => ?_)
  · have hin : i < l.length := by simp at hc9; omega
    obtain ⟨e, he⟩ : ∃ e, l[i]? = some e := ⟨_, List.getElem?_eq_getElem hin⟩
    have hmem := List.mem_of_getElem? he
    iterate 15 refine Ws ?_
    refine SR_rd (RD_ixO (cs := l.flatMap EnvD.cells) Tryz.runUnderlying53 Tryz.sizeOf43 rfl rfl (by rw [env_len]) (by omega) (by omega)) Has.ro rfl ?_
    refine SR_rd (RD_loadAO (vs := e.cells) (cs := l.flatMap EnvD.cells) Tryz.isAgg43 Tryz.sizeOf43 rfl rfl (by decide) (fun o v h => by have ho : o < 4 := (List.getElem?_eq_some_iff.1 h).1; rw [show ((i : Nat) : Int).toNat * (3 + 1) + o = i * 4 + o by omega, env_get he o ho]; exact h)) Has.ro rfl ?_
    refine SR_callv rfl hcl (.cons rfl (.nil)) (hf e hmem) (lts rfl) ?_
    rintro _ L1 ⟨rfl, hL1⟩
    refine SR.lands hL1 ?_
    iterate 2 refine Ws ?_
    refine SC_cond rfl (fun hc16 => ?_) (fun hc16 => ?_)
    · have hP : P e = true := hc16
      iterate 6 refine Ws ?_
      refine SC_ret1 rfl rfl ?_
      exact ⟨by rw [idxP_at he hP hi2], .fin⟩
    · have hP : P e = false := by simpa using hc16
      iterate 7 refine Ws ?_
      refine SC_again (ih (i + 1) (⟨by omega, fun x hx => by
        rw [List.take_add_one, he] at hx
        rcases List.mem_append.1 hx with h | h
        · exact hi2 x h
        · simp at h; subst h; exact hP⟩) (by omega)) (.fin) (.cons rfl (.cons rfl (.cons rfl (.cons' rfl (ie (by omega)) (.nil)))))
  · have hin : i = l.length := by simp at hc9; omega
    subst hin
    rw [List.take_length] at hi2
    iterate 7 refine Ws ?_
    refine SC_ret1 rfl rfl ?_
    exact ⟨by rw [idxP_no hi2], .fin⟩

theorem ev_ContainsFunc {W : World} {F : List HProp} [Abs F] (f : FuncId) (vs : List Value) (P : EnvD → Bool) (l : List EnvD) (a : Option Addr) (n c : Nat) {cs : List Value} [HasRow F a cs] (hcs : cs = l.flatMap EnvD.cells) (hn : l.length = n) (hb : n ≤ 1000000000) (hcl : ∀ args w, (callFunc f args).run Tryz.prog w = .ok (.enter f args) w) (hf : ∀ e ∈ l, CallsK W Tryz.prog f ([e.val] ++ vs).toArray F (fun u L => u = .bool (P e) ∧ Lands L F)) :
    CallsK W Tryz.prog 171 #[.slice a n c, .func (.func f) #[] vs.toArray] (F) (fun u L => u = .bool (l.any P) ∧ Lands L F) := by
  refine CallsK_enter (n := 9) Tryz.func171 rfl rfl rfl ?_
  iterate 9 refine Ws ?_
  refine Wc (ev_IndexFunc f vs P l a n c hcs hn hb hcl hf) ?_
  iterate 4 refine Ws ?_
  refine SC_ret1 rfl rfl ?_
  exact ⟨by rw [idxP_nn], .fin⟩

theorem go_Index {W : World} {F : List HProp} [Abs F] (l : List Int) (w : Int) (a : Option Addr) (n c : Nat) {cs : List Value} [HasRow F a cs] (hcs : cs = l.map intV) (hn : l.length = n) (hb : n ≤ 1000000000) :
    CallsK W Tryz.prog 80 #[.slice a n c, .int .i64 w] (F) (fun u L => u = .int .i64 (idxP (fun x => decide (w = x)) l) ∧ Lands L F) := by
  refine CallsK_enter (n := 19) Tryz.func80 rfl rfl rfl ?_
  subst hcs; subst hn
  iterate 14 refine Ws ?_
  refine SC_ind (X := Nat) (fun i => i ≤ l.length ∧ ∀ x ∈ l.take i, decide (w = x) = false) (fun i => l.length - i) (fun i => [(0, .slice a l.length c), (1, .int .i64 w), (7, .int .i64 (l.length : Nat)), (8, .int .i64 (i : Nat))]) (fun i => F) (0) (⟨by omega, by simp⟩) (.cons rfl (.cons rfl (.cons rfl (.cons rfl (.nil))))) (.fin) ?_
  intro i hi ih
  obtain ⟨hi1, hi2⟩ := hi
  iterate 6 refine Ws ?_
  refine SC_cond rfl (fun hc9 => ?_) (fun hc9 => ?_)
  · have hin : i < l.length := by simp at hc9; omega
    obtain ⟨e, he⟩ : ∃ e, l[i]? = some e := ⟨_, List.getElem?_eq_getElem hin⟩
    have hmem := List.mem_of_getElem? he
    iterate 15 refine Ws ?_
    refine SR_rd (RD_ixO (cs := l.map intV) Tryz.runUnderlying37 Tryz.sizeOf3 rfl rfl (by simp) (by omega) (by omega)) Has.ro rfl ?_
    refine SR_rd (RD_loadO (v := intV e) (cs := l.map intV) Tryz.isAgg3 rfl (by simp [he])) Has.ro rfl ?_
    iterate 3 refine Ws ?_
    refine SC_cond rfl (fun hc16 => ?_) (fun hc16 => ?_)
    · have hP : decide (w = e) = true := hc16
      iterate 6 refine Ws ?_
      refine SC_ret1 rfl rfl ?_
      exact ⟨by rw [idxP_at he hP hi2], .fin⟩
    · have hP : decide (w = e) = false := by simpa using hc16
      iterate 7 refine Ws ?_
      refine SC_again (ih (i + 1) (⟨by omega, fun x hx => by
        rw [List.take_add_one, he] at hx
        rcases List.mem_append.1 hx with h | h
        · exact hi2 x h
        · simp at h; subst h; exact hP⟩) (by omega)) (.fin) (.cons rfl (.cons rfl (.cons rfl (.cons' rfl (ie (by omega)) (.nil)))))
  · have hin : i = l.length := by simp at hc9; omega
    subst hin
    rw [List.take_length] at hi2
    iterate 7 refine Ws ?_
    refine SC_ret1 rfl rfl ?_
    exact ⟨by rw [idxP_no hi2], .fin⟩

theorem any_eq_mem (l : List Int) (w : Int) : (l.any fun x => decide (w = x)) = decide (w ∈ l) := by
  induction l with
  | nil => rfl
  | cons x l ih => rw [List.any_cons, ih]; by_cases h : w = x <;> simp [h]

theorem go_Contains {W : World} {F : List HProp} [Abs F] (l : List Int) (w : Int) (a : Option Addr) (n c : Nat) {cs : List Value} [HasRow F a cs] (hcs : cs = l.map intV) (hn : l.length = n) (hb : n ≤ 1000000000) :
    CallsK W Tryz.prog 51 #[.slice a n c, .int .i64 w] (F) (fun u L => u = .bool (decide (w ∈ l)) ∧ Lands L F) := by
  refine CallsK_enter (n := 9) Tryz.func51 rfl rfl rfl ?_
  iterate 9 refine Ws ?_
  refine Wc (go_Index l w a n c hcs hn hb) ?_
  iterate 4 refine Ws ?_
  refine SC_ret1 rfl rfl ?_
  exact ⟨by rw [idxP_nn, any_eq_mem], .fin⟩

theorem erase_eq {X : Type} (l : List X) (i : Nat) : l.take i ++ l.drop (i + 1) = l.eraseIdx i := (List.eraseIdx_eq_take_drop_succ l i).symm

theorem ev_Delete {W : World} {F : List HProp} [Abs F] (l : List EnvD) (a : Option Addr) (n c i : Nat) {cs : List Value} (hcs : cs = l.flatMap EnvD.cells) (hn : l.length = n) (hb : n ≤ 1000000000) (hi : i < n) :
    CallsK W Tryz.prog 147 #[.slice a n c, .int .i64 (i : Nat), .int .i64 ((i + 1 : Nat) : Int)] (rowP 43 4 a n c cs :: F) (fun u L => u = .slice a (n - 1) c ∧ Lands L (rowP 43 4 a (n - 1) c ((l.eraseIdx i).flatMap EnvD.cells) :: F)) := by
  refine CallsK_enter (n := 33) Tryz.func147 rfl rfl rfl ?_
  subst hcs
  refine SC.row_len (a := a) fun hlen hnc => ?_
  have hsz : i + (n - (i + 1)) = n - 1 := by omega
  iterate 12 refine Ws ?_
  refine SR_pu (RD_slice (il := (i : Nat)) (ih := ((i + 1 : Nat) : Int)) (im := (n : Nat)) Tryz.runUnderlying53 Tryz.sizeOf43 rfl (.inr ⟨_, rfl, rfl⟩) (.inr ⟨_, rfl, rfl⟩) (.inr ⟨_, rfl, rfl⟩) (by omega) (by omega) (by omega) (by omega)) rfl ?_
  iterate 10 refine Ws ?_
  refine SC_cond_false rfl (decide_eq_false (by omega)) ?_
  iterate 10 refine Ws ?_
  refine Wd [.r 0, .r 1, .r 2, .r 3, .r 4, .r 5, .e 6, .r 7] ?_
  iterate 2 refine Wq ?_
  refine SQ_pu rfl (RD_cutH Tryz.runUnderlying53 Tryz.sizeOf43 rfl rfl (by omega) (by omega)) rfl ?_
  iterate 2 refine Wq ?_
  refine SQ_pu rfl (RD_cutL Tryz.runUnderlying53 Tryz.sizeOf43 rfl rfl (by omega) (by omega) (by omega)) rfl ?_
  refine SQ_ox rfl (OX_appS (z := 4) (i := i) (j := i + 1) Tryz.underlying53 Tryz.underlying53 Tryz.type43 rfl inferInstance (ev_iV rfl rfl) (ev_iV rfl rfl) (by omega) (by omega) (by omega)) rfl ?_
  rintro _ _ ⟨rfl, rfl⟩
  refine ⟨.nil, ?_⟩
  rw [hsz]
  refine Wq ?_
  iterate 8 refine Ws ?_
  refine SR_pu (RD_slice (il := ((n - 1 : Nat) : Int)) (ih := (n : Nat)) (im := (c : Nat)) (km := .i64) Tryz.runUnderlying53 Tryz.sizeOf43 rfl (.inr ⟨_, rfl, rfl⟩) (.inr ⟨_, rfl, rfl⟩) (.inl ⟨rfl, rfl⟩) (by omega) (by omega) (by omega) (by omega)) rfl ?_
  refine SR_ox0 (OX_clr (z := 4) (k := n - 1) (d := n - 1) (m := n - (n - 1)) Tryz.underlying53 Tryz.zeroValue43 rfl (by decide) (by omega) (ev_iV rfl rfl) (by omega) (by omega)) ?_
  rintro _ _ rfl
  iterate 8 refine Ws ?_
  refine SC_ret1 rfl rfl ?_
  refine ⟨rfl, ?_⟩
  rw [flat_take' (z := 4) (fun _ => rfl), flat_drop' (z := 4) (fun _ => rfl), ← List.flatMap_append, erase_eq, Int.toNat_natCast]
  exact .fin

theorem ms_Delete {W : World} {F : List HProp} [Abs F] (l : List MsgD) (a : Option Addr) (n c i : Nat) {cs : List Value} (hcs : cs = l.flatMap MsgD.cells) (hn : l.length = n) (hb : n ≤ 1000000000) (hi : i < n) :
    CallsK W Tryz.prog 116 #[.slice a n c, .int .i64 (i : Nat), .int .i64 ((i + 1 : Nat) : Int)] (rowP 46 19 a n c cs :: F) (fun u L => u = .slice a (n - 1) c ∧ Lands L (rowP 46 19 a (n - 1) c ((l.eraseIdx i).flatMap MsgD.cells) :: F)) := by
  refine CallsK_enter (n := 33) Tryz.func116 rfl rfl rfl ?_
  subst hcs
  refine SC.row_len (a := a) fun hlen hnc => ?_
  have hsz : i + (n - (i + 1)) = n - 1 := by omega
  iterate 12 refine Ws ?_
  refine SR_pu (RD_slice (il := (i : Nat)) (ih := ((i + 1 : Nat) : Int)) (im := (n : Nat)) Tryz.runUnderlying76 Tryz.sizeOf46 rfl (.inr ⟨_, rfl, rfl⟩) (.inr ⟨_, rfl, rfl⟩) (.inr ⟨_, rfl, rfl⟩) (by omega) (by omega) (by omega) (by omega)) rfl ?_
  iterate 10 refine Ws ?_
  refine SC_cond_false rfl (decide_eq_false (by omega)) ?_
  iterate 10 refine Ws ?_
  refine Wd [.r 0, .r 1, .r 2, .r 3, .r 4, .r 5, .e 6, .r 7] ?_
  iterate 2 refine Wq ?_
  refine SQ_pu rfl (RD_cutH Tryz.runUnderlying76 Tryz.sizeOf46 rfl rfl (by omega) (by omega)) rfl ?_
  iterate 2 refine Wq ?_
  refine SQ_pu rfl (RD_cutL Tryz.runUnderlying76 Tryz.sizeOf46 rfl rfl (by omega) (by omega) (by omega)) rfl ?_
  refine SQ_ox rfl (OX_appS (z := 19) (i := i) (j := i + 1) Tryz.underlying76 Tryz.underlying76 Tryz.type46 rfl inferInstance (ev_iV rfl rfl) (ev_iV rfl rfl) (by omega) (by omega) (by omega)) rfl ?_
  rintro _ _ ⟨rfl, rfl⟩
  refine ⟨.nil, ?_⟩
  rw [hsz]
  refine Wq ?_
  iterate 8 refine Ws ?_
  refine SR_pu (RD_slice (il := ((n - 1 : Nat) : Int)) (ih := (n : Nat)) (im := (c : Nat)) (km := .i64) Tryz.runUnderlying76 Tryz.sizeOf46 rfl (.inr ⟨_, rfl, rfl⟩) (.inr ⟨_, rfl, rfl⟩) (.inl ⟨rfl, rfl⟩) (by omega) (by omega) (by omega) (by omega)) rfl ?_
  refine SR_ox0 (OX_clr (z := 19) (k := n - 1) (d := n - 1) (m := n - (n - 1)) Tryz.underlying76 Tryz.zeroValue46 rfl (by decide) (by omega) (ev_iV rfl rfl) (by omega) (by omega)) ?_
  rintro _ _ rfl
  iterate 8 refine Ws ?_
  refine SC_ret1 rfl rfl ?_
  refine ⟨rfl, ?_⟩
  rw [flat_take' (z := 19) (fun _ => rfl), flat_drop' (z := 19) (fun _ => rfl), ← List.flatMap_append, erase_eq, Int.toNat_natCast]
  exact .fin

theorem idxP_spec {X : Type} {p : X → Bool} : ∀ {l : List X}, (idxP p l = -1 ∧ ∀ x ∈ l, p x = false) ∨ ∃ (i : Nat) (x : X), idxP p l = (i : Int) ∧ l[i]? = some x ∧ p x = true ∧ ∀ y ∈ l.take i, p y = false
  | [] => .inl ⟨rfl, fun x h => (nomatch h)⟩
  | x :: l => by
    by_cases h : p x = true
    · exact .inr ⟨0, x, by unfold idxP; rw [if_pos h]; rfl, rfl, h, fun y hy => by simp at hy⟩
    · have h' : p x = false := by simpa using h
      rcases idxP_spec (p := p) (l := l) with ⟨h1, h2⟩ | ⟨i, y, h1, h2, h3, h4⟩
      · exact .inl ⟨by unfold idxP; rw [if_neg h, if_pos (by omega)], fun y hy => by rcases List.mem_cons.1 hy with rfl | hy; exact h'; exact h2 y hy⟩
      · refine .inr ⟨i + 1, y, by unfold idxP; rw [if_neg h, if_neg (by omega), h1]; simp, by simpa using h2, h3, fun z hz => ?_⟩
        rw [List.take_succ_cons] at hz
        rcases List.mem_cons.1 hz with rfl | hz
        · exact h'
        · exact h4 z hz
theorem del_step {X : Type} {C : X → List Value} {z : Nat} (hC : ∀ x, (C x).length = z) (K G D : List X) (g e : X) : setL ((K ++ (g :: G) ++ (e :: D)).flatMap C) (K.length * z) (C e) = ((K ++ [e]) ++ (G ++ [e]) ++ D).flatMap C := by
  have h1 : (K ++ (g :: G) ++ (e :: D)).flatMap C = K.flatMap C ++ C g ++ (G ++ e :: D).flatMap C := by simp
  have h2 : (K.flatMap C).length = K.length * z := by
    induction K with
    | nil => simp
    | cons x K ih => rw [List.flatMap_cons, List.length_append, hC, List.length_cons, Nat.succ_mul, ih (by simp)]; omega
  rw [h1, ← h2, setL_app _ _ _ _ (by rw [hC, hC])]
  simp
theorem row_takeL {E z n c : Nat} {a : Option Addr} {cs : List Value} {L R : List HProp} [t : TakeRow L a E z n c cs R] (k : Nat) (hk : k ≤ n) : Lands L (rowP E z a k c (cs.take (k * z)) :: R) := fun m H => row_take k hk m (Den_perm t.perm m H)
theorem filter_snoc {X : Type} (p : X → Bool) (l : List X) (j : Nat) (e : X) (h : l[j]? = some e) : (l.take (j + 1)).filter p = (l.take j).filter p ++ (if p e then [e] else []) := by
  rw [List.take_add_one, h, List.filter_append]
  congr 1
  cases hp : p e <;> simp [hp]

/-- Two pieces as one. -/
def sepH (A B : HProp) : HProp := fun h => Den [A, B] h
theorem sep_in {A B : HProp} {L R R1 : List HProp} [t : TakeA L A R1] [u : TakeA R1 B R] : Lands L (sepH A B :: R) := fun m H => by
  obtain ⟨m1, m2, d, e, hq, hr⟩ := Den_perm t.perm m H
  obtain ⟨m3, m4, d2, e2, hm, hs⟩ := Den_perm u.perm m2 hr
  have H2 : Den ([A, B] ++ R) m := ⟨m1, m2, d, e, hq, m3, m4, d2, e2, hm, hs⟩
  exact Lands.wrap (A := sepH A B) (fun z hz => hz) m H2
theorem sep_out {A B : HProp} {R : List HProp} : Lands (sepH A B :: R) (A :: B :: R) := fun m ⟨m1, m2, d, e, hq, hr⟩ => Den_app d e hq hr

theorem ev_DeleteFunc {W : World} {F : List HProp} [Abs F] (f : FuncId) (vs : List Value) (P : EnvD → Bool) (l : List EnvD) (a : Option Addr) (n c : Nat) {cs : List Value} (hcs : cs = l.flatMap EnvD.cells) (hn : l.length = n) (hb : n ≤ 1000000000) (hcl : ∀ args w, (callFunc f args).run Tryz.prog w = .ok (.enter f args) w) (hf : ∀ e ∈ l, ∀ A : HProp, CallsK W Tryz.prog f ([e.val] ++ vs).toArray (A :: F) (fun u L => u = .bool (P e) ∧ Lands L (A :: F))) :
    CallsK W Tryz.prog 144 #[.slice a n c, .func (.func f) #[] vs.toArray] (rowP 43 4 a n c cs :: F) (fun u L => u = .slice a (l.filter fun e => !P e).length c ∧ Lands L (rowP 43 4 a (l.filter fun e => !P e).length c ((l.filter fun e => !P e).flatMap EnvD.cells) :: F)) := by
  refine CallsK_enter (n := 42) Tryz.func144 rfl rfl rfl ?_
  subst hcs; subst hn
  refine SC.row_len (a := a) fun hlen hnc => ?_
  iterate 9 refine Ws ?_
  refine Wc (ev_IndexFunc f vs P l a l.length c rfl rfl hb hcl (fun e he => hf e he _)) ?_
  iterate 10 refine Ws ?_
  rcases idxP_spec (p := P) (l := l) with ⟨hm1, hall⟩ | ⟨i0, e0, hm1, he0, hP0, hbef⟩
  · refine SC_cond_true rfl (decide_eq_true hm1) ?_
    iterate 6 refine Ws ?_
    refine SC_ret1 rfl rfl ?_
    have hfl : (l.filter fun e => !P e) = l := List.filter_eq_self.2 fun x hx => by rw [hall x hx]; rfl
    rw [hfl]
    exact ⟨rfl, .fin⟩
  · have hi0 : i0 < l.length := (List.getElem?_eq_some_iff.1 he0).1
    have hpre : (l.take i0).filter (fun e => !P e) = l.take i0 := List.filter_eq_self.2 fun x hx => by rw [hbef x hx]; rfl
    rw [hm1]
    refine SC_cond_false rfl (decide_eq_false (by omega)) ?_
    iterate 11 refine Ws ?_
    refine SC_ind (X := Nat × List EnvD × List EnvD) (fun x => x.1 ≤ l.length ∧ x.2.1 = (l.take x.1).filter (fun e => !P e) ∧ x.2.1.length + x.2.2.length = x.1 ∧ 0 < x.2.2.length) (fun x => l.length - x.1) (fun x => [(0, .slice a l.length c), (1, .func (.func f) #[] vs.toArray), (5, .int .i64 (x.2.1.length : Nat)), (6, .int .i64 (x.1 : Nat))]) (fun x => rowP 43 4 a l.length c ((x.2.1 ++ x.2.2 ++ l.drop x.1).flatMap EnvD.cells) :: F) ((i0 + 1, l.take i0, [e0])) (⟨by dsimp only; omega, by dsimp only; rw [filter_snoc _ _ _ _ he0, hP0]; simp [hpre], by dsimp only; rw [List.length_take]; simp; omega, by simp⟩) (.cons rfl (.cons rfl (.cons' rfl (ie (by dsimp only; rw [List.length_take]; omega)) (.cons' rfl (ie (by dsimp only; omega)) (.nil))))) (by dsimp only; rw [show l.take i0 ++ [e0] ++ l.drop (i0 + 1) = l by rw [List.append_assoc]; exact (at_split he0).symm]; exact .fin) ?_
    intro ⟨j, K, G⟩ hi ih
    obtain ⟨hj, hK, hKG, hG⟩ := hi
    dsimp only at hj hK hKG hG ih ⊢
    iterate 9 refine Ws ?_
    refine SC_cond rfl (fun hc19 => ?_) (fun hc19 => ?_)
    · have hjn : j < l.length := by simp at hc19; omega
      obtain ⟨e, he⟩ : ∃ e, l[j]? = some e := ⟨_, List.getElem?_eq_getElem hjn⟩
      have hmem := List.mem_of_getElem? he
      have hD : l.drop j = e :: l.drop (j + 1) := by obtain ⟨h, rfl⟩ := List.getElem?_eq_some_iff.1 he; exact List.drop_eq_getElem_cons h
      have hMj : (K ++ G ++ l.drop j)[j]? = some e := by rw [List.getElem?_append_right (by rw [List.length_append]; omega), List.length_append, hKG, Nat.sub_self, hD]; rfl
      have hMl : (K ++ G ++ l.drop j).length = l.length := by rw [List.length_append, List.length_append, List.length_drop]; omega
      obtain ⟨g, G2, rfl⟩ : ∃ g G2, G = g :: G2 := by cases G with | nil => simp at hG | cons g G2 => exact ⟨g, G2, rfl⟩
      iterate 8 refine Ws ?_
      refine SR_rd (RD_ixO (cs := (K ++ g :: G2 ++ l.drop j).flatMap EnvD.cells) Tryz.runUnderlying53 Tryz.sizeOf43 rfl rfl (by rw [env_len, hMl]) (by omega) (by omega)) Has.ro rfl ?_
      refine SR_rd (RD_loadAO (vs := e.cells) (cs := (K ++ g :: G2 ++ l.drop j).flatMap EnvD.cells) Tryz.isAgg43 Tryz.sizeOf43 rfl rfl (by decide) (fun o v h => by have ho : o < 4 := (List.getElem?_eq_some_iff.1 h).1; rw [show ((j : Nat) : Int).toNat * (3 + 1) + o = j * 4 + o by omega, env_get hMj o ho]; exact h)) Has.ro rfl ?_
      refine Wa fun b7 => ?_
      refine SR_ox0 (OX_stA (vs := e.cells) Tryz.sizeOf43 rfl rfl rfl rfl) ?_
      rintro _ _ rfl
      iterate 5 refine Ws ?_
      refine SR_rd (RD_loadA (vs := e.cells) Tryz.isAgg43 Tryz.sizeOf43 rfl rfl) Has.wh rfl ?_
      refine SR_callv rfl hcl (.cons rfl (.nil)) (CallsK.lands (T := sepH (rowP 43 4 a l.length c ((K ++ g :: G2 ++ l.drop j).flatMap EnvD.cells)) (pt b7 (.cells e.cells.toArray 43)) :: F) ((sep_in (A := rowP 43 4 a l.length c ((K ++ g :: G2 ++ l.drop j).flatMap EnvD.cells)) (B := pt b7 (.cells e.cells.toArray 43))).trans .fin) (hf e hmem _)) (lts rfl) ?_
      rintro _ L3 ⟨rfl, hL3⟩
      refine SR.lands (hL3.trans sep_out) ?_
      iterate 3 refine Ws ?_
      refine SC_cond rfl (fun hc29 => ?_) (fun hc29 => ?_)
      · have hPe : P e = false := by simpa using hc29
        iterate 4 refine Ws ?_
        refine SR_rd (RD_loadA (vs := e.cells) Tryz.isAgg43 Tryz.sizeOf43 rfl rfl) Has.wh rfl ?_
        refine SR_rd (RD_ixO (cs := (K ++ g :: G2 ++ l.drop j).flatMap EnvD.cells) Tryz.runUnderlying53 Tryz.sizeOf43 rfl rfl (by rw [env_len, hMl]) (by omega) (by simp at hKG; omega)) Has.ro rfl ?_
        refine SR_ox0 (OX_stRA (vs := e.cells) (j := K.length * 4) Tryz.sizeOf43 (ev_iV rfl rfl) rfl rfl (by omega) (by rw [env_len, hMl]; simp at hKG; omega)) ?_
        rintro _ _ rfl
        iterate 2 refine Ws ?_
        have hset := del_step (C := EnvD.cells) (z := 4) (fun _ => rfl) K G2 (l.drop (j + 1)) g e
        rw [← hD] at hset
        iterate 12 refine Ws ?_
        refine SC_again (ih ((j + 1, K ++ [e], G2 ++ [e])) (⟨by dsimp only; omega, by dsimp only; rw [filter_snoc _ _ _ _ he, hPe, hK]; rfl, by dsimp only; simp at hKG ⊢; omega, by dsimp only; simp⟩) (by dsimp only; omega)) (by dsimp only; rw [hset]; exact .fin) (.cons rfl (.cons rfl (.cons' rfl (ie (by dsimp only; simp)) (.cons' rfl (ie (by dsimp only; omega)) (.nil)))))
      · have hPe : P e = true := by simpa using hc29
        iterate 8 refine Ws ?_
        refine SC_again (ih ((j + 1, K, g :: G2 ++ [e])) (⟨by dsimp only; omega, by dsimp only; rw [filter_snoc _ _ _ _ he, hPe, hK]; simp, by dsimp only; simp at hKG ⊢; omega, by dsimp only; simp⟩) (by dsimp only; omega)) (by dsimp only; rw [show K ++ (g :: G2 ++ [e]) ++ l.drop (j + 1) = K ++ (g :: G2) ++ l.drop j by rw [hD]; simp]; exact .fin) (.cons rfl (.cons rfl (.cons rfl (.cons' rfl (ie (by dsimp only; omega)) (.nil)))))
    · have hjn : j = l.length := by simp at hc19; omega
      subst hjn
      rw [List.take_length] at hK
      rw [List.drop_length, List.append_nil]
      have hfin : ((K ++ G).flatMap EnvD.cells).take (K.length * 4) = (l.filter fun e => !P e).flatMap EnvD.cells := by rw [flat_take' (C := EnvD.cells) (z := 4) (fun _ => rfl), List.take_left, hK]
      have hkl : K.length ≤ l.length := by omega
      refine SC.lands (row_takeL (a := a) K.length hkl) ?_
      rw [hfin]
      iterate 6 refine Ws ?_
      refine SR_pu (RD_cutL Tryz.runUnderlying53 Tryz.sizeOf43 rfl rfl (by omega) (by omega) (by omega)) rfl ?_
      refine SR_ox0 (OX_clr (z := 4) (k := K.length) (d := K.length) (m := l.length - K.length) Tryz.underlying53 Tryz.zeroValue43 rfl (by decide) (by omega) (ev_iV rfl rfl) (by omega) (by omega)) ?_
      rintro _ _ rfl
      iterate 6 refine Ws ?_
      refine SR_pu (RD_cutH Tryz.runUnderlying53 Tryz.sizeOf43 rfl rfl (by omega) (by omega)) rfl ?_
      iterate 3 refine Ws ?_
      refine SC_ret1 rfl rfl ?_
      rw [hK]
      exact ⟨rfl, .fin⟩

end Go.Proofs.YtdhpjdhloaoepaaGreat

/- The ledger. -/
namespace Go.Proofs.YtdhpjdhloaoepaaGreat
open Go Go.Proofs
attribute [local irreducible] SC SN SR SQ SA SO
set_option maxRecDepth 100000
structure LK where
  g : Nat
  a : Nat
  f : Nat
structure LdS where
  acs : Acs
  held : List (Int × Int)
  got : Int
  next : List Int
def uV (n : Int) : Value := .int .u64 n
instance {n : Int} : One (uV n) := ⟨rfl, rfl⟩

def ldgI (k : LK) (s : LdS) : HProp := fun h => ∃ (x : Nat) (na : Option Addr) (nc : Nat) (g0 : Int) (g1 : Int) (b0 : Int) (b1 : Int), s.next.length = s.acs.length ∧ AcOk s.acs ∧ Den [pt k.g (.cells [.pointer (some ⟨k.a, 0, none⟩), .pointer (some ⟨k.f, 0, none⟩), .pointer (some ⟨x, 0, none⟩), .slice na s.next.length nc, .int .u64 g0, .int .u64 g1, .int .u64 b0, .int .u64 b1].toArray 137), rowP 35 1 na s.next.length nc (s.next.map uV), At actI k.a s.acs, At feeI k.f ⟨k.a, s.held, s.got⟩] h
theorem open_ldg {k : LK} {s : LdS} : Opens ldgI k s (fun x : (Nat) × (Option Addr) × (Nat) × (Int) × (Int) × (Int) × (Int) => (s.next.length = s.acs.length) ∧ (AcOk s.acs)) (fun x R => (pt k.g (.cells [.pointer (some ⟨k.a, 0, none⟩), .pointer (some ⟨k.f, 0, none⟩), .pointer (some ⟨x.1, 0, none⟩), .slice x.2.1 s.next.length x.2.2.1, .int .u64 x.2.2.2.1, .int .u64 x.2.2.2.2.1, .int .u64 x.2.2.2.2.2.1, .int .u64 x.2.2.2.2.2.2].toArray 137)) :: (rowP 35 1 x.2.1 s.next.length x.2.2.1 (s.next.map uV)) :: (At actI k.a s.acs) :: (At feeI k.f ⟨k.a, s.held, s.got⟩) :: R) := by
  rintro R m_ ⟨m1, m2, d, e, ⟨x, na, nc, g0, g1, b0, b1, f0_, f1_, h_⟩, r⟩
  exact ⟨(x, na, nc, g0, g1, b0, b1), ⟨f0_, f1_⟩, Den_app d e h_ r⟩
theorem close_ldg {L R R1_ R2_ R3_ : List HProp} (k : LK) (s : LdS) {x : Nat} {na : Option Addr} {nc : Nat} {g0 : Int} {g1 : Int} {b0 : Int} {b1 : Int} {y1_ : Nat} {y2_ : Nat} {y3_ : Nat} {y4_ : Nat} {y5_ : List Value} [t0_ : TakePt L k.g (.cells [.pointer (some ⟨y1_, 0, none⟩), .pointer (some ⟨y2_, 0, none⟩), .pointer (some ⟨x, 0, none⟩), .slice na y3_ nc, .int .u64 g0, .int .u64 g1, .int .u64 b0, .int .u64 b1].toArray 137) R1_] [t1_ : TakeRow R1_ na 35 1 y4_ nc y5_ R2_] [t2_ : TakeA R2_ (At actI k.a s.acs) R3_] [t3_ : TakeA R3_ (At feeI k.f ⟨k.a, s.held, s.got⟩) R] (f0_ : s.next.length = s.acs.length) (f1_ : AcOk s.acs) (e0_ : k.a = y1_ := by rfl) (e1_ : k.f = y2_ := by rfl) (e2_ : s.next.length = y3_ := by rfl) (e3_ : s.next.length = y4_ := by rfl) (e4_ : s.next.map uV = y5_ := by rfl) : Lands L (At ldgI k s :: R) := fun q_ H_ => by
  subst e0_; subst e1_; subst e2_; subst e3_; subst e4_;
  obtain ⟨a0_, b0_, d0_, i0_, p0_, r0_⟩ := Den_perm t0_.perm q_ H_
  obtain ⟨a1_, b1_, d1_, i1_, p1_, r1_⟩ := Den_perm t1_.perm b0_ r0_
  obtain ⟨a2_, b2_, d2_, i2_, p2_, r2_⟩ := Den_perm t2_.perm b1_ r1_
  obtain ⟨a3_, b3_, d3_, i3_, p3_, r3_⟩ := Den_perm t3_.perm b2_ r2_
  have H2_ : Den ([pt k.g (.cells [.pointer (some ⟨k.a, 0, none⟩), .pointer (some ⟨k.f, 0, none⟩), .pointer (some ⟨x, 0, none⟩), .slice na s.next.length nc, .int .u64 g0, .int .u64 g1, .int .u64 b0, .int .u64 b1].toArray 137), rowP 35 1 na s.next.length nc (s.next.map uV), At actI k.a s.acs, At feeI k.f ⟨k.a, s.held, s.got⟩] ++ R) q_ := ⟨a0_, b0_, d0_, i0_, p0_, ⟨a1_, b1_, d1_, i1_, p1_, ⟨a2_, b2_, d2_, i2_, p2_, ⟨a3_, b3_, d3_, i3_, p3_, r3_⟩⟩⟩⟩
  exact Lands.wrap (A := At ldgI k s) (fun z_ hz_ => ⟨x, na, nc, g0, g1, b0, b1, f0_, f1_, hz_⟩) q_ H2_
def LdS.nextOf (s : LdS) (c : Int) : Int := if acHas s.acs c then (s.next[c.toNat]?).getD 0 else 0

theorem ldg_Free {W : World} {F : List HProp} [Abs F] (k : LK) (s : LdS) (c a : Int) :
    CallsK W Tryz.prog 33 #[.pointer (some ⟨k.g, 0, none⟩), .int .i64 c, .int .i64 a] (At ldgI k s :: F) (fun u L => u = .int .u64 (acFree s.acs c a) ∧ Lands L (At ldgI k s :: F)) := by
  refine CallsK_enter (n := 14) Tryz.func33 rfl rfl rfl ?_
  iterate 6 refine Ws ?_
  refine SC.opn (open_ldg (k := k)) fun ⟨x, na, nc, g0, g1, b0, b1⟩ hok => ?_
  dsimp only at hok ⊢
  iterate 7 refine Ws ?_
  refine Wc (CallsK.at (act_Free k.a s.acs c a)) ?_
  iterate 3 refine Ws ?_
  refine SC_ret1 rfl rfl ?_
  exact ⟨rfl, (close_ldg k s hok.1 hok.2).trans .fin⟩

theorem ldg_Next {W : World} {F : List HProp} [Abs F] (k : LK) (s : LdS) (c : Int) :
    CallsK W Tryz.prog 42 #[.pointer (some ⟨k.g, 0, none⟩), .int .i64 c] (At ldgI k s :: F) (fun u L => u = .int .u64 (s.nextOf c) ∧ Lands L (At ldgI k s :: F)) := by
  refine CallsK_enter (n := 19) Tryz.func42 rfl rfl rfl ?_
  iterate 7 refine Ws ?_
  refine SC.opn (open_ldg (k := k)) fun ⟨x, na, nc, g0, g1, b0, b1⟩ hok => ?_
  dsimp only at hok ⊢
  iterate 6 refine Ws ?_
  refine Wc (CallsK.at (act_Has k.a s.acs c)) ?_
  iterate 3 refine Ws ?_
  refine SC_cond rfl (fun hc11 => ?_) (fun hc11 => ?_)
  · have hh : acHas s.acs c = false := by simpa using hc11
    iterate 5 refine Ws ?_
    refine SC_ret1 rfl rfl ?_
    unfold LdS.nextOf
    rw [hh]
    exact ⟨rfl, (close_ldg k s hok.1 hok.2).trans .fin⟩
  · have hh : acHas s.acs c = true := by simpa using hc11
    have hi := of_decide_eq_true hh
    obtain ⟨y, hy⟩ : ∃ y, s.next[c.toNat]? = some y := ⟨_, List.getElem?_eq_getElem (by omega)⟩
    iterate 9 refine Ws ?_
    refine SR_rd (RD_ixO (cs := s.next.map uV) Tryz.runUnderlying134 Tryz.sizeOf35 rfl rfl (by simp) (by omega) (by omega)) Has.ro rfl ?_
    refine SR_rd (RD_loadO (v := .int .u64 y) (cs := s.next.map uV) Tryz.isAgg35 rfl (by simp [hy, uV])) Has.ro rfl ?_
    iterate 3 refine Ws ?_
    refine SC_ret1 rfl rfl ?_
    unfold LdS.nextOf
    rw [hh, hy]
    exact ⟨rfl, (close_ldg k s hok.1 hok.2).trans .fin⟩

def LdS.badCode (s : LdS) (c : Int) : Int := if acHas s.acs c then 2 else 1
/-- A bad entry done: its fee is got. -/
def LdS.bad (s : LdS) (c fee : Int) : Int × LdS :=
  let h := feeHold ⟨0, s.held, s.got⟩ s.acs c fee
  let p := feeForf ⟨0, h.1.held, h.1.got⟩ c
  (p.1, ⟨h.2, p.2.held, p.2.got, s.next⟩)
theorem feeHold_a (a b : Nat) (h : List (Int × Int)) (g : Int) (l : Acs) (c fee : Int) : feeHold ⟨a, h, g⟩ l c fee = (⟨a, (feeHold ⟨b, h, g⟩ l c fee).1.held, (feeHold ⟨b, h, g⟩ l c fee).1.got⟩, (feeHold ⟨b, h, g⟩ l c fee).2) := by
  unfold feeHold
  by_cases hh : holds ⟨a, h, g⟩ l c fee
  · have hh2 : holds ⟨b, h, g⟩ l c fee := hh
    rw [if_pos hh, if_pos hh2]
  · have hh2 : ¬ holds ⟨b, h, g⟩ l c fee := hh
    rw [if_neg hh, if_neg hh2]
theorem feeForf_a (a b : Nat) (h : List (Int × Int)) (g c : Int) : feeForf ⟨a, h, g⟩ c = ((feeForf ⟨b, h, g⟩ c).1, ⟨a, (feeForf ⟨b, h, g⟩ c).2.held, (feeForf ⟨b, h, g⟩ c).2.got⟩) := by
  unfold feeForf
  dsimp only
  split <;> rfl
theorem acTake_ok {l : Acs} (h : AcOk l) (c a n : Int) (hn : U64 n) : AcOk (acTake l c a n).2 := by
  unfold acTake
  split
  · rename_i hw
    split
    · have := acP_ok h (acW0.1 hw).1 a.toNat
      exact acSet_ok h (acW0.1 hw).1 _ (by unfold U64 at *; omega)
    · exact h
  · exact h
theorem acTake_len (l : Acs) (c a n : Int) : (acTake l c a n).2.length = l.length := by
  unfold acTake
  split
  · split
    · exact List.length_set
    · rfl
  · rfl
theorem feeHold_ok {s : FeS} {l : Acs} {c fee : Int} (h : AcOk l) (hf : U64 fee) : AcOk (feeHold s l c fee).2 ∧ (feeHold s l c fee).2.length = l.length := by
  unfold feeHold
  split
  · exact ⟨acTake_ok h _ _ _ (by unfold feeMin; split; exact acFree_ok h c 1; exact hf), acTake_len _ _ _ _⟩
  · exact ⟨h, rfl⟩

theorem ldg_done_bad {W : World} {F : List HProp} [Abs F] (k : LK) (s : LdS) (x : EntD) (hx : x.good = false) :
    CallsK W Tryz.prog 227 #[.pointer (some ⟨k.g, 0, none⟩), x.val] (At ldgI k s :: F) (fun u L => u = .agg #[.int .i64 (s.badCode x.client), .int .u64 0, .int .i64 0, .slice none 0 0] ∧ Lands L (At ldgI k s :: F)) := by
  refine CallsK_enter (n := 59) Tryz.func227 rfl rfl rfl ?_
  iterate 2 refine Ws ?_
  refine Wb fun b3 => ?_
  refine Wa fun b4 => ?_
  iterate 5 refine Ws ?_
  refine SC.opn (open_ldg (k := k)) fun ⟨xx, na, nc, g0, g1, b0, b1⟩ hok => ?_
  dsimp only at hok ⊢
  refine Wd [.r 0, .r 1, .r 2, .r 3, .r 4, .r 5, .e 6, .r 7, .r 8] ?_
  iterate 6 refine Wq ?_
  refine SQ_call rfl Tryz.call73 (.cons rfl (.cons rfl (.nil))) (CallsK.at (act_Has k.a s.acs x.client)) (lts rfl) ?_
  rintro _ L1 ⟨rfl, hL1⟩
  refine ⟨.lands hL1 (.w rfl (.w rfl (.nil))), ?_⟩
  refine SQ.lands hL1 ?_
  iterate 2 refine Wq ?_
  iterate 2 refine Ws ?_
  refine SC_cond rfl (fun hc5 => ?_) (fun hc5 => ?_)
  · have hh : acHas s.acs x.client = false := by simpa using hc5
    iterate 2 refine Ws ?_
    refine SR_pu (RD_build (.cons rfl (.nil)) built278_0) rfl ?_
    refine SR_ox0 (OX_stA Tryz.sizeOf278 rfl rfl rfl rfl) ?_
    rintro _ _ rfl
    iterate 2 refine Ws ?_
    refine SC_retC rfl Tryz.isAgg278 Tryz.sizeOf278 rfl rfl Has.wh ?_
    unfold LdS.badCode
    rw [hh]
    exact ⟨rfl, (close_ldg k s hok.1 hok.2 (x := xx)).trans .fin⟩
  · have hh : acHas s.acs x.client = true := by simpa using hc5
    iterate 3 refine Ws ?_
    refine SR_rd (RD_load (v := .bool x.good) Tryz.isAgg4 rfl) (Has.ce rfl) rfl ?_
    iterate 2 refine Ws ?_
    refine SR_no rfl rfl (by simp [hx]) (lts rfl) ?_
    refine SR_no rfl rfl (by simp [hx]) (lts rfl) ?_
    refine SR_no rfl rfl (by simp [hx]) (lts rfl) ?_
    refine SR_no rfl rfl (by simp [hx]) (lts rfl) ?_
    refine SR_pu (RD_pick_t rfl (by simp [hx]) rfl) rfl ?_
    iterate 3 refine Ws ?_
    refine SC_cond_true rfl (rfl) ?_
    iterate 2 refine Ws ?_
    refine SR_pu (RD_build (.cons rfl (.nil)) built278_0) rfl ?_
    refine SR_ox0 (OX_stA Tryz.sizeOf278 rfl rfl rfl rfl) ?_
    rintro _ _ rfl
    iterate 2 refine Ws ?_
    refine SC_retC rfl Tryz.isAgg278 Tryz.sizeOf278 rfl rfl Has.wh ?_
    unfold LdS.badCode
    rw [hh]
    exact ⟨rfl, (close_ldg k s hok.1 hok.2 (x := xx)).trans .fin⟩

theorem ldg_Do_bad {W : World} {F : List HProp} [Abs F] (k : LK) (s : LdS) (x : EntD) (hx : x.good = false) (hfee : U64 x.fee) :
    CallsK W Tryz.prog 191 #[.pointer (some ⟨k.g, 0, none⟩), x.val] (At ldgI k s :: F) (fun u L => u = .agg #[.int .i64 (s.badCode x.client), .int .u64 (s.bad x.client x.fee).1, .int .i64 0, .slice none 0 0] ∧ Lands L (At ldgI k (s.bad x.client x.fee).2 :: F)) := by
  refine CallsK_enter (n := 38) Tryz.func191 rfl rfl rfl ?_
  iterate 2 refine Ws ?_
  refine Wb fun b3 => ?_
  refine Wa fun b4 => ?_
  iterate 3 refine Ws ?_
  refine SC.opn (open_ldg (k := k)) fun ⟨xx, na, nc, g0, g1, b0, b1⟩ hok => ?_
  dsimp only at hok ⊢
  refine Wd [.r 0, .r 1, .r 2, .r 3, .r 4, .r 5, .r 6, .r 7, .e 8] ?_
  iterate 5 refine Wq ?_
  refine SQ_rd rfl (RD_load (v := .int .i64 x.client) Tryz.isAgg3 rfl) (Has.ce rfl) rfl ?_
  refine Wq ?_
  refine SQ_rd rfl (RD_load (v := .int .u64 x.fee) Tryz.isAgg35 rfl) (Has.ce rfl) rfl ?_
  refine SQ_call rfl Tryz.call226 (.cons rfl (.cons rfl (.cons rfl (.nil)))) (CallsK.at2 (fee_Hold k.f ⟨k.a, s.held, s.got⟩ s.acs x.client x.fee hfee hok.2)) (lts rfl) ?_
  rintro _ L1 ⟨⟨nn, rfl⟩, hL1⟩
  rw [feeHold_a k.a 0] at hL1
  dsimp only at hL1
  have hk2 := feeHold_ok (s := ⟨0, s.held, s.got⟩) (c := x.client) hok.2 hfee
  have hL1b := hL1.trans ((close_ldg k (⟨(feeHold ⟨0, s.held, s.got⟩ s.acs x.client x.fee).2, (feeHold ⟨0, s.held, s.got⟩ s.acs x.client x.fee).1.held, (feeHold ⟨0, s.held, s.got⟩ s.acs x.client x.fee).1.got, s.next⟩ : LdS) (by rw [hk2.2]; exact hok.1) hk2.1 (x := xx) (na := na) (nc := nc) (g0 := g0) (g1 := g1) (b0 := b0) (b1 := b1)))
  refine ⟨.lands hL1b (.w rfl (.w rfl (.w rfl (.nil)))), ?_⟩
  refine SQ.lands hL1b ?_
  iterate 5 refine Ws ?_
  refine SR_rd (RD_loadA (vs := x.cells) Tryz.isAgg273 Tryz.sizeOf273 rfl rfl) Has.wh rfl ?_
  refine Wc (CallsK.at (ldg_done_bad k (⟨(feeHold ⟨0, s.held, s.got⟩ s.acs x.client x.fee).2, (feeHold ⟨0, s.held, s.got⟩ s.acs x.client x.fee).1.held, (feeHold ⟨0, s.held, s.got⟩ s.acs x.client x.fee).1.got, s.next⟩ : LdS) x hx)) ?_
  refine Wa fun b5 => ?_
  refine SR_ox0 (OX_stA Tryz.sizeOf278 rfl rfl rfl rfl) ?_
  rintro _ _ rfl
  iterate 10 refine Ws ?_
  refine SC_cond_false rfl (decide_eq_false (by unfold LdS.badCode; split <;> omega)) ?_
  refine SC.opn (open_ldg (k := k)) fun ⟨xx, na, nc, g0, g1, b0, b1⟩ hok2 => ?_
  dsimp only at hok2 ⊢
  refine Wd [.r 0, .r 1, .r 2, .r 3, .r 4, .r 5, .e 6, .r 7, .e 8] ?_
  iterate 5 refine Wq ?_
  refine SQ_rd rfl (RD_load (v := .int .i64 x.client) Tryz.isAgg3 rfl) (Has.ce rfl) rfl ?_
  refine SQ_call rfl Tryz.call229 (.cons rfl (.cons rfl (.nil))) (CallsK.at (fee_Forfeit k.f ⟨k.a, (feeHold ⟨0, s.held, s.got⟩ s.acs x.client x.fee).1.held, (feeHold ⟨0, s.held, s.got⟩ s.acs x.client x.fee).1.got⟩ x.client)) (lts rfl) ?_
  rintro _ L3 ⟨rfl, hL3⟩
  rw [feeForf_a k.a 0] at hL3
  dsimp only at hL3
  refine ⟨.lands hL3 (.w rfl (.w rfl (.nil))), ?_⟩
  refine SQ.lands hL3 ?_
  refine Wq ?_
  refine SQ_ox0 rfl (OX_st Tryz.sizeOf35 rfl rfl) ?_
  rintro _ _ rfl
  refine ⟨.w rfl (.w rfl (.nil)), ?_⟩
  iterate 5 refine Ws ?_
  refine SR_ox0 (OX_stA Tryz.sizeOf278 rfl rfl rfl rfl) ?_
  rintro _ _ rfl
  iterate 2 refine Ws ?_
  refine SC_retC rfl Tryz.isAgg278 Tryz.sizeOf278 rfl rfl Has.wh ?_
  refine ⟨?_, ?_⟩
  · unfold LdS.badCode
    rw [show acHas (⟨(feeHold ⟨0, s.held, s.got⟩ s.acs x.client x.fee).2, (feeHold ⟨0, s.held, s.got⟩ s.acs x.client x.fee).1.held, (feeHold ⟨0, s.held, s.got⟩ s.acs x.client x.fee).1.got, s.next⟩ : LdS).acs x.client = acHas s.acs x.client by unfold acHas; rw [hk2.2]]
    rw [feeForf_a k.a 0]
    rfl
  · unfold LdS.bad
    dsimp only
    exact (close_ldg k ⟨(feeHold ⟨0, s.held, s.got⟩ s.acs x.client x.fee).2, (feeForf ⟨0, (feeHold ⟨0, s.held, s.got⟩ s.acs x.client x.fee).1.held, (feeHold ⟨0, s.held, s.got⟩ s.acs x.client x.fee).1.got⟩ x.client).2.held, (feeForf ⟨0, (feeHold ⟨0, s.held, s.got⟩ s.acs x.client x.fee).1.held, (feeHold ⟨0, s.held, s.got⟩ s.acs x.client x.fee).1.got⟩ x.client).2.got, s.next⟩ hok2.1 hok2.2 (x := xx)).trans .fin

end Go.Proofs.YtdhpjdhloaoepaaGreat

/- What waits: the pool. -/
namespace Go.Proofs.YtdhpjdhloaoepaaGreat
open Go Go.Proofs
attribute [local irreducible] SC SN SR SQ SA SO
set_option maxRecDepth 100000
structure PoS where
  w : Nat
  most : Int
  l : List EnvD
def clash (e x : EnvD) : Bool := decide (x = e) || (decide (x.client = e.client) && decide (x.nonce = e.nonce))
theorem CallsK.post {W : World} {P : Program} {f : FuncId} {args : Array Value} {L T1 T2 : List HProp} {v : Value} (h : CallsK W P f args L (fun u M => u = v ∧ Lands M T1)) (e : Lands T1 T2) : CallsK W P f args L (fun u M => u = v ∧ Lands M T2) := CallsK.imp h fun _ _ ⟨h1, h2⟩ => ⟨h1, h2.trans e⟩

def poolI (p : Nat) (s : PoS) : HProp := fun h => ∃ (a : Option Addr) (c : Nat), Den [pt p (.cells [.pointer (some ⟨s.w, 0, none⟩), .int .i64 s.most, .slice a s.l.length c].toArray 174), rowP 43 4 a s.l.length c (s.l.flatMap EnvD.cells)] h
theorem open_pool {p : Nat} {s : PoS} : Opens poolI p s (fun x : (Option Addr) × (Nat) => True) (fun x R => (pt p (.cells [.pointer (some ⟨s.w, 0, none⟩), .int .i64 s.most, .slice x.1 s.l.length x.2].toArray 174)) :: (rowP 43 4 x.1 s.l.length x.2 (s.l.flatMap EnvD.cells)) :: R) := by
  rintro R m_ ⟨m1, m2, d, e, ⟨a, c, h_⟩, r⟩
  exact ⟨(a, c), trivial, Den_app d e h_ r⟩
theorem close_pool {L R R1_ : List HProp} (p : Nat) (s : PoS) {a : Option Addr} {c : Nat} {y1_ : Nat} {y2_ : Int} {y3_ : Nat} {y4_ : Nat} {y5_ : List Value} [t0_ : TakePt L p (.cells [.pointer (some ⟨y1_, 0, none⟩), .int .i64 y2_, .slice a y3_ c].toArray 174) R1_] [t1_ : TakeRow R1_ a 43 4 y4_ c y5_ R]  (e0_ : s.w = y1_ := by rfl) (e1_ : s.most = y2_ := by rfl) (e2_ : s.l.length = y3_ := by rfl) (e3_ : s.l.length = y4_ := by rfl) (e4_ : s.l.flatMap EnvD.cells = y5_ := by rfl) : Lands L (At poolI p s :: R) := fun q_ H_ => by
  subst e0_; subst e1_; subst e2_; subst e3_; subst e4_;
  obtain ⟨a0_, b0_, d0_, i0_, p0_, r0_⟩ := Den_perm t0_.perm q_ H_
  obtain ⟨a1_, b1_, d1_, i1_, p1_, r1_⟩ := Den_perm t1_.perm b0_ r0_
  have H2_ : Den ([pt p (.cells [.pointer (some ⟨s.w, 0, none⟩), .int .i64 s.most, .slice a s.l.length c].toArray 174), rowP 43 4 a s.l.length c (s.l.flatMap EnvD.cells)] ++ R) q_ := ⟨a0_, b0_, d0_, i0_, p0_, ⟨a1_, b1_, d1_, i1_, p1_, r1_⟩⟩
  exact Lands.wrap (A := At poolI p s) (fun z_ hz_ => ⟨a, c, hz_⟩) q_ H2_
theorem pool_clo1 {W : World} {F : List HProp} [Abs F] (e x : EnvD) (b : Nat) :
    CallsK W Tryz.prog 237 #[x.val, .pointer (some ⟨b, 0, none⟩)] (pt b (.cells e.cells.toArray 43) :: F) (fun u L => u = .bool (clash e x) ∧ Lands L (pt b (.cells e.cells.toArray 43) :: F)) := by
  refine CallsK_enter (n := 21) Tryz.func237 rfl rfl rfl ?_
  iterate 2 refine Ws ?_
  refine Wb fun b2 => ?_
  iterate 5 refine Ws ?_
  refine SR_rd (RD_loadA (vs := x.cells) Tryz.isAgg43 Tryz.sizeOf43 rfl rfl) Has.wh rfl ?_
  refine SR_rd (RD_loadA (vs := e.cells) Tryz.isAgg43 Tryz.sizeOf43 rfl rfl) Has.wh rfl ?_
  refine SR_pu (RD_eqlEnv x e rfl rfl rfl) rfl ?_
  refine Ws ?_
  refine SR_guard rfl rfl (fun hg1_3 => ?_) (fun hg1_3 => ?_)
  · refine SR_yes rfl rfl (hg1_3) ?_
    refine Ws ?_
    refine SR_yes rfl rfl (hg1_3) ?_
    refine SR_rd (RD_load (v := .int .i64 x.client) Tryz.isAgg3 rfl) (Has.ce rfl) rfl ?_
    refine SR_yes rfl rfl (hg1_3) ?_
    refine Ws ?_
    refine SR_yes rfl rfl (hg1_3) ?_
    refine SR_rd (RD_load (v := .int .i64 e.client) Tryz.isAgg3 rfl) (Has.ce rfl) rfl ?_
    refine SR_yes rfl rfl (hg1_3) ?_
    refine Ws ?_
    refine SR_yes rfl rfl (hg1_3) ?_
    refine Ws ?_
    refine SR_guard rfl rfl (fun hg1_9 => ?_) (fun hg1_9 => ?_)
    · refine SR_yes rfl rfl (hg1_9) ?_
      refine Ws ?_
      refine SR_yes rfl rfl (hg1_9) ?_
      refine SR_rd (RD_load (v := .int .u64 x.nonce) Tryz.isAgg35 rfl) (Has.ce rfl) rfl ?_
      refine SR_yes rfl rfl (hg1_9) ?_
      refine Ws ?_
      refine SR_yes rfl rfl (hg1_9) ?_
      refine SR_rd (RD_load (v := .int .u64 e.nonce) Tryz.isAgg35 rfl) (Has.ce rfl) rfl ?_
      refine SR_yes rfl rfl (hg1_9) ?_
      refine Ws ?_
      refine SR_yes rfl rfl (hg1_3) ?_
      refine SR_pu (RD_pick_t rfl (hg1_9) rfl) rfl ?_
      refine SR_pu (RD_pick_f rfl (hg1_3) rfl) rfl ?_
      iterate 3 refine Ws ?_
      refine SC_ret1 rfl rfl ?_
      refine ⟨?_, .fin⟩
      unfold clash
      simp_all
    · refine SR_no rfl rfl (hg1_9) (lts rfl) ?_
      refine SR_no rfl rfl (hg1_9) (lts rfl) ?_
      refine SR_no rfl rfl (hg1_9) (lts rfl) ?_
      refine SR_no rfl rfl (hg1_9) (lts rfl) ?_
      refine SR_no rfl rfl (hg1_9) (lts rfl) ?_
      refine SR_yes rfl rfl (hg1_3) ?_
      refine SR_pu (RD_pick_f rfl (hg1_9) rfl) rfl ?_
      refine SR_pu (RD_pick_f rfl (hg1_3) rfl) rfl ?_
      iterate 3 refine Ws ?_
      refine SC_ret1 rfl rfl ?_
      refine ⟨?_, .fin⟩
      unfold clash
      simp_all
  · refine SR_no rfl rfl (hg1_3) (lts rfl) ?_
    refine SR_no rfl rfl (hg1_3) (lts rfl) ?_
    refine SR_no rfl rfl (hg1_3) (lts rfl) ?_
    refine SR_no rfl rfl (hg1_3) (lts rfl) ?_
    refine SR_no rfl rfl (hg1_3) (lts rfl) ?_
    refine SR_no rfl rfl (hg1_3) (lts rfl) ?_
    refine SR_nou  rfl rfl (lts rfl) ?_
    refine SR_nou  rfl rfl (lts rfl) ?_
    refine SR_nou  rfl rfl (lts rfl) ?_
    refine SR_nou  rfl rfl (lts rfl) ?_
    refine SR_nou  rfl rfl (lts rfl) ?_
    refine SR_no rfl rfl (hg1_3) (lts rfl) ?_
    refine SR_pu (RD_pick_t rfl (hg1_3) rfl) rfl ?_
    iterate 3 refine Ws ?_
    refine SC_ret1 rfl rfl ?_
    refine ⟨?_, .fin⟩
    unfold clash
    simp_all

theorem pool_taken {W : World} {F : List HProp} [Abs F] (p : Nat) (s : PoS) (hb : s.l.length ≤ 1000000000) (e : EnvD) :
    CallsK W Tryz.prog 205 #[.pointer (some ⟨p, 0, none⟩), e.val] (At poolI p s :: F) (fun u L => u = .bool (s.l.any (clash e)) ∧ Lands L (At poolI p s :: F)) := by
  refine CallsK_enter (n := 11) Tryz.func205 rfl rfl rfl ?_
  iterate 2 refine Ws ?_
  refine Wb fun b3 => ?_
  iterate 4 refine Ws ?_
  refine SC.opn (open_pool (p := p)) fun ⟨a, c⟩ _ => ?_
  dsimp only
  iterate 5 refine Ws ?_
  refine SR_pu (RD_makeFunc (.cons rfl (.nil))) rfl ?_
  refine Wc (ev_ContainsFunc 237 [.pointer (some ⟨b3, 0, none⟩)] (clash e) s.l a s.l.length c rfl rfl hb Tryz.call237 (fun x _ => (CallsK.atPt (pool_clo1 e x b3)).post .fin)) ?_
  iterate 3 refine Ws ?_
  refine SC_ret1 rfl rfl ?_
  exact ⟨rfl, (close_pool p s).trans .fin⟩

/-- A sum of all: none, if it is too much. -/
def sumU : Int → List Int → Option Int
  | acc, [] => some acc
  | acc, x :: l => if acc + x < 18446744073709551616 then sumU (acc + x) l else none
theorem sumU_take (l : List Int) (i : Nat) (x acc : Int) (h : sumU 0 (l.take i) = some acc) (hx : l[i]? = some x) : sumU 0 (l.take (i + 1)) = if acc + x < 18446744073709551616 then some (acc + x) else none := by
  have key : ∀ (l1 : List Int) (a0 : Int), sumU a0 l1 = some acc → sumU a0 (l1 ++ [x]) = if acc + x < 18446744073709551616 then some (acc + x) else none := by
    intro l1
    induction l1 with
    | nil => intro a0 h; simp [sumU] at h; subst h; simp [sumU]
    | cons y l1 ih =>
      intro a0 h
      simp only [sumU, List.cons_append] at h ⊢
      split
      · rename_i h2; rw [if_pos h2] at h; exact ih _ h
      · rename_i h2; rw [if_neg h2] at h; cases h
  rw [List.take_add_one, hx]
  exact key _ _ h
theorem sumU_stop {l : List Int} {i : Nat} (h : sumU 0 (l.take (i + 1)) = none) : sumU 0 l = none := by
  have key : ∀ (l1 l2 : List Int) (a0 : Int), sumU a0 l1 = none → sumU a0 (l1 ++ l2) = none := by
    intro l1
    induction l1 with
    | nil => intro l2 a0 h; simp [sumU] at h
    | cons y l1 ih =>
      intro l2 a0 h
      simp only [sumU, List.cons_append] at h ⊢
      split
      · rename_i h2; rw [if_pos h2] at h; exact ih _ _ h
      · rfl
  have := key _ (l.drop (i + 1)) 0 h
  rwa [List.take_append_drop] at this
def sumR (l : List Int) : Int × Bool := match sumU 0 l with | some x => (x, true) | none => (0, false)

theorem chk_Sum {W : World} {F : List HProp} [Abs F] (l : List Int) (a : Option Addr) (n c : Nat) {cs : List Value} [HasRow F a cs] (hcs : cs = l.map uV) (hn : l.length = n) (hb : n ≤ 1000000000) (hu : ∀ x ∈ l, U64 x) :
    CallsK W Tryz.prog 238 #[.slice a n c] (F) (fun u L => u = .tuple #[.int .u64 (sumR l).1, .bool (sumR l).2] ∧ Lands L F) := by
  refine CallsK_enter (n := 24) Tryz.func238 rfl rfl rfl ?_
  subst hcs; subst hn
  iterate 20 refine Ws ?_
  refine SC_ind (X := Nat × Int) (fun x => x.1 ≤ l.length ∧ sumU 0 (l.take x.1) = some x.2 ∧ U64 x.2) (fun x => l.length - x.1) (fun x => [(4, .int .u64 x.2), (8, .slice a l.length c), (9, .int .i64 (l.length : Nat)), (10, .int .i64 (x.1 : Nat))]) (fun x => F) ((0, 0)) (⟨by dsimp only; omega, by simp [sumU], ⟨by dsimp only; omega, by dsimp only; omega⟩⟩) (.cons rfl (.cons rfl (.cons rfl (.cons rfl (.nil))))) (.fin) ?_
  intro ⟨i, acc⟩ hi ih
  obtain ⟨hi1, hi2, hi3⟩ := hi
  dsimp only at hi1 hi2 hi3 ih ⊢
  iterate 6 refine Ws ?_
  refine SC_cond rfl (fun hc11 => ?_) (fun hc11 => ?_)
  · have hin : i < l.length := by simp at hc11; omega
    obtain ⟨y, hy⟩ : ∃ y, l[i]? = some y := ⟨_, List.getElem?_eq_getElem hin⟩
    have hyu := hu y (List.mem_of_getElem? hy)
    have hst := sumU_take l i y acc hi2 hy
    iterate 6 refine Ws ?_
    refine SR_rd (RD_ixO (cs := l.map uV) Tryz.runUnderlying134 Tryz.sizeOf35 rfl rfl (by simp) (by omega) (by omega)) Has.ro rfl ?_
    refine SR_rd (RD_loadO (v := .int .u64 y) (cs := l.map uV) Tryz.isAgg35 rfl (by simp [hy, uV])) Has.ro rfl ?_
    iterate 12 refine Ws ?_
    refine Wc (chk_Add acc y hi3 hyu) ?_
    iterate 13 refine Ws ?_
    refine SC_cond rfl (fun hc21 => ?_) (fun hc21 => ?_)
    · have hov : ¬ acc + y < 18446744073709551616 := by simpa using hc21
      rw [if_neg hov] at hst
      iterate 6 refine Ws ?_
      refine SC_ret2 rfl rfl rfl ?_
      have hs0 := sumU_stop hst
      exact ⟨by unfold sumR; rw [hs0], .fin⟩
    · have hov : acc + y < 18446744073709551616 := by simpa using hc21
      rw [if_pos hov] at hst
      rw [if_pos hov]
      iterate 7 refine Ws ?_
      refine SC_again (ih ((i + 1, acc + y)) (⟨by dsimp only; omega, hst, by dsimp only; unfold U64 at *; omega⟩) (by dsimp only; omega)) (.fin) (.cons rfl (.cons rfl (.cons rfl (.cons' rfl (ie (by dsimp only; omega)) (.nil)))))
  · have hin : i = l.length := by simp at hc11; omega
    subst hin
    rw [List.take_length] at hi2
    iterate 9 refine Ws ?_
    refine SC_ret2 rfl rfl rfl ?_
    exact ⟨by unfold sumR; rw [hi2], .fin⟩

def PoS.feesOf (s : PoS) (e : EnvD) : List Int := e.fee :: (s.l.filter fun x => decide (x.client = e.client)).map EnvD.fee
theorem fees_snoc (l : List EnvD) (e x : EnvD) (i : Nat) (h : l[i]? = some x) : ((l.take (i + 1)).filter fun x => decide (x.client = e.client)).map EnvD.fee = ((l.take i).filter fun x => decide (x.client = e.client)).map EnvD.fee ++ (if x.client = e.client then [x.fee] else []) := by
  rw [filter_snoc _ _ _ _ h, List.map_append]
  congr 1
  by_cases hc : x.client = e.client <;> simp [hc]

theorem Lands.take2 {A A' : HProp} {L R T : List HProp} [t : TakeA L A R] (h : Lands (A :: R) (A' :: R)) [f : Fin (A' :: R) T] : Lands L T := fun m H => f.h m (h m (Den_perm t.perm m H))

theorem pool_fees {W : World} {F : List HProp} [Abs F] (p : Nat) (s : PoS) (hb : s.l.length ≤ 1000000) (e : EnvD) (he : U64 e.fee) (hl : ∀ x ∈ s.l, U64 x.fee) :
    CallsK W Tryz.prog 206 #[.pointer (some ⟨p, 0, none⟩), e.val] (At poolI p s :: F) (fun u L => u = .tuple #[.int .u64 (sumR (s.feesOf e)).1, .bool (sumR (s.feesOf e)).2] ∧ Lands L (At poolI p s :: F)) := by
  refine CallsK_enter (n := 36) Tryz.func206 rfl rfl rfl ?_
  iterate 2 refine Ws ?_
  refine Wb fun b3 => ?_
  iterate 7 refine Ws ?_
  refine SR_rd (RD_load (v := .int .u64 e.fee) Tryz.isAgg35 rfl) (Has.ce rfl) rfl ?_
  refine SR_ox (OX_lit1 Tryz.underlying134 Tryz.type35 rfl rfl rfl rfl (.cons rfl (.nil)) (.cons rfl (.nil))) rfl ?_
  rintro _ _ ⟨b11, rfl, rfl⟩
  iterate 5 refine Ws ?_
  refine SC.opn (open_pool (p := p)) fun ⟨a, c⟩ _ => ?_
  dsimp only
  iterate 10 refine Ws ?_
  refine SC.lands (T := rowP 35 1 (some ⟨b11, 0, none⟩) 1 1 [.int .u64 e.fee] :: pt b3 (.cells e.cells.toArray 43) :: pt p (.cells [.pointer (some ⟨s.w, 0, none⟩), .int .i64 s.most, .slice a s.l.length c].toArray 174) :: rowP 43 4 a s.l.length c (s.l.flatMap EnvD.cells) :: F) (Lands.take2 (lit_row (b := b11) (E := 35) (cs := [.int .u64 e.fee]) (z := 1) 1 rfl)) ?_
  refine SC_ind (X := Nat × Option Addr × Nat) (fun x => x.1 ≤ s.l.length) (fun x => s.l.length - x.1) (fun x => [(3, .pointer (some ⟨b3, 0, none⟩)), (6, .slice x.2.1 (e.fee :: ((s.l.take x.1).filter fun x => decide (x.client = e.client)).map EnvD.fee).length x.2.2), (15, .slice a s.l.length c), (16, .int .i64 (s.l.length : Nat)), (17, .int .i64 (x.1 : Nat))]) (fun x => rowP 35 1 x.2.1 (e.fee :: ((s.l.take x.1).filter fun x => decide (x.client = e.client)).map EnvD.fee).length x.2.2 ((e.fee :: ((s.l.take x.1).filter fun x => decide (x.client = e.client)).map EnvD.fee).map uV) :: pt b3 (.cells e.cells.toArray 43) :: pt p (.cells [.pointer (some ⟨s.w, 0, none⟩), .int .i64 s.most, .slice a s.l.length c].toArray 174) :: rowP 43 4 a s.l.length c (s.l.flatMap EnvD.cells) :: F) ((0, some ⟨b11, 0, none⟩, 1)) (by simp) (.cons rfl (.cons rfl (.cons rfl (.cons rfl (.cons rfl (.nil)))))) (by simp only [List.take_zero, List.filter_nil, List.map_nil, List.map_cons, uV, List.length_cons, List.length_nil]; exact .fin) ?_
  intro ⟨i, ra, rc⟩ hi ih
  dsimp only at hi ih ⊢
  iterate 6 refine Ws ?_
  refine SC_cond rfl (fun hc18 => ?_) (fun hc18 => ?_)
  · have hin : i < s.l.length := by simp at hc18; omega
    obtain ⟨x, hx⟩ : ∃ x, s.l[i]? = some x := ⟨_, List.getElem?_eq_getElem hin⟩
    have hlen : (e.fee :: ((s.l.take i).filter fun x => decide (x.client = e.client)).map EnvD.fee).length ≤ s.l.length + 1 := by simp only [List.length_cons, List.length_map]; have := List.length_filter_le (fun x => decide (x.client = e.client)) (s.l.take i); rw [List.length_take] at this; omega
    have hsn := fees_snoc s.l e x i hx
    iterate 6 refine Ws ?_
    refine SR_rd (RD_ixO (cs := s.l.flatMap EnvD.cells) Tryz.runUnderlying53 Tryz.sizeOf43 rfl rfl (by rw [env_len]) (by omega) (by omega)) Has.ro rfl ?_
    refine SR_rd (RD_loadAO (vs := x.cells) (cs := s.l.flatMap EnvD.cells) Tryz.isAgg43 Tryz.sizeOf43 rfl rfl (by decide) (fun o v h => by have ho : o < 4 := (List.getElem?_eq_some_iff.1 h).1; rw [show ((i : Nat) : Int).toNat * (3 + 1) + o = i * 4 + o by omega, env_get hx o ho]; exact h)) Has.ro rfl ?_
    refine Wa fun b8 => ?_
    refine SR_ox0 (OX_stA (vs := x.cells) Tryz.sizeOf43 rfl rfl rfl rfl) ?_
    rintro _ _ rfl
    iterate 5 refine Ws ?_
    refine SR_rd (RD_load (v := .int .i64 x.client) Tryz.isAgg3 rfl) (Has.ce rfl) rfl ?_
    refine Ws ?_
    refine SR_rd (RD_load (v := .int .i64 e.client) Tryz.isAgg3 rfl) (Has.ce rfl) rfl ?_
    iterate 3 refine Ws ?_
    refine SC_cond rfl (fun hc25 => ?_) (fun hc25 => ?_)
    · have hcl : x.client = e.client := of_decide_eq_true hc25
      rw [if_pos hcl] at hsn
      iterate 3 refine Ws ?_
      refine SR_rd (RD_load (v := .int .u64 x.fee) Tryz.isAgg35 rfl) (Has.ce rfl) rfl ?_
      refine SR_ox (OX_lit1 Tryz.underlying134 Tryz.type35 rfl rfl rfl rfl (.cons rfl (.nil)) (.cons rfl (.nil))) rfl ?_
      rintro _ _ ⟨b29, rfl, rfl⟩
      refine SR_ox (OX_app 1 Tryz.underlying134 Tryz.underlying134 Tryz.type35 rfl rfl rfl rfl rfl (by first | rfl | simp; done | (simp; omega)) 8 rfl (by omega) (by omega)) rfl ?_
      rintro _ _ ⟨a30, c30, rfl, rfl⟩
      iterate 8 refine Ws ?_
      refine SC_again (ih ((i + 1, a30, c30)) (by dsimp only; omega) (by dsimp only; omega)) (by dsimp only; rw [hsn, ← List.cons_append, List.length_append, List.map_append]; simp only [List.map_cons, List.map_nil, uV, List.length_cons, List.length_nil]; exact .fin) (.cons rfl (.cons' rfl (by dsimp only; rw [hsn, ← List.cons_append, List.length_append]; rfl) (.cons rfl (.cons rfl (.cons' rfl (ie (by dsimp only; omega)) (.nil))))))
    · have hcl : ¬ x.client = e.client := of_decide_eq_false hc25
      rw [if_neg hcl, List.append_nil] at hsn
      iterate 7 refine Ws ?_
      refine SC_again (ih ((i + 1, ra, rc)) (by dsimp only; omega) (by dsimp only; omega)) (by dsimp only; rw [hsn]; exact .fin) (.cons rfl (.cons' rfl (by dsimp only; rw [hsn]) (.cons rfl (.cons rfl (.cons' rfl (ie (by dsimp only; omega)) (.nil))))))
  · have hin : i = s.l.length := by simp at hc18; omega
    subst hin
    rw [List.take_length]
    have hlen : (s.feesOf e).length ≤ s.l.length + 1 := by simp only [PoS.feesOf, List.length_cons, List.length_map]; have := List.length_filter_le (fun x => decide (x.client = e.client)) s.l; omega
    iterate 5 refine Ws ?_
    refine Wc (chk_Sum (s.feesOf e) ra (s.feesOf e).length rc rfl rfl (by omega) (fun y hy => by unfold PoS.feesOf at hy; rcases List.mem_cons.1 hy with rfl | hy; exact he; obtain ⟨x, hx, rfl⟩ := List.mem_map.1 hy; exact hl x (List.mem_filter.1 hx).1)) ?_
    iterate 6 refine Ws ?_
    refine SC_ret2 rfl rfl rfl ?_
    exact ⟨rfl, (close_pool p s).trans .fin⟩

theorem pool_New {W : World} {F : List HProp} [Abs F] (w : Nat) (most : Int) :
    CallsK W Tryz.prog 57 #[.pointer (some ⟨w, 0, none⟩), .int .i64 most] (F) (fun u L => ∃ p, u = .pointer (some ⟨p, 0, none⟩) ∧ Lands L (At poolI p ⟨w, min (max most 0) 1000, []⟩ :: F)) := by
  refine CallsK_enter (n := 11) Tryz.func57 rfl rfl rfl ?_
  iterate 11 refine Ws ?_
  refine SR_pu (RD_build (.cons rfl (.cons rfl (.nil))) built174_0_1) rfl ?_
  refine Wb fun b10 => ?_
  iterate 3 refine Ws ?_
  refine SC_ret1 rfl rfl ?_
  have e : (if (1000 : Int) < (if (0 : Int) > most then 0 else most) then 1000 else if (0 : Int) > most then 0 else most) = min (max most 0) 1000 := by (repeat split) <;> omega
  rw [e]
  refine ⟨_, rfl, (row_new 43 4 none).trans ?_⟩
  exact (close_pool b10 ⟨w, min (max most 0) 1000, []⟩).trans .fin

theorem pool_All {W : World} {F : List HProp} [Abs F] (p : Nat) (s : PoS) (hb : s.l.length ≤ 1000000) :
    CallsK W Tryz.prog 79 #[.pointer (some ⟨p, 0, none⟩)] (At poolI p s :: F) (fun u L => ∃ a c, u = .slice a s.l.length c ∧ Lands L (rowP 43 4 a s.l.length c (s.l.flatMap EnvD.cells) :: At poolI p s :: F)) := by
  refine CallsK_enter (n := 8) Tryz.func79 rfl rfl rfl ?_
  iterate 6 refine Ws ?_
  refine SC.opn (open_pool (p := p)) fun ⟨a, c⟩ _ => ?_
  dsimp only
  iterate 5 refine Ws ?_
  refine We (clone_envs (s.l.flatMap EnvD.cells) a s.l.length c (env_len _) (by omega)) ?_
  rintro _ L1 ⟨ra, rc, rfl, hL1⟩
  refine SR.lands hL1 ?_
  iterate 3 refine Ws ?_
  refine SC_ret1 rfl rfl ?_
  exact ⟨_, _, rfl, (close_pool p s).trans .fin⟩

/-- What is put, as long as there is room. -/
def PoS.check (s : PoS) (ok : Bool) (next free : Int) (e : EnvD) : Int :=
  if ok = false then 8 else if s.l.any (clash e) then 10 else if e.nonce < next ∨ e.nonce - next > 15 then 9
  else if e.fee = 0 ∨ (sumR (s.feesOf e)).2 = false ∨ (sumR (s.feesOf e)).1 > free then 4 else 0
def PoS.add (s : PoS) (c : Int) (e : EnvD) : PoS := if c = 0 then ⟨s.w, s.most, s.l ++ [e]⟩ else s

theorem pool_Add {W : World} {F : List HProp} [Abs F] (k : WK) (z : WS) (p : Nat) (s : PoS) (hw : s.w = k.p) (g : LK) (ls : LdS) (e : EnvD) (he : e.Ok) (hz : z.l.length ≤ 1000000000) (hb : s.l.length ≤ 1000000) (hroom : (s.l.length : Int) < s.most) (hl : ∀ x ∈ s.l, U64 x.fee) (hnx : U64 (ls.nextOf e.client)) :
    CallsK W Tryz.prog 177 #[.pointer (some ⟨p, 0, none⟩), e.val, .pointer (some ⟨g.g, 0, none⟩)] (At worldI k z :: At poolI p s :: At ldgI g ls :: F) (fun u L => u = .int .i64 (s.check (decide (okE (okL z.l e) z.S e)) (ls.nextOf e.client) (acFree ls.acs e.client 1) e) ∧ Lands L (At worldI k ⟨okL z.l e, z.S⟩ :: At poolI p (s.add (s.check (decide (okE (okL z.l e) z.S e)) (ls.nextOf e.client) (acFree ls.acs e.client 1) e) e) :: At ldgI g ls :: F)) := by
  refine CallsK_enter (n := 105) Tryz.func177 rfl rfl rfl ?_
  iterate 2 refine Ws ?_
  refine Wb fun b4 => ?_
  iterate 5 refine Ws ?_
  refine SC.opn (open_pool (p := p)) fun ⟨a, c⟩ _ => ?_
  dsimp only
  rw [hw]
  refine Wd [.r 0, .r 1, .r 2, .r 3, .r 4, .e 5, .r 6] ?_
  iterate 4 refine Wq ?_
  refine SQ_rd rfl (RD_loadA (vs := e.cells) Tryz.isAgg43 Tryz.sizeOf43 rfl rfl) Has.wh rfl ?_
  refine SQ_call rfl Tryz.call204 (.cons rfl (.cons rfl (.nil))) (CallsK.at (w_Ok k z e he hz)) (lts rfl) ?_
  rintro _ L1 ⟨rfl, hL1⟩
  have hL1b := hL1.trans ((Lands.cons (by rw [← hw]; exact close_pool p s)).trans Lands.fin : Lands _ (At worldI k ⟨okL z.l e, z.S⟩ :: At poolI p s :: pt b4 (.cells e.cells.toArray 43) :: At ldgI g ls :: F))
  refine ⟨.lands hL1b (.w rfl (.w rfl (.nil))), ?_⟩
  refine SQ.lands hL1b ?_
  refine Wq ?_
  iterate 2 refine Ws ?_
  refine SC_cond rfl (fun hc17 => ?_) (fun hc17 => ?_)
  · have hO : decide (okE (okL z.l e) z.S e) = false := by simpa using hc17
    iterate 5 refine Ws ?_
    refine SC_ret1 rfl rfl ?_
    have hck : (s.check (decide (okE (okL z.l e) z.S e)) (ls.nextOf e.client) (acFree ls.acs e.client 1) e) = 8 := by unfold PoS.check; rw [if_pos hO]
    rw [hck]
    refine ⟨rfl, ?_⟩
    unfold PoS.add
    rw [if_neg (by decide)]
    exact .fin
  · have hO : decide (okE (okL z.l e) z.S e) = true := by simpa using hc17
    iterate 6 refine Ws ?_
    refine SR_rd (RD_loadA (vs := e.cells) Tryz.isAgg43 Tryz.sizeOf43 rfl rfl) Has.wh rfl ?_
    refine Wc (CallsK.at (pool_taken p s (by omega) e)) ?_
    iterate 2 refine Ws ?_
    refine SC_cond rfl (fun hc20 => ?_) (fun hc20 => ?_)
    · have hT : s.l.any (clash e) = true := hc20
      iterate 5 refine Ws ?_
      refine SC_ret1 rfl rfl ?_
      have hck : (s.check (decide (okE (okL z.l e) z.S e)) (ls.nextOf e.client) (acFree ls.acs e.client 1) e) = 10 := by unfold PoS.check; rw [if_neg (by rw [hO]; decide), if_pos hT]
      rw [hck]
      refine ⟨rfl, ?_⟩
      unfold PoS.add
      rw [if_neg (by decide)]
      exact .fin
    · have hT : s.l.any (clash e) = false := hc20
      iterate 6 refine Ws ?_
      refine SR_rd (RD_load (v := .int .i64 e.client) Tryz.isAgg3 rfl) (Has.ce rfl) rfl ?_
      refine Wc (CallsK.at (ldg_Next g ls e.client)) ?_
      iterate 7 refine Ws ?_
      refine SR_rd (RD_load (v := .int .u64 e.nonce) Tryz.isAgg35 rfl) (Has.ce rfl) rfl ?_
      iterate 3 refine Ws ?_
      refine SR_guard rfl rfl (fun hg6_4 => ?_) (fun hg6_4 => ?_)
      · refine SR_yes rfl rfl (hg6_4) ?_
        refine Ws ?_
        refine SR_yes rfl rfl (hg6_4) ?_
        refine SR_rd (RD_load (v := .int .u64 e.nonce) Tryz.isAgg35 rfl) (Has.ce rfl) rfl ?_
        refine SR_yes rfl rfl (hg6_4) ?_
        refine Ws ?_
        refine SR_yes rfl rfl (hg6_4) ?_
        refine SR_pu (RD_sub rfl rfl) rfl ?_
        refine SR_yes rfl rfl (hg6_4) ?_
        refine Ws ?_
        refine SR_pu (RD_pick_f rfl (hg6_4) rfl) rfl ?_
        iterate 2 refine Ws ?_
        refine SC_cond rfl (fun hc35 => ?_) (fun hc35 => ?_)
        · have hN : (e.nonce < ls.nextOf e.client ∨ e.nonce - ls.nextOf e.client > 15) := .inr (by have h1 := of_decide_eq_false hg6_4; have h2 := of_decide_eq_true hc35; have h3 := he.1; rw [IntKind.wrap_u64] at h2; unfold U64 at hnx; omega)
          iterate 5 refine Ws ?_
          refine SC_ret1 rfl rfl ?_
          have hck : (s.check (decide (okE (okL z.l e) z.S e)) (ls.nextOf e.client) (acFree ls.acs e.client 1) e) = 9 := by unfold PoS.check; rw [if_neg (by rw [hO]; decide), if_neg (by rw [hT]; decide), if_pos hN]
          rw [hck]
          refine ⟨rfl, ?_⟩
          unfold PoS.add
          rw [if_neg (by decide)]
          exact .fin
        · have hN : ¬ (e.nonce < ls.nextOf e.client ∨ e.nonce - ls.nextOf e.client > 15) := by have h1 := of_decide_eq_false hg6_4; have h2 := of_decide_eq_false hc35; have h3 := he.1; rw [IntKind.wrap_u64] at h2; unfold U64 at hnx; omega
          iterate 5 refine Ws ?_
          refine SR_rd (RD_loadA (vs := e.cells) Tryz.isAgg43 Tryz.sizeOf43 rfl rfl) Has.wh rfl ?_
          refine Wc (CallsK.at (pool_fees p s hb e he.2 hl)) ?_
          iterate 11 refine Ws ?_
          refine SR_rd (RD_load (v := .int .u64 e.fee) Tryz.isAgg35 rfl) (Has.ce rfl) rfl ?_
          iterate 2 refine Ws ?_
          refine SR_guard rfl rfl (fun hg9_3 => ?_) (fun hg9_3 => ?_)
          · refine SR_yes rfl rfl (hg9_3) ?_
            refine Ws ?_
            refine SR_yes rfl rfl (hg9_3) ?_
            refine Ws ?_
            refine SR_pu (RD_pick_f rfl (hg9_3) rfl) rfl ?_
            refine Ws ?_
            refine SR_guard rfl rfl (fun hg9_7 => ?_) (fun hg9_7 => ?_)
            · refine SR_yes rfl rfl (hg9_7) ?_
              refine Ws ?_
              refine SR_yes rfl rfl (hg9_7) ?_
              refine Ws ?_
              refine SR_yes rfl rfl (hg9_7) ?_
              refine Ws ?_
              refine SR_yes rfl rfl (hg9_7) ?_
              refine SR_rd (RD_load (v := .int .i64 e.client) Tryz.isAgg3 rfl) (Has.ce rfl) rfl ?_
              refine SR_yes rfl rfl (hg9_7) ?_
              refine Wc (CallsK.at (ldg_Free g ls e.client 1)) ?_
              refine SR_yes rfl rfl (hg9_7) ?_
              refine Ws ?_
              refine SR_pu (RD_pick_f rfl (hg9_7) rfl) rfl ?_
              iterate 2 refine Ws ?_
              refine SC_cond rfl (fun hc56 => ?_) (fun hc56 => ?_)
              · have hF : (e.fee = 0 ∨ (sumR (s.feesOf e)).2 = false ∨ (sumR (s.feesOf e)).1 > acFree ls.acs e.client 1) := .inr (.inr (of_decide_eq_true hc56))
                iterate 5 refine Ws ?_
                refine SC_ret1 rfl rfl ?_
                have hck : (s.check (decide (okE (okL z.l e) z.S e)) (ls.nextOf e.client) (acFree ls.acs e.client 1) e) = 4 := by unfold PoS.check; rw [if_neg (by rw [hO]; decide), if_neg (by rw [hT]; decide), if_neg hN, if_pos hF]
                rw [hck]
                refine ⟨rfl, ?_⟩
                unfold PoS.add
                rw [if_neg (by decide)]
                exact .fin
              · have hF : ¬ (e.fee = 0 ∨ (sumR (s.feesOf e)).2 = false ∨ (sumR (s.feesOf e)).1 > acFree ls.acs e.client 1) := fun h => by
                  rcases h with h | h | h
                  · exact absurd h (of_decide_eq_false hg9_3)
                  · rw [h] at hg9_7; cases hg9_7
                  · exact absurd h (of_decide_eq_false hc56)
                iterate 4 refine Ws ?_
                refine SC.opn (open_pool (p := p)) fun ⟨a, c⟩ _ => ?_
                dsimp only
                refine Wd [.r 0, .r 1, .r 2, .r 3, .r 4, .r 5, .r 6, .r 7, .r 8, .r 9] ?_
                iterate 10 refine Wq ?_
                iterate 2 refine Ws ?_
                refine SC_cond_false rfl (decide_eq_false (by omega)) ?_
                iterate 3 refine Ws ?_
                refine Wd [.r 0, .r 1, .r 2, .r 3, .r 4, .r 5, .e 6, .e 7, .r 8, .r 9, .e 10] ?_
                iterate 5 refine Wq ?_
                refine SQ_rd rfl (RD_loadA (vs := e.cells) Tryz.isAgg43 Tryz.sizeOf43 rfl rfl) Has.wh rfl ?_
                refine SQ_ox rfl (OX_lit Tryz.underlying53 Tryz.type43 rfl rfl rfl rfl (.cons rfl (.nil)) (.cons rfl rfl (.nil))) rfl ?_
                rintro _ _ ⟨b101, rfl, rfl⟩
                refine ⟨.w rfl (.h (Has.ce rfl) (.nil)), ?_⟩
                refine SQ_ox rfl (OX_app 4 Tryz.underlying53 Tryz.underlying53 Tryz.type43 rfl rfl rfl rfl rfl (by first | rfl | simp; done | (simp; omega)) 32 rfl (by omega) (by omega)) rfl ?_
                rintro _ _ ⟨a102, c102, rfl, rfl⟩
                refine ⟨.h Has.wh (.w rfl (.nil)), ?_⟩
                iterate 2 refine Wq ?_
                refine SQ_ox0 rfl (OX_st Tryz.sizeOf53 rfl rfl) ?_
                rintro _ _ rfl
                refine ⟨.w rfl (.w rfl (.nil)), ?_⟩
                iterate 7 refine Ws ?_
                refine SC_ret1 rfl rfl ?_
                have hck : (s.check (decide (okE (okL z.l e) z.S e)) (ls.nextOf e.client) (acFree ls.acs e.client 1) e) = 0 := by unfold PoS.check; rw [if_neg (by rw [hO]; decide), if_neg (by rw [hT]; decide), if_neg hN, if_neg hF]
                rw [hck]
                refine ⟨rfl, ?_⟩
                unfold PoS.add
                rw [if_pos rfl]
                exact (close_pool p ⟨s.w, s.most, s.l ++ [e]⟩ (e2_ := by simp) (e3_ := by simp) (e4_ := by rw [List.flatMap_append]; rfl)).trans .fin
            · refine SR_no rfl rfl (hg9_7) (lts rfl) ?_
              refine SR_no rfl rfl (hg9_7) (lts rfl) ?_
              refine SR_no rfl rfl (hg9_7) (lts rfl) ?_
              refine SR_no rfl rfl (hg9_7) (lts rfl) ?_
              refine SR_no rfl rfl (hg9_7) (lts rfl) ?_
              refine SR_no rfl rfl (hg9_7) (lts rfl) ?_
              refine SR_pu (RD_pick_t rfl (hg9_7) rfl) rfl ?_
              iterate 2 refine Ws ?_
              have hF : (e.fee = 0 ∨ (sumR (s.feesOf e)).2 = false ∨ (sumR (s.feesOf e)).1 > acFree ls.acs e.client 1) := .inr (.inl (by simpa using hg9_7))
              refine SC_cond_true rfl (rfl) ?_
              iterate 5 refine Ws ?_
              refine SC_ret1 rfl rfl ?_
              have hck : (s.check (decide (okE (okL z.l e) z.S e)) (ls.nextOf e.client) (acFree ls.acs e.client 1) e) = 4 := by unfold PoS.check; rw [if_neg (by rw [hO]; decide), if_neg (by rw [hT]; decide), if_neg hN, if_pos hF]
              rw [hck]
              refine ⟨rfl, ?_⟩
              unfold PoS.add
              rw [if_neg (by decide)]
              exact .fin
          · refine SR_no rfl rfl (hg9_3) (lts rfl) ?_
            refine SR_no rfl rfl (hg9_3) (lts rfl) ?_
            refine SR_pu (RD_pick_t rfl (hg9_3) rfl) rfl ?_
            refine Ws ?_
            refine SR_no rfl rfl (rfl) (lts rfl) ?_
            refine SR_no rfl rfl (rfl) (lts rfl) ?_
            refine SR_no rfl rfl (rfl) (lts rfl) ?_
            refine SR_no rfl rfl (rfl) (lts rfl) ?_
            refine SR_no rfl rfl (rfl) (lts rfl) ?_
            refine SR_no rfl rfl (rfl) (lts rfl) ?_
            refine SR_pu (RD_pick_t rfl (rfl) rfl) rfl ?_
            iterate 2 refine Ws ?_
            have hF : (e.fee = 0 ∨ (sumR (s.feesOf e)).2 = false ∨ (sumR (s.feesOf e)).1 > acFree ls.acs e.client 1) := .inl (of_decide_eq_true hg9_3)
            refine SC_cond_true rfl (rfl) ?_
            iterate 5 refine Ws ?_
            refine SC_ret1 rfl rfl ?_
            have hck : (s.check (decide (okE (okL z.l e) z.S e)) (ls.nextOf e.client) (acFree ls.acs e.client 1) e) = 4 := by unfold PoS.check; rw [if_neg (by rw [hO]; decide), if_neg (by rw [hT]; decide), if_neg hN, if_pos hF]
            rw [hck]
            refine ⟨rfl, ?_⟩
            unfold PoS.add
            rw [if_neg (by decide)]
            exact .fin
      · refine SR_no rfl rfl (hg6_4) (lts rfl) ?_
        refine SR_no rfl rfl (hg6_4) (lts rfl) ?_
        refine SR_no rfl rfl (hg6_4) (lts rfl) ?_
        refine SR_no rfl rfl (hg6_4) (lts rfl) ?_
        refine SR_no rfl rfl (hg6_4) (lts rfl) ?_
        refine SR_pu (RD_pick_t rfl (hg6_4) rfl) rfl ?_
        iterate 2 refine Ws ?_
        have hN : (e.nonce < ls.nextOf e.client ∨ e.nonce - ls.nextOf e.client > 15) := .inl (of_decide_eq_true hg6_4)
        refine SC_cond_true rfl (rfl) ?_
        iterate 5 refine Ws ?_
        refine SC_ret1 rfl rfl ?_
        have hck : (s.check (decide (okE (okL z.l e) z.S e)) (ls.nextOf e.client) (acFree ls.acs e.client 1) e) = 9 := by unfold PoS.check; rw [if_neg (by rw [hO]; decide), if_neg (by rw [hT]; decide), if_pos hN]
        rw [hck]
        refine ⟨rfl, ?_⟩
        unfold PoS.add
        rw [if_neg (by decide)]
        exact .fin

end Go.Proofs.YtdhpjdhloaoepaaGreat

/- What waits: taken in batches, dropped. -/
namespace Go.Proofs.YtdhpjdhloaoepaaGreat
open Go Go.Proofs
attribute [local irreducible] SC SN SR SQ SA SO
set_option maxRecDepth 100000
/-- Earlier of the same client. -/
def earlier (e x : EnvD) : Bool := decide (x.client = e.client) && decide (x.nonce < e.nonce)
def isFirst (l : List EnvD) (e : EnvD) : Bool := !(l.any (earlier e))
def firstI (l : List EnvD) : Int := idxP (isFirst l) l
/-- As many as may go, none of a client ahead of its earlier ones. -/
def batchL : Nat → List EnvD → Option (List EnvD)
  | 0, _ => some []
  | n + 1, l => if l.length = 0 then some [] else if firstI l < 0 then none else match l[(firstI l).toNat]? with
    | none => none
    | some e => (batchL n (l.eraseIdx (firstI l).toNat)).map (e :: ·)
/-- Whether it is among those that are skipped. -/
def skipP (L : List (List UInt8)) (sk : List Int) (e : EnvD) : Bool := decide ((dnum L (envB e) : Int) ∈ sk)

theorem pool_clo2 {W : World} {F : List HProp} [Abs F] (e x : EnvD) (b : Nat) :
    CallsK W Tryz.prog 172 #[x.val, .pointer (some ⟨b, 0, none⟩)] (pt b (.cells e.cells.toArray 43) :: F) (fun u L => u = .bool (earlier e x) ∧ Lands L (pt b (.cells e.cells.toArray 43) :: F)) := by
  refine CallsK_enter (n := 16) Tryz.func172 rfl rfl rfl ?_
  iterate 2 refine Ws ?_
  refine Wb fun b2 => ?_
  iterate 6 refine Ws ?_
  refine SR_rd (RD_load (v := .int .i64 x.client) Tryz.isAgg3 rfl) (Has.ce rfl) rfl ?_
  refine Ws ?_
  refine SR_rd (RD_load (v := .int .i64 e.client) Tryz.isAgg3 rfl) (Has.ce rfl) rfl ?_
  iterate 2 refine Ws ?_
  refine SR_guard rfl rfl (fun hg1_5 => ?_) (fun hg1_5 => ?_)
  · refine SR_yes rfl rfl (hg1_5) ?_
    refine Ws ?_
    refine SR_yes rfl rfl (hg1_5) ?_
    refine SR_rd (RD_load (v := .int .u64 x.nonce) Tryz.isAgg35 rfl) (Has.ce rfl) rfl ?_
    refine SR_yes rfl rfl (hg1_5) ?_
    refine Ws ?_
    refine SR_yes rfl rfl (hg1_5) ?_
    refine SR_rd (RD_load (v := .int .u64 e.nonce) Tryz.isAgg35 rfl) (Has.ce rfl) rfl ?_
    refine SR_yes rfl rfl (hg1_5) ?_
    refine Ws ?_
    refine SR_pu (RD_pick_t rfl (hg1_5) rfl) rfl ?_
    iterate 3 refine Ws ?_
    refine SC_ret1 rfl rfl ?_
    refine ⟨?_, .fin⟩
    unfold earlier
    simp_all
  · refine SR_no rfl rfl (hg1_5) (lts rfl) ?_
    refine SR_no rfl rfl (hg1_5) (lts rfl) ?_
    refine SR_no rfl rfl (hg1_5) (lts rfl) ?_
    refine SR_no rfl rfl (hg1_5) (lts rfl) ?_
    refine SR_no rfl rfl (hg1_5) (lts rfl) ?_
    refine SR_pu (RD_pick_f rfl (hg1_5) rfl) rfl ?_
    iterate 3 refine Ws ?_
    refine SC_ret1 rfl rfl ?_
    refine ⟨?_, .fin⟩
    unfold earlier
    simp_all

theorem pool_clo3 {W : World} {F : List HProp} [Abs F] (l : List EnvD) (b : Nat) (a : Option Addr) (n c : Nat) {cs : List Value} [HasRow F a cs] (hcs : cs = l.flatMap EnvD.cells) (hn : l.length = n) (hb : n ≤ 1000000000) (e : EnvD) :
    CallsK W Tryz.prog 170 #[e.val, .pointer (some ⟨b, 0, none⟩)] (pt b (.cells [.slice a n c].toArray 53) :: F) (fun u L => u = .bool (isFirst l e) ∧ Lands L (pt b (.cells [.slice a n c].toArray 53) :: F)) := by
  refine CallsK_enter (n := 8) Tryz.func170 rfl rfl rfl ?_
  iterate 2 refine Ws ?_
  refine Wb fun b2 => ?_
  iterate 6 refine Ws ?_
  refine SR_pu (RD_makeFunc (.cons rfl (.nil))) rfl ?_
  refine Wc (ev_ContainsFunc 172 [.pointer (some ⟨b2, 0, none⟩)] (earlier e) l a n c hcs hn hb Tryz.call172 (fun x _ => (CallsK.atPt (pool_clo2 e x b2)).post .fin)) ?_
  iterate 4 refine Ws ?_
  refine SC_ret1 rfl rfl ?_
  exact ⟨rfl, .fin⟩

theorem pool_first {W : World} {F : List HProp} [Abs F] (l : List EnvD) (a : Option Addr) (n c : Nat) {cs : List Value} [HasRow F a cs] (hcs : cs = l.flatMap EnvD.cells) (hn : l.length = n) (hb : n ≤ 1000000000) :
    CallsK W Tryz.prog 146 #[.slice a n c] (F) (fun u L => u = .int .i64 (firstI l) ∧ Lands L F) := by
  refine CallsK_enter (n := 6) Tryz.func146 rfl rfl rfl ?_
  iterate 2 refine Ws ?_
  refine Wb fun b1 => ?_
  iterate 6 refine Ws ?_
  refine SR_pu (RD_makeFunc (.cons rfl (.nil))) rfl ?_
  refine Wc (ev_IndexFunc 170 [.pointer (some ⟨b1, 0, none⟩)] (isFirst l) l a n c hcs hn hb Tryz.call170 (fun e _ => (CallsK.atPt (pool_clo3 l b1 a n c hcs hn hb e)).post .fin)) ?_
  iterate 3 refine Ws ?_
  refine SC_ret1 rfl rfl ?_
  exact ⟨rfl, .fin⟩

theorem pool_clo4 {W : World} {F : List HProp} [Abs F] (k : WK) (z : WS) (p : Nat) (s : PoS) (hw : s.w = k.p) (sk : List Int) (sa : Option Addr) (sn sc : Nat) {cs : List Value} [HasRow F sa cs] (hcs : cs = sk.map intV) (hn : sk.length = sn) (hb : sn ≤ 1000000000) (hz : z.l.length ≤ 1000000000) (b1 b2 : Nat) (e : EnvD) (he : e.Ok) (hm : envB e ∈ z.l) :
    CallsK W Tryz.prog 145 #[e.val, .pointer (some ⟨b1, 0, none⟩), .pointer (some ⟨b2, 0, none⟩)] (pt b1 (.cells [.slice sa sn sc].toArray 37) :: pt b2 (.cells [.pointer (some ⟨p, 0, none⟩)].toArray 86) :: At worldI k z :: At poolI p s :: F) (fun u L => u = .bool (skipP z.l sk e) ∧ Lands L (pt b1 (.cells [.slice sa sn sc].toArray 37) :: pt b2 (.cells [.pointer (some ⟨p, 0, none⟩)].toArray 86) :: At worldI k z :: At poolI p s :: F)) := by
  refine CallsK_enter (n := 13) Tryz.func145 rfl rfl rfl ?_
  iterate 2 refine Ws ?_
  refine Wb fun b3 => ?_
  iterate 4 refine Ws ?_
  refine SC.opn (open_pool (p := p)) fun ⟨a, c⟩ _ => ?_
  dsimp only
  rw [hw]
  refine Wd [.r 0, .r 1, .r 2, .r 3, .r 4, .r 5, .e 6, .e 7, .r 8] ?_
  iterate 5 refine Wq ?_
  refine SQ_rd rfl (RD_loadA (vs := e.cells) Tryz.isAgg43 Tryz.sizeOf43 rfl rfl) Has.wh rfl ?_
  refine SQ_call rfl Tryz.call127 (.cons rfl (.cons rfl (.nil))) (CallsK.at (w_EnvDigest k z e he hz z.l _ (dput_idem hm) rfl)) (lts rfl) ?_
  rintro _ L1 ⟨rfl, hL1⟩
  refine ⟨.lands hL1 (.w rfl (.w rfl (.h (Has.ce rfl) (.h (Has.ce rfl) (.nil))))), ?_⟩
  refine SQ.lands hL1 ?_
  refine SQ_call rfl Tryz.call51 (.cons rfl (.cons rfl (.nil))) (go_Contains sk _ sa sn sc hcs hn hb) (lts rfl) ?_
  rintro _ L2 ⟨rfl, hL2⟩
  refine ⟨.lands hL2 (.h Has.wh (.h (Has.ce rfl) (.h (Has.ce rfl) (.w rfl (.nil))))), ?_⟩
  refine SQ.lands hL2 ?_
  refine Wq ?_
  iterate 2 refine Ws ?_
  refine SC_ret1 rfl rfl ?_
  exact ⟨rfl, (close_pool p s (e0_ := by rw [hw])).trans .fin⟩

theorem pool_clo5 {W : World} {F : List HProp} [Abs F] (k : WK) (z : WS) (p : Nat) (s : PoS) (hw : s.w = k.p) (sk : List Int) (sa : Option Addr) (sn sc : Nat) {cs : List Value} [HasRow F sa cs] (hcs : cs = sk.map intV) (hn : sk.length = sn) (hb : sn ≤ 1000000000) (hz : z.l.length ≤ 1000000000) (b1 b2 : Nat) (a : Option Addr) (n c : Nat) (e : EnvD) (he : e.Ok) (hm : envB e ∈ z.l) :
    CallsK W Tryz.prog 245 #[e.val, .pointer (some ⟨b1, 0, none⟩), .pointer (some ⟨b2, 0, none⟩)] (pt b1 (.cells [.slice sa sn sc].toArray 37) :: pt b2 (.cells [.pointer (some ⟨p, 0, none⟩)].toArray 86) :: At worldI k z :: pt p (.cells [.pointer (some ⟨s.w, 0, none⟩), .int .i64 s.most, .slice a n c].toArray 174) :: F) (fun u L => u = .bool (skipP z.l sk e) ∧ Lands L (pt b1 (.cells [.slice sa sn sc].toArray 37) :: pt b2 (.cells [.pointer (some ⟨p, 0, none⟩)].toArray 86) :: At worldI k z :: pt p (.cells [.pointer (some ⟨s.w, 0, none⟩), .int .i64 s.most, .slice a n c].toArray 174) :: F)) := by
  refine CallsK_enter (n := 13) Tryz.func245 rfl rfl rfl ?_
  rw [hw]
  iterate 2 refine Ws ?_
  refine Wb fun b3 => ?_
  iterate 4 refine Ws ?_
  refine Wd [.r 0, .r 1, .r 2, .r 3, .r 4, .r 5, .e 6, .e 7, .r 8] ?_
  iterate 5 refine Wq ?_
  refine SQ_rd rfl (RD_loadA (vs := e.cells) Tryz.isAgg43 Tryz.sizeOf43 rfl rfl) Has.wh rfl ?_
  refine SQ_call rfl Tryz.call127 (.cons rfl (.cons rfl (.nil))) (CallsK.at (w_EnvDigest k z e he hz z.l _ (dput_idem hm) rfl)) (lts rfl) ?_
  rintro _ L1 ⟨rfl, hL1⟩
  refine ⟨.lands hL1 (.w rfl (.w rfl (.h (Has.ce rfl) (.h (Has.ce rfl) (.nil))))), ?_⟩
  refine SQ.lands hL1 ?_
  refine SQ_call rfl Tryz.call51 (.cons rfl (.cons rfl (.nil))) (go_Contains sk _ sa sn sc hcs hn hb) (lts rfl) ?_
  rintro _ L2 ⟨rfl, hL2⟩
  refine ⟨.lands hL2 (.h Has.wh (.h (Has.ce rfl) (.h (Has.ce rfl) (.w rfl (.nil))))), ?_⟩
  refine SQ.lands hL2 ?_
  refine Wq ?_
  iterate 2 refine Ws ?_
  refine SC_ret1 rfl rfl ?_
  exact ⟨rfl, .fin⟩

theorem CallsK.atRow {W : World} {P : Program} {f : FuncId} {args : Array Value} {L R : List HProp} {KK : Value → List HProp → Prop} {E z n c : Nat} {a : Option Addr} {cs : List Value} [t : TakeRow L a E z n c cs R] (g : CallsK W P f args (rowP E z a n c cs :: R) KK) : CallsK W P f args L KK := g.pre fun m => Den_perm t.perm m

theorem ev_Delete' {W : World} {F : List HProp} [Abs F] (l : List EnvD) (a : Option Addr) (n c i : Nat) {cs : List Value} (hcs : cs = l.flatMap EnvD.cells) (hn : l.length = n) (hb : n ≤ 1000000000) (hi : i < n) (v w : Int) (hv : v = (i : Nat)) (hw : w = (i : Nat) + 1) :
    CallsK W Tryz.prog 147 #[.slice a n c, .int .i64 v, .int .i64 w] (rowP 43 4 a n c cs :: F) (fun u L => u = .slice a (n - 1) c ∧ Lands L (rowP 43 4 a (n - 1) c ((l.eraseIdx i).flatMap EnvD.cells) :: F)) := by
  subst hv; subst hw
  exact ev_Delete l a n c i hcs hn hb hi
theorem batchL_len : ∀ {n : Nat} {l r : List EnvD}, batchL n l = some r → r.length ≤ n ∧ r.length ≤ l.length
  | 0, l, r, h => by simp [batchL] at h; subst h; simp
  | n + 1, l, r, h => by
    unfold batchL at h
    split at h
    · cases h; simp
    · split at h
      · cases h
      · split at h
        · cases h
        · rename_i e he
          cases hb : batchL n (l.eraseIdx (firstI l).toNat) with
          | none => rw [hb] at h; cases h
          | some q =>
            rw [hb] at h; cases h
            have := batchL_len hb
            have hi := (List.getElem?_eq_some_iff.1 he).1
            rw [List.length_eraseIdx_of_lt hi] at this
            simp only [List.length_cons]
            omega

theorem pool_Batch {W : World} {F : List HProp} [Abs F] (k : WK) (z : WS) (p : Nat) (s : PoS) (hw : s.w = k.p) (sk : List Int) (sa : Option Addr) (sn sc : Nat) {ds : List Value} [HasRow F sa ds] (hcs : ds = sk.map intV) (hn : sk.length = sn) (hb : sn ≤ 1000000000) (hz : z.l.length ≤ 1000000000) (he : ∀ e ∈ s.l, e.Ok) (hm : ∀ e ∈ s.l, envB e ∈ z.l) (hs : s.l.length ≤ 1000000) (m : Nat) (r : List EnvD) (h : batchL m (s.l.filter fun e => !skipP z.l sk e) = some r) :
    CallsK W Tryz.prog 112 #[.pointer (some ⟨p, 0, none⟩), .int .i64 (m : Nat), .slice sa sn sc] (At worldI k z :: At poolI p s :: F) (fun u L => ∃ a c, u = .slice a r.length c ∧ Lands L (rowP 43 4 a r.length c (r.flatMap EnvD.cells) :: At worldI k z :: At poolI p s :: F)) := by
  refine CallsK_enter (n := 38) Tryz.func112 rfl rfl rfl ?_
  iterate 2 refine Ws ?_
  refine Wb fun b3 => ?_
  refine Wb fun b5 => ?_
  iterate 6 refine Ws ?_
  refine We (CallsK.at (pool_All p s hs)) ?_
  rintro _ L1 ⟨a1, c1, rfl, hL1⟩
  refine SR.lands hL1 ?_
  refine SR_pu (RD_makeFunc (.cons rfl (.cons rfl (.nil)))) rfl ?_
  refine Wc (ev_DeleteFunc 145 [.pointer (some ⟨b5, 0, none⟩), .pointer (some ⟨b3, 0, none⟩)] (skipP z.l sk) s.l a1 s.l.length c1 rfl rfl (by omega) Tryz.call145 (fun e hmem A => (CallsK.lands (T := pt b5 (.cells [.slice sa sn sc].toArray 37) :: pt b3 (.cells [.pointer (some ⟨p, 0, none⟩)].toArray 86) :: At worldI k z :: At poolI p s :: A :: F) .fin (pool_clo4 k z p s hw sk sa sn sc hcs hn hb hz b5 b3 e (he e hmem) (hm e hmem))).post .fin)) ?_
  iterate 10 refine Ws ?_
  refine SC_ind (X := List EnvD × Option Addr × Nat × List EnvD) (fun x => x.1.length + x.2.2.2.length ≤ s.l.length ∧ ∃ q, batchL (m - x.1.length) x.2.2.2 = some q ∧ x.1 ++ q = r) (fun x => x.2.2.2.length) (fun x => [(1, .int .i64 (m : Nat)), (7, .slice a1 x.2.2.2.length c1), (8, .slice x.2.1 x.1.length x.2.2.1)]) (fun x => rowP 43 4 a1 x.2.2.2.length c1 (x.2.2.2.flatMap EnvD.cells) :: rowP 43 4 x.2.1 x.1.length x.2.2.1 (x.1.flatMap EnvD.cells) :: pt b5 (.cells [.slice sa sn sc].toArray 37) :: pt b3 (.cells [.pointer (some ⟨p, 0, none⟩)].toArray 86) :: At worldI k z :: At poolI p s :: F) (([], none, 0, s.l.filter fun e => !skipP z.l sk e)) (⟨by dsimp only; rw [List.length_nil]; have := List.length_filter_le (fun e => !skipP z.l sk e) s.l; omega, _, h, rfl⟩) (.cons rfl (.cons rfl (.cons rfl (.nil)))) (by simp only [List.flatMap_nil, List.length_nil]; exact (row_new 43 4 none).trans .fin) ?_
  intro ⟨o, oa, oc, l⟩ hi ih
  obtain ⟨hi1, q, hi2, hi3⟩ := hi
  dsimp only at hi1 hi2 hi3 ih ⊢
  iterate 8 refine Ws ?_
  refine SR_guard rfl rfl (fun hg3_4 => ?_) (fun hg3_4 => ?_)
  · refine SR_yes rfl rfl (hg3_4) ?_
    refine Ws ?_
    refine SR_yes rfl rfl (hg3_4) ?_
    refine Ws ?_
    refine SR_yes rfl rfl (hg3_4) ?_
    refine Ws ?_
    refine SR_pu (RD_pick_t rfl (hg3_4) rfl) rfl ?_
    iterate 2 refine Ws ?_
    refine SC_cond rfl (fun hc22 => ?_) (fun hc22 => ?_)
    · have hl0 : ¬ l.length = 0 := by have := of_decide_eq_true hc22; omega
      have hm1 : m - o.length = (m - o.length - 1) + 1 := by have := of_decide_eq_true hg3_4; omega
      rw [hm1] at hi2
      unfold batchL at hi2
      rw [if_neg hl0] at hi2
      split at hi2
      next => cases hi2
      rename_i hfi
      split at hi2
      next => cases hi2
      rename_i e he
      have hlt := (List.getElem?_eq_some_iff.1 he).1
      obtain ⟨i, hi⟩ : ∃ i : Nat, firstI l = i := ⟨(firstI l).toNat, by omega⟩
      rw [hi, Int.toNat_natCast] at he hlt hi2
      obtain ⟨q2, hq2, rfl⟩ : ∃ q2, batchL (m - o.length - 1) (l.eraseIdx i) = some q2 ∧ e :: q2 = q := by
        cases hb2 : batchL (m - o.length - 1) (l.eraseIdx i) with
        | none => rw [hb2] at hi2; cases hi2
        | some q2 => rw [hb2] at hi2; exact ⟨q2, rfl, by simpa using hi2⟩
      have hel : (l.eraseIdx i).length = l.length - 1 := List.length_eraseIdx_of_lt hlt
      iterate 6 refine Ws ?_
      refine Wc (pool_first l a1 l.length c1 rfl rfl (by omega)) ?_
      rw [hi]
      iterate 8 refine Ws ?_
      refine SR_rd (RD_ixO (cs := l.flatMap EnvD.cells) Tryz.runUnderlying53 Tryz.sizeOf43 rfl rfl (by rw [env_len]) (by omega) (by omega)) Has.ro rfl ?_
      refine SR_rd (RD_loadAO (vs := e.cells) (cs := l.flatMap EnvD.cells) Tryz.isAgg43 Tryz.sizeOf43 rfl rfl (by decide) (fun o v h => by have ho : o < 4 := (List.getElem?_eq_some_iff.1 h).1; rw [show ((i : Nat) : Int).toNat * (3 + 1) + o = i * 4 + o by omega, env_get he o ho]; exact h)) Has.ro rfl ?_
      refine SR_ox (OX_lit Tryz.underlying53 Tryz.type43 rfl rfl rfl rfl (.cons rfl (.nil)) (.cons rfl rfl (.nil))) rfl ?_
      rintro _ _ ⟨b30, rfl, rfl⟩
      refine SR_ox (OX_app 4 Tryz.underlying53 Tryz.underlying53 Tryz.type43 rfl rfl rfl rfl rfl (by first | rfl | simp; done | (simp; omega)) 32 rfl (by omega) (by omega)) rfl ?_
      rintro _ _ ⟨a31, c31, rfl, rfl⟩
      iterate 8 refine Ws ?_
      refine Wc (CallsK.atRow (ev_Delete' l a1 l.length c1 i rfl rfl (by omega) hlt (i : Nat) ((i : Nat) + 1) rfl rfl)) ?_
      iterate 3 refine Ws ?_
      refine SC_again (ih ((o ++ [e], a31, c31, l.eraseIdx i)) (⟨by dsimp only; simp only [List.length_append, List.length_cons, List.length_nil]; omega, q2, by dsimp only; rw [List.length_append, show m - (o.length + [e].length) = m - o.length - 1 by simp only [List.length_cons, List.length_nil]; omega]; exact hq2, by dsimp only; rw [← hi3]; simp⟩) (by dsimp only; omega)) (by dsimp only; rw [hel, List.length_append, List.flatMap_append, show [e].flatMap EnvD.cells = e.cells ++ [] from rfl]; exact .fin) (.cons rfl (.cons' rfl (by dsimp only; rw [hel]) (.cons' rfl (by dsimp only; rw [List.length_append]; rfl) (.nil))))
    · have hq : q = [] := by
        have hl0 : l.length = 0 := by have := of_decide_eq_false hc22; omega
        have hm1 : m - o.length = (m - o.length - 1) + 1 := by have := of_decide_eq_true hg3_4; omega
        rw [hm1] at hi2; unfold batchL at hi2; rw [if_pos hl0] at hi2; cases hi2; rfl
      subst hq
      rw [List.append_nil] at hi3
      subst hi3
      iterate 8 refine Ws ?_
      refine SC_ret1 rfl rfl ?_
      exact ⟨_, _, rfl, .fin⟩
  · refine SR_no rfl rfl (hg3_4) (lts rfl) ?_
    refine SR_no rfl rfl (hg3_4) (lts rfl) ?_
    refine SR_no rfl rfl (hg3_4) (lts rfl) ?_
    refine SR_pu (RD_pick_f rfl (hg3_4) rfl) rfl ?_
    iterate 2 refine Ws ?_
    have hq : q = [] := by
      have hm0 : m - o.length = 0 := by have := of_decide_eq_false hg3_4; omega
      rw [hm0] at hi2; cases hi2; rfl
    subst hq
    rw [List.append_nil] at hi3
    subst hi3
    refine SC_cond_false rfl (rfl) ?_
    iterate 8 refine Ws ?_
    refine SC_ret1 rfl rfl ?_
    exact ⟨_, _, rfl, .fin⟩

theorem pool_Drop {W : World} {F : List HProp} [Abs F] (k : WK) (z : WS) (p : Nat) (s : PoS) (hw : s.w = k.p) (sk : List Int) (sa : Option Addr) (sn sc : Nat) {cs : List Value} [HasRow F sa cs] (hcs : cs = sk.map intV) (hn : sk.length = sn) (hb : sn ≤ 1000000000) (hz : z.l.length ≤ 1000000000) (he : ∀ e ∈ s.l, e.Ok) (hm : ∀ e ∈ s.l, envB e ∈ z.l) (hs : s.l.length ≤ 1000000) :
    CallsK W Tryz.prog 222 #[.pointer (some ⟨p, 0, none⟩), .slice sa sn sc] (At worldI k z :: At poolI p s :: F) (fun _ L => Lands L (At worldI k z :: At poolI p ⟨s.w, s.most, s.l.filter fun e => !skipP z.l sk e⟩ :: F)) := by
  refine CallsK_enter (n := 13) Tryz.func222 rfl rfl rfl ?_
  iterate 2 refine Ws ?_
  refine Wb fun b2 => ?_
  refine Wb fun b3 => ?_
  iterate 2 refine Ws ?_
  refine SC.opn (open_pool (p := p)) fun ⟨a, c⟩ _ => ?_
  dsimp only
  refine Wd [.r 0, .r 1, .r 2, .r 3, .r 4, .r 5, .e 6, .r 7, .r 8, .e 9] ?_
  iterate 5 refine Wq ?_
  refine SQ_pu rfl (RD_makeFunc (.cons rfl (.cons rfl (.nil)))) rfl ?_
  refine SQ_call rfl Tryz.call144 (.cons rfl (.cons rfl (.nil))) (CallsK.lands (T := rowP 43 4 a s.l.length c (s.l.flatMap EnvD.cells) :: pt b3 (.cells [.slice sa sn sc].toArray 37) :: pt b2 (.cells [.pointer (some ⟨p, 0, none⟩)].toArray 86) :: At worldI k z :: pt p (.cells [.pointer (some ⟨s.w, 0, none⟩), .int .i64 s.most, .slice a s.l.length c].toArray 174) :: F) .fin (ev_DeleteFunc 245 [.pointer (some ⟨b3, 0, none⟩), .pointer (some ⟨b2, 0, none⟩)] (skipP z.l sk) s.l a s.l.length c rfl rfl (by omega) Tryz.call245 (fun e hmem A => (CallsK.lands (T := pt b3 (.cells [.slice sa sn sc].toArray 37) :: pt b2 (.cells [.pointer (some ⟨p, 0, none⟩)].toArray 86) :: At worldI k z :: pt p (.cells [.pointer (some ⟨s.w, 0, none⟩), .int .i64 s.most, .slice a s.l.length c].toArray 174) :: A :: F) .fin (pool_clo5 k z p s hw sk sa sn sc hcs hn hb hz b3 b2 a s.l.length c e (he e hmem) (hm e hmem))).post .fin))) (lts rfl) ?_
  rintro _ L1 ⟨rfl, hL1⟩
  refine ⟨.lands hL1 (.w rfl (.h (Has.ce rfl) (.h (Has.ce rfl) (.nil)))), ?_⟩
  refine SQ.lands hL1 ?_
  iterate 2 refine Wq ?_
  refine SQ_ox0 rfl (OX_st Tryz.sizeOf53 rfl rfl) ?_
  rintro _ _ rfl
  refine ⟨.w rfl (.w rfl (.w rfl (.nil))), ?_⟩
  refine Ws ?_
  refine SN_stop0 rfl ?_
  exact (close_pool p ⟨s.w, s.most, s.l.filter fun e => !skipP z.l sk e⟩).trans .fin

end Go.Proofs.YtdhpjdhloaoepaaGreat

/- Envelopes over a vault of many ciphers: made, opened; a new world. -/
namespace Go.Proofs.YtdhpjdhloaoepaaGreat
open Go Go.Proofs
attribute [local irreducible] SC SN SR SQ SA SO
set_option maxRecDepth 100000
/-- What is in an envelope. -/
def VS.openE (s : VS) (e : EnvD) : EntD := ⟨e.client, e.nonce, e.fee, ((s.open e.client e.cipher).bind parseTx).isSome, ((s.open e.client e.cipher).bind parseTx).getD txZero⟩
def VS.openR (s : VS) (e : EnvD) : EntD × Bool := if s.enough e.cipher then (s.openE e, true) else (zEnt, false)

theorem VS.open_len {s : VS} (hf : s.Fit) {lb c : Int} {bs : List UInt8} (h : s.open lb c = some bs) : bs.length ≤ 1000000 := by
  unfold VS.open at h
  split at h
  · rename_i hh
    have h1 := VS.has_of hh.1
    have h2 := of_decide_eq_true h1
    have h3 : (c - 1).toNat < s.l.length := by omega
    have h4 : s.at c = s.l[(c - 1).toNat] := by unfold VS.at; rw [List.getElem?_eq_getElem h3]; rfl
    have h5 := hf.2 _ (List.getElem_mem h3)
    injection h with h; subst h
    rw [h4]; exact h5
  · cases h

theorem vw_Open_no {W : World} {F : List HProp} [Abs F] (k : WK) (z : WS) (s : VS) (hf : s.Fit) (e : EnvD) (he : s.enough e.cipher = false) :
    CallsK W Tryz.prog 190 #[.pointer (some ⟨k.p, 0, none⟩), e.val] (At worldI k z :: At vltI k.v s :: F) (fun u L => u = .tuple #[zEnt.val, .bool false] ∧ Lands L (At worldI k z :: At vltI k.v s :: F)) := by
  refine CallsK_enter (n := 46) Tryz.func190 rfl rfl rfl ?_
  iterate 2 refine Ws ?_
  refine Wb fun b3 => ?_
  refine Wa fun b4 => ?_
  iterate 5 refine Ws ?_
  refine SC.lands (Lands.op_world (k := k) (s := z)) ?_
  refine Wd [.r 0, .r 1, .r 2, .r 3, .r 4, .r 5, .e 6, .r 7] ?_
  iterate 6 refine Wq ?_
  refine SQ_call rfl Tryz.call96 (.cons rfl (.cons rfl (.nil))) (CallsK.at (vlt_Enough k.v s hf.1 e.cipher)) (lts rfl) ?_
  rintro _ L1 ⟨rfl, hL1⟩
  refine ⟨.lands hL1 (.w rfl (.w rfl (.nil))), ?_⟩
  rw [he]
  refine SQ.lands hL1 ?_
  refine Wq ?_
  iterate 2 refine Ws ?_
  refine SC_cond_true rfl (rfl) ?_
  iterate 2 refine Ws ?_
  refine SR_pu (RD_build (.nil) built273) rfl ?_
  refine SR_ox0 (OX_stA (vs := zEnt.cells) Tryz.sizeOf273 rfl rfl rfl rfl) ?_
  rintro _ _ rfl
  iterate 3 refine Ws ?_
  refine SC_retCT rfl Tryz.isAgg273 Tryz.sizeOf273 rfl rfl rfl Has.wh ?_
  exact ⟨rfl, (close_world (k := k) (l := z.l) (S := z.S)).trans .fin⟩

theorem vw_Open_lab {W : World} {F : List HProp} [Abs F] (k : WK) (z : WS) (s : VS) (hf : s.Fit) (e : EnvD) (he : s.enough e.cipher = true) (hn : s.open e.client e.cipher = none) :
    CallsK W Tryz.prog 190 #[.pointer (some ⟨k.p, 0, none⟩), e.val] (At worldI k z :: At vltI k.v s :: F) (fun u L => u = .tuple #[EntD.val ⟨e.client, e.nonce, e.fee, false, txZero⟩, .bool true] ∧ Lands L (At worldI k z :: At vltI k.v s :: F)) := by
  refine CallsK_enter (n := 46) Tryz.func190 rfl rfl rfl ?_
  iterate 2 refine Ws ?_
  refine Wb fun b3 => ?_
  refine Wa fun b4 => ?_
  iterate 5 refine Ws ?_
  refine SC.lands (Lands.op_world (k := k) (s := z)) ?_
  refine Wd [.r 0, .r 1, .r 2, .r 3, .r 4, .r 5, .e 6, .r 7] ?_
  iterate 6 refine Wq ?_
  refine SQ_call rfl Tryz.call96 (.cons rfl (.cons rfl (.nil))) (CallsK.at (vlt_Enough k.v s hf.1 e.cipher)) (lts rfl) ?_
  rintro _ L1 ⟨rfl, hL1⟩
  refine ⟨.lands hL1 (.w rfl (.w rfl (.nil))), ?_⟩
  rw [he]
  refine SQ.lands hL1 ?_
  refine Wq ?_
  iterate 2 refine Ws ?_
  refine SC_cond_false rfl (rfl) ?_
  iterate 10 refine Ws ?_
  refine SR_pu (RD_build (.cons rfl (.cons rfl (.cons rfl (.nil)))) built273_0_1_2) rfl ?_
  refine Wa fun b6 => ?_
  refine SR_ox0 (OX_stA (vs := EntD.cells ⟨e.client, e.nonce, e.fee, false, txZero⟩) Tryz.sizeOf273 rfl rfl rfl rfl) ?_
  rintro _ _ rfl
  iterate 4 refine Ws ?_
  refine Wd [.r 0, .r 1, .r 2, .r 3, .r 4, .r 5, .r 6, .r 7, .e 8, .r 9, .r 10, .r 11, .r 12, .r 13] ?_
  iterate 8 refine Wq ?_
  refine SQ_call rfl Tryz.call224 (.cons rfl (.cons rfl (.cons rfl (.nil)))) (CallsK.at (vlt_Open k.v s hf e.client e.cipher)) (lts rfl) ?_
  rintro _ L2 ⟨oa, oc, rfl, hL2⟩
  refine ⟨.lands hL2 (.w rfl (.w rfl (.w rfl (.nil)))), ?_⟩
  rw [hn]
  rw [hn] at hL2
  simp only [Option.getD_some, Option.getD_none, List.length_nil, List.map_nil, Option.isSome_some, Option.isSome_none] at hL2 ⊢
  refine SQ.lands hL2 ?_
  iterate 5 refine Wq ?_
  iterate 7 refine Ws ?_
  refine SC_cond_false rfl (rfl) ?_
  iterate 4 refine Ws ?_
  refine SR_rd (RD_loadA (vs := EntD.cells ⟨e.client, e.nonce, e.fee, false, txZero⟩) Tryz.isAgg273 Tryz.sizeOf273 rfl rfl) Has.wh rfl ?_
  refine SR_ox0 (OX_stA (vs := EntD.cells ⟨e.client, e.nonce, e.fee, false, txZero⟩) Tryz.sizeOf273 rfl rfl rfl rfl) ?_
  rintro _ _ rfl
  iterate 3 refine Ws ?_
  refine SC_retCT rfl Tryz.isAgg273 Tryz.sizeOf273 rfl rfl rfl Has.wh ?_
  exact ⟨rfl, (close_world (k := k) (l := z.l) (S := z.S)).trans .fin⟩

theorem vw_Open_yes {W : World} {F : List HProp} [Abs F] (k : WK) (z : WS) (s : VS) (hf : s.Fit) (e : EnvD) (he : s.enough e.cipher = true) (bs : List UInt8) (hbl : bs.length ≤ 1000000) (hn : s.open e.client e.cipher = some bs) :
    CallsK W Tryz.prog 190 #[.pointer (some ⟨k.p, 0, none⟩), e.val] (At worldI k z :: At vltI k.v s :: F) (fun u L => u = .tuple #[EntD.val ⟨e.client, e.nonce, e.fee, (parseTx bs).isSome, ((parseTx bs).getD txZero)⟩, .bool true] ∧ Lands L (At worldI k z :: At vltI k.v s :: F)) := by
  refine CallsK_enter (n := 46) Tryz.func190 rfl rfl rfl ?_
  iterate 2 refine Ws ?_
  refine Wb fun b3 => ?_
  refine Wa fun b4 => ?_
  iterate 5 refine Ws ?_
  refine SC.lands (Lands.op_world (k := k) (s := z)) ?_
  refine Wd [.r 0, .r 1, .r 2, .r 3, .r 4, .r 5, .e 6, .r 7] ?_
  iterate 6 refine Wq ?_
  refine SQ_call rfl Tryz.call96 (.cons rfl (.cons rfl (.nil))) (CallsK.at (vlt_Enough k.v s hf.1 e.cipher)) (lts rfl) ?_
  rintro _ L1 ⟨rfl, hL1⟩
  refine ⟨.lands hL1 (.w rfl (.w rfl (.nil))), ?_⟩
  rw [he]
  refine SQ.lands hL1 ?_
  refine Wq ?_
  iterate 2 refine Ws ?_
  refine SC_cond_false rfl (rfl) ?_
  iterate 10 refine Ws ?_
  refine SR_pu (RD_build (.cons rfl (.cons rfl (.cons rfl (.nil)))) built273_0_1_2) rfl ?_
  refine Wa fun b6 => ?_
  refine SR_ox0 (OX_stA (vs := EntD.cells ⟨e.client, e.nonce, e.fee, false, txZero⟩) Tryz.sizeOf273 rfl rfl rfl rfl) ?_
  rintro _ _ rfl
  iterate 4 refine Ws ?_
  refine Wd [.r 0, .r 1, .r 2, .r 3, .r 4, .r 5, .r 6, .r 7, .e 8, .r 9, .r 10, .r 11, .r 12, .r 13] ?_
  iterate 8 refine Wq ?_
  refine SQ_call rfl Tryz.call224 (.cons rfl (.cons rfl (.cons rfl (.nil)))) (CallsK.at (vlt_Open k.v s hf e.client e.cipher)) (lts rfl) ?_
  rintro _ L2 ⟨oa, oc, rfl, hL2⟩
  refine ⟨.lands hL2 (.w rfl (.w rfl (.w rfl (.nil)))), ?_⟩
  rw [hn]
  rw [hn] at hL2
  simp only [Option.getD_some, Option.getD_none, List.length_nil, List.map_nil, Option.isSome_some, Option.isSome_none] at hL2 ⊢
  refine SQ.lands hL2 ?_
  iterate 5 refine Wq ?_
  iterate 7 refine Ws ?_
  refine SC_cond_true rfl (rfl) ?_
  iterate 2 refine Ws ?_
  refine Wc (tx_Parse bs oa bs.length oc rfl rfl (by omega)) ?_
  refine Ws ?_
  refine SR_pu (RD_extract (v := (((parseTx bs).getD txZero)).val) rfl rfl) rfl ?_
  refine SR_pu (RD_extract (v := .bool (parseTx bs).isSome) rfl rfl) rfl ?_
  refine Ws ?_
  refine SR_ox0 (OX_stAt (cs' := EntD.cells ⟨e.client, e.nonce, e.fee, false, ((parseTx bs).getD txZero)⟩) Tryz.sizeOf149 rfl rfl rfl (by show 0 + 4 + 7 ≤ 11; decide) rfl) ?_
  rintro _ _ rfl
  unfold EntD.cells
  iterate 6 refine Ws ?_
  refine SR_rd (RD_loadA (vs := EntD.cells ⟨e.client, e.nonce, e.fee, (parseTx bs).isSome, ((parseTx bs).getD txZero)⟩) Tryz.isAgg273 Tryz.sizeOf273 rfl rfl) Has.wh rfl ?_
  refine SR_ox0 (OX_stA (vs := EntD.cells ⟨e.client, e.nonce, e.fee, (parseTx bs).isSome, ((parseTx bs).getD txZero)⟩) Tryz.sizeOf273 rfl rfl rfl rfl) ?_
  rintro _ _ rfl
  iterate 3 refine Ws ?_
  refine SC_retCT rfl Tryz.isAgg273 Tryz.sizeOf273 rfl rfl rfl Has.wh ?_
  exact ⟨rfl, (close_world (k := k) (l := z.l) (S := z.S)).trans .fin⟩

theorem vw_Open {W : World} {F : List HProp} [Abs F] (k : WK) (z : WS) (s : VS) (hf : s.Fit) (e : EnvD) : CallsK W Tryz.prog 190 #[.pointer (some ⟨k.p, 0, none⟩), e.val] (At worldI k z :: At vltI k.v s :: F) (fun u L => u = .tuple #[(s.openR e).1.val, .bool (s.openR e).2] ∧ Lands L (At worldI k z :: At vltI k.v s :: F)) := by
  unfold VS.openR VS.openE
  cases he : s.enough e.cipher with
  | false => exact vw_Open_no k z s hf e he
  | true =>
    cases hn : s.open e.client e.cipher with
    | none => exact vw_Open_lab k z s hf e he hn
    | some bs => exact vw_Open_yes k z s hf e he bs (VS.open_len hf hn) hn

theorem vw_Make {W : World} {F : List HProp} [Abs F] (k : WK) (z : WS) (s : VS) (hb : s.l.length ≤ 1000000) (cl nc fe : Int) (hc : 0 ≤ cl ∧ cl ≤ 999) (h1 : 0 ≤ nc ∧ nc < 18446744073709551616) (h2 : 0 ≤ fe ∧ fe < 18446744073709551616) (a0 : Option Addr) (n0 c0 : Nat) (bs : List UInt8) {cs0 : List Value} [HasRow F a0 cs0] (hcs : cs0 = bs.map byteV) (h0 : bs.length = n0) (hb2 : n0 ≤ 1000000) (hl : z.l.length ≤ 1000000000) :
    CallsK W Tryz.prog 94 #[.pointer (some ⟨k.p, 0, none⟩), .int .i64 cl, .int .u64 nc, .int .u64 fe, .slice a0 n0 c0] (At worldI k z :: At vltI k.v s :: F) (fun u L => u = (EnvD.mk cl nc fe ((s.l.length + 1 : Nat) : Int)).val ∧ Lands L (At worldI k ⟨dput z.l (envB ⟨cl, nc, fe, ((s.l.length + 1 : Nat) : Int)⟩), (addTo z.S (1000 + cl) (dnum (dput z.l (envB ⟨cl, nc, fe, ((s.l.length + 1 : Nat) : Int)⟩)) (envB ⟨cl, nc, fe, ((s.l.length + 1 : Nat) : Int)⟩) : Nat))⟩ :: At vltI k.v (s.sealC cl bs) :: F)) := by
  refine CallsK_enter (n := 41) Tryz.func94 rfl rfl rfl ?_
  iterate 2 refine Ws ?_
  refine Wa fun b10 => ?_
  iterate 8 refine Ws ?_
  refine SR_yes rfl rfl (decide_eq_false (by omega)) ?_
  refine Ws ?_
  refine SR_yes rfl rfl (decide_eq_false (by omega)) ?_
  refine Ws ?_
  refine SR_pu (RD_pick_f rfl (decide_eq_false (by omega)) rfl) rfl ?_
  iterate 2 refine Ws ?_
  refine SC_cond_false rfl (decide_eq_false (by omega)) ?_
  iterate 3 refine Ws ?_
  refine SC.lands (Lands.op_world (k := k) (s := z)) ?_
  iterate 10 refine Ws ?_
  refine Wc (CallsK.at (vlt_Seal k.v s hb cl a0 n0 c0 bs hcs h0 hb2)) ?_
  refine SR_pu (RD_build (.cons rfl (.cons rfl (.cons rfl (.cons rfl (.nil))))) built43_0_1_2_3) rfl ?_
  refine Wa fun b11 => ?_
  refine SR_ox0 (OX_stA (vs := EnvD.cells ⟨cl, nc, fe, ((s.l.length + 1 : Nat) : Int)⟩) Tryz.sizeOf43 rfl rfl rfl rfl) ?_
  rintro _ _ rfl
  iterate 3 refine Ws ?_
  refine Wd [.r 0, .r 1, .r 2, .r 3, .r 4, .r 5, .r 6, .r 7, .e 8, .e 9] ?_
  iterate 8 refine Wq ?_
  refine SQ_call rfl Tryz.call127 (.cons rfl (.cons rfl (.nil))) (CallsK.lands ((close_world (k := k) (l := z.l) (S := z.S)).trans .fin : Lands _ (At worldI k z :: pt b11 (.cells (EnvD.cells ⟨cl, nc, fe, ((s.l.length + 1 : Nat) : Int)⟩).toArray 43) :: pt b10 (.cells [.int .i64 0, .int .u64 0, .int .u64 0, .int .i64 0].toArray 43) :: At vltI k.v (s.sealC cl bs) :: F)) (w_EnvDigest k z ⟨cl, nc, fe, ((s.l.length + 1 : Nat) : Int)⟩ ⟨h1, h2⟩ hl _ _ rfl rfl)) (lts rfl) ?_
  rintro _ L2 ⟨rfl, hL2⟩
  have hL2b := hL2.trans open_world
  dsimp only at hL2b
  refine ⟨.lands hL2b (.w rfl (.h (Has.ce rfl) (.nil))), ?_⟩
  refine SQ.lands hL2b ?_
  refine SQ_call rfl Tryz.call123 (.cons rfl (.cons rfl (.cons rfl (.nil)))) (CallsK.at (book_Sign k.b z.S (1000 + cl) _)) (lts rfl) ?_
  rintro _ L3 ⟨rfl, hL3⟩
  refine ⟨.lands hL3 (.h Has.wh (.w rfl (.nil))), ?_⟩
  refine SQ.lands hL3 ?_
  iterate 5 refine Ws ?_
  refine SR_ox0 (OX_stA (vs := EnvD.cells ⟨cl, nc, fe, ((s.l.length + 1 : Nat) : Int)⟩) Tryz.sizeOf43 rfl rfl rfl rfl) ?_
  rintro _ _ rfl
  iterate 2 refine Ws ?_
  refine SC_retC rfl Tryz.isAgg43 Tryz.sizeOf43 rfl rfl Has.wh ?_
  exact ⟨rfl, (close_world (k := k)).trans .fin⟩

end Go.Proofs.YtdhpjdhloaoepaaGreat
