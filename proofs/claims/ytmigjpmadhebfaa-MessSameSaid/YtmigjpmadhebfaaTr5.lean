/- Ways in the tree. -/
import Derived.Test.YtmigjpmadhebfaaTr4
namespace Go.Proofs.Ytmigjpmadhebfaa
open Go Go.Proofs
set_option maxRecDepth 100000
theorem CallsK.rat {W : World} {P : Program} {f : FuncId} {args : Array Value} {L R : List HProp} {KK : Value → List HProp → Prop} {E z n c : Nat} {a : Option Addr} {cs : List Value} [t : TakeRow L a E z n c cs R] (g : CallsK W P f args (rowP E z a n c cs :: R) KK) : CallsK W P f args L KK := g.pre fun m => Den_perm t.perm m
/-- A row half turned. -/
def turned (l m : List Int) (i : Nat) : Prop := m.length = l.length ∧ ∀ t, t < l.length → m[t]? = if t < i ∨ l.length - 1 - i < t then l[l.length - 1 - t]? else l[t]?
theorem turned_0 (l : List Int) : turned l l 0 := ⟨rfl, fun t ht => by rw [if_neg (by omega)]⟩
theorem turned_end {l m : List Int} {i : Nat} (h : turned l m i) (hi : l.length ≤ 2 * i + 1) : m = l.reverse := by
  apply List.ext_getElem?
  intro t
  by_cases ht : t < l.length
  · rw [h.2 t ht, List.getElem?_reverse ht]
    by_cases h1 : t < i ∨ l.length - 1 - i < t
    · rw [if_pos h1]
    · rw [if_neg h1]; congr 1; omega
  · rw [List.getElem?_eq_none (by rw [h.1]; omega), List.getElem?_eq_none (by simp; omega)]
theorem turned_step {l m : List Int} {i : Nat} (h : turned l m i) (hi : 2 * i + 1 < l.length) {x y : Int} (hx : m[i]? = some x) (hy : m[l.length - 1 - i]? = some y) : turned l ((m.set i y).set (l.length - 1 - i) x) (i + 1) := by
  refine ⟨by simp [h.1], fun t ht => ?_⟩
  have e1 := h.2 i (by omega)
  have e2 := h.2 (l.length - 1 - i) (by omega)
  rw [if_neg (by omega)] at e1 e2
  by_cases t1 : t = l.length - 1 - i
  · subst t1
    rw [List.getElem?_set_self (by simp [h.1]; omega), if_pos (by omega), ← hx, e1]
    congr 1; omega
  · rw [List.getElem?_set_ne (fun e => t1 e.symm)]
    by_cases t2 : t = i
    · subst t2
      rw [List.getElem?_set_self (by rw [h.1]; omega), if_pos (by omega), ← hy, e2]
    · rw [List.getElem?_set_ne (fun e => t2 e.symm), h.2 t ht]
      by_cases h1 : t < i ∨ l.length - 1 - i < t
      · rw [if_pos h1, if_pos (by omega)]
      · rw [if_neg h1, if_neg (by omega)]

theorem ints_Reverse {W : World} {F : List HProp} [Abs F] (a : Option Addr) (n c : Nat) (l : List Int) (hn : l.length = n) (hb : n ≤ 1000000000) :
    CallsK W Try.prog 66 #[.slice a n c] (rowP 3 1 a n c (l.map intV) :: F) (fun v L => v = .tuple #[] ∧ Lands L (rowP 3 1 a n c (l.reverse.map intV) :: F)) := by
  refine CallsK_enter (n := 28) Try.func66 rfl rfl rfl ?_
  refine SC_seq ?_
  refine SC_region ?_
  refine SR_pu (RD_move rfl) rfl ?_
  refine SR_pu (RD_len Try.runUnderlying24 rfl) rfl ?_
  refine SR_pu (RD_subi rfl rfl (by omega) (by omega)) rfl ?_
  refine SR_pu (RD_assign rfl) rfl ?_
  refine SR_pu (RD_assign rfl) rfl ?_
  refine SR_nil ?_
  refine SN.le (l := [(0, _), (2, _), (3, _)]) ?_ (.cons rfl (.cons rfl (.cons rfl (.nil))))
  refine SN_seq ?_
  refine SC_block ?_
  refine SC_ind (X := Nat × List Int) (fun x => turned l x.2 x.1 ∧ x.1 ≤ n) (fun x => n - x.1) (fun x => [(0, .slice a n c), (2, .int .i64 (x.1 : Nat)), (3, .int .i64 ((n : Int) - 1 - x.1))]) (fun x => rowP 3 1 a n c (x.2.map intV) :: F) ((0, l)) (⟨turned_0 l, by simp⟩) (.cons rfl (.cons rfl (.cons' rfl (ie (by dsimp only; omega)) (.nil)))) (.fin) ?_
  intro ⟨i, m⟩ hi ih
  obtain ⟨ht, hin⟩ := hi
  dsimp only at ht hin ih ⊢
  refine SC_seq ?_
  refine SC_seq ?_
  refine SC_region ?_
  refine SR_pu (RD_move rfl) rfl ?_
  refine SR_pu (RD_move rfl) rfl ?_
  refine SR_pu (RD_lss rfl rfl) rfl ?_
  refine SR_nil ?_
  refine SN.le (l := [(0, _), (2, _), (3, _), (9, _)]) ?_ (.cons rfl (.cons rfl (.cons rfl (.cons rfl (.nil)))))
  refine SN_seq ?_
  refine SC_cond rfl (fun hc9 => ?_) (fun hc9 => ?_)
  · have hlt : 2 * i + 1 < l.length := by simp at hc9; omega
    obtain ⟨x, hx⟩ : ∃ x, m[i]? = some x := ⟨_, List.getElem?_eq_getElem (by rw [ht.1]; omega)⟩
    obtain ⟨y, hy⟩ : ∃ y, m[l.length - 1 - i]? = some y := ⟨_, List.getElem?_eq_getElem (by rw [ht.1]; omega)⟩
    have hst := turned_step ht hlt hx hy
    refine SC_skip ?_
    refine SN_seq ?_
    refine SC_seq ?_
    refine SC_block ?_
    refine SC_drawn (.cons 0 true (.cons 1 true (.cons 2 true (.cons 3 true (.cons 4 true (.cons 5 true (.cons 6 true (.cons 7 true (.cons 8 true (.cons 9 true (.cons 10 true (.cons 11 true (.cons 12 true (.cons 13 false (.cons 14 true (.cons 15 false (.nil))))))))))))))))) (by kernel_rfl) (by kernel_rfl) ?_
    refine SQ_pu rfl (RD_move rfl) rfl ?_
    refine SQ_pu rfl (RD_move rfl) rfl ?_
    refine SQ_pu rfl (RD_move rfl) rfl ?_
    refine SQ_pu rfl (RD_move rfl) rfl ?_
    refine SQ_pu rfl (RD_move rfl) rfl ?_
    refine SQ_pu rfl (RD_move rfl) rfl ?_
    refine SQ_rd rfl (RD_ixE (i := (l.length - 1 - i : Nat)) Try.runUnderlying24 Try.sizeOf3 rfl (congrArg some (ie (by omega))) (by omega) (by omega)) (Has.rs (by simp [ht.1]; omega)) rfl ?_
    refine SQ_rd rfl (RD_loadO (v := intV y) (cs := m.map intV) Try.isAgg3 rfl (by rw [show (((l.length - 1 - i : Nat) : Int)).toNat * (0 + 1) = l.length - 1 - i by omega]; simp [hy])) Has.ro rfl ?_
    refine SQ_pu rfl (RD_move rfl) rfl ?_
    refine SQ_pu rfl (RD_move rfl) rfl ?_
    refine SQ_rd rfl (RD_ixE (i := (i : Nat)) Try.runUnderlying24 Try.sizeOf3 rfl (congrArg some (ie (by omega))) (by omega) (by omega)) (Has.rs (by simp [ht.1]; omega)) rfl ?_
    refine SQ_rd rfl (RD_loadO (v := intV x) (cs := m.map intV) Try.isAgg3 rfl (by rw [show (((i : Nat) : Int)).toNat * (0 + 1) = i by omega]; simp [hx])) Has.ro rfl ?_
    refine SQ_rd rfl (RD_ixE (i := (i : Nat)) Try.runUnderlying24 Try.sizeOf3 rfl (congrArg some (ie (by omega))) (by omega) (by omega)) (Has.rs (by simp [ht.1]; omega)) rfl ?_
    refine SQ_ox0 rfl (OX_stRow Try.sizeOf3 rfl rfl (by simp [ht.1]; omega)) ?_
    rintro _ _ rfl
    refine ⟨.w rfl (.w rfl (.h (Has.rs (by simp [ht.1]; omega)) (.w rfl (.w rfl (.nil))))), ?_⟩
    refine SQ_rd rfl (RD_ixE (i := (l.length - 1 - i : Nat)) Try.runUnderlying24 Try.sizeOf3 rfl (congrArg some (ie (by omega))) (by omega) (by omega)) (Has.rs (by simp [ht.1]; omega)) rfl ?_
    refine SQ_ox0 rfl (OX_stRow Try.sizeOf3 rfl rfl (by simp [ht.1]; omega)) ?_
    rintro _ _ rfl
    refine ⟨.w rfl (.w rfl (.w rfl (.w rfl (.w rfl (.w rfl (.nil)))))), ?_⟩
    refine SQ_nil ?_
    refine SN.le (l := [(0, _), (2, _), (3, _)]) ?_ (.cons rfl (.cons rfl (.cons rfl (.nil))))
    refine SN_block ?_
    refine SN_seq ?_
    refine SC_region ?_
    refine SR_pu (RD_move rfl) rfl ?_
    refine SR_pu (RD_addi rfl rfl (by omega) (by omega)) rfl ?_
    refine SR_pu (RD_move rfl) rfl ?_
    refine SR_pu (RD_subi rfl rfl (by omega) (by omega)) rfl ?_
    refine SR_pu (RD_assign rfl) rfl ?_
    refine SR_pu (RD_assign rfl) rfl ?_
    refine SR_nil ?_
    refine SN.le (l := [(0, _), (2, _), (3, _)]) ?_ (.cons rfl (.cons rfl (.cons rfl (.nil))))
    have hr : ((m.map intV).set (((i : Nat) : Int).toNat * (0 + 1)) (intV y)).set ((((l.length - 1 - i : Nat) : Int)).toNat * (0 + 1)) (intV x) = ((m.set i y).set (l.length - 1 - i) x).map intV := by
      rw [List.map_set, List.map_set]
      congr 1
      · congr 1; omega
      · omega
    rw [hr]
    refine SC_again (ih ((i + 1, (m.set i y).set (l.length - 1 - i) x)) (⟨hst, by dsimp only; omega⟩) (by dsimp only; omega)) (.fin) (.cons rfl (.cons' rfl (ie (by dsimp only; omega)) (.cons' rfl (ie (by dsimp only; omega)) (.nil))))
  · have hend := turned_end ht (by simp at hc9; omega)
    subst hend
    refine SC_exit rfl ?_
    refine SN_stop0 rfl ?_
    exact ⟨rfl, .fin⟩

/-! ### Ways -/
structure TS.Ok (s : TS) : Prop where
  root : ∃ b, mget s.T s.root = some b ∧ b.view = 0 ∧ b.jb = 0
  up : ∀ d b, mget s.T d = some b → d ≠ s.root → ∃ q, mget s.T b.jb = some q ∧ q.view = b.jv ∧ b.jv < b.view
  pos : ∀ d b, mget s.T d = some b → 0 ≤ b.view
  len : s.T.length ≤ 1000000
def wayF (s : TS) : Nat → Int → Int → Option (List Int)
  | 0, _, _ => none
  | n + 1, f, t => if t = f then some [] else if t = s.root then none else
    match mget s.T t with
    | none => none
    | some b => (wayF s n f b.jb).map (· ++ [t])
theorem wayF_more {s : TS} (h : s.Ok) (f : Int) : ∀ (v : Nat) (t : Int) (b : Blk), mget s.T t = some b → b.view.toNat ≤ v → ∀ n m, v < n → v < m → wayF s n f t = wayF s m f t := by
  intro v
  induction v with
  | zero =>
    intro t b hb hv n m hn hm
    obtain ⟨n, rfl⟩ : ∃ n', n = n' + 1 := ⟨n - 1, by omega⟩
    obtain ⟨m, rfl⟩ : ∃ m', m = m' + 1 := ⟨m - 1, by omega⟩
    unfold wayF
    by_cases h1 : t = f
    · rw [if_pos h1, if_pos h1]
    · rw [if_neg h1, if_neg h1]
      by_cases h2 : t = s.root
      · rw [if_pos h2, if_pos h2]
      · obtain ⟨q, h3, h4, h5⟩ := h.up t b hb h2
        have := h.pos _ _ h3
        omega
  | succ v ih =>
    intro t b hb hv n m hn hm
    obtain ⟨n, rfl⟩ : ∃ n', n = n' + 1 := ⟨n - 1, by omega⟩
    obtain ⟨m, rfl⟩ : ∃ m', m = m' + 1 := ⟨m - 1, by omega⟩
    unfold wayF
    by_cases h1 : t = f
    · rw [if_pos h1, if_pos h1]
    · rw [if_neg h1, if_neg h1]
      by_cases h2 : t = s.root
      · rw [if_pos h2, if_pos h2]
      · rw [if_neg h2, if_neg h2, hb]
        obtain ⟨q, h3, h4, h5⟩ := h.up t b hb h2
        have := h.pos _ _ h3
        dsimp only
        rw [ih b.jb q h3 (by omega) n m (by omega) (by omega)]
/-- The way from one to another. -/
def TS.way (s : TS) (f t : Int) : Option (List Int) := wayF s ((viewOf (mget s.T t)).toNat + 1) f t
theorem way_eq {s : TS} (h : s.Ok) {f t : Int} {b : Blk} (hb : mget s.T t = some b) : s.way f t = if t = f then some [] else if t = s.root then none else (s.way f b.jb).map (· ++ [t]) := by
  unfold TS.way
  rw [hb]
  show wayF s (b.view.toNat + 1) f t = _
  by_cases h1 : t = f
  · unfold wayF; rw [if_pos h1, if_pos h1]
  · by_cases h2 : t = s.root
    · unfold wayF; rw [if_neg h1, if_pos h2, if_neg h1, if_pos h2]
    · obtain ⟨q, h3, h4, h5⟩ := h.up t b hb h2
      have := h.pos _ _ h3
      rw [if_neg h1, if_neg h2, h3]
      show wayF s (b.view.toNat + 1) f t = Option.map _ (wayF s (q.view.toNat + 1) f b.jb)
      rw [wayF_more h f q.view.toNat b.jb q h3 (Nat.le_refl _) (q.view.toNat + 1) b.view.toNat (by omega) (by omega)]
      conv => lhs; unfold wayF
      rw [if_neg h1, if_neg h2, hb]

theorem tree_Path_no {W : World} {F : List HProp} [Abs F] (p : Nat) (s : TS) (hs : s.Ok) (from_ to_ : Int) (h : mget s.T from_ = none ∨ mget s.T to_ = none) :
    CallsK W Try.prog 37 #[.pointer (some ⟨p, 0, none⟩), .int .i64 from_, .int .i64 to_] (At treeI p s :: F) (fun v L => v = .tuple #[.slice none 0 0, .bool false] ∧ Lands L (At treeI p s :: F)) := by
  refine CallsK_enter (n := 38) Try.func37 rfl rfl rfl ?_
  refine SC_seq ?_
  refine SC_region ?_
  refine SR_pu (RD_assign rfl) rfl ?_
  refine SR_pu (RD_assign rfl) rfl ?_
  refine SR_nil ?_
  refine SN.le (l := [(0, _), (1, _), (2, _)]) ?_ (.cons rfl (.cons rfl (.cons rfl (.nil))))
  refine SN_seq ?_
  refine SC_seq ?_
  refine SC_seq ?_
  refine SC_region ?_
  refine SR_pu (RD_move rfl) rfl ?_
  refine SR_pu (RD_move rfl) rfl ?_
  refine SR_call Try.call61 (.cons rfl (.cons rfl (.nil))) (CallsK.at (tree_Has p s from_)) (lts rfl) ?_
  rintro _ L1 ⟨rfl, hL1⟩
  refine SR.lands hL1 ?_
  refine SR_pu (RD_not rfl) rfl ?_
  refine SR_pu (RD_move rfl) rfl ?_
  refine SR_guard rfl rfl (fun hg1_4 => ?_) (fun hg1_4 => ?_)
  · refine SR_yes rfl rfl (hg1_4) ?_
    refine SR_pu (RD_move rfl) rfl ?_
    refine SR_yes rfl rfl (hg1_4) ?_
    refine SR_pu (RD_move rfl) rfl ?_
    refine SR_yes rfl rfl (hg1_4) ?_
    refine SR_call Try.call61 (.cons rfl (.cons rfl (.nil))) (CallsK.at (tree_Has p s to_)) (lts rfl) ?_
    rintro _ L2 ⟨rfl, hL2⟩
    refine SR.lands hL2 ?_
    refine SR_yes rfl rfl (hg1_4) ?_
    refine SR_pu (RD_not rfl) rfl ?_
    refine SR_pu (RD_pick_f rfl (hg1_4) rfl) rfl ?_
    refine SR_nil ?_
    refine SN.le (l := [(0, _), (1, _), (2, _), (18, _)]) ?_ (.cons rfl (.cons rfl (.cons rfl (.cons rfl (.nil)))))
    refine SN_seq ?_
    refine SC_cond_true rfl (by
        have h1 : mget s.T to_ = none := h.elim (fun e => by rw [e] at hg1_4; cases hg1_4) id
        rw [h1]; rfl) ?_
    refine SC_seq ?_
    refine SC_region ?_
    refine SR_pu (RD_assign rfl) rfl ?_
    refine SR_pu (RD_assign rfl) rfl ?_
    refine SR_nil ?_
    refine SN.le (l := [(6, _), (7, _)]) ?_ (.cons rfl (.cons rfl (.nil)))
    refine SN_seq ?_
    refine SC_ret2 rfl rfl rfl ?_
    exact ⟨rfl, .fin⟩
  · refine SR_no rfl rfl (hg1_4) (lts rfl) ?_
    refine SR_no rfl rfl (hg1_4) (lts rfl) ?_
    refine SR_no rfl rfl (hg1_4) (lts rfl) ?_
    refine SR_no rfl rfl (hg1_4) (lts rfl) ?_
    refine SR_pu (RD_pick_t rfl (hg1_4) rfl) rfl ?_
    refine SR_nil ?_
    refine SN.le (l := [(0, _), (1, _), (2, _), (18, _)]) ?_ (.cons rfl (.cons rfl (.cons rfl (.cons rfl (.nil)))))
    refine SN_seq ?_
    refine SC_cond_true rfl (rfl) ?_
    refine SC_seq ?_
    refine SC_region ?_
    refine SR_pu (RD_assign rfl) rfl ?_
    refine SR_pu (RD_assign rfl) rfl ?_
    refine SR_nil ?_
    refine SN.le (l := [(6, _), (7, _)]) ?_ (.cons rfl (.cons rfl (.nil)))
    refine SN_seq ?_
    refine SC_ret2 rfl rfl rfl ?_
    exact ⟨rfl, .fin⟩

theorem tree_Path_yes {W : World} {F : List HProp} [Abs F] (p : Nat) (s : TS) (hs : s.Ok) (from_ to_ : Int) (hf : ∃ b, mget s.T from_ = some b) (ht : ∃ b, mget s.T to_ = some b) (hv : (viewOf (mget s.T to_)).toNat ≤ 1000000) :
    CallsK W Try.prog 37 #[.pointer (some ⟨p, 0, none⟩), .int .i64 from_, .int .i64 to_] (At treeI p s :: F) (fun v L => (∃ a c, v = .tuple #[.slice a ((s.way from_ to_).getD []).length c, .bool (s.way from_ to_).isSome] ∧ Lands L (rowP 3 1 a ((s.way from_ to_).getD []).length c (((s.way from_ to_).getD []).map intV) :: At treeI p s :: F))) := by
  refine CallsK_enter (n := 38) Try.func37 rfl rfl rfl ?_
  refine SC_seq ?_
  refine SC_region ?_
  refine SR_pu (RD_assign rfl) rfl ?_
  refine SR_pu (RD_assign rfl) rfl ?_
  refine SR_nil ?_
  refine SN.le (l := [(0, _), (1, _), (2, _)]) ?_ (.cons rfl (.cons rfl (.cons rfl (.nil))))
  refine SN_seq ?_
  refine SC_seq ?_
  refine SC_seq ?_
  refine SC_region ?_
  refine SR_pu (RD_move rfl) rfl ?_
  refine SR_pu (RD_move rfl) rfl ?_
  refine SR_call Try.call61 (.cons rfl (.cons rfl (.nil))) (CallsK.at (tree_Has p s from_)) (lts rfl) ?_
  rintro _ L1 ⟨rfl, hL1⟩
  refine SR.lands hL1 ?_
  refine SR_pu (RD_not rfl) rfl ?_
  refine SR_pu (RD_move rfl) rfl ?_
  refine SR_yes rfl rfl (by obtain ⟨b, e⟩ := hf; rw [e]; rfl) ?_
  refine SR_pu (RD_move rfl) rfl ?_
  refine SR_yes rfl rfl (by obtain ⟨b, e⟩ := hf; rw [e]; rfl) ?_
  refine SR_pu (RD_move rfl) rfl ?_
  refine SR_yes rfl rfl (by obtain ⟨b, e⟩ := hf; rw [e]; rfl) ?_
  refine SR_call Try.call61 (.cons rfl (.cons rfl (.nil))) (CallsK.at (tree_Has p s to_)) (lts rfl) ?_
  rintro _ L2 ⟨rfl, hL2⟩
  refine SR.lands hL2 ?_
  refine SR_yes rfl rfl (by obtain ⟨b, e⟩ := hf; rw [e]; rfl) ?_
  refine SR_pu (RD_not rfl) rfl ?_
  refine SR_pu (RD_pick_f rfl (by obtain ⟨b, e⟩ := hf; rw [e]; rfl) rfl) rfl ?_
  refine SR_nil ?_
  refine SN.le (l := [(0, _), (1, _), (2, _), (18, _)]) ?_ (.cons rfl (.cons rfl (.cons rfl (.cons rfl (.nil)))))
  refine SN_seq ?_
  refine SC_cond_false rfl (by obtain ⟨b, e⟩ := ht; rw [e]; rfl) ?_
  refine SC_skip ?_
  refine SN_seq ?_
  refine SC_seq ?_
  refine SC_region ?_
  refine SR_pu (RD_assign rfl) rfl ?_
  refine SR_nil ?_
  refine SN.le (l := [(0, _), (1, _), (2, _), (8, _)]) ?_ (.cons rfl (.cons rfl (.cons rfl (.cons rfl (.nil)))))
  refine SN_seq ?_
  refine SC_seq ?_
  refine SC_block ?_
  refine SC_ind (X := Int × Option Addr × Nat × List Int) (fun x => (∃ b, mget s.T x.1 = some b) ∧ s.way from_ to_ = (s.way from_ x.1).map (· ++ x.2.2.2.reverse) ∧ x.2.2.2.length + (viewOf (mget s.T x.1)).toNat ≤ (viewOf (mget s.T to_)).toNat) (fun x => (viewOf (mget s.T x.1)).toNat) (fun x => [(0, .pointer (some ⟨p, 0, none⟩)), (1, .int .i64 from_), (2, .int .i64 x.1), (8, .slice x.2.1 x.2.2.2.length x.2.2.1)]) (fun x => rowP 3 1 x.2.1 x.2.2.2.length x.2.2.1 (x.2.2.2.map intV) :: At treeI p s :: F) ((to_, none, 0, [])) (⟨ht, by simp, by simp⟩) (.cons rfl (.cons rfl (.cons rfl (.cons rfl (.nil))))) ((row_new 3 1 none).trans (show Lands _ (rowP 3 1 none 0 0 [] :: At treeI p s :: F) from .fin)) ?_
  intro ⟨t, a, c, acc⟩ hi ih
  obtain ⟨⟨b, hb⟩, hw, hlen⟩ := hi
  dsimp only at hb hw hlen ih ⊢
  refine SC_seq ?_
  refine SC_seq ?_
  refine SC_region ?_
  refine SR_pu (RD_move rfl) rfl ?_
  refine SR_pu (RD_move rfl) rfl ?_
  refine SR_pu (RD_neq rfl rfl) rfl ?_
  refine SR_nil ?_
  refine SN.le (l := [(0, _), (1, _), (2, _), (8, _), (21, _)]) ?_ (.cons rfl (.cons rfl (.cons rfl (.cons rfl (.cons rfl (.nil))))))
  refine SN_seq ?_
  refine SC_cond rfl (fun hc21 => ?_) (fun hc21 => ?_)
  · have hne : ¬ t = from_ := by simpa using hc21
    have hwe := way_eq hs (f := from_) hb
    rw [if_neg hne] at hwe
    refine SC.op_tree (p := p) fun m T hT => ?_
    refine SC_skip ?_
    refine SN_seq ?_
    refine SC_block ?_
    refine SC_seq ?_
    refine SC_seq ?_
    refine SC_region ?_
    refine SR_pu (RD_move rfl) rfl ?_
    refine SR_pu (RD_move rfl) rfl ?_
    first
      | refine SR_pu (RD_nilCheck rfl) rfl ?_
      | refine SR_pu (RD_nilCheckF rfl) rfl ?_
    first
      | refine SR_pu (RD_fieldAddr 1 Try.runUnderlying111 rfl rfl Try.sizeOf3 rfl) rfl ?_
      | refine SR_rd (RD_fieldAddrO 1 Try.runUnderlying111 rfl rfl Try.sizeOf3 rfl (by simp <;> omega)) Has.ro rfl ?_
    refine SR_rd (RD_load Try.isAgg3 rfl) (Has.ce rfl) rfl ?_
    refine SR_pu (RD_eql rfl rfl) rfl ?_
    refine SR_nil ?_
    refine SN.le (l := [(0, _), (1, _), (2, _), (8, _), (27, _)]) ?_ (.cons rfl (.cons rfl (.cons rfl (.cons rfl (.cons rfl (.nil))))))
    refine SN_seq ?_
    
    refine SC_cond rfl (fun hc27 => ?_) (fun hc27 => ?_)
    · have hr : t = s.root := by simpa using hc27
      rw [if_pos hr] at hwe
      rw [hwe] at hw
      have hw2 : s.way from_ to_ = none := by rw [hw]; rfl
      rw [hw2]
      refine SC_seq ?_
      refine SC_region ?_
      refine SR_pu (RD_assign rfl) rfl ?_
      refine SR_pu (RD_assign rfl) rfl ?_
      refine SR_nil ?_
      refine SN.le (l := [(6, _), (7, _)]) ?_ (.cons rfl (.cons rfl (.nil)))
      refine SN_seq ?_
      refine SC_ret2 rfl rfl rfl ?_
      exact ⟨none, 0, rfl, (row_new 3 1 none).trans (Lands.cons ((close_tree (p := p) (T := T) (s := s) rfl hT rfl rfl).trans .fin))⟩
    · have hr : ¬ t = s.root := by simpa using hc27
      rw [if_neg hr] at hwe
      obtain ⟨q, hq, hqv, hlt⟩ := hs.up t b hb hr
      have hq0 := hs.pos _ _ hq
      have hbv : viewOf (mget s.T t) = b.view := by rw [hb]; rfl
      have hqv2 : viewOf (mget s.T b.jb) = q.view := by rw [hq]; rfl
      refine SC.lands ((close_tree (p := p) (T := T) (s := s) rfl hT rfl rfl).trans .fin : Lands _ (rowP 3 1 a acc.length c (acc.map intV) :: At treeI p s :: F)) ?_
      refine SC_skip ?_
      refine SN_seq ?_
      refine SC_seq ?_
      refine SC_region ?_
      refine SR_pu (RD_move rfl) rfl ?_
      refine SR_pu (RD_move rfl) rfl ?_
      refine SR_ox (OX_lit1 Try.underlying24 Try.type3 rfl rfl rfl rfl (.cons rfl (.nil)) (.cons rfl (.nil))) rfl ?_
      rintro _ _ ⟨b30, rfl, rfl⟩
      refine SR_ox (OX_app 1 Try.underlying24 Try.underlying24 Try.type3 rfl rfl rfl rfl rfl (by first | rfl | simp; done | (simp; omega)) 8 rfl (by omega) (by omega)) rfl ?_
      rintro _ _ ⟨a31, c31, rfl, rfl⟩
      refine SR_pu (RD_assign rfl) rfl ?_
      refine SR_nil ?_
      refine SN.le (l := [(0, _), (1, _), (2, _), (8, _)]) ?_ (.cons rfl (.cons rfl (.cons rfl (.cons rfl (.nil)))))
      refine SN_seq ?_
      refine SC_region ?_
      refine SR_pu (RD_move rfl) rfl ?_
      refine SR_pu (RD_move rfl) rfl ?_
      refine SR_call Try.call33 (.cons rfl (.cons rfl (.nil))) (CallsK.at (tree_Parent p s t)) (lts rfl) ?_
      rintro _ L3 ⟨rfl, hL3⟩
      rw [hb]
      refine SR.lands hL3 ?_
      refine SR_pu (RD_assign rfl) rfl ?_
      refine SR_nil ?_
      refine SN.le (l := [(0, _), (1, _), (2, _), (8, _)]) ?_ (.cons rfl (.cons rfl (.cons rfl (.cons rfl (.nil)))))
      refine SN_block ?_
      refine SC_again (ih ((b.jb, a31, c31, acc ++ [t])) (⟨⟨q, hq⟩, by rw [hw, hwe]; simp [Option.map_map, Function.comp_def], by dsimp only; rw [hqv2]; simp; omega⟩) (by dsimp only; rw [hqv2, hbv]; omega)) (by dsimp only; simp only [List.map_append, List.map_cons, List.map_nil, List.length_append, List.length_cons, List.length_nil, Nat.zero_add, intV]; exact .fin) (.cons rfl (.cons rfl (.cons rfl (.cons' rfl (by simp) (.nil)))))
  · have heq : t = from_ := by simpa using hc21
    have hwe := way_eq hs (f := from_) hb
    rw [if_pos heq] at hwe
    rw [hwe] at hw
    have hw2 : s.way from_ to_ = some acc.reverse := by rw [hw]; simp
    rw [hw2]
    refine SC_exit rfl ?_
    refine SN_seq ?_
    refine SC_seq ?_
    refine SC_region ?_
    refine SR_pu (RD_move rfl) rfl ?_
    refine SR_call Try.call66 (.cons rfl (.nil)) (CallsK.rat (ints_Reverse a acc.length c acc rfl (by omega))) (lts rfl) ?_
    rintro _ L4 ⟨rfl, hL4⟩
    refine SR.lands hL4 ?_
    refine SR_nil ?_
    refine SN.le (l := [(8, _)]) ?_ (.cons rfl (.nil))
    refine SN_seq ?_
    refine SC_seq ?_
    refine SC_region ?_
    refine SR_pu (RD_move rfl) rfl ?_
    refine SR_pu (RD_assign rfl) rfl ?_
    refine SR_pu (RD_assign rfl) rfl ?_
    refine SR_nil ?_
    refine SN.le (l := [(6, _), (7, _)]) ?_ (.cons rfl (.cons rfl (.nil)))
    refine SN_seq ?_
    refine SC_ret2 rfl rfl rfl ?_
    exact ⟨a, c, by simp, by simp only [Option.getD_some, List.length_reverse]; exact .fin⟩

end Go.Proofs.Ytmigjpmadhebfaa
