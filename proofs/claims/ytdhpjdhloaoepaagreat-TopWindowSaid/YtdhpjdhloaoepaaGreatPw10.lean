/- Part 10 of the proof: lemmas that the walk of TopWindow needs. -/
import Derived.Test.YtdhpjdhloaoepaaGreatPw9
set_option linter.unusedSimpArgs false
set_option linter.unusedVariables false
/- Rows of numbers sorted, compacted. -/
namespace Go.Proofs.YtdhpjdhloaoepaaGreat
open Go Go.Proofs
attribute [local irreducible] SC SN SR SQ SA SO
set_option maxRecDepth 100000
def sinkF : Nat → List Int → List Int
  | 0, l => l
  | j + 1, l => if l.getD (j + 1) 0 < l.getD j 0 then sinkF j ((l.set (j + 1) (l.getD j 0)).set j (l.getD (j + 1) 0)) else l
def insF : Nat → Nat → List Int → List Int
  | 0, _, l => l
  | k + 1, i, l => insF k (i + 1) (sinkF i l)
theorem sinkF_0 (l : List Int) : sinkF 0 l = l := rfl
theorem sinkF_s (j : Nat) (l : List Int) : sinkF (j + 1) l = if l.getD (j + 1) 0 < l.getD j 0 then sinkF j ((l.set (j + 1) (l.getD j 0)).set j (l.getD (j + 1) 0)) else l := rfl
theorem insF_0 (i : Nat) (l : List Int) : insF 0 i l = l := rfl
theorem sinkF_len : ∀ (j : Nat) (l : List Int), (sinkF j l).length = l.length
  | 0, l => rfl
  | j + 1, l => by
    unfold sinkF
    split
    · rw [sinkF_len]; simp
    · rfl
/-- Go's sorting of a row. -/
def sortI (l : List Int) : List Int := l.mergeSort fun x y => decide (x ≤ y)
abbrev riseI (l : List Int) : Prop := l.Pairwise (· ≤ ·)
theorem sink_spec : ∀ (n : Nat) (A B : List Int) (x : Int), A.length = n → riseI A → ∃ C, sinkF n (A ++ x :: B) = C ++ B ∧ C.Perm (A ++ [x]) ∧ riseI C ∧ ∀ y, (∀ z ∈ A, z ≤ y) → x ≤ y → ∀ z ∈ C, z ≤ y
  | 0, A, B, x, hA, hs => by
    have : A = [] := List.eq_nil_of_length_eq_zero hA
    subst this
    exact ⟨[x], rfl, .refl _, by simp [riseI], fun y _ hx z hz => by simp at hz; subst hz; exact hx⟩
  | n + 1, A, B, x, hA, hs => by
    obtain ⟨A', a, rfl⟩ : ∃ A' a, A = A' ++ [a] := by
      rcases List.eq_nil_or_concat A with rfl | ⟨A', a, h⟩
      · simp at hA
      · exact ⟨A', a, by simpa using h⟩
    have hA' : A'.length = n := by simpa using hA
    have hs' : riseI A' := (List.pairwise_append.1 hs).1
    have hle : ∀ z ∈ A', z ≤ a := fun z hz => (List.pairwise_append.1 hs).2.2 z hz a (by simp)
    have g1 : (A' ++ [a] ++ x :: B).getD (n + 1) 0 = x := by rw [List.getD_eq_getElem?_getD, List.getElem?_append_right (by simp; omega)]; simp [hA']
    have g0 : (A' ++ [a] ++ x :: B).getD n 0 = a := by rw [List.getD_eq_getElem?_getD, List.append_assoc, List.getElem?_append_right (by omega)]; simp [hA']
    unfold sinkF
    rw [g1, g0]
    by_cases hx : x < a
    · rw [if_pos hx]
      have e : ((A' ++ [a] ++ x :: B).set (n + 1) a).set n x = A' ++ x :: (a :: B) := by
        subst hA'
        rw [List.set_append_right _ _ (by simp), List.append_assoc, show A'.length + 1 - (A' ++ [a]).length = 0 by simp, List.set_cons_zero, List.set_append_right _ _ (by omega), Nat.sub_self]
        rfl
      rw [e]
      obtain ⟨C, h1, h2, h3, h4⟩ := sink_spec n A' (a :: B) x hA' hs'
      refine ⟨C ++ [a], by rw [h1]; simp, ?_, ?_, ?_⟩
      · have : (C ++ [a]).Perm (A' ++ [x] ++ [a]) := h2.append_right _
        refine this.trans ?_
        rw [List.append_assoc, List.append_assoc]
        exact List.Perm.append_left _ (List.Perm.swap _ _ _)
      · exact List.pairwise_append.2 ⟨h3, by simp, fun z hz y hy => by simp at hy; subst hy; exact h4 _ hle (by omega) z hz⟩
      · intro y hy hxy z hz
        rcases List.mem_append.1 hz with hz | hz
        · exact h4 y (fun w hw => hy w (by simp [hw])) hxy z hz
        · simp at hz; subst hz; exact hy _ (by simp)
    · rw [if_neg hx]
      refine ⟨A' ++ [a] ++ [x], by simp, .refl _, ?_, ?_⟩
      · exact List.pairwise_append.2 ⟨hs, by simp, fun z hz y hy => by
          simp at hy; subst hy
          rcases List.mem_append.1 hz with hz | hz
          · have := hle z hz; omega
          · simp at hz; omega⟩
      · intro y hy hxy z hz
        rcases List.mem_append.1 hz with hz | hz
        · exact hy z hz
        · simp at hz; subst hz; exact hxy
theorem ins_spec : ∀ (k i : Nat) (l : List Int), i + k = l.length → riseI (l.take i) → (insF k i l).Perm l ∧ riseI (insF k i l)
  | 0, i, l, h, hs => ⟨.refl _, by unfold insF; rwa [List.take_of_length_le (by omega)] at hs⟩
  | k + 1, i, l, h, hs => by
    unfold insF
    obtain ⟨x, hx⟩ : ∃ x, l[i]? = some x := ⟨_, List.getElem?_eq_getElem (by omega)⟩
    have hl : l = l.take i ++ x :: l.drop (i + 1) := by
      have := List.drop_eq_getElem_cons (show i < l.length by omega)
      rw [List.getElem?_eq_getElem (by omega)] at hx
      cases hx
      rw [← this, List.take_append_drop]
    obtain ⟨C, h1, h2, h3, _⟩ := sink_spec i (l.take i) (l.drop (i + 1)) x (by rw [List.length_take]; omega) hs
    rw [← hl] at h1
    have hC : C.length = i + 1 := by have := h2.length_eq; rw [List.length_append, List.length_take] at this; simp at this; omega
    have hp : (sinkF i l).Perm l := by
      rw [h1]
      conv => rhs; rw [hl]
      rw [show l.take i ++ x :: l.drop (i + 1) = (l.take i ++ [x]) ++ l.drop (i + 1) by simp]
      exact h2.append_right _
    obtain ⟨g1, g2⟩ := ins_spec k (i + 1) (sinkF i l) (by rw [sinkF_len]; omega) (by rw [h1, List.take_append_of_le_length (by omega), List.take_of_length_le (by omega)]; exact h3)
    exact ⟨g1.trans hp, g2⟩
theorem sortI_perm {l m : List Int} (h : l.Perm m) : sortI l = sortI m := mergeSort_of_perm_i h
theorem sortI_eq {l r : List Int} (hp : r.Perm l) (hs : riseI r) : r = sortI l := by
  have tr : ∀ a b c : Int, decide (a ≤ b) = true → decide (b ≤ c) = true → decide (a ≤ c) = true := fun a b c h1 h2 => by simp only [decide_eq_true_eq] at *; omega
  have to : ∀ a b : Int, (decide (a ≤ b) || decide (b ≤ a)) = true := fun a b => by simp only [Bool.or_eq_true, decide_eq_true_eq]; omega
  refine List.Perm.eq_of_pairwise (le := fun a b : Int => a ≤ b) (fun a b _ _ h1 h2 => by omega) hs ?_ (hp.trans (List.mergeSort_perm l _).symm)
  exact (List.pairwise_mergeSort tr to l).imp fun h => of_decide_eq_true h
theorem insF_sort (l : List Int) : insF (l.length - 1) 1 l = sortI l := by
  cases l with
  | nil => simp [insF, sortI]
  | cons x l =>
    obtain ⟨h1, h2⟩ := ins_spec l.length 1 (x :: l) (by simp; omega) (by simp [riseI])
    exact sortI_eq h1 h2
theorem RD_idxS {P : Program} {l : Env} {ty : TypeId} {x y : Operand} {t : TypeId} {q : IntKind} {i : Int} {s : ByteArray} (hu : ∀ w, (underlying t).run P w = .ok .string w) (hx : ev l x = some (.string s)) (hy : ev l y = some (.int q i)) (h0 : 0 ≤ i) (hs : Nat.blt 255 s.size = true) (h1 : i ≤ 255) :
    RD P l (.index t x y) ty RU (.int .u8 (s[i.toNat]?.getD 0).toNat) := fun ρ hρ w _ _ _ _ _ => by
  have hs' : 255 < s.size := Nat.le_of_ble_eq_true hs
  obtain ⟨b, hb⟩ : ∃ b, s[i.toNat]? = some b := ⟨_, getElem?_pos s i.toNat (by omega)⟩
  simp [execOp, hρ x _ hx, hρ y _ hy, Instr.index, asIntOf, hu, h0, hb]

theorem cmp_isNaN {W : World} {F : List HProp} [Abs F] (x : Int) :
    CallsK W Tryz.prog 236 #[.int .i64 x] (F) (fun u L => u = .bool false ∧ Lands L F) := by
  refine CallsK_enter (n := 6) Tryz.func236 rfl rfl rfl ?_
  iterate 13 refine Ws ?_
  refine SC_ret1 rfl rfl ?_
  exact ⟨by simp, .fin⟩

theorem cmp_Less {W : World} {F : List HProp} [Abs F] (x y : Int) :
    CallsK W Tryz.prog 199 #[.int .i64 x, .int .i64 y] (F) (fun u L => u = .bool (decide (x < y)) ∧ Lands L F) := by
  refine CallsK_enter (n := 17) Tryz.func199 rfl rfl rfl ?_
  iterate 8 refine Ws ?_
  refine Wc (cmp_isNaN _) ?_
  refine Ws ?_
  refine SR_no rfl rfl (rfl) (lts rfl) ?_
  refine SR_no rfl rfl (rfl) (lts rfl) ?_
  refine SR_no rfl rfl (rfl) (lts rfl) ?_
  refine SR_pu (RD_pick_f rfl (rfl) rfl) rfl ?_
  refine Ws ?_
  refine SR_yes rfl rfl (rfl) ?_
  refine Ws ?_
  refine SR_yes rfl rfl (rfl) ?_
  refine Ws ?_
  refine SR_yes rfl rfl (rfl) ?_
  refine Ws ?_
  refine SR_pu (RD_pick_f rfl (rfl) rfl) rfl ?_
  iterate 3 refine Ws ?_
  refine SC_ret1 rfl rfl ?_
  exact ⟨rfl, .fin⟩

theorem go_insSort {W : World} {F : List HProp} [Abs F] (l : List Int) (a : Option Addr) (n c : Nat) (hn : l.length = n) (hb : n ≤ 1000000000) :
    CallsK W Tryz.prog 193 #[.slice a n c, .int .i64 0, .int .i64 (n : Nat)] (rowP 3 1 a n c (l.map intV) :: F) (fun _ L => Lands L (rowP 3 1 a n c ((sortI l).map intV) :: F)) := by
  refine CallsK_enter (n := 49) Tryz.func193 rfl rfl rfl ?_
  iterate 8 refine Ws ?_
  refine SC_ind (X := Nat × List Int) (fun x => x.2.length = n ∧ 1 ≤ x.1 ∧ insF (n - x.1) x.1 x.2 = insF (n - 1) 1 l) (fun x => n - x.1) (fun x => [(0, .slice a n c), (1, .int .i64 0), (2, .int .i64 (n : Nat)), (6, .int .i64 (x.1 : Nat))]) (fun x => rowP 3 1 a n c (x.2.map intV) :: F) ((1, l)) (⟨hn, Nat.le_refl _, rfl⟩) (.cons rfl (.cons rfl (.cons rfl (.cons rfl (.nil))))) (.fin) ?_
  intro ⟨i, M0⟩ hi ih0
  obtain ⟨hM0, hi1, hI⟩ := hi
  dsimp only at hM0 hi1 hI ih0 ⊢
  iterate 8 refine Ws ?_
  refine SC_cond rfl (fun hc12 => ?_) (fun hc12 => ?_)
  · have hin : i < n := by have := of_decide_eq_true hc12; omega
    iterate 11 refine Ws ?_
    refine SC_ind (X := Nat × List Int) (fun x => x.2.length = n ∧ x.1 < n ∧ sinkF x.1 x.2 = sinkF i M0) (fun x => x.1) (fun x => [(0, .slice a n c), (1, .int .i64 0), (2, .int .i64 (n : Nat)), (6, .int .i64 (i : Nat)), (7, .int .i64 (x.1 : Nat))]) (fun x => rowP 3 1 a n c (x.2.map intV) :: F) ((i, M0)) (⟨hM0, hin, rfl⟩) (.cons rfl (.cons rfl (.cons rfl (.cons rfl (.cons rfl (.nil)))))) (.fin) ?_
    intro ⟨j, M⟩ hi ih1
    obtain ⟨hM, hj, hS⟩ := hi
    dsimp only at hM hj hS ih1 ⊢
    iterate 2 refine Ws ?_
    refine Wd [.r 0, .r 1, .r 2, .r 3, .r 4, .r 5, .r 6, .r 7, .r 8, .r 9, .r 10, .r 11, .r 12, .e 13, .r 14] ?_
    iterate 4 refine Wq ?_
    refine SQ_guard (i := 4) rfl rfl rfl (fun hg4_3 => ?_) (fun hg4_3 => ?_)
    · obtain ⟨j, rfl⟩ : ∃ j2, j = j2 + 1 := ⟨j - 1, by have := of_decide_eq_true hg4_3; omega⟩
      obtain ⟨x, hx⟩ : ∃ x, M[j + 1]? = some x := ⟨_, List.getElem?_eq_getElem (by omega)⟩
      obtain ⟨y, hy⟩ : ∃ y, M[j]? = some y := ⟨_, List.getElem?_eq_getElem (by omega)⟩
      rw [sinkF_s] at hS
      rw [List.getD_eq_getElem?_getD, hx, List.getD_eq_getElem?_getD, hy] at hS
      simp only [Option.getD_some] at hS
      refine SQ_pyes rfl rfl rfl (hg4_3) (RD_move rfl) rfl ?_
      refine SQ_pyes rfl rfl rfl (hg4_3) (RD_move rfl) rfl ?_
      refine SQ_yes rfl rfl rfl (hg4_3) (RD_ixE (i := (j + 1 : Nat)) Tryz.runUnderlying37 Tryz.sizeOf3 rfl (congrArg some (ie (by omega))) (by omega) (by omega)) (Has.rs (by simp [hM]; omega)) rfl ?_
      refine SQ_yes rfl rfl rfl (hg4_3) (RD_loadO (v := intV x) (cs := M.map intV) Tryz.isAgg3 rfl (by rw [show (((j + 1 : Nat) : Int)).toNat * (0 + 1) = j + 1 by omega]; simp [hx])) Has.ro rfl ?_
      refine SQ_pyes rfl rfl rfl (hg4_3) (RD_move rfl) rfl ?_
      refine SQ_pyes rfl rfl rfl (hg4_3) (RD_move rfl) rfl ?_
      refine SQ_pyes rfl rfl rfl (hg4_3) (RD_subi rfl rfl (by omega) (by omega)) rfl ?_
      refine SQ_yes rfl rfl rfl (hg4_3) (RD_ixE (i := (j : Nat)) Tryz.runUnderlying37 Tryz.sizeOf3 rfl (congrArg some (ie (by omega))) (by omega) (by omega)) (Has.rs (by simp [hM]; omega)) rfl ?_
      refine SQ_yes rfl rfl rfl (hg4_3) (RD_loadO (v := intV y) (cs := M.map intV) Tryz.isAgg3 rfl (by rw [show (((j : Nat) : Int)).toNat * (0 + 1) = j by omega]; simp [hy])) Has.ro rfl ?_
      refine SQ_one (SA_call rfl (.mk rfl rfl (hg4_3)) Tryz.call199 (.cons rfl (.cons rfl (.nil))) (cmp_Less x y) (lts rfl) ?_)
      rintro _ L1 ⟨rfl, hL1⟩
      refine ⟨.lands hL1 (.w rfl (.h (Has.rs (by simp [hM]; omega)) (.w rfl (.h (Has.rs (by simp [hM]; omega)) (.nil))))), ?_⟩
      refine SQ.lands hL1 ?_
      refine SQ_pu rfl (RD_pick_t rfl (hg4_3) rfl) rfl ?_
      iterate 2 refine Ws ?_
      refine SC_cond rfl (fun hc30 => ?_) (fun hc30 => ?_)
      · have hxy : x < y := of_decide_eq_true hc30
        rw [if_pos hxy] at hS
        iterate 4 refine Ws ?_
        refine Wd [.r 0, .r 1, .r 2, .r 3, .r 4, .r 5, .r 6, .r 7, .r 8, .r 9, .r 10, .r 11, .r 12, .r 13, .r 14, .e 15, .r 16, .e 17] ?_
        iterate 8 refine Wq ?_
        refine SQ_rd rfl (RD_ixE (i := (j : Nat)) Tryz.runUnderlying37 Tryz.sizeOf3 rfl (congrArg some (ie (by omega))) (by omega) (by omega)) (Has.rs (by simp [hM]; omega)) rfl ?_
        refine SQ_rd rfl (RD_loadO (v := intV y) (cs := M.map intV) Tryz.isAgg3 rfl (by rw [show (((j : Nat) : Int)).toNat * (0 + 1) = j by omega]; simp [hy])) Has.ro rfl ?_
        iterate 2 refine Wq ?_
        refine SQ_rd rfl (RD_ixE (i := (j + 1 : Nat)) Tryz.runUnderlying37 Tryz.sizeOf3 rfl (congrArg some (ie (by omega))) (by omega) (by omega)) (Has.rs (by simp [hM]; omega)) rfl ?_
        refine SQ_rd rfl (RD_loadO (v := intV x) (cs := M.map intV) Tryz.isAgg3 rfl (by rw [show (((j + 1 : Nat) : Int)).toNat * (0 + 1) = j + 1 by omega]; simp [hx])) Has.ro rfl ?_
        refine SQ_rd rfl (RD_ixE (i := (j + 1 : Nat)) Tryz.runUnderlying37 Tryz.sizeOf3 rfl (congrArg some (ie (by omega))) (by omega) (by omega)) (Has.rs (by simp [hM]; omega)) rfl ?_
        refine SQ_ox0 rfl (OX_stRow Tryz.sizeOf3 rfl rfl (by simp [hM]; omega)) ?_
        rintro _ _ rfl
        refine ⟨.w rfl (.w rfl (.h (Has.rs (by simp [hM]; omega)) (.w rfl (.w rfl (.nil))))), ?_⟩
        refine SQ_rd rfl (RD_ixE (i := (j : Nat)) Tryz.runUnderlying37 Tryz.sizeOf3 rfl (congrArg some (ie (by omega))) (by omega) (by omega)) (Has.rs (by simp [hM]; omega)) rfl ?_
        refine SQ_ox0 rfl (OX_stRow Tryz.sizeOf3 rfl rfl (by simp [hM]; omega)) ?_
        rintro _ _ rfl
        refine ⟨.w rfl (.w rfl (.w rfl (.w rfl (.w rfl (.w rfl (.nil)))))), ?_⟩
        iterate 8 refine Ws ?_
        have hr : ((M.map intV).set (((j + 1 : Nat) : Int).toNat * (0 + 1)) (intV y)).set (((j : Nat) : Int).toNat * (0 + 1)) (intV x) = ((M.set (j + 1) y).set j x).map intV := by
          rw [List.map_set, List.map_set]
          congr 1
          · congr 1; omega
          · omega
        rw [hr]
        refine SC_again (ih1 ((j, (M.set (j + 1) y).set j x)) (⟨by dsimp only; simp [hM], by dsimp only; omega, hS⟩) (by dsimp only; omega)) (.fin) (.cons rfl (.cons rfl (.cons rfl (.cons rfl (.cons' rfl (ie (by dsimp only; omega)) (.nil))))))
      · have hxy : ¬ x < y := of_decide_eq_false hc30
        rw [if_neg hxy] at hS
        iterate 8 refine Ws ?_
        rw [hS]
        refine SC_again (ih0 ((i + 1, sinkF i M0)) (⟨by dsimp only; rw [sinkF_len]; exact hM0, by dsimp only; omega, by dsimp only; rw [← hI, show n - i = n - (i + 1) + 1 by omega]; rfl⟩) (by dsimp only; omega)) (.fin) (.cons rfl (.cons rfl (.cons rfl (.cons' rfl (ie (by dsimp only; omega)) (.nil)))))
    · refine SQ_no rfl rfl rfl (hg4_3) (lts rfl) ?_
      refine SQ_no rfl rfl rfl (hg4_3) (lts rfl) ?_
      refine SQ_no rfl rfl rfl (hg4_3) (lts rfl) ?_
      refine SQ_no rfl rfl rfl (hg4_3) (lts rfl) ?_
      refine SQ_no rfl rfl rfl (hg4_3) (lts rfl) ?_
      refine SQ_no rfl rfl rfl (hg4_3) (lts rfl) ?_
      refine SQ_no rfl rfl rfl (hg4_3) (lts rfl) ?_
      refine SQ_no rfl rfl rfl (hg4_3) (lts rfl) ?_
      refine SQ_no rfl rfl rfl (hg4_3) (lts rfl) ?_
      refine SQ_no1 rfl rfl rfl (hg4_3) (lts rfl) ?_
      refine SQ_pu rfl (RD_pick_f rfl (hg4_3) rfl) rfl ?_
      iterate 2 refine Ws ?_
      have hj0 : j = 0 := by have := of_decide_eq_false hg4_3; omega
      subst hj0
      rw [sinkF_0] at hS
      refine SC_cond_false rfl (rfl) ?_
      iterate 8 refine Ws ?_
      rw [hS]
      refine SC_again (ih0 ((i + 1, sinkF i M0)) (⟨by dsimp only; rw [sinkF_len]; exact hM0, by dsimp only; omega, by dsimp only; rw [← hI, show n - i = n - (i + 1) + 1 by omega]; rfl⟩) (by dsimp only; omega)) (.fin) (.cons rfl (.cons rfl (.cons rfl (.cons' rfl (ie (by dsimp only; omega)) (.nil)))))
  · have hend : n - i = 0 := by have := of_decide_eq_false hc12; omega
    rw [hend, insF_0] at hI
    rw [← insF_sort, hn, ← hI]
    refine Ws ?_
    refine SN_stop0 rfl ?_
    exact .fin

theorem bits_Len64 {W : World} {F : List HProp} [Abs F] (x : Int) (h0 : 0 ≤ x) (h1 : x ≤ 200) :
    CallsK W Tryz.prog 203 #[.int .u64 x] (F) (fun u L => ∃ v, u = .int .i64 v ∧ Lands L F) := by
  refine CallsK_enter (n := 25) Tryz.func203 rfl rfl rfl ?_
  iterate 12 refine Ws ?_
  refine SC_cond_false rfl (decide_eq_false (by omega)) ?_
  iterate 9 refine Ws ?_
  refine SC_cond_false rfl (decide_eq_false (by omega)) ?_
  iterate 9 refine Ws ?_
  refine SC_cond_false rfl (decide_eq_false (by omega)) ?_
  iterate 3 refine Ws ?_
  have hw8 : IntKind.u8.wrap x = x := by rw [IntKind.wrap_u8]; omega
  iterate 4 refine Ws ?_
  refine SR_pu (RD_idxS Tryz.runUnderlying9 rfl rfl (by rw [hw8]; omega) (by decide) (by rw [hw8]; omega)) rfl ?_
  first
    | refine SR_pu (RD_convi64 Tryz.runUnderlying5 Tryz.runUnderlying3 rfl (by omega) (by omega)) rfl ?_
    | refine SR_pu (RD_convI Tryz.runUnderlying5 Tryz.runUnderlying3 rfl) rfl ?_
  refine SR_pu (RD_add rfl rfl) rfl ?_
  iterate 3 refine Ws ?_
  refine SC_ret1 rfl rfl ?_
  exact ⟨_, rfl, .fin⟩

theorem bits_Len {W : World} {F : List HProp} [Abs F] (x : Int) (h0 : 0 ≤ x) (h1 : x ≤ 200) :
    CallsK W Tryz.prog 174 #[.int .u64 x] (F) (fun u L => ∃ v, u = .int .i64 v ∧ Lands L F) := by
  refine CallsK_enter (n := 8) Tryz.func174 rfl rfl rfl ?_
  iterate 6 refine Ws ?_
  refine SC_cond_false rfl (rfl) ?_
  iterate 5 refine Ws ?_
  refine We (bits_Len64 x h0 h1) ?_
  rintro _ L1 ⟨v, rfl, hL1⟩
  refine SR.lands hL1 ?_
  iterate 3 refine Ws ?_
  refine SC_ret1 rfl rfl ?_
  exact ⟨_, rfl, .fin⟩

theorem go_pdq {W : World} {F : List HProp} [Abs F] (l : List Int) (a : Option Addr) (n c : Nat) (hn : l.length = n) (hb : n ≤ 12) (v : Int) :
    CallsK W Tryz.prog 173 #[.slice a n c, .int .i64 0, .int .i64 (n : Nat), .int .i64 v] (rowP 3 1 a n c (l.map intV) :: F) (fun _ L => Lands L (rowP 3 1 a n c ((sortI l).map intV) :: F)) := by
  refine CallsK_enter (n := 134) Tryz.func173 rfl rfl rfl ?_
  iterate 11 refine Ws ?_
  refine SC_loop ?_
  iterate 16 refine Ws ?_
  refine SC_cond_true rfl (decide_eq_true (by omega)) ?_
  iterate 5 refine Ws ?_
  refine We (CallsK.rat (go_insSort l a n c hn (by omega))) ?_
  rintro _ L1 hL1
  refine SR.lands hL1 ?_
  iterate 2 refine Ws ?_
  refine SC_ret0 rfl ?_
  exact .fin

theorem go_Sort {W : World} {F : List HProp} [Abs F] (l : List Int) (a : Option Addr) (n c : Nat) (hn : l.length = n) (hb : n ≤ 12) :
    CallsK W Tryz.prog 151 #[.slice a n c] (rowP 3 1 a n c (l.map intV) :: F) (fun _ L => Lands L (rowP 3 1 a n c ((sortI l).map intV) :: F)) := by
  refine CallsK_enter (n := 11) Tryz.func151 rfl rfl rfl ?_
  iterate 7 refine Ws ?_
  have hw : IntKind.u64.wrap (n : Nat) = (n : Nat) := by rw [IntKind.wrap_u64]; omega
  iterate 4 refine Ws ?_
  first
    | refine SR_pu (RD_conv64 Tryz.runUnderlying3 Tryz.runUnderlying108 rfl (by omega) (by omega)) rfl ?_
    | refine SR_pu (RD_convI Tryz.runUnderlying3 Tryz.runUnderlying108 rfl) rfl ?_
  refine We (bits_Len (n : Nat) (by omega) (by omega)) ?_
  rintro _ L1 ⟨v, rfl, hL1⟩
  refine SR.lands hL1 ?_
  refine We (CallsK.rat (go_pdq l a n c hn (by omega) v)) ?_
  rintro _ L2 hL2
  refine SR.lands hL2 ?_
  refine Ws ?_
  refine SN_stop0 rfl ?_
  exact .fin

theorem maps_Keys {W : World} {F : List HProp} [Abs F] (b : Nat) :
    CallsK W Tryz.prog 213 #[.map (some b)] (F) (fun u L => ∃ B, u = .func (.func 243) #[] #[.pointer (some ⟨B, 0, none⟩)] ∧ Lands L (pt B (.cells [.map (some b)].toArray 96) :: F)) := by
  refine CallsK_enter (n := 4) Tryz.func213 rfl rfl rfl ?_
  iterate 2 refine Ws ?_
  refine Wb fun b1 => ?_
  iterate 5 refine Ws ?_
  refine SR_pu (RD_makeFunc (.cons rfl (.nil))) rfl ?_
  iterate 3 refine Ws ?_
  refine SC_ret1 rfl rfl ?_
  exact ⟨_, rfl, .fin⟩

theorem go_Sorted {W : World} {F : List HProp} [Abs F] (B b : Nat) (ks : List Int) (hn : ks.length ≤ 12) (hi : ∀ x ∈ ks, I64 x) :
    CallsK W Tryz.prog 212 #[.func (.func 243) #[] #[.pointer (some ⟨B, 0, none⟩)]] (pt B (.cells [.map (some b)].toArray 96) :: mapP intK b (setV ks) :: F) (fun u L => ∃ (a : Option Addr) (c : Nat), u = .slice a ks.length c ∧ Lands L (rowP 3 1 a ks.length c ((sortI ks).map intV) :: pt B (.cells [.map (some b)].toArray 96) :: mapP intK b (setV ks) :: F)) := by
  refine CallsK_enter (n := 9) Tryz.func212 rfl rfl rfl ?_
  iterate 8 refine Ws ?_
  refine We (go_Collect B b ks (by omega) hi) ?_
  rintro _ L1 ⟨ss, a, c, hp, rfl, hL1⟩
  have hlen := hp.length_eq
  rw [hlen] at hL1
  rw [hlen]
  refine SR.lands hL1 ?_
  iterate 6 refine Ws ?_
  refine We (CallsK.rat (go_Sort ss a ks.length c hlen hn)) ?_
  rintro _ L2 hL2
  rw [sortI_perm hp] at hL2
  refine SR.lands hL2 ?_
  iterate 8 refine Ws ?_
  refine SC_ret1 rfl rfl ?_
  exact ⟨_, _, rfl, .fin⟩

def apartI (l : List Int) : Prop := ∀ i, i + 1 < l.length → l.getD i 0 ≠ l.getD (i + 1) 0

theorem go_Compact {W : World} {F : List HProp} [Abs F] (l : List Int) (a : Option Addr) (n c : Nat) (hn : l.length = n) (hb : n ≤ 1000000000) (ha : apartI l) :
    CallsK W Tryz.prog 152 #[.slice a n c] (rowP 3 1 a n c (l.map intV) :: F) (fun u L => u = .slice a n c ∧ Lands L (rowP 3 1 a n c (l.map intV) :: F)) := by
  refine CallsK_enter (n := 61) Tryz.func152 rfl rfl rfl ?_
  iterate 13 refine Ws ?_
  refine SC_cond rfl (fun hc8 => ?_) (fun hc8 => ?_)
  · iterate 6 refine Ws ?_
    refine SC_ret1 rfl rfl ?_
    exact ⟨rfl, .fin⟩
  · iterate 9 refine Ws ?_
    refine SC_ind (X := Nat) (fun i => 1 ≤ i) (fun i => n - i) (fun i => [(0, .slice a n c), (3, .int .i64 (i : Nat))]) (fun i => rowP 3 1 a n c (l.map intV) :: F) (1) (Nat.le_refl _) (.cons rfl (.cons rfl (.nil))) (.fin) ?_
    intro i hi ih
    iterate 9 refine Ws ?_
    refine SC_cond rfl (fun hc13 => ?_) (fun hc13 => ?_)
    · have hin : i < n := by have := of_decide_eq_true hc13; omega
      obtain ⟨j, rfl⟩ : ∃ j, i = j + 1 := ⟨i - 1, by omega⟩
      have hM := hn
      obtain ⟨x, hx⟩ : ∃ x, l[j + 1]? = some x := ⟨_, List.getElem?_eq_getElem (by omega)⟩
      obtain ⟨y, hy⟩ : ∃ y, l[j]? = some y := ⟨_, List.getElem?_eq_getElem (by omega)⟩
      have hne := ha j (by omega)
      rw [List.getD_eq_getElem?_getD, hy, List.getD_eq_getElem?_getD, hx] at hne
      simp only [Option.getD_some] at hne
      iterate 5 refine Ws ?_
      refine Wd [.r 0, .r 1, .r 2, .r 3, .r 4, .r 5, .r 6, .r 7, .r 8, .r 9] ?_
      iterate 2 refine Wq ?_
      refine SQ_rd rfl (RD_ixE (i := (j + 1 : Nat)) Tryz.runUnderlying37 Tryz.sizeOf3 rfl (congrArg some (ie (by omega))) (by omega) (by omega)) (Has.rs (by simp [hM]; omega)) rfl ?_
      refine SQ_rd rfl (RD_loadO (v := intV x) (cs := l.map intV) Tryz.isAgg3 rfl (by rw [show (((j + 1 : Nat) : Int)).toNat * (0 + 1) = j + 1 by omega]; simp [hx])) Has.ro rfl ?_
      iterate 3 refine Wq ?_
      refine SQ_rd rfl (RD_ixE (i := (j : Nat)) Tryz.runUnderlying37 Tryz.sizeOf3 rfl (congrArg some (ie (by omega))) (by omega) (by omega)) (Has.rs (by simp [hM]; omega)) rfl ?_
      refine SQ_rd rfl (RD_loadO (v := intV y) (cs := l.map intV) Tryz.isAgg3 rfl (by rw [show (((j : Nat) : Int)).toNat * (0 + 1) = j by omega]; simp [hy])) Has.ro rfl ?_
      refine Wq ?_
      iterate 2 refine Ws ?_
      refine SC_cond_false rfl (decide_eq_false (fun e => hne e.symm)) ?_
      iterate 8 refine Ws ?_
      refine SC_again (ih (j + 1 + 1) (by omega) (by omega)) (.fin) (.cons rfl (.cons' rfl (ie (by omega)) (.nil)))
    · iterate 8 refine Ws ?_
      refine SC_ret1 rfl rfl ?_
      exact ⟨rfl, .fin⟩

end Go.Proofs.YtdhpjdhloaoepaaGreat

/- Votes counted. -/
namespace Go.Proofs.YtdhpjdhloaoepaaGreat
open Go Go.Proofs
attribute [local irreducible] SC SN SR SQ SA SO
set_option maxRecDepth 100000
theorem Lands.take1 {A A' : HProp} {L R : List HProp} [t : TakeA L A R] (h : Lands (A :: R) (A' :: R)) : Lands L (A' :: R) := fun m H => h m (Den_perm t.perm m H)
structure SpD where
  k : Int × Int
  b : Nat
  ks : List Int
def SpD.p (d : SpD) : (Int × Int) × List Int := (d.k, d.ks)
structure TaS where
  w : Nat
  c : CfgD
  m : List ((Int × Int) × List Int)
def spV (ds : List SpD) : List ((Int × Int) × Value) := ds.map fun d => (d.k, .map (some d.b))
def vots (ds : List SpD) : HProp := fun h => Den (ds.map fun d => mapP intK d.b (setV d.ks)) h
theorem vots_flat {ds : List SpD} {R : List HProp} {m : Hp} : Den (vots ds :: R) m ↔ Den ((ds.map fun d => mapP intK d.b (setV d.ks)) ++ R) m := by
  rw [Den_append]
  constructor
  · rintro ⟨m1, m2, d, e, h, r⟩; exact ⟨m1, m2, d, e, h, r⟩
  · rintro ⟨m1, m2, d, e, h, r⟩; exact ⟨m1, m2, d, e, h, r⟩
theorem vots_perm (A B : List SpD) (x : SpD) (R : List HProp) : (((A ++ x :: B).map fun d => mapP intK d.b (setV d.ks)) ++ R).Perm (mapP intK x.b (setV x.ks) :: (((A ++ B).map fun d => mapP intK d.b (setV d.ks)) ++ R)) := by
  rw [List.map_append, List.map_cons, List.map_append, ← List.cons_append]
  exact List.Perm.append_right R List.perm_middle
theorem vots_take {A B : List SpD} {x : SpD} {R : List HProp} : Lands (vots (A ++ x :: B) :: R) (mapP intK x.b (setV x.ks) :: vots (A ++ B) :: R) := fun m H => by
  have H1 := Den_perm (vots_perm A B x R) m (vots_flat.1 H)
  exact Den_tail (fun _ h => vots_flat.2 h) H1
theorem vots_put {A B : List SpD} {x : SpD} {R : List HProp} : Lands (mapP intK x.b (setV x.ks) :: vots (A ++ B) :: R) (vots (A ++ x :: B) :: R) := fun m H =>
  vots_flat.2 (Den_perm (vots_perm A B x R).symm m (Den_tail (fun _ h => vots_flat.1 h) H))
theorem vots_nil {L : List HProp} : Lands L (vots [] :: L) := fun m H => vots_flat.2 H
def addX (ks : List Int) (x : Int) : List Int := if x ∈ ks then ks else ks ++ [x]
theorem mset_setV (ks : List Int) (x : Int) : mset (setV ks) x (.int .i64 1) = setV (addX ks x) := by
  unfold addX
  induction ks with
  | nil => rfl
  | cons y ks ih =>
    unfold setV at ih ⊢
    rw [List.map_cons]
    unfold mset
    by_cases h : x = y
    · subst h; simp
    · rw [if_neg h, ih]
      by_cases h2 : x ∈ ks
      · rw [if_pos h2, if_pos (by simp [h2]), List.map_cons]
      · rw [if_neg h2, if_neg (by simp [h, h2])]; rfl
def TaS.at (s : TaS) (v b : Int) : List Int := (mget s.m (v, b)).getD []
def TaS.put (s : TaS) (x v b : Int) : TaS := ⟨s.w, s.c, mset s.m (v, b) (addX (s.at v b) x)⟩
/-- Where a place stands. -/
theorem sp_find {ds : List SpD} {k : Int × Int} {ks : List Int} (h : mget (ds.map SpD.p) k = some ks) : ∃ A x B, ds = A ++ x :: B ∧ x.k = k ∧ x.ks = ks ∧ ∀ y ∈ A, y.k ≠ k := by
  induction ds with
  | nil => cases h
  | cons d ds ih =>
    unfold SpD.p at h
    rw [List.map_cons] at h
    unfold mget at h
    split at h
    · rename_i hk
      cases h
      exact ⟨[], d, ds, rfl, hk.symm, rfl, fun y hy => nomatch hy⟩
    · rename_i hk
      obtain ⟨A, x, B, rfl, h1, h2, h3⟩ := ih h
      refine ⟨d :: A, x, B, rfl, h1, h2, fun y hy => ?_⟩
      rcases List.mem_cons.1 hy with rfl | hy
      · exact fun e => hk e.symm
      · exact h3 y hy
theorem sp_mget {A B : List SpD} {x : SpD} (h : ∀ y ∈ A, y.k ≠ x.k) : mget (spV (A ++ x :: B)) x.k = some (.map (some x.b)) := by
  induction A with
  | nil => simp [spV, mget]
  | cons a A ih =>
    have h1 := h a (by simp)
    simp only [spV, List.cons_append, List.map_cons, mget]
    rw [if_neg (fun e => h1 e.symm)]
    exact ih fun y hy => h y (by simp [hy])
theorem sp_mget_none {ds : List SpD} {k : Int × Int} (h : mget (ds.map SpD.p) k = none) : mget (spV ds) k = none ∧ ∀ y ∈ ds, y.k ≠ k := by
  induction ds with
  | nil => exact ⟨rfl, fun y hy => nomatch hy⟩
  | cons d ds ih =>
    unfold SpD.p at h
    rw [List.map_cons] at h
    unfold mget at h
    split at h
    · cases h
    · rename_i hk
      obtain ⟨h1, h2⟩ := ih h
      refine ⟨by unfold spV at h1 ⊢; rw [List.map_cons]; unfold mget; rw [if_neg hk]; exact h1, fun y hy => ?_⟩
      rcases List.mem_cons.1 hy with rfl | hy
      · exact fun e => hk e.symm
      · exact h2 y hy
theorem sp_put {A B : List SpD} {x : SpD} {ks : List Int} (h : ∀ y ∈ A, y.k ≠ x.k) : (A ++ (⟨x.k, x.b, ks⟩ : SpD) :: B).map SpD.p = mset ((A ++ x :: B).map SpD.p) x.k ks := by
  induction A with
  | nil => simp [SpD.p, mset]
  | cons a A ih =>
    have h1 := h a (by simp)
    simp only [List.cons_append, List.map_cons, SpD.p, mset]
    rw [if_neg (fun e => h1 e.symm)]
    congr 1
    exact ih fun y hy => h y (by simp [hy])
theorem sp_new {ds : List SpD} {k : Int × Int} (b : Nat) (h : ∀ y ∈ ds, y.k ≠ k) : mset (spV ds) k (.map (some b)) = spV (ds ++ [⟨k, b, []⟩]) := by
  induction ds with
  | nil => rfl
  | cons a ds ih =>
    have h1 := h a (by simp)
    have := ih fun y hy => h y (by simp [hy])
    unfold spV at this ⊢
    rw [List.map_cons, List.cons_append, List.map_cons]
    unfold mset
    rw [if_neg (fun e => h1 e.symm), this]
theorem mset_none {α β : Type} [DecidableEq α] {m : List (α × β)} {k : α} {v : β} (h : mget m k = none) : mset m k v = m ++ [(k, v)] := by
  induction m with
  | nil => rfl
  | cons p m ih =>
    obtain ⟨a, b⟩ := p
    unfold mget at h
    split at h
    · cases h
    · rename_i hk
      unfold mset
      rw [if_neg hk, ih h]; rfl

def talI (p : Nat) (s : TaS) : HProp := fun h => ∃ (bm : Nat) (bo : Nat) (ds : List SpD), ds.map SpD.p = s.m ∧ Den [pt p (.cells [.pointer (some ⟨s.w, 0, none⟩), .int .i64 s.c.f, .int .i64 s.c.n, .int .i64 s.c.cl, .int .i64 s.c.ba, .int .i64 s.c.mo, .int .i64 s.c.bt, .int .i64 s.c.po, .int .i64 s.c.wi, .map (some bm), .map (some bo)].toArray 170), mapS bm (spV ds), pt bo (.map #[] 0), vots ds] h
theorem open_tal {p : Nat} {s : TaS} : Opens talI p s (fun x : (Nat) × (Nat) × (List SpD) => (x.2.2.map SpD.p = s.m)) (fun x R => (pt p (.cells [.pointer (some ⟨s.w, 0, none⟩), .int .i64 s.c.f, .int .i64 s.c.n, .int .i64 s.c.cl, .int .i64 s.c.ba, .int .i64 s.c.mo, .int .i64 s.c.bt, .int .i64 s.c.po, .int .i64 s.c.wi, .map (some x.1), .map (some x.2.1)].toArray 170)) :: (mapS x.1 (spV x.2.2)) :: (pt x.2.1 (.map #[] 0)) :: (vots x.2.2) :: R) := by
  rintro R m_ ⟨m1, m2, d, e, ⟨bm, bo, ds, f0_, h_⟩, r⟩
  exact ⟨(bm, bo, ds), f0_, Den_app d e h_ r⟩
theorem close_tal {L R R1_ R2_ R3_ : List HProp} (p : Nat) (s : TaS) {bm : Nat} {bo : Nat} {ds : List SpD} {y1_ : Nat} {y2_ : Int} {y3_ : Int} {y4_ : Int} {y5_ : Int} {y6_ : Int} {y7_ : Int} {y8_ : Int} {y9_ : Int} [t0_ : TakePt L p (.cells [.pointer (some ⟨y1_, 0, none⟩), .int .i64 y2_, .int .i64 y3_, .int .i64 y4_, .int .i64 y5_, .int .i64 y6_, .int .i64 y7_, .int .i64 y8_, .int .i64 y9_, .map (some bm), .map (some bo)].toArray 170) R1_] [t1_ : TakeA R1_ (mapS bm (spV ds)) R2_] [t2_ : TakeA R2_ (pt bo (.map #[] 0)) R3_] [t3_ : TakeA R3_ (vots ds) R] (f0_ : ds.map SpD.p = s.m) (e0_ : s.w = y1_ := by rfl) (e1_ : s.c.f = y2_ := by rfl) (e2_ : s.c.n = y3_ := by rfl) (e3_ : s.c.cl = y4_ := by rfl) (e4_ : s.c.ba = y5_ := by rfl) (e5_ : s.c.mo = y6_ := by rfl) (e6_ : s.c.bt = y7_ := by rfl) (e7_ : s.c.po = y8_ := by rfl) (e8_ : s.c.wi = y9_ := by rfl) : Lands L (At talI p s :: R) := fun q_ H_ => by
  subst e0_; subst e1_; subst e2_; subst e3_; subst e4_; subst e5_; subst e6_; subst e7_; subst e8_;
  obtain ⟨a0_, b0_, d0_, i0_, p0_, r0_⟩ := Den_perm t0_.perm q_ H_
  obtain ⟨a1_, b1_, d1_, i1_, p1_, r1_⟩ := Den_perm t1_.perm b0_ r0_
  obtain ⟨a2_, b2_, d2_, i2_, p2_, r2_⟩ := Den_perm t2_.perm b1_ r1_
  obtain ⟨a3_, b3_, d3_, i3_, p3_, r3_⟩ := Den_perm t3_.perm b2_ r2_
  have H2_ : Den ([pt p (.cells [.pointer (some ⟨s.w, 0, none⟩), .int .i64 s.c.f, .int .i64 s.c.n, .int .i64 s.c.cl, .int .i64 s.c.ba, .int .i64 s.c.mo, .int .i64 s.c.bt, .int .i64 s.c.po, .int .i64 s.c.wi, .map (some bm), .map (some bo)].toArray 170), mapS bm (spV ds), pt bo (.map #[] 0), vots ds] ++ R) q_ := ⟨a0_, b0_, d0_, i0_, p0_, ⟨a1_, b1_, d1_, i1_, p1_, ⟨a2_, b2_, d2_, i2_, p2_, ⟨a3_, b3_, d3_, i3_, p3_, r3_⟩⟩⟩⟩
  exact Lands.wrap (A := At talI p s) (fun z_ hz_ => ⟨bm, bo, ds, f0_, hz_⟩) q_ H2_
theorem tal_New {W : World} {F : List HProp} [Abs F] (w : Nat) (c : CfgD) :
    CallsK W Tryz.prog 55 #[.pointer (some ⟨w, 0, none⟩), c.val] (F) (fun u L => ∃ p, u = .pointer (some ⟨p, 0, none⟩) ∧ Lands L (At talI p ⟨w, c, []⟩ :: F)) := by
  refine CallsK_enter (n := 11) Tryz.func55 rfl rfl rfl ?_
  iterate 2 refine Ws ?_
  refine Wb fun b3 => ?_
  iterate 7 refine Ws ?_
  refine SR_ox (OX_makeMap) rfl ?_
  rintro _ _ ⟨b7, rfl, rfl⟩
  refine SR_ox (OX_makeMap) rfl ?_
  rintro _ _ ⟨b8, rfl, rfl⟩
  refine SR_pu (RD_build (.cons rfl (.cons rfl (.cons rfl (.cons rfl (.nil))))) built170_0_1_2_3) rfl ?_
  refine Wb fun b10 => ?_
  iterate 3 refine Ws ?_
  refine SC_ret1 rfl rfl ?_
  refine ⟨_, rfl, ?_⟩
  refine vots_nil.trans ?_
  refine Lands.trans (Lands.take1 (A := pt b7 (.map #[] 0)) (A' := mapS b7 (spV [])) mapS_new) ?_
  exact (close_tal b10 ⟨w, c, []⟩ (bm := b7) (bo := b8) (ds := []) rfl).trans .fin

theorem Lands.takeO {A B1 B2 : HProp} {L R : List HProp} [t : TakeA L A R] (h : ∀ R : List HProp, Lands (A :: R) (B1 :: B2 :: R)) : Lands L (B1 :: B2 :: R) := fun m H => h R m (Den_perm t.perm m H)
theorem CallsK.atPM {W : World} {P : Program} {f : FuncId} {args : Array Value} {L R1 R : List HProp} {KK : Value → List HProp → Prop} {b : Nat} {o : Obj} {q : Nat} {m : List (Int × Value)} [t : TakePt L b o R1] [u : TakeMap R1 intK q m R] (g : CallsK W P f args (pt b o :: mapP intK q m :: R) KK) : CallsK W P f args L KK := g.pre fun h H => Den_perm (List.Perm.cons _ u.perm) h (Den_perm t.perm h H)
theorem Lands.take1t {A B A' : HProp} {L R1 R : List HProp} [t : TakeA L A R1] [u : TakeA R1 B R] (h : Lands (A :: B :: R) (A' :: R)) : Lands L (A' :: R) := fun m H => by
  have h1 := Den_perm t.perm m H
  exact h m (Den_perm (List.Perm.cons A u.perm) m h1)

theorem tal_Vote_new {W : World} {F : List HProp} [Abs F] (k : WK) (z : WS) (p : Nat) (s : TaS) (hw : s.w = k.p) (x v b : Int) (hx : 0 ≤ x ∧ x < s.c.n) (hv : 1 ≤ v) (hm : voteB v b ∈ z.l) (hs : x ∈ signers z.S (dnum z.l (voteB v b) : Nat)) (hI : ∀ y ∈ (addX (s.at v b) x), I64 y) (hl : (addX (s.at v b) x).length ≤ 12) (hz : z.l.length ≤ 1000000000) (hn : mget s.m (v, b) = none) :
    CallsK W Tryz.prog 181 #[.pointer (some ⟨p, 0, none⟩), .int .i64 x, .int .i64 v, .int .i64 b] (At talI p s :: At worldI k z :: F) (fun u L => ∃ q : QcD, u = .tuple #[q.val, .bool (decide (¬ (((addX (s.at v b) x).length : Nat) : Int) < IntKind.i64.wrap (s.c.n - s.c.f)))] ∧ (¬ (((addX (s.at v b) x).length : Nat) : Int) < IntKind.i64.wrap (s.c.n - s.c.f) → q.view = v ∧ q.block = b ∧ q.by_.l = sortI (addX (s.at v b) x)) ∧ q.by_.l.length = q.by_.n ∧ Lands L (rowP 3 1 q.by_.a q.by_.n q.by_.c (q.by_.l.map intV) :: At talI p (s.put x v b) :: At worldI k z :: F)) := by
  refine CallsK_enter (n := 88) Tryz.func181 rfl rfl rfl ?_
  iterate 2 refine Ws ?_
  refine Wa fun b8 => ?_
  iterate 5 refine Ws ?_
  refine SC.opn (open_tal (p := p)) fun ⟨bm, bo, ds⟩ hds => ?_
  dsimp only at hds ⊢
  rw [hw]
  rw [← hds] at hn
  obtain ⟨hmn, hne⟩ := sp_mget_none hn
  have hat : s.at v b = [] := by unfold TaS.at; rw [← hds, hn]; rfl
  refine Wd [.r 0, .r 1, .r 2, .r 3, .r 4, .e 5, .r 6, .r 7, .r 8, .r 9, .r 10, .r 11, .r 12, .r 13, .r 14, .r 15, .r 17, .r 18, .r 19, .r 20, .r 21, .r 22, .r 23, .e 16, .e 24, .e 25, .r 26, .r 27] ?_
  iterate 3 refine Wq ?_
  refine SQ_rd rfl (RD_loadA (vs := s.c.cells) Tryz.isAgg23 Tryz.sizeOf23 rfl rfl) (Has.ces (cs := [.pointer (some ⟨k.p, 0, none⟩), .int .i64 s.c.f, .int .i64 s.c.n, .int .i64 s.c.cl, .int .i64 s.c.ba, .int .i64 s.c.mo, .int .i64 s.c.bt, .int .i64 s.c.po, .int .i64 s.c.wi, .map (some bm), .map (some bo)]) fun j v h => by rcases j with _ | _ | _ | _ | _ | _ | _ | _ | j <;> simp [CfgD.cells] at h ⊢ <;> exact h) rfl ?_
  refine Wq ?_
  refine SQ_call rfl Tryz.call50 (.cons rfl (.cons rfl (.nil))) (cert_Replica s.c x) (lts rfl) ?_
  rintro _ L1 ⟨rfl, hL1⟩
  refine ⟨.lands hL1 (.w rfl (.nil)), ?_⟩
  refine SQ.lands hL1 ?_
  iterate 2 refine Wq ?_
  refine SQ_pyes rfl rfl rfl (by simp [hx]) (RD_move rfl) rfl ?_
  refine SQ_pyes rfl rfl rfl (by simp [hx]) (RD_lss rfl rfl) rfl ?_
  refine SQ_pu rfl (RD_pick_f rfl (by simp [hx]) rfl) rfl ?_
  refine Wq ?_
  refine SQ_pyes rfl rfl rfl (decide_eq_false (by omega)) (RD_move rfl) rfl ?_
  first
    | refine SQ_pyes rfl rfl rfl (decide_eq_false (by omega)) (RD_nilCheck rfl) rfl ?_
    | refine SQ_pyes rfl rfl rfl (decide_eq_false (by omega)) (RD_nilCheckF rfl) rfl ?_
  first
    | refine SQ_pyes rfl rfl rfl (decide_eq_false (by omega)) (RD_fieldAddr0 Tryz.runUnderlying170 rfl rfl Tryz.sizeOf31 rfl) rfl ?_
    | refine SQ_yes rfl rfl rfl (decide_eq_false (by omega)) (RD_fieldAddrO 0 Tryz.runUnderlying170 rfl rfl Tryz.sizeOf31 rfl (by simp <;> omega)) Has.ro rfl ?_
  refine SQ_yes rfl rfl rfl (decide_eq_false (by omega)) (RD_load Tryz.isAgg31 rfl) (Has.ce rfl) rfl ?_
  refine SQ_pyes rfl rfl rfl (decide_eq_false (by omega)) (RD_move rfl) rfl ?_
  refine SQ_pyes rfl rfl rfl (decide_eq_false (by omega)) (RD_move rfl) rfl ?_
  first
    | refine SQ_pyes rfl rfl rfl (decide_eq_false (by omega)) (RD_nilCheck rfl) rfl ?_
    | refine SQ_pyes rfl rfl rfl (decide_eq_false (by omega)) (RD_nilCheckF rfl) rfl ?_
  first
    | refine SQ_pyes rfl rfl rfl (decide_eq_false (by omega)) (RD_fieldAddr0 Tryz.runUnderlying170 rfl rfl Tryz.sizeOf31 rfl) rfl ?_
    | refine SQ_yes rfl rfl rfl (decide_eq_false (by omega)) (RD_fieldAddrO 0 Tryz.runUnderlying170 rfl rfl Tryz.sizeOf31 rfl (by simp <;> omega)) Has.ro rfl ?_
  refine SQ_yes rfl rfl rfl (decide_eq_false (by omega)) (RD_load Tryz.isAgg31 rfl) (Has.ce rfl) rfl ?_
  refine SQ_pyes rfl rfl rfl (decide_eq_false (by omega)) (RD_move rfl) rfl ?_
  refine SQ_pyes rfl rfl rfl (decide_eq_false (by omega)) (RD_move rfl) rfl ?_
  refine SQ_one (SA_call rfl (.mk rfl rfl (decide_eq_false (by omega))) Tryz.call122 (.cons rfl (.nil)) (CallsK.at (w_Signs k z)) (lts rfl) ?_)
  rintro _ L2 ⟨rfl, hL2⟩
  refine ⟨.lands hL2 (.h (Has.ce rfl) (.w rfl (.h (Has.ces (cs := [.pointer (some ⟨k.p, 0, none⟩), .int .i64 s.c.f, .int .i64 s.c.n, .int .i64 s.c.cl, .int .i64 s.c.ba, .int .i64 s.c.mo, .int .i64 s.c.bt, .int .i64 s.c.po, .int .i64 s.c.wi, .map (some bm), .map (some bo)]) fun j v h => by rcases j with _ | _ | _ | _ | _ | _ | _ | _ | j <;> simp [CfgD.cells] at h ⊢ <;> exact h) (.nil)))), ?_⟩
  refine SQ.lands hL2 ?_
  refine SQ_one (SA_call rfl (.mk rfl rfl (decide_eq_false (by omega))) Tryz.call129 (.cons rfl (.cons rfl (.cons rfl (.nil)))) (CallsK.at (cert_Vote k z v b hz z.l _ (dput_idem hm) rfl)) (lts rfl) ?_)
  rintro _ L3 ⟨rfl, hL3⟩
  refine ⟨.lands hL3 (.w rfl (.h (Has.ce rfl) (.h (Has.ces (cs := [.pointer (some ⟨k.p, 0, none⟩), .int .i64 s.c.f, .int .i64 s.c.n, .int .i64 s.c.cl, .int .i64 s.c.ba, .int .i64 s.c.mo, .int .i64 s.c.bt, .int .i64 s.c.po, .int .i64 s.c.wi, .map (some bm), .map (some bo)]) fun j v h => by rcases j with _ | _ | _ | _ | _ | _ | _ | _ | j <;> simp [CfgD.cells] at h ⊢ <;> exact h) (.nil)))), ?_⟩
  refine SQ.lands hL3 ?_
  refine SQ_one (SA_call rfl (.mk rfl rfl (decide_eq_false (by omega))) Tryz.call208 (.cons rfl (.cons rfl (.cons rfl (.nil)))) (CallsK.at (w_Has k z x _)) (lts rfl) ?_)
  rintro _ L4 ⟨rfl, hL4⟩
  refine ⟨.lands hL4 (.h (Has.ce rfl) (.h (Has.ce rfl) (.h (Has.ces (cs := [.pointer (some ⟨k.p, 0, none⟩), .int .i64 s.c.f, .int .i64 s.c.n, .int .i64 s.c.cl, .int .i64 s.c.ba, .int .i64 s.c.mo, .int .i64 s.c.bt, .int .i64 s.c.po, .int .i64 s.c.wi, .map (some bm), .map (some bo)]) fun j v h => by rcases j with _ | _ | _ | _ | _ | _ | _ | _ | j <;> simp [CfgD.cells] at h ⊢ <;> exact h) (.nil)))), ?_⟩
  refine SQ.lands hL4 ?_
  refine SQ_pyes rfl rfl rfl (decide_eq_false (by omega)) (RD_not rfl) rfl ?_
  refine SQ_pu rfl (RD_pick_f rfl (decide_eq_false (by omega)) rfl) rfl ?_
  iterate 2 refine Ws ?_
  refine SC_cond_false rfl (by simp [hs]) ?_
  iterate 6 refine Ws ?_
  refine SR_pu (RD_build (.cons rfl (.cons rfl (.nil))) built301_0_1) rfl ?_
  refine Wa fun b10 => ?_
  refine SR_ox0 (OX_stA (vs := [.int .i64 v, .int .i64 b]) Tryz.sizeOf301 rfl rfl rfl rfl) ?_
  rintro _ _ rfl
  iterate 4 refine Ws ?_
  refine Wd [.r 0, .r 1, .r 2, .r 3, .r 4, .r 5, .r 6] ?_
  iterate 5 refine Wq ?_
  refine SQ_rd rfl (RD_lookupS (k := (v, b)) (v := .map none) rfl rfl (by rw [hmn]; rfl)) Has.ms rfl ?_
  refine SQ_pu rfl (RD_eqlM Tryz.underlying96 rfl rfl) rfl ?_
  iterate 2 refine Ws ?_
  refine SC_cond_true rfl (rfl) ?_
  refine Wd [.r 0, .r 1, .r 2, .r 3, .r 4, .e 5, .e 6] ?_
  iterate 5 refine Wq ?_
  refine SQ_ox rfl (OX_mk intK) rfl ?_
  rintro _ _ ⟨b55, rfl, rfl⟩
  refine ⟨.h Has.wh (.h (Has.ce rfl) (.nil)), ?_⟩
  refine SQ_ox0 rfl (OX_updateS (b := bm) (m := spV ds) (k := (v, b)) rfl rfl rfl) ?_
  rintro _ _ rfl
  refine ⟨.w rfl (.w rfl (.nil)), ?_⟩
  iterate 3 refine Ws ?_
  rw [sp_new b55 hne]
  have hmn2 : mget (spV (ds ++ [⟨(v, b), b55, []⟩])) (v, b) = some (.map (some b55)) := sp_mget (A := ds) (x := ⟨(v, b), b55, []⟩) (B := []) hne
  refine Wd [.r 0, .r 1, .r 2, .r 3, .r 4, .r 5, .r 6, .e 7] ?_
  iterate 5 refine Wq ?_
  refine SQ_rd rfl (RD_lookupS (k := (v, b)) (v := .map (some b55)) rfl rfl (by rw [hmn2]; rfl)) Has.ms rfl ?_
  refine Wq ?_
  refine SQ_ox0 rfl (OX_mu (K := intK) Tryz.underlying96 Tryz.underlying3 rfl rfl rfl) ?_
  rintro _ _ rfl
  refine ⟨.w rfl (.w rfl (.w rfl (.nil))), ?_⟩
  iterate 4 refine Ws ?_
  have hset : mset ([] : List (Int × Value)) x (.int .i64 1) = setV (addX (s.at v b) x) := by rw [show ([] : List (Int × Value)) = setV [] from rfl, mset_setV, hat]
  rw [hset]
  have hsl : (setV (addX (s.at v b) x)).length = (addX (s.at v b) x).length := by unfold setV; simp
  refine Wd [.r 0, .r 1, .r 2, .r 3, .r 4, .r 5, .r 6, .r 7, .r 8, .r 9, .r 10, .e 11, .r 12] ?_
  iterate 5 refine Wq ?_
  refine SQ_rd rfl (RD_lookupS (k := (v, b)) (v := .map (some b55)) rfl rfl (by rw [hmn2]; rfl)) Has.ms rfl ?_
  refine SQ_rd rfl (RD_lenM (K := intK) Tryz.underlying96 rfl) (Has.ma (K := intK)) rfl ?_
  iterate 3 refine Wq ?_
  refine SQ_rd rfl (RD_loadA (vs := s.c.cells) Tryz.isAgg23 Tryz.sizeOf23 rfl rfl) (Has.ces (cs := [.pointer (some ⟨k.p, 0, none⟩), .int .i64 s.c.f, .int .i64 s.c.n, .int .i64 s.c.cl, .int .i64 s.c.ba, .int .i64 s.c.mo, .int .i64 s.c.bt, .int .i64 s.c.po, .int .i64 s.c.wi, .map (some bm), .map (some bo)]) fun j v h => by rcases j with _ | _ | _ | _ | _ | _ | _ | _ | j <;> simp [CfgD.cells] at h ⊢ <;> exact h) rfl ?_
  refine SQ_call rfl Tryz.call211 (.cons rfl (.nil)) (cert_Quorum s.c) (lts rfl) ?_
  rintro _ L5 ⟨rfl, hL5⟩
  refine ⟨.lands hL5 (.w rfl (.w rfl (.h Has.ms (.h Has.wh (.h (Has.ce rfl) (.nil)))))), ?_⟩
  refine SQ.lands hL5 ?_
  refine Wq ?_
  iterate 2 refine Ws ?_
  refine SC_cond rfl (fun hc75 => ?_) (fun hc75 => ?_)
  · rw [hsl] at hc75
    have hlt : (((addX (s.at v b) x).length : Nat) : Int) < IntKind.i64.wrap (s.c.n - s.c.f) := of_decide_eq_true hc75
    have hspe : spV (ds ++ [(⟨(v, b), b55, (addX (s.at v b) x)⟩ : SpD)]) = spV (ds ++ [⟨(v, b), b55, []⟩]) := by unfold spV; simp
    rw [← hspe]
    have hvo : ∀ R : List HProp, Lands (mapP intK b55 (setV (addX (s.at v b) x)) :: vots ds :: R) (vots (ds ++ [(⟨(v, b), b55, (addX (s.at v b) x)⟩ : SpD)]) :: R) := fun R => by
      have := vots_put (A := ds) (x := ⟨(v, b), b55, (addX (s.at v b) x)⟩) (B := []) (R := R)
      rwa [List.append_nil] at this
    iterate 2 refine Ws ?_
    refine SR_pu (RD_build (.nil) built39) rfl ?_
    refine SR_ox0 (OX_stA Tryz.sizeOf39 rfl rfl rfl rfl) ?_
    rintro _ _ rfl
    iterate 3 refine Ws ?_
    refine SC_retCT rfl Tryz.isAgg39 Tryz.sizeOf39 rfl rfl rfl Has.wh ?_
    refine ⟨⟨0, 0, ⟨none, 0, 0, []⟩⟩, by rw [decide_eq_false (fun h => h hlt)]; rfl, fun h => absurd hlt h, rfl, ?_⟩
    have hpm : (ds ++ [(⟨(v, b), b55, (addX (s.at v b) x)⟩ : SpD)]).map SpD.p = (s.put x v b).m := by
      unfold TaS.put
      dsimp only
      rw [List.map_append, hds, mset_none (by rw [← hds]; exact hn)]
      rfl
    simp only [List.map_nil]
    exact (row_new 3 1 none).trans (Lands.trans (Lands.take1t (A := mapP intK b55 (setV (addX (s.at v b) x))) (B := vots ds) (hvo _)) ((close_tal p (s.put x v b) (bm := bm) (bo := bo) (ds := ds ++ [(⟨(v, b), b55, (addX (s.at v b) x)⟩ : SpD)]) hpm (e0_ := hw)).trans .fin))
  · rw [hsl] at hc75
    have hlt : ¬ (((addX (s.at v b) x).length : Nat) : Int) < IntKind.i64.wrap (s.c.n - s.c.f) := of_decide_eq_false hc75
    have hspe : spV (ds ++ [(⟨(v, b), b55, (addX (s.at v b) x)⟩ : SpD)]) = spV (ds ++ [⟨(v, b), b55, []⟩]) := by unfold spV; simp
    rw [← hspe]
    have hvo : ∀ R : List HProp, Lands (mapP intK b55 (setV (addX (s.at v b) x)) :: vots ds :: R) (vots (ds ++ [(⟨(v, b), b55, (addX (s.at v b) x)⟩ : SpD)]) :: R) := fun R => by
      have := vots_put (A := ds) (x := ⟨(v, b), b55, (addX (s.at v b) x)⟩) (B := []) (R := R)
      rwa [List.append_nil] at this
    iterate 3 refine Ws ?_
    refine Wd [.r 0, .r 1, .r 2, .r 3, .r 4, .r 5, .r 6, .r 7, .e 8, .e 9, .r 10, .e 11, .r 12] ?_
    iterate 7 refine Wq ?_
    refine SQ_rd rfl (RD_lookupS (m := spV (ds ++ [(⟨(v, b), b55, (addX (s.at v b) x)⟩ : SpD)])) (k := (v, b)) (v := .map (some b55)) rfl rfl (by rw [hspe, hmn2]; rfl)) Has.ms rfl ?_
    refine SQ_call rfl Tryz.call213 (.cons rfl (.nil)) (maps_Keys b55) (lts rfl) ?_
    rintro _ L6 ⟨kb, rfl, hL6⟩
    refine ⟨.lands hL6 (.w rfl (.h Has.wh (.h (Has.ce rfl) (.nil)))), ?_⟩
    refine SQ.lands hL6 ?_
    refine SQ_call rfl Tryz.call212 (.cons rfl (.nil)) (CallsK.atPM (go_Sorted kb b55 (addX (s.at v b) x) hl hI)) (lts rfl) ?_
    rintro _ L7 ⟨sa, sc, rfl, hL7⟩
    refine ⟨.lands hL7 (.h Has.ms (.h Has.wh (.h (Has.ce rfl) (.nil)))), ?_⟩
    refine SQ.lands hL7 ?_
    refine SQ_pu rfl (RD_build (.cons rfl (.cons rfl (.cons rfl (.nil)))) built39_0_1_2) rfl ?_
    refine SQ_ox0 rfl (OX_stA Tryz.sizeOf39 rfl rfl rfl rfl) ?_
    rintro _ _ rfl
    refine ⟨.w rfl (.w rfl (.w rfl (.nil))), ?_⟩
    refine Wq ?_
    iterate 2 refine Ws ?_
    refine SC_retCT rfl Tryz.isAgg39 Tryz.sizeOf39 rfl rfl rfl Has.wh ?_
    refine ⟨⟨v, b, ⟨sa, (addX (s.at v b) x).length, sc, sortI (addX (s.at v b) x)⟩⟩, by rw [decide_eq_true hlt]; rfl, fun _ => ⟨rfl, rfl, rfl⟩, by exact (List.mergeSort_perm _ _).length_eq, ?_⟩
    have hpm : (ds ++ [(⟨(v, b), b55, (addX (s.at v b) x)⟩ : SpD)]).map SpD.p = (s.put x v b).m := by
      unfold TaS.put
      dsimp only
      rw [List.map_append, hds, mset_none (by rw [← hds]; exact hn)]
      rfl
    dsimp only
    exact (Lands.trans (Lands.take1t (A := mapP intK b55 (setV (addX (s.at v b) x))) (B := vots ds) (hvo _)) ((close_tal p (s.put x v b) (bm := bm) (bo := bo) (ds := ds ++ [(⟨(v, b), b55, (addX (s.at v b) x)⟩ : SpD)]) hpm (e0_ := hw)).trans .fin))

theorem tal_Vote_old {W : World} {F : List HProp} [Abs F] (k : WK) (z : WS) (p : Nat) (s : TaS) (hw : s.w = k.p) (x v b : Int) (hx : 0 ≤ x ∧ x < s.c.n) (hv : 1 ≤ v) (hm : voteB v b ∈ z.l) (hs : x ∈ signers z.S (dnum z.l (voteB v b) : Nat)) (hI : ∀ y ∈ (addX (s.at v b) x), I64 y) (hl : (addX (s.at v b) x).length ≤ 12) (hz : z.l.length ≤ 1000000000) (ks : List Int) (hn : mget s.m (v, b) = some ks) :
    CallsK W Tryz.prog 181 #[.pointer (some ⟨p, 0, none⟩), .int .i64 x, .int .i64 v, .int .i64 b] (At talI p s :: At worldI k z :: F) (fun u L => ∃ q : QcD, u = .tuple #[q.val, .bool (decide (¬ (((addX (s.at v b) x).length : Nat) : Int) < IntKind.i64.wrap (s.c.n - s.c.f)))] ∧ (¬ (((addX (s.at v b) x).length : Nat) : Int) < IntKind.i64.wrap (s.c.n - s.c.f) → q.view = v ∧ q.block = b ∧ q.by_.l = sortI (addX (s.at v b) x)) ∧ q.by_.l.length = q.by_.n ∧ Lands L (rowP 3 1 q.by_.a q.by_.n q.by_.c (q.by_.l.map intV) :: At talI p (s.put x v b) :: At worldI k z :: F)) := by
  refine CallsK_enter (n := 88) Tryz.func181 rfl rfl rfl ?_
  iterate 2 refine Ws ?_
  refine Wa fun b8 => ?_
  iterate 5 refine Ws ?_
  refine SC.opn (open_tal (p := p)) fun ⟨bm, bo, ds⟩ hds => ?_
  dsimp only at hds ⊢
  rw [hw]
  rw [← hds] at hn
  obtain ⟨A, xx, B, rfl, hxk, hxs, hA⟩ := sp_find hn
  have hA2 : ∀ y ∈ A, y.k ≠ xx.k := fun y hy => by rw [hxk]; exact hA y hy
  have hmn : mget (spV (A ++ xx :: B)) (v, b) = some (.map (some xx.b)) := by rw [← hxk]; exact sp_mget hA2
  have hat : s.at v b = xx.ks := by unfold TaS.at; rw [← hds, hn, ← hxs]; rfl
  refine Wd [.r 0, .r 1, .r 2, .r 3, .r 4, .e 5, .r 6, .r 7, .r 8, .r 9, .r 10, .r 11, .r 12, .r 13, .r 14, .r 15, .r 17, .r 18, .r 19, .r 20, .r 21, .r 22, .r 23, .e 16, .e 24, .e 25, .r 26, .r 27] ?_
  iterate 3 refine Wq ?_
  refine SQ_rd rfl (RD_loadA (vs := s.c.cells) Tryz.isAgg23 Tryz.sizeOf23 rfl rfl) (Has.ces (cs := [.pointer (some ⟨k.p, 0, none⟩), .int .i64 s.c.f, .int .i64 s.c.n, .int .i64 s.c.cl, .int .i64 s.c.ba, .int .i64 s.c.mo, .int .i64 s.c.bt, .int .i64 s.c.po, .int .i64 s.c.wi, .map (some bm), .map (some bo)]) fun j v h => by rcases j with _ | _ | _ | _ | _ | _ | _ | _ | j <;> simp [CfgD.cells] at h ⊢ <;> exact h) rfl ?_
  refine Wq ?_
  refine SQ_call rfl Tryz.call50 (.cons rfl (.cons rfl (.nil))) (cert_Replica s.c x) (lts rfl) ?_
  rintro _ L1 ⟨rfl, hL1⟩
  refine ⟨.lands hL1 (.w rfl (.nil)), ?_⟩
  refine SQ.lands hL1 ?_
  iterate 2 refine Wq ?_
  refine SQ_pyes rfl rfl rfl (by simp [hx]) (RD_move rfl) rfl ?_
  refine SQ_pyes rfl rfl rfl (by simp [hx]) (RD_lss rfl rfl) rfl ?_
  refine SQ_pu rfl (RD_pick_f rfl (by simp [hx]) rfl) rfl ?_
  refine Wq ?_
  refine SQ_pyes rfl rfl rfl (decide_eq_false (by omega)) (RD_move rfl) rfl ?_
  first
    | refine SQ_pyes rfl rfl rfl (decide_eq_false (by omega)) (RD_nilCheck rfl) rfl ?_
    | refine SQ_pyes rfl rfl rfl (decide_eq_false (by omega)) (RD_nilCheckF rfl) rfl ?_
  first
    | refine SQ_pyes rfl rfl rfl (decide_eq_false (by omega)) (RD_fieldAddr0 Tryz.runUnderlying170 rfl rfl Tryz.sizeOf31 rfl) rfl ?_
    | refine SQ_yes rfl rfl rfl (decide_eq_false (by omega)) (RD_fieldAddrO 0 Tryz.runUnderlying170 rfl rfl Tryz.sizeOf31 rfl (by simp <;> omega)) Has.ro rfl ?_
  refine SQ_yes rfl rfl rfl (decide_eq_false (by omega)) (RD_load Tryz.isAgg31 rfl) (Has.ce rfl) rfl ?_
  refine SQ_pyes rfl rfl rfl (decide_eq_false (by omega)) (RD_move rfl) rfl ?_
  refine SQ_pyes rfl rfl rfl (decide_eq_false (by omega)) (RD_move rfl) rfl ?_
  first
    | refine SQ_pyes rfl rfl rfl (decide_eq_false (by omega)) (RD_nilCheck rfl) rfl ?_
    | refine SQ_pyes rfl rfl rfl (decide_eq_false (by omega)) (RD_nilCheckF rfl) rfl ?_
  first
    | refine SQ_pyes rfl rfl rfl (decide_eq_false (by omega)) (RD_fieldAddr0 Tryz.runUnderlying170 rfl rfl Tryz.sizeOf31 rfl) rfl ?_
    | refine SQ_yes rfl rfl rfl (decide_eq_false (by omega)) (RD_fieldAddrO 0 Tryz.runUnderlying170 rfl rfl Tryz.sizeOf31 rfl (by simp <;> omega)) Has.ro rfl ?_
  refine SQ_yes rfl rfl rfl (decide_eq_false (by omega)) (RD_load Tryz.isAgg31 rfl) (Has.ce rfl) rfl ?_
  refine SQ_pyes rfl rfl rfl (decide_eq_false (by omega)) (RD_move rfl) rfl ?_
  refine SQ_pyes rfl rfl rfl (decide_eq_false (by omega)) (RD_move rfl) rfl ?_
  refine SQ_one (SA_call rfl (.mk rfl rfl (decide_eq_false (by omega))) Tryz.call122 (.cons rfl (.nil)) (CallsK.at (w_Signs k z)) (lts rfl) ?_)
  rintro _ L2 ⟨rfl, hL2⟩
  refine ⟨.lands hL2 (.h (Has.ce rfl) (.w rfl (.h (Has.ces (cs := [.pointer (some ⟨k.p, 0, none⟩), .int .i64 s.c.f, .int .i64 s.c.n, .int .i64 s.c.cl, .int .i64 s.c.ba, .int .i64 s.c.mo, .int .i64 s.c.bt, .int .i64 s.c.po, .int .i64 s.c.wi, .map (some bm), .map (some bo)]) fun j v h => by rcases j with _ | _ | _ | _ | _ | _ | _ | _ | j <;> simp [CfgD.cells] at h ⊢ <;> exact h) (.nil)))), ?_⟩
  refine SQ.lands hL2 ?_
  refine SQ_one (SA_call rfl (.mk rfl rfl (decide_eq_false (by omega))) Tryz.call129 (.cons rfl (.cons rfl (.cons rfl (.nil)))) (CallsK.at (cert_Vote k z v b hz z.l _ (dput_idem hm) rfl)) (lts rfl) ?_)
  rintro _ L3 ⟨rfl, hL3⟩
  refine ⟨.lands hL3 (.w rfl (.h (Has.ce rfl) (.h (Has.ces (cs := [.pointer (some ⟨k.p, 0, none⟩), .int .i64 s.c.f, .int .i64 s.c.n, .int .i64 s.c.cl, .int .i64 s.c.ba, .int .i64 s.c.mo, .int .i64 s.c.bt, .int .i64 s.c.po, .int .i64 s.c.wi, .map (some bm), .map (some bo)]) fun j v h => by rcases j with _ | _ | _ | _ | _ | _ | _ | _ | j <;> simp [CfgD.cells] at h ⊢ <;> exact h) (.nil)))), ?_⟩
  refine SQ.lands hL3 ?_
  refine SQ_one (SA_call rfl (.mk rfl rfl (decide_eq_false (by omega))) Tryz.call208 (.cons rfl (.cons rfl (.cons rfl (.nil)))) (CallsK.at (w_Has k z x _)) (lts rfl) ?_)
  rintro _ L4 ⟨rfl, hL4⟩
  refine ⟨.lands hL4 (.h (Has.ce rfl) (.h (Has.ce rfl) (.h (Has.ces (cs := [.pointer (some ⟨k.p, 0, none⟩), .int .i64 s.c.f, .int .i64 s.c.n, .int .i64 s.c.cl, .int .i64 s.c.ba, .int .i64 s.c.mo, .int .i64 s.c.bt, .int .i64 s.c.po, .int .i64 s.c.wi, .map (some bm), .map (some bo)]) fun j v h => by rcases j with _ | _ | _ | _ | _ | _ | _ | _ | j <;> simp [CfgD.cells] at h ⊢ <;> exact h) (.nil)))), ?_⟩
  refine SQ.lands hL4 ?_
  refine SQ_pyes rfl rfl rfl (decide_eq_false (by omega)) (RD_not rfl) rfl ?_
  refine SQ_pu rfl (RD_pick_f rfl (decide_eq_false (by omega)) rfl) rfl ?_
  iterate 2 refine Ws ?_
  refine SC_cond_false rfl (by simp [hs]) ?_
  iterate 6 refine Ws ?_
  refine SR_pu (RD_build (.cons rfl (.cons rfl (.nil))) built301_0_1) rfl ?_
  refine Wa fun b10 => ?_
  refine SR_ox0 (OX_stA (vs := [.int .i64 v, .int .i64 b]) Tryz.sizeOf301 rfl rfl rfl rfl) ?_
  rintro _ _ rfl
  iterate 4 refine Ws ?_
  refine Wd [.r 0, .r 1, .r 2, .r 3, .r 4, .r 5, .r 6] ?_
  iterate 5 refine Wq ?_
  refine SQ_rd rfl (RD_lookupS (k := (v, b)) (v := .map (some xx.b)) rfl rfl (by rw [hmn]; rfl)) Has.ms rfl ?_
  refine SQ_pu rfl (RD_eqlM Tryz.underlying96 rfl rfl) rfl ?_
  iterate 2 refine Ws ?_
  refine SC_cond_false rfl (rfl) ?_
  iterate 3 refine Ws ?_
  have hmn2 := hmn
  refine SC.lands (Lands.takeO (A := vots (A ++ xx :: B)) fun _ => vots_take) ?_
  refine Wd [.r 0, .r 1, .r 2, .r 3, .r 4, .r 5, .r 6, .e 7] ?_
  iterate 5 refine Wq ?_
  refine SQ_rd rfl (RD_lookupS (k := (v, b)) (v := .map (some xx.b)) rfl rfl (by rw [hmn2]; rfl)) Has.ms rfl ?_
  refine Wq ?_
  refine SQ_ox0 rfl (OX_mu (K := intK) Tryz.underlying96 Tryz.underlying3 rfl rfl rfl) ?_
  rintro _ _ rfl
  refine ⟨.w rfl (.w rfl (.w rfl (.nil))), ?_⟩
  iterate 4 refine Ws ?_
  have hset : mset (setV xx.ks) x (.int .i64 1) = setV (addX (s.at v b) x) := by rw [mset_setV, hat]
  rw [hset]
  have hsl : (setV (addX (s.at v b) x)).length = (addX (s.at v b) x).length := by unfold setV; simp
  refine Wd [.r 0, .r 1, .r 2, .r 3, .r 4, .r 5, .r 6, .r 7, .r 8, .r 9, .r 10, .e 11, .r 12] ?_
  iterate 5 refine Wq ?_
  refine SQ_rd rfl (RD_lookupS (k := (v, b)) (v := .map (some xx.b)) rfl rfl (by rw [hmn2]; rfl)) Has.ms rfl ?_
  refine SQ_rd rfl (RD_lenM (K := intK) Tryz.underlying96 rfl) (Has.ma (K := intK)) rfl ?_
  iterate 3 refine Wq ?_
  refine SQ_rd rfl (RD_loadA (vs := s.c.cells) Tryz.isAgg23 Tryz.sizeOf23 rfl rfl) (Has.ces (cs := [.pointer (some ⟨k.p, 0, none⟩), .int .i64 s.c.f, .int .i64 s.c.n, .int .i64 s.c.cl, .int .i64 s.c.ba, .int .i64 s.c.mo, .int .i64 s.c.bt, .int .i64 s.c.po, .int .i64 s.c.wi, .map (some bm), .map (some bo)]) fun j v h => by rcases j with _ | _ | _ | _ | _ | _ | _ | _ | j <;> simp [CfgD.cells] at h ⊢ <;> exact h) rfl ?_
  refine SQ_call rfl Tryz.call211 (.cons rfl (.nil)) (cert_Quorum s.c) (lts rfl) ?_
  rintro _ L5 ⟨rfl, hL5⟩
  refine ⟨.lands hL5 (.w rfl (.w rfl (.h Has.ms (.h Has.wh (.h (Has.ce rfl) (.nil)))))), ?_⟩
  refine SQ.lands hL5 ?_
  refine Wq ?_
  iterate 2 refine Ws ?_
  refine SC_cond rfl (fun hc75 => ?_) (fun hc75 => ?_)
  · rw [hsl] at hc75
    have hlt : (((addX (s.at v b) x).length : Nat) : Int) < IntKind.i64.wrap (s.c.n - s.c.f) := of_decide_eq_true hc75
    have hspe : spV (A ++ (⟨xx.k, xx.b, (addX (s.at v b) x)⟩ : SpD) :: B) = spV (A ++ xx :: B) := by unfold spV; simp
    rw [← hspe]
    have hvo : ∀ R : List HProp, Lands (mapP intK xx.b (setV (addX (s.at v b) x)) :: vots (A ++ B) :: R) (vots (A ++ (⟨xx.k, xx.b, (addX (s.at v b) x)⟩ : SpD) :: B) :: R) := fun R => vots_put (A := A) (x := ⟨xx.k, xx.b, (addX (s.at v b) x)⟩) (B := B)
    iterate 2 refine Ws ?_
    refine SR_pu (RD_build (.nil) built39) rfl ?_
    refine SR_ox0 (OX_stA Tryz.sizeOf39 rfl rfl rfl rfl) ?_
    rintro _ _ rfl
    iterate 3 refine Ws ?_
    refine SC_retCT rfl Tryz.isAgg39 Tryz.sizeOf39 rfl rfl rfl Has.wh ?_
    refine ⟨⟨0, 0, ⟨none, 0, 0, []⟩⟩, by rw [decide_eq_false (fun h => h hlt)]; rfl, fun h => absurd hlt h, rfl, ?_⟩
    have hpm : (A ++ (⟨xx.k, xx.b, (addX (s.at v b) x)⟩ : SpD) :: B).map SpD.p = (s.put x v b).m := by
      unfold TaS.put
      dsimp only
      rw [← hds, ← hxk]
      exact sp_put hA2
    simp only [List.map_nil]
    exact (row_new 3 1 none).trans (Lands.trans (Lands.take1t (A := mapP intK xx.b (setV (addX (s.at v b) x))) (B := vots (A ++ B)) (hvo _)) ((close_tal p (s.put x v b) (bm := bm) (bo := bo) (ds := A ++ (⟨xx.k, xx.b, (addX (s.at v b) x)⟩ : SpD) :: B) hpm (e0_ := hw)).trans .fin))
  · rw [hsl] at hc75
    have hlt : ¬ (((addX (s.at v b) x).length : Nat) : Int) < IntKind.i64.wrap (s.c.n - s.c.f) := of_decide_eq_false hc75
    have hspe : spV (A ++ (⟨xx.k, xx.b, (addX (s.at v b) x)⟩ : SpD) :: B) = spV (A ++ xx :: B) := by unfold spV; simp
    rw [← hspe]
    have hvo : ∀ R : List HProp, Lands (mapP intK xx.b (setV (addX (s.at v b) x)) :: vots (A ++ B) :: R) (vots (A ++ (⟨xx.k, xx.b, (addX (s.at v b) x)⟩ : SpD) :: B) :: R) := fun R => vots_put (A := A) (x := ⟨xx.k, xx.b, (addX (s.at v b) x)⟩) (B := B)
    iterate 3 refine Ws ?_
    refine Wd [.r 0, .r 1, .r 2, .r 3, .r 4, .r 5, .r 6, .r 7, .e 8, .e 9, .r 10, .e 11, .r 12] ?_
    iterate 7 refine Wq ?_
    refine SQ_rd rfl (RD_lookupS (m := spV (A ++ (⟨xx.k, xx.b, (addX (s.at v b) x)⟩ : SpD) :: B)) (k := (v, b)) (v := .map (some xx.b)) rfl rfl (by rw [hspe, hmn2]; rfl)) Has.ms rfl ?_
    refine SQ_call rfl Tryz.call213 (.cons rfl (.nil)) (maps_Keys xx.b) (lts rfl) ?_
    rintro _ L6 ⟨kb, rfl, hL6⟩
    refine ⟨.lands hL6 (.w rfl (.h Has.wh (.h (Has.ce rfl) (.nil)))), ?_⟩
    refine SQ.lands hL6 ?_
    refine SQ_call rfl Tryz.call212 (.cons rfl (.nil)) (CallsK.atPM (go_Sorted kb xx.b (addX (s.at v b) x) hl hI)) (lts rfl) ?_
    rintro _ L7 ⟨sa, sc, rfl, hL7⟩
    refine ⟨.lands hL7 (.h Has.ms (.h Has.wh (.h (Has.ce rfl) (.nil)))), ?_⟩
    refine SQ.lands hL7 ?_
    refine SQ_pu rfl (RD_build (.cons rfl (.cons rfl (.cons rfl (.nil)))) built39_0_1_2) rfl ?_
    refine SQ_ox0 rfl (OX_stA Tryz.sizeOf39 rfl rfl rfl rfl) ?_
    rintro _ _ rfl
    refine ⟨.w rfl (.w rfl (.w rfl (.nil))), ?_⟩
    refine Wq ?_
    iterate 2 refine Ws ?_
    refine SC_retCT rfl Tryz.isAgg39 Tryz.sizeOf39 rfl rfl rfl Has.wh ?_
    refine ⟨⟨v, b, ⟨sa, (addX (s.at v b) x).length, sc, sortI (addX (s.at v b) x)⟩⟩, by rw [decide_eq_true hlt]; rfl, fun _ => ⟨rfl, rfl, rfl⟩, by exact (List.mergeSort_perm _ _).length_eq, ?_⟩
    have hpm : (A ++ (⟨xx.k, xx.b, (addX (s.at v b) x)⟩ : SpD) :: B).map SpD.p = (s.put x v b).m := by
      unfold TaS.put
      dsimp only
      rw [← hds, ← hxk]
      exact sp_put hA2
    dsimp only
    exact (Lands.trans (Lands.take1t (A := mapP intK xx.b (setV (addX (s.at v b) x))) (B := vots (A ++ B)) (hvo _)) ((close_tal p (s.put x v b) (bm := bm) (bo := bo) (ds := A ++ (⟨xx.k, xx.b, (addX (s.at v b) x)⟩ : SpD) :: B) hpm (e0_ := hw)).trans .fin))

end Go.Proofs.YtdhpjdhloaoepaaGreat

/- What one may vote for, with certificates of any row. -/
namespace Go.Proofs.YtdhpjdhloaoepaaGreat
open Go Go.Proofs
attribute [local irreducible] SC SN SR SQ SA SO
set_option maxRecDepth 100000
structure SfS where
  t : Nat
  hv : Int
  hb : Int
  hby : List Int
  lock : Int
  last : Int
def SfS.see1 (s : SfS) (v b : Int) (l : List Int) : SfS := if v > s.hv then ⟨s.t, v, b, l, s.lock, s.last⟩ else s
def SfS.lock2 (s : SfS) (st : TS) (b1 : Int) : Int := if viewOf (mget st.T b1) > viewOf (mget st.T s.lock) then b1 else s.lock
def SfS.see (s : SfS) (st : TS) (v b : Int) (l : List Int) : Int × SfS :=
  if (mget st.T b).isSome = false ∨ v ≠ viewOf (mget st.T b) then (0, s)
  else (if fixes st b then parOf st (parOf st b) else 0, ⟨s.t, (s.see1 v b l).hv, (s.see1 v b l).hb, (s.see1 v b l).hby, s.lock2 st (parOf st b), s.last⟩)

def sfI (p : Nat) (s : SfS) : HProp := fun h => ∃ (a : Option Addr) (c : Nat), Den [pt p (.cells [.pointer (some ⟨s.t, 0, none⟩), .int .i64 s.hv, .int .i64 s.hb, .slice a s.hby.length c, .int .i64 s.lock, .int .i64 s.last].toArray 166), rowP 3 1 a s.hby.length c (s.hby.map intV)] h
theorem open_sf {p : Nat} {s : SfS} : Opens sfI p s (fun x : (Option Addr) × (Nat) => True) (fun x R => (pt p (.cells [.pointer (some ⟨s.t, 0, none⟩), .int .i64 s.hv, .int .i64 s.hb, .slice x.1 s.hby.length x.2, .int .i64 s.lock, .int .i64 s.last].toArray 166)) :: (rowP 3 1 x.1 s.hby.length x.2 (s.hby.map intV)) :: R) := by
  rintro R m_ ⟨m1, m2, d, e, ⟨a, c, h_⟩, r⟩
  exact ⟨(a, c), trivial, Den_app d e h_ r⟩
theorem close_sf {L R R1_ : List HProp} (p : Nat) (s : SfS) {a : Option Addr} {c : Nat} {y1_ : Nat} {y2_ : Int} {y3_ : Int} {y4_ : Nat} {y5_ : Int} {y6_ : Int} {y7_ : Nat} {y8_ : List Value} [t0_ : TakePt L p (.cells [.pointer (some ⟨y1_, 0, none⟩), .int .i64 y2_, .int .i64 y3_, .slice a y4_ c, .int .i64 y5_, .int .i64 y6_].toArray 166) R1_] [t1_ : TakeRow R1_ a 3 1 y7_ c y8_ R]  (e0_ : s.t = y1_ := by rfl) (e1_ : s.hv = y2_ := by rfl) (e2_ : s.hb = y3_ := by rfl) (e3_ : s.hby.length = y4_ := by rfl) (e4_ : s.lock = y5_ := by rfl) (e5_ : s.last = y6_ := by rfl) (e6_ : s.hby.length = y7_ := by rfl) (e7_ : s.hby.map intV = y8_ := by rfl) : Lands L (At sfI p s :: R) := fun q_ H_ => by
  subst e0_; subst e1_; subst e2_; subst e3_; subst e4_; subst e5_; subst e6_; subst e7_;
  obtain ⟨a0_, b0_, d0_, i0_, p0_, r0_⟩ := Den_perm t0_.perm q_ H_
  obtain ⟨a1_, b1_, d1_, i1_, p1_, r1_⟩ := Den_perm t1_.perm b0_ r0_
  have H2_ : Den ([pt p (.cells [.pointer (some ⟨s.t, 0, none⟩), .int .i64 s.hv, .int .i64 s.hb, .slice a s.hby.length c, .int .i64 s.lock, .int .i64 s.last].toArray 166), rowP 3 1 a s.hby.length c (s.hby.map intV)] ++ R) q_ := ⟨a0_, b0_, d0_, i0_, p0_, ⟨a1_, b1_, d1_, i1_, p1_, r1_⟩⟩
  exact Lands.wrap (A := At sfI p s) (fun z_ hz_ => ⟨a, c, hz_⟩) q_ H2_
theorem sf_New {W : World} {F : List HProp} [Abs F] (t : Nat) (st : TS) :
    CallsK W Tryz.prog 53 #[.pointer (some ⟨t, 0, none⟩)] (At treeI t st :: F) (fun v L => ∃ p, v = .pointer (some ⟨p, 0, none⟩) ∧ Lands L (At sfI p ⟨t, 0, st.root, [], st.root, 0⟩ :: At treeI t st :: F)) := by
  refine CallsK_enter (n := 11) Tryz.func53 rfl rfl rfl ?_
  iterate 9 refine Ws ?_
  refine Wc (CallsK.at (tree_Root t st)) ?_
  refine SR_pu (RD_build (.cons rfl (.nil)) built39_1) rfl ?_
  refine Ws ?_
  refine Wc (CallsK.at (tree_Root t st)) ?_
  refine SR_pu (RD_build (.cons rfl (.cons rfl (.cons rfl (.nil)))) built166_0_1_2) rfl ?_
  refine Wb fun b10 => ?_
  iterate 3 refine Ws ?_
  refine SC_ret1 rfl rfl ?_
  refine ⟨b10, rfl, ?_⟩
  exact (row_new 3 1 none).trans ((close_sf b10 ⟨t, 0, st.root, [], st.root, 0⟩).trans .fin)

theorem sf_High {W : World} {F : List HProp} [Abs F] (p : Nat) (s : SfS) (hb : s.hby.length ≤ 1000000) :
    CallsK W Tryz.prog 76 #[.pointer (some ⟨p, 0, none⟩)] (At sfI p s :: F) (fun v L => ∃ a c, v = QcD.val ⟨s.hv, s.hb, ⟨a, s.hby.length, c, s.hby⟩⟩ ∧ Lands L (rowP 3 1 a s.hby.length c (s.hby.map intV) :: At sfI p s :: F)) := by
  refine CallsK_enter (n := 13) Tryz.func76 rfl rfl rfl ?_
  iterate 2 refine Ws ?_
  refine Wa fun b2 => ?_
  iterate 3 refine Ws ?_
  refine SC.opn (open_sf (p := p)) fun ⟨a, c⟩ _ => ?_
  dsimp only
  iterate 4 refine Ws ?_
  refine SR_rd (RD_loadA (vs := [.int .i64 s.hv, .int .i64 s.hb, .slice a s.hby.length c]) Tryz.isAgg39 Tryz.sizeOf39 rfl rfl) (Has.ces (cs := [.pointer (some ⟨s.t, 0, none⟩), .int .i64 s.hv, .int .i64 s.hb, .slice a s.hby.length c, .int .i64 s.lock, .int .i64 s.last]) fun j v h => by rcases j with _ | _ | _ | j <;> simp at h ⊢ <;> exact h) rfl ?_
  refine Wa fun b3 => ?_
  refine SR_ox0 (OX_stA (vs := [.int .i64 s.hv, .int .i64 s.hb, .slice a s.hby.length c]) Tryz.sizeOf39 rfl rfl rfl rfl) ?_
  rintro _ _ rfl
  iterate 6 refine Ws ?_
  refine We (clone_ints (s.hby.map intV) a s.hby.length c (by simp) (by omega)) ?_
  rintro _ L1 ⟨a10, c10, rfl, hL1⟩
  refine SR.lands hL1 ?_
  iterate 7 refine Ws ?_
  refine SR_ox0 (OX_stA (vs := [.int .i64 s.hv, .int .i64 s.hb, .slice a10 s.hby.length c10]) Tryz.sizeOf39 rfl rfl rfl rfl) ?_
  rintro _ _ rfl
  iterate 2 refine Ws ?_
  refine SC_retC rfl Tryz.isAgg39 Tryz.sizeOf39 rfl rfl Has.wh ?_
  exact ⟨_, _, rfl, ((close_sf p s).trans .fin)⟩

theorem sf_See {W : World} {F : List HProp} [Abs F] (p : Nat) (s : SfS) (st : TS) (hvb : ∀ d, -1 ≤ viewOf (mget st.T d) ∧ viewOf (mget st.T d) ≤ 1000000000) (v b : Int) (ql : List Int) (qa : Option Addr) (qn qc : Nat) {cs : List Value} [HasRow F qa cs] (hcs : cs = ql.map intV) (hqn : ql.length = qn) (hqb : qn ≤ 1000000) :
    CallsK W Tryz.prog 187 #[.pointer (some ⟨p, 0, none⟩), .agg #[.int .i64 v, .int .i64 b, .slice qa qn qc]] (At sfI p s :: At treeI s.t st :: F) (fun u L => u = .int .i64 (s.see st v b ql).1 ∧ Lands L (At sfI p (s.see st v b ql).2 :: At treeI s.t st :: F)) := by
  refine CallsK_enter (n := 130) Tryz.func187 rfl rfl rfl ?_
  have hv1 := hvb (parOf st b)
  have hv2 := hvb (parOf st (parOf st b))
  subst hcs; subst hqn
  iterate 2 refine Ws ?_
  refine Wb fun b3 => ?_
  iterate 5 refine Ws ?_
  refine SC.opn (open_sf (p := p)) fun ⟨a, c⟩ _ => ?_
  dsimp only
  refine Wd [.r 0, .r 1, .r 2, .r 3, .r 4, .r 5, .e 6, .r 7, .r 8, .r 9, .r 10, .r 11, .r 12, .r 13, .r 14, .r 15, .r 16, .e 17, .r 18, .r 19] ?_
  iterate 6 refine Wq ?_
  refine SQ_call rfl Tryz.call111 (.cons rfl (.cons rfl (.nil))) (CallsK.at (tree_Has s.t st b)) (lts rfl) ?_
  rintro _ L1 ⟨rfl, hL1⟩
  refine ⟨.lands hL1 (.w rfl (.w rfl (.nil))), ?_⟩
  refine SQ.lands hL1 ?_
  iterate 2 refine Wq ?_
  refine SQ_guard (i := 9) rfl rfl rfl (fun hg1_8 => ?_) (fun hg1_8 => ?_)
  · first
      | refine SQ_pyes rfl rfl rfl (hg1_8) (RD_fieldAddr0 Tryz.runUnderlying39 rfl rfl Tryz.sizeOf3 rfl) rfl ?_
      | refine SQ_yes rfl rfl rfl (hg1_8) (RD_fieldAddrO 0 Tryz.runUnderlying39 rfl rfl Tryz.sizeOf3 rfl (by simp <;> omega)) Has.ro rfl ?_
    refine SQ_yes rfl rfl rfl (hg1_8) (RD_load Tryz.isAgg3 rfl) (Has.ce rfl) rfl ?_
    refine SQ_pyes rfl rfl rfl (hg1_8) (RD_move rfl) rfl ?_
    first
      | refine SQ_pyes rfl rfl rfl (hg1_8) (RD_nilCheck rfl) rfl ?_
      | refine SQ_pyes rfl rfl rfl (hg1_8) (RD_nilCheckF rfl) rfl ?_
    first
      | refine SQ_pyes rfl rfl rfl (hg1_8) (RD_fieldAddr0 Tryz.runUnderlying166 rfl rfl Tryz.sizeOf81 rfl) rfl ?_
      | refine SQ_yes rfl rfl rfl (hg1_8) (RD_fieldAddrO 0 Tryz.runUnderlying166 rfl rfl Tryz.sizeOf81 rfl (by simp <;> omega)) Has.ro rfl ?_
    refine SQ_yes rfl rfl rfl (hg1_8) (RD_load Tryz.isAgg81 rfl) (Has.ce rfl) rfl ?_
    first
      | refine SQ_pyes rfl rfl rfl (hg1_8) (RD_fieldAddr 1 Tryz.runUnderlying39 rfl rfl Tryz.sizeOf3 rfl) rfl ?_
      | refine SQ_yes rfl rfl rfl (hg1_8) (RD_fieldAddrO 1 Tryz.runUnderlying39 rfl rfl Tryz.sizeOf3 rfl (by simp <;> omega)) Has.ro rfl ?_
    refine SQ_yes rfl rfl rfl (hg1_8) (RD_load Tryz.isAgg3 rfl) (Has.ce rfl) rfl ?_
    refine SQ_one (SA_call rfl (.mk rfl rfl (hg1_8)) Tryz.call165 (.cons rfl (.cons rfl (.nil))) (CallsK.at (tree_View s.t st (b))) (lts rfl) ?_)
    rintro _ L2 ⟨rfl, hL2⟩
    refine ⟨.lands hL2 (.w rfl (.w rfl (.h (Has.ce rfl) (.h (Has.ce rfl) (.h (Has.ce rfl) (.nil)))))), ?_⟩
    refine SQ.lands hL2 ?_
    refine SQ_pyes rfl rfl rfl (hg1_8) (RD_neq rfl rfl) rfl ?_
    refine SQ_pu rfl (RD_pick_f rfl (hg1_8) rfl) rfl ?_
    iterate 2 refine Ws ?_
    refine SC_cond rfl (fun hc27 => ?_) (fun hc27 => ?_)
    · have hbad : (mget st.T b).isSome = false ∨ v ≠ viewOf (mget st.T b) := .inr (by simpa using hc27)
      iterate 5 refine Ws ?_
      refine SC_ret1 rfl rfl ?_
      unfold SfS.see
      rw [if_pos hbad]
      exact ⟨rfl, ((close_sf p s).trans .fin)⟩
    · have hok : ¬ ((mget st.T b).isSome = false ∨ v ≠ viewOf (mget st.T b)) := by
        have h1 : ¬ (mget st.T b).isSome = false := fun h => by rw [h] at hg1_8; cases hg1_8
        have h2 : v = viewOf (mget st.T b) := by simpa using hc27
        exact fun h => h.elim h1 (fun h => h h2)
      iterate 4 refine Ws ?_
      refine SC_join2 (X := {x : Int × Int × List Int × Option Addr × Nat // x.1 = (s.see1 v b ql).hv ∧ x.2.1 = (s.see1 v b ql).hb ∧ x.2.2.1 = (s.see1 v b ql).hby}) (fun x => [(0, .pointer (some ⟨p, 0, none⟩)), (3, .pointer (some ⟨b3, 0, none⟩))]) (fun x => pt p (.cells [.pointer (some ⟨s.t, 0, none⟩), .int .i64 x.1.1, .int .i64 x.1.2.1, .slice x.1.2.2.2.1 x.1.2.2.1.length x.1.2.2.2.2, .int .i64 s.lock, .int .i64 s.last].toArray 166) :: rowP 3 1 x.1.2.2.2.1 x.1.2.2.1.length x.1.2.2.2.2 (x.1.2.2.1.map intV) :: pt b3 (.cells [.int .i64 v, .int .i64 b, .slice qa ql.length qc].toArray 39) :: At treeI s.t st :: F) (fun ⟨⟨h1, h2, h3, a, c⟩, hx⟩ => ?_) (fun J0 => ?_)
      · dsimp only at hx ⊢
        obtain ⟨rfl, rfl, rfl⟩ := hx
        iterate 15 refine Ws ?_
        refine Wc (CallsK.at (tree_Parent s.t st b)) ?_
        rw [show (mget st.T b).elim 0 Blk.jb = parOf st b from rfl]
        iterate 10 refine Ws ?_
        refine Wc (CallsK.at (tree_Parent s.t st (parOf st b))) ?_
        rw [show (mget st.T (parOf st b)).elim 0 Blk.jb = parOf st (parOf st b) from rfl]
        iterate 5 refine Ws ?_
        refine SC_join2 (X := {x : Int // x = s.lock2 st (parOf st b)}) (fun x => [(0, .pointer (some ⟨p, 0, none⟩)), (5, .int .i64 b), (6, .int .i64 (parOf st b)), (7, .int .i64 (parOf st (parOf st b)))]) (fun x => pt p (.cells [.pointer (some ⟨s.t, 0, none⟩), .int .i64 (s.see1 v b ql).hv, .int .i64 (s.see1 v b ql).hb, .slice a (s.see1 v b ql).hby.length c, .int .i64 x.1, .int .i64 s.last].toArray 166) :: rowP 3 1 a (s.see1 v b ql).hby.length c ((s.see1 v b ql).hby.map intV) :: pt b3 (.cells [.int .i64 v, .int .i64 b, .slice qa ql.length qc].toArray 39) :: At treeI s.t st :: F) (fun ⟨lk, hx⟩ => ?_) (fun J0 => ?_)
        · dsimp only at hx ⊢
          subst hx
          iterate 3 refine Ws ?_
          refine Wd [.r 0, .r 1, .r 2, .r 3, .r 4, .e 5, .r 6, .r 7, .r 8, .r 9, .r 10, .r 11, .r 12, .e 13, .r 14, .r 15, .r 16, .r 17, .r 18, .r 19, .r 20, .r 21, .r 23, .r 24, .r 25, .r 26, .r 27, .e 22, .e 28, .r 29, .r 30, .r 31, .r 32, .r 33, .r 34, .r 35, .r 36, .r 37, .r 39, .r 40, .r 41, .r 42, .r 43, .e 38, .e 44, .r 45, .r 46, .r 47] ?_
          iterate 5 refine Wq ?_
          refine SQ_call rfl Tryz.call82 (.cons rfl (.nil)) (CallsK.at (tree_Root s.t st)) (lts rfl) ?_
          rintro _ L8 ⟨rfl, hL8⟩
          refine ⟨.lands hL8 (.w rfl (.nil)), ?_⟩
          refine SQ.lands hL8 ?_
          iterate 2 refine Wq ?_
          refine SQ_guard (i := 8) rfl rfl rfl (fun hg11_7 => ?_) (fun hg11_7 => ?_)
          · refine SQ_pyes rfl rfl rfl (hg11_7) (RD_move rfl) rfl ?_
            refine SQ_pyes rfl rfl rfl (hg11_7) (RD_move rfl) rfl ?_
            first
              | refine SQ_pyes rfl rfl rfl (hg11_7) (RD_nilCheck rfl) rfl ?_
              | refine SQ_pyes rfl rfl rfl (hg11_7) (RD_nilCheckF rfl) rfl ?_
            first
              | refine SQ_pyes rfl rfl rfl (hg11_7) (RD_fieldAddr0 Tryz.runUnderlying166 rfl rfl Tryz.sizeOf81 rfl) rfl ?_
              | refine SQ_yes rfl rfl rfl (hg11_7) (RD_fieldAddrO 0 Tryz.runUnderlying166 rfl rfl Tryz.sizeOf81 rfl (by simp <;> omega)) Has.ro rfl ?_
            refine SQ_yes rfl rfl rfl (hg11_7) (RD_load Tryz.isAgg81 rfl) (Has.ce rfl) rfl ?_
            refine SQ_one (SA_call rfl (.mk rfl rfl (hg11_7)) Tryz.call82 (.cons rfl (.nil)) (CallsK.at (tree_Root s.t st)) (lts rfl) ?_)
            rintro _ L8 ⟨rfl, hL8⟩
            refine ⟨.lands hL8 (.w rfl (.h (Has.ce rfl) (.nil))), ?_⟩
            refine SQ.lands hL8 ?_
            refine SQ_pyes rfl rfl rfl (hg11_7) (RD_eql rfl rfl) rfl ?_
            refine SQ_pu rfl (RD_pick_f rfl (hg11_7) rfl) rfl ?_
            refine Wq ?_
            refine SQ_guard (i := 17) rfl rfl rfl (fun hg11_16 => ?_) (fun hg11_16 => ?_)
            · refine SQ_pyes rfl rfl rfl (hg11_16) (RD_move rfl) rfl ?_
              first
                | refine SQ_pyes rfl rfl rfl (hg11_16) (RD_nilCheck rfl) rfl ?_
                | refine SQ_pyes rfl rfl rfl (hg11_16) (RD_nilCheckF rfl) rfl ?_
              first
                | refine SQ_pyes rfl rfl rfl (hg11_16) (RD_fieldAddr0 Tryz.runUnderlying166 rfl rfl Tryz.sizeOf81 rfl) rfl ?_
                | refine SQ_yes rfl rfl rfl (hg11_16) (RD_fieldAddrO 0 Tryz.runUnderlying166 rfl rfl Tryz.sizeOf81 rfl (by simp <;> omega)) Has.ro rfl ?_
              refine SQ_yes rfl rfl rfl (hg11_16) (RD_load Tryz.isAgg81 rfl) (Has.ce rfl) rfl ?_
              refine SQ_pyes rfl rfl rfl (hg11_16) (RD_move rfl) rfl ?_
              refine SQ_pyes rfl rfl rfl (hg11_16) (RD_move rfl) rfl ?_
              first
                | refine SQ_pyes rfl rfl rfl (hg11_16) (RD_nilCheck rfl) rfl ?_
                | refine SQ_pyes rfl rfl rfl (hg11_16) (RD_nilCheckF rfl) rfl ?_
              first
                | refine SQ_pyes rfl rfl rfl (hg11_16) (RD_fieldAddr0 Tryz.runUnderlying166 rfl rfl Tryz.sizeOf81 rfl) rfl ?_
                | refine SQ_yes rfl rfl rfl (hg11_16) (RD_fieldAddrO 0 Tryz.runUnderlying166 rfl rfl Tryz.sizeOf81 rfl (by simp <;> omega)) Has.ro rfl ?_
              refine SQ_yes rfl rfl rfl (hg11_16) (RD_load Tryz.isAgg81 rfl) (Has.ce rfl) rfl ?_
              refine SQ_pyes rfl rfl rfl (hg11_16) (RD_move rfl) rfl ?_
              refine SQ_one (SA_call rfl (.mk rfl rfl (hg11_16)) Tryz.call165 (.cons rfl (.cons rfl (.nil))) (CallsK.at (tree_View s.t st (b))) (lts rfl) ?_)
              rintro _ L9 ⟨rfl, hL9⟩
              refine ⟨.lands hL9 (.h (Has.ce rfl) (.w rfl (.h (Has.ce rfl) (.h (Has.ce rfl) (.nil))))), ?_⟩
              refine SQ.lands hL9 ?_
              refine SQ_one (SA_call rfl (.mk rfl rfl (hg11_16)) Tryz.call165 (.cons rfl (.cons rfl (.nil))) (CallsK.at (tree_View s.t st (parOf st b))) (lts rfl) ?_)
              rintro _ L10 ⟨rfl, hL10⟩
              refine ⟨.lands hL10 (.w rfl (.h (Has.ce rfl) (.h (Has.ce rfl) (.h (Has.ce rfl) (.nil))))), ?_⟩
              refine SQ.lands hL10 ?_
              refine SQ_pyes rfl rfl rfl (hg11_16) (RD_addi rfl rfl (by omega) (by omega)) rfl ?_
              refine SQ_pyes rfl rfl rfl (hg11_16) (RD_neq rfl rfl) rfl ?_
              refine SQ_pu rfl (RD_pick_f rfl (hg11_16) rfl) rfl ?_
              refine Wq ?_
              refine SQ_guard (i := 33) rfl rfl rfl (fun hg11_32 => ?_) (fun hg11_32 => ?_)
              · refine SQ_pyes rfl rfl rfl (hg11_32) (RD_move rfl) rfl ?_
                first
                  | refine SQ_pyes rfl rfl rfl (hg11_32) (RD_nilCheck rfl) rfl ?_
                  | refine SQ_pyes rfl rfl rfl (hg11_32) (RD_nilCheckF rfl) rfl ?_
                first
                  | refine SQ_pyes rfl rfl rfl (hg11_32) (RD_fieldAddr0 Tryz.runUnderlying166 rfl rfl Tryz.sizeOf81 rfl) rfl ?_
                  | refine SQ_yes rfl rfl rfl (hg11_32) (RD_fieldAddrO 0 Tryz.runUnderlying166 rfl rfl Tryz.sizeOf81 rfl (by simp <;> omega)) Has.ro rfl ?_
                refine SQ_yes rfl rfl rfl (hg11_32) (RD_load Tryz.isAgg81 rfl) (Has.ce rfl) rfl ?_
                refine SQ_pyes rfl rfl rfl (hg11_32) (RD_move rfl) rfl ?_
                refine SQ_pyes rfl rfl rfl (hg11_32) (RD_move rfl) rfl ?_
                first
                  | refine SQ_pyes rfl rfl rfl (hg11_32) (RD_nilCheck rfl) rfl ?_
                  | refine SQ_pyes rfl rfl rfl (hg11_32) (RD_nilCheckF rfl) rfl ?_
                first
                  | refine SQ_pyes rfl rfl rfl (hg11_32) (RD_fieldAddr0 Tryz.runUnderlying166 rfl rfl Tryz.sizeOf81 rfl) rfl ?_
                  | refine SQ_yes rfl rfl rfl (hg11_32) (RD_fieldAddrO 0 Tryz.runUnderlying166 rfl rfl Tryz.sizeOf81 rfl (by simp <;> omega)) Has.ro rfl ?_
                refine SQ_yes rfl rfl rfl (hg11_32) (RD_load Tryz.isAgg81 rfl) (Has.ce rfl) rfl ?_
                refine SQ_pyes rfl rfl rfl (hg11_32) (RD_move rfl) rfl ?_
                refine SQ_one (SA_call rfl (.mk rfl rfl (hg11_32)) Tryz.call165 (.cons rfl (.cons rfl (.nil))) (CallsK.at (tree_View s.t st (parOf st b))) (lts rfl) ?_)
                rintro _ L11 ⟨rfl, hL11⟩
                refine ⟨.lands hL11 (.h (Has.ce rfl) (.w rfl (.h (Has.ce rfl) (.h (Has.ce rfl) (.h (Has.ce rfl) (.h (Has.ce rfl) (.nil))))))), ?_⟩
                refine SQ.lands hL11 ?_
                refine SQ_one (SA_call rfl (.mk rfl rfl (hg11_32)) Tryz.call165 (.cons rfl (.cons rfl (.nil))) (CallsK.at (tree_View s.t st (parOf st (parOf st b)))) (lts rfl) ?_)
                rintro _ L12 ⟨rfl, hL12⟩
                refine ⟨.lands hL12 (.w rfl (.h (Has.ce rfl) (.h (Has.ce rfl) (.h (Has.ce rfl) (.h (Has.ce rfl) (.h (Has.ce rfl) (.nil))))))), ?_⟩
                refine SQ.lands hL12 ?_
                refine SQ_pyes rfl rfl rfl (hg11_32) (RD_addi rfl rfl (by omega) (by omega)) rfl ?_
                refine SQ_pyes rfl rfl rfl (hg11_32) (RD_neq rfl rfl) rfl ?_
                refine SQ_pu rfl (RD_pick_f rfl (hg11_32) rfl) rfl ?_
                iterate 2 refine Ws ?_
                refine SC_cond rfl (fun hc128 => ?_) (fun hc128 => ?_)
                · iterate 5 refine Ws ?_
                  refine SC_ret1 rfl rfl ?_
                  have hnf : ¬ fixes st b := fun h => h (.inr (.inr (.inr (by simpa using hc128))))
                  unfold SfS.see
                  rw [if_neg hok, if_neg hnf]
                  exact ⟨rfl, (close_sf p ⟨s.t, (s.see1 v b ql).hv, (s.see1 v b ql).hb, (s.see1 v b ql).hby, s.lock2 st (parOf st b), s.last⟩).trans .fin⟩
                · iterate 8 refine Ws ?_
                  refine SC_ret1 rfl rfl ?_
                  have hf : fixes st b := fun h => by
                    rcases h with h | h | h | h
                    · exact absurd h (by simpa using hg11_7)
                    · exact absurd h (by simpa using hg11_16)
                    · exact absurd h (by simpa using hg11_32)
                    · exact absurd h (by simpa using hc128)
                  unfold SfS.see
                  rw [if_neg hok, if_pos hf]
                  exact ⟨rfl, (close_sf p ⟨s.t, (s.see1 v b ql).hv, (s.see1 v b ql).hb, (s.see1 v b ql).hby, s.lock2 st (parOf st b), s.last⟩).trans .fin⟩
              · refine SQ_no rfl rfl rfl (hg11_32) (lts rfl) ?_
                refine SQ_no rfl rfl rfl (hg11_32) (lts rfl) ?_
                refine SQ_no rfl rfl rfl (hg11_32) (lts rfl) ?_
                refine SQ_no rfl rfl rfl (hg11_32) (lts rfl) ?_
                refine SQ_no rfl rfl rfl (hg11_32) (lts rfl) ?_
                refine SQ_no rfl rfl rfl (hg11_32) (lts rfl) ?_
                refine SQ_no rfl rfl rfl (hg11_32) (lts rfl) ?_
                refine SQ_no rfl rfl rfl (hg11_32) (lts rfl) ?_
                refine SQ_no rfl rfl rfl (hg11_32) (lts rfl) ?_
                refine SQ_no rfl rfl rfl (hg11_32) (lts rfl) ?_
                refine SQ_no1 rfl rfl rfl (hg11_32) (lts rfl) ?_
                refine SQ_no1 rfl rfl rfl (hg11_32) (lts rfl) ?_
                refine SQ_no rfl rfl rfl (hg11_32) (lts rfl) ?_
                refine SQ_no rfl rfl rfl (hg11_32) (lts rfl) ?_
                refine SQ_pu rfl (RD_pick_t rfl (hg11_32) rfl) rfl ?_
                iterate 2 refine Ws ?_
                refine SC_cond_true rfl (rfl) ?_
                iterate 5 refine Ws ?_
                refine SC_ret1 rfl rfl ?_
                have hnf : ¬ fixes st b := fun h => h (.inr (.inr (.inl (by simpa using hg11_32))))
                unfold SfS.see
                rw [if_neg hok, if_neg hnf]
                exact ⟨rfl, (close_sf p ⟨s.t, (s.see1 v b ql).hv, (s.see1 v b ql).hb, (s.see1 v b ql).hby, s.lock2 st (parOf st b), s.last⟩).trans .fin⟩
            · refine SQ_no rfl rfl rfl (hg11_16) (lts rfl) ?_
              refine SQ_no rfl rfl rfl (hg11_16) (lts rfl) ?_
              refine SQ_no rfl rfl rfl (hg11_16) (lts rfl) ?_
              refine SQ_no rfl rfl rfl (hg11_16) (lts rfl) ?_
              refine SQ_no rfl rfl rfl (hg11_16) (lts rfl) ?_
              refine SQ_no rfl rfl rfl (hg11_16) (lts rfl) ?_
              refine SQ_no rfl rfl rfl (hg11_16) (lts rfl) ?_
              refine SQ_no rfl rfl rfl (hg11_16) (lts rfl) ?_
              refine SQ_no rfl rfl rfl (hg11_16) (lts rfl) ?_
              refine SQ_no rfl rfl rfl (hg11_16) (lts rfl) ?_
              refine SQ_no1 rfl rfl rfl (hg11_16) (lts rfl) ?_
              refine SQ_no1 rfl rfl rfl (hg11_16) (lts rfl) ?_
              refine SQ_no rfl rfl rfl (hg11_16) (lts rfl) ?_
              refine SQ_no rfl rfl rfl (hg11_16) (lts rfl) ?_
              refine SQ_pu rfl (RD_pick_t rfl (hg11_16) rfl) rfl ?_
              refine Wq ?_
              refine SQ_no rfl rfl rfl (rfl) (lts rfl) ?_
              refine SQ_no rfl rfl rfl (rfl) (lts rfl) ?_
              refine SQ_no rfl rfl rfl (rfl) (lts rfl) ?_
              refine SQ_no rfl rfl rfl (rfl) (lts rfl) ?_
              refine SQ_no rfl rfl rfl (rfl) (lts rfl) ?_
              refine SQ_no rfl rfl rfl (rfl) (lts rfl) ?_
              refine SQ_no rfl rfl rfl (rfl) (lts rfl) ?_
              refine SQ_no rfl rfl rfl (rfl) (lts rfl) ?_
              refine SQ_no rfl rfl rfl (rfl) (lts rfl) ?_
              refine SQ_no rfl rfl rfl (rfl) (lts rfl) ?_
              refine SQ_no1 rfl rfl rfl (rfl) (lts rfl) ?_
              refine SQ_no1 rfl rfl rfl (rfl) (lts rfl) ?_
              refine SQ_no rfl rfl rfl (rfl) (lts rfl) ?_
              refine SQ_no rfl rfl rfl (rfl) (lts rfl) ?_
              refine SQ_pu rfl (RD_pick_t rfl (rfl) rfl) rfl ?_
              iterate 2 refine Ws ?_
              refine SC_cond_true rfl (rfl) ?_
              iterate 5 refine Ws ?_
              refine SC_ret1 rfl rfl ?_
              have hnf : ¬ fixes st b := fun h => h (.inr (.inl (by simpa using hg11_16)))
              unfold SfS.see
              rw [if_neg hok, if_neg hnf]
              exact ⟨rfl, (close_sf p ⟨s.t, (s.see1 v b ql).hv, (s.see1 v b ql).hb, (s.see1 v b ql).hby, s.lock2 st (parOf st b), s.last⟩).trans .fin⟩
          · refine SQ_no rfl rfl rfl (hg11_7) (lts rfl) ?_
            refine SQ_no rfl rfl rfl (hg11_7) (lts rfl) ?_
            refine SQ_no rfl rfl rfl (hg11_7) (lts rfl) ?_
            refine SQ_no rfl rfl rfl (hg11_7) (lts rfl) ?_
            refine SQ_no rfl rfl rfl (hg11_7) (lts rfl) ?_
            refine SQ_no1 rfl rfl rfl (hg11_7) (lts rfl) ?_
            refine SQ_no rfl rfl rfl (hg11_7) (lts rfl) ?_
            refine SQ_pu rfl (RD_pick_t rfl (hg11_7) rfl) rfl ?_
            refine Wq ?_
            refine SQ_no rfl rfl rfl (rfl) (lts rfl) ?_
            refine SQ_no rfl rfl rfl (rfl) (lts rfl) ?_
            refine SQ_no rfl rfl rfl (rfl) (lts rfl) ?_
            refine SQ_no rfl rfl rfl (rfl) (lts rfl) ?_
            refine SQ_no rfl rfl rfl (rfl) (lts rfl) ?_
            refine SQ_no rfl rfl rfl (rfl) (lts rfl) ?_
            refine SQ_no rfl rfl rfl (rfl) (lts rfl) ?_
            refine SQ_no rfl rfl rfl (rfl) (lts rfl) ?_
            refine SQ_no rfl rfl rfl (rfl) (lts rfl) ?_
            refine SQ_no rfl rfl rfl (rfl) (lts rfl) ?_
            refine SQ_no1 rfl rfl rfl (rfl) (lts rfl) ?_
            refine SQ_no1 rfl rfl rfl (rfl) (lts rfl) ?_
            refine SQ_no rfl rfl rfl (rfl) (lts rfl) ?_
            refine SQ_no rfl rfl rfl (rfl) (lts rfl) ?_
            refine SQ_pu rfl (RD_pick_t rfl (rfl) rfl) rfl ?_
            refine Wq ?_
            refine SQ_no rfl rfl rfl (rfl) (lts rfl) ?_
            refine SQ_no rfl rfl rfl (rfl) (lts rfl) ?_
            refine SQ_no rfl rfl rfl (rfl) (lts rfl) ?_
            refine SQ_no rfl rfl rfl (rfl) (lts rfl) ?_
            refine SQ_no rfl rfl rfl (rfl) (lts rfl) ?_
            refine SQ_no rfl rfl rfl (rfl) (lts rfl) ?_
            refine SQ_no rfl rfl rfl (rfl) (lts rfl) ?_
            refine SQ_no rfl rfl rfl (rfl) (lts rfl) ?_
            refine SQ_no rfl rfl rfl (rfl) (lts rfl) ?_
            refine SQ_no rfl rfl rfl (rfl) (lts rfl) ?_
            refine SQ_no1 rfl rfl rfl (rfl) (lts rfl) ?_
            refine SQ_no1 rfl rfl rfl (rfl) (lts rfl) ?_
            refine SQ_no rfl rfl rfl (rfl) (lts rfl) ?_
            refine SQ_no rfl rfl rfl (rfl) (lts rfl) ?_
            refine SQ_pu rfl (RD_pick_t rfl (rfl) rfl) rfl ?_
            iterate 2 refine Ws ?_
            refine SC_cond_true rfl (rfl) ?_
            iterate 5 refine Ws ?_
            refine SC_ret1 rfl rfl ?_
            have hnf : ¬ fixes st b := fun h => h (.inl (by simpa using hg11_7))
            unfold SfS.see
            rw [if_neg hok, if_neg hnf]
            exact ⟨rfl, (close_sf p ⟨s.t, (s.see1 v b ql).hv, (s.see1 v b ql).hb, (s.see1 v b ql).hby, s.lock2 st (parOf st b), s.last⟩).trans .fin⟩
        · refine Wd [.r 0, .r 1, .r 2, .r 3, .r 4, .r 6, .r 7, .r 8, .r 9, .r 10, .r 11, .r 12, .r 13, .e 5, .e 14, .r 15] ?_
          iterate 13 refine Wq ?_
          refine SQ_call rfl Tryz.call165 (.cons rfl (.cons rfl (.nil))) (CallsK.at (tree_View s.t st (parOf st b))) (lts rfl) ?_
          rintro _ L6 ⟨rfl, hL6⟩
          refine ⟨.lands hL6 (.h (Has.ce rfl) (.h (Has.ce rfl) (.w rfl (.nil)))), ?_⟩
          refine SQ.lands hL6 ?_
          refine SQ_call rfl Tryz.call165 (.cons rfl (.cons rfl (.nil))) (CallsK.at (tree_View s.t st (s.lock))) (lts rfl) ?_
          rintro _ L7 ⟨rfl, hL7⟩
          refine ⟨.lands hL7 (.w rfl (.w rfl (.h (Has.ce rfl) (.nil)))), ?_⟩
          refine SQ.lands hL7 ?_
          refine Wq ?_
          iterate 2 refine Ws ?_
          refine SC_cond rfl (fun hc76 => ?_) (fun hc76 => ?_)
          · iterate 7 refine Ws ?_
            exact J0 (⟨parOf st b, by unfold SfS.lock2; rw [if_pos (by simpa using hc76)]⟩) _ _ (.cons rfl (.cons rfl (.cons rfl (.cons rfl (.nil))))) ((show Lands _ (pt p (.cells [.pointer (some ⟨s.t, 0, none⟩), .int .i64 (s.see1 v b ql).hv, .int .i64 (s.see1 v b ql).hb, .slice a (s.see1 v b ql).hby.length c, .int .i64 (parOf st b), .int .i64 s.last].toArray 166) :: rowP 3 1 a (s.see1 v b ql).hby.length c ((s.see1 v b ql).hby.map intV) :: pt b3 (.cells [.int .i64 v, .int .i64 b, .slice qa ql.length qc].toArray 39) :: At treeI s.t st :: F) from .fin))
          · refine Ws ?_
            exact J0 (⟨s.lock, by unfold SfS.lock2; rw [if_neg (by simpa using hc76)]⟩) _ _ (.cons rfl (.cons rfl (.cons rfl (.cons rfl (.nil))))) ((show Lands _ (pt p (.cells [.pointer (some ⟨s.t, 0, none⟩), .int .i64 (s.see1 v b ql).hv, .int .i64 (s.see1 v b ql).hb, .slice a (s.see1 v b ql).hby.length c, .int .i64 s.lock, .int .i64 s.last].toArray 166) :: rowP 3 1 a (s.see1 v b ql).hby.length c ((s.see1 v b ql).hby.map intV) :: pt b3 (.cells [.int .i64 v, .int .i64 b, .slice qa ql.length qc].toArray 39) :: At treeI s.t st :: F) from .fin))
      · refine Wd [.r 0, .r 1, .r 2, .r 3, .r 4, .r 5, .r 6, .r 7] ?_
        iterate 8 refine Wq ?_
        iterate 2 refine Ws ?_
        refine SC_cond rfl (fun hc35 => ?_) (fun hc35 => ?_)
        · iterate 3 refine Ws ?_
          refine SR_rd (RD_loadA (vs := [.int .i64 v, .int .i64 b, .slice qa ql.length qc]) Tryz.isAgg39 Tryz.sizeOf39 rfl rfl) Has.wh rfl ?_
          iterate 2 refine Ws ?_
          refine SR_ox0 (OX_stAo (vs := [.int .i64 v, .int .i64 b, .slice qa ql.length qc]) (cs := [.pointer (some ⟨s.t, 0, none⟩), .int .i64 s.hv, .int .i64 s.hb, .slice a s.hby.length c, .int .i64 s.lock, .int .i64 s.last]) (cs' := [.pointer (some ⟨s.t, 0, none⟩), .int .i64 v, .int .i64 b, .slice qa ql.length qc, .int .i64 s.lock, .int .i64 s.last]) Tryz.sizeOf39 rfl rfl rfl (by simp) rfl) ?_
          rintro _ _ rfl
          iterate 6 refine Ws ?_
          refine We (clone_ints (ql.map intV) qa ql.length qc (by simp) (by omega)) ?_
          rintro _ L3 ⟨a43, c43, rfl, hL3⟩
          refine SR.lands hL3 ?_
          iterate 5 refine Ws ?_
          exact J0 (⟨(v, b, ql, a43, c43), by unfold SfS.see1; rw [if_pos (by simpa using hc35)]; exact ⟨rfl, rfl, rfl⟩⟩) _ _ (.cons rfl (.cons rfl (.nil))) ((show Lands _ (pt p (.cells [.pointer (some ⟨s.t, 0, none⟩), .int .i64 v, .int .i64 b, .slice a43 ql.length c43, .int .i64 s.lock, .int .i64 s.last].toArray 166) :: rowP 3 1 a43 ql.length c43 (ql.map intV) :: pt b3 (.cells [.int .i64 v, .int .i64 b, .slice qa ql.length qc].toArray 39) :: At treeI s.t st :: F) from .fin))
        · refine Ws ?_
          exact J0 (⟨(s.hv, s.hb, s.hby, a, c), by unfold SfS.see1; rw [if_neg (by simpa using hc35)]; exact ⟨rfl, rfl, rfl⟩⟩) _ _ (.cons rfl (.cons rfl (.nil))) ((show Lands _ (pt p (.cells [.pointer (some ⟨s.t, 0, none⟩), .int .i64 s.hv, .int .i64 s.hb, .slice a s.hby.length c, .int .i64 s.lock, .int .i64 s.last].toArray 166) :: rowP 3 1 a s.hby.length c (s.hby.map intV) :: pt b3 (.cells [.int .i64 v, .int .i64 b, .slice qa ql.length qc].toArray 39) :: At treeI s.t st :: F) from .fin))
  · refine SQ_no rfl rfl rfl (hg1_8) (lts rfl) ?_
    refine SQ_no rfl rfl rfl (hg1_8) (lts rfl) ?_
    refine SQ_no rfl rfl rfl (hg1_8) (lts rfl) ?_
    refine SQ_no rfl rfl rfl (hg1_8) (lts rfl) ?_
    refine SQ_no rfl rfl rfl (hg1_8) (lts rfl) ?_
    refine SQ_no rfl rfl rfl (hg1_8) (lts rfl) ?_
    refine SQ_no rfl rfl rfl (hg1_8) (lts rfl) ?_
    refine SQ_no rfl rfl rfl (hg1_8) (lts rfl) ?_
    refine SQ_no1 rfl rfl rfl (hg1_8) (lts rfl) ?_
    refine SQ_no rfl rfl rfl (hg1_8) (lts rfl) ?_
    refine SQ_pu rfl (RD_pick_t rfl (hg1_8) rfl) rfl ?_
    iterate 2 refine Ws ?_
    have hbad : (mget st.T b).isSome = false ∨ v ≠ viewOf (mget st.T b) := .inl (by simpa using hg1_8)
    refine SC_cond_true rfl (rfl) ?_
    iterate 5 refine Ws ?_
    refine SC_ret1 rfl rfl ?_
    unfold SfS.see
    rw [if_pos hbad]
    exact ⟨rfl, ((close_sf p s).trans .fin)⟩

/-- May one vote for it? What one knows then. -/
def SfS.vote (s : SfS) (st : TS) (d : Int) : Bool × SfS :=
  match mget st.T d with
  | none => (false, s)
  | some b => if b.view ≤ s.last then (false, s) else if b.jv < viewOf (mget st.T s.lock) ∧ st.way s.lock d = none then (false, s) else (true, ⟨s.t, s.hv, s.hb, s.hby, s.lock, b.view⟩)

theorem sf_Vote {W : World} {F : List HProp} [Abs F] (p : Nat) (s : SfS) (st : TS) (hst : st.Ok) (hlk : ∃ c, mget st.T s.lock = some c) (d : Int) (b : Blk) (h : mget st.T d = some b) (hv : b.view.toNat ≤ 1000000) :
    CallsK W Tryz.prog 180 #[.pointer (some ⟨p, 0, none⟩), .int .i64 d] (At sfI p s :: At treeI s.t st :: F) (fun u L => u = .bool (s.vote st d).1 ∧ Lands L (At sfI p (s.vote st d).2 :: At treeI s.t st :: F)) := by
  refine CallsK_enter (n := 64) Tryz.func180 rfl rfl rfl ?_
  iterate 6 refine Ws ?_
  refine SC.opn (open_sf (p := p)) fun ⟨a, c⟩ _ => ?_
  dsimp only
  iterate 6 refine Ws ?_
  refine We (CallsK.at (tree_Block s.t st d)) ?_
  rintro _ L1 ⟨b', rfl, hp', hf', hL1⟩
  rw [h] at hp' ⊢
  have hp2 : b'.pure = b := hp'
  have hbv : b'.view = b.view := congrArg Blk.view hp2
  have hbj : b'.jv = b.jv := congrArg Blk.jv hp2
  refine SR.lands hL1 ?_
  iterate 3 refine Ws ?_
  refine Wa fun b5 => ?_
  refine SR_ox0 (OX_stA (vs := b'.cells) Tryz.sizeOf146 rfl rfl rfl rfl) ?_
  rintro _ _ rfl
  iterate 5 refine Ws ?_
  refine Wd [.r 0, .r 1, .r 2, .r 3, .r 4, .r 5, .r 6, .r 7, .r 8, .r 9, .r 10] ?_
  iterate 3 refine Wq ?_
  first
    | refine SQ_pyes rfl rfl rfl (rfl) (RD_fieldAddr0 Tryz.runUnderlying146 rfl rfl Tryz.sizeOf3 rfl) rfl ?_
    | refine SQ_yes rfl rfl rfl (rfl) (RD_fieldAddrO 0 Tryz.runUnderlying146 rfl rfl Tryz.sizeOf3 rfl (by simp <;> omega)) Has.ro rfl ?_
  refine SQ_yes rfl rfl rfl (rfl) (RD_load (v := .int .i64 b.view) Tryz.isAgg3 rfl) (Has.ce (by rw [← hbv]; rfl)) rfl ?_
  refine SQ_pyes rfl rfl rfl (rfl) (RD_move rfl) rfl ?_
  first
    | refine SQ_pyes rfl rfl rfl (rfl) (RD_nilCheck rfl) rfl ?_
    | refine SQ_pyes rfl rfl rfl (rfl) (RD_nilCheckF rfl) rfl ?_
  first
    | refine SQ_pyes rfl rfl rfl (rfl) (RD_fieldAddr 5 Tryz.runUnderlying166 rfl rfl Tryz.sizeOf3 rfl) rfl ?_
    | refine SQ_yes rfl rfl rfl (rfl) (RD_fieldAddrO 5 Tryz.runUnderlying166 rfl rfl Tryz.sizeOf3 rfl (by simp <;> omega)) Has.ro rfl ?_
  refine SQ_yes rfl rfl rfl (rfl) (RD_load Tryz.isAgg3 rfl) (Has.ce rfl) rfl ?_
  refine SQ_pyes rfl rfl rfl (rfl) (RD_leq rfl rfl) rfl ?_
  refine SQ_pu rfl (RD_pick_f rfl (rfl) rfl) rfl ?_
  iterate 2 refine Ws ?_
  refine SC_cond rfl (fun hc28 => ?_) (fun hc28 => ?_)
  · have hle : b.view ≤ s.last := by simpa using hc28
    iterate 5 refine Ws ?_
    refine SC_ret1 rfl rfl ?_
    unfold SfS.vote
    rw [h]
    dsimp only
    rw [if_pos hle]
    exact ⟨rfl, ((close_sf p s).trans .fin)⟩
  · have hle : ¬ b.view ≤ s.last := by simpa using hc28
    iterate 4 refine Ws ?_
    refine Wd [.r 0, .r 1, .r 2, .r 3, .r 4, .r 5, .r 6, .r 7, .r 8, .e 9, .r 10, .r 11, .r 12, .r 13, .r 14] ?_
    iterate 9 refine Wq ?_
    refine SQ_call rfl Tryz.call186 (.cons rfl (.cons rfl (.cons rfl (.nil)))) (CallsK.at (tree_Path_yes s.t st hst s.lock d hlk ⟨b, h⟩ (by rw [h]; exact hv))) (lts rfl) ?_
    rintro _ L2 ⟨pa, pc, rfl, hL2⟩
    refine ⟨.lands hL2 (.w rfl (.w rfl (.nil))), ?_⟩
    refine SQ.lands hL2 ?_
    iterate 5 refine Wq ?_
    iterate 3 refine Ws ?_
    refine Wd [.r 0, .r 1, .r 2, .r 3, .r 4, .r 5, .r 6, .r 7, .r 8, .r 9, .r 10, .e 11, .r 12, .r 13, .r 14, .r 15, .r 16] ?_
    iterate 2 refine Wq ?_
    refine SQ_rd rfl (RD_load (v := .int .i64 b.jv) Tryz.isAgg3 rfl) (Has.ce (by rw [← hbj]; rfl)) rfl ?_
    iterate 8 refine Wq ?_
    refine SQ_call rfl Tryz.call165 (.cons rfl (.cons rfl (.nil))) (CallsK.at (tree_View s.t st s.lock)) (lts rfl) ?_
    rintro _ L3 ⟨rfl, hL3⟩
    refine ⟨.lands hL3 (.w rfl (.w rfl (.h (Has.ce (by rw [← hbj]; rfl)) (.nil)))), ?_⟩
    refine SQ.lands hL3 ?_
    iterate 2 refine Wq ?_
    refine SQ_guard (i := 14) rfl rfl rfl (fun hg5_13 => ?_) (fun hg5_13 => ?_)
    · refine SQ_pyes rfl rfl rfl (hg5_13) (RD_move rfl) rfl ?_
      refine SQ_pyes rfl rfl rfl (hg5_13) (RD_not rfl) rfl ?_
      refine SQ_pu rfl (RD_pick_t rfl (hg5_13) rfl) rfl ?_
      iterate 2 refine Ws ?_
      refine SC_cond rfl (fun hc58 => ?_) (fun hc58 => ?_)
      · have hj : b.jv < viewOf (mget st.T s.lock) ∧ st.way s.lock d = none := ⟨of_decide_eq_true hg5_13, by simpa using hc58⟩
        iterate 5 refine Ws ?_
        refine SC_ret1 rfl rfl ?_
        unfold SfS.vote
        rw [h]
        dsimp only
        rw [if_neg hle, if_pos hj]
        exact ⟨rfl, ((close_sf p s).trans .fin)⟩
      · have hnj : ¬ (b.jv < viewOf (mget st.T s.lock) ∧ st.way s.lock d = none) := fun h => by rw [h.2] at hc58; cases hc58
        iterate 6 refine Ws ?_
        refine SR_rd (RD_load (v := .int .i64 b.view) Tryz.isAgg3 rfl) (Has.ce (by rw [← hbv]; rfl)) rfl ?_
        iterate 10 refine Ws ?_
        refine SC_ret1 rfl rfl ?_
        unfold SfS.vote
        rw [h]
        dsimp only
        rw [if_neg hle, if_neg hnj]
        exact ⟨rfl, (close_sf p ⟨s.t, s.hv, s.hb, s.hby, s.lock, b.view⟩).trans .fin⟩
    · refine SQ_no rfl rfl rfl (hg5_13) (lts rfl) ?_
      refine SQ_no rfl rfl rfl (hg5_13) (lts rfl) ?_
      refine SQ_pu rfl (RD_pick_f rfl (hg5_13) rfl) rfl ?_
      iterate 2 refine Ws ?_
      have hnj : ¬ (b.jv < viewOf (mget st.T s.lock) ∧ st.way s.lock d = none) := fun h => by have h2 := of_decide_eq_false hg5_13; exact h2 h.1
      refine SC_cond_false rfl (rfl) ?_
      iterate 6 refine Ws ?_
      refine SR_rd (RD_load (v := .int .i64 b.view) Tryz.isAgg3 rfl) (Has.ce (by rw [← hbv]; rfl)) rfl ?_
      iterate 10 refine Ws ?_
      refine SC_ret1 rfl rfl ?_
      unfold SfS.vote
      rw [h]
      dsimp only
      rw [if_neg hle, if_neg hnj]
      exact ⟨rfl, (close_sf p ⟨s.t, s.hv, s.hb, s.hby, s.lock, b.view⟩).trans .fin⟩

end Go.Proofs.YtdhpjdhloaoepaaGreat
