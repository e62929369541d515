/- What is fixed is never contradicted: the statement. -/
import Derived.Test.YtmigjpmadhebfaaFq
namespace Go.Proofs.Ytmigjpmadhebfaa
open Go Go.Proofs
set_option maxRecDepth 100000
/-- Replicas in a row. -/
def safesI (u : Nat) (L : List (Nat × SS)) : HProp := Den (L.map fun z : Nat × SS => At safeI z.1 z.2)
theorem safes_open {u : Nat} {L : List (Nat × SS)} {R : List HProp} : Lands (At safesI u L :: R) (L.map (fun z : Nat × SS => At safeI z.1 z.2) ++ R) := fun q H => by
  obtain ⟨m1, m2, d, e, h, r⟩ := H
  exact Den_append.2 ⟨m1, m2, d, e, h, r⟩
theorem safes_close {u : Nat} {L : List (Nat × SS)} {R : List HProp} : Lands (L.map (fun z : Nat × SS => At safeI z.1 z.2) ++ R) (At safesI u L :: R) := fun q H => by
  obtain ⟨m1, m2, d, e, h, r⟩ := Den_append.1 H
  exact ⟨m1, m2, d, e, h, r⟩
theorem safes_nil {u : Nat} {R : List HProp} : Lands R (At safesI u [] :: R) := safes_close (L := [])
theorem safes_add {u y : Nat} {x : SS} {L : List (Nat × SS)} {R : List HProp} : Lands (At safeI y x :: At safesI u L :: R) (At safesI u (L ++ [(y, x)]) :: R) :=
  (Lands.cons safes_open).trans (Lands.trans (fun q H => Den_perm (by simp; exact (List.perm_middle (l₁ := L.map fun z : Nat × SS => At safeI z.1 z.2) (l₂ := R) (a := At safeI y x)).symm) q H) safes_close)
theorem erase_perm {X : Type} {x : X} : ∀ {L : List X} {w : Nat}, L[w]? = some x → (x :: L.eraseIdx w).Perm L
  | [], w, h => by simp at h
  | y :: L, 0, h => by simp at h; subst h; exact .refl _
  | y :: L, w + 1, h => (List.Perm.swap y x _).trans ((erase_perm (L := L) (w := w) (by simpa using h)).cons y)
theorem safes_take {u u' w y : Nat} {x : SS} {L : List (Nat × SS)} {R : List HProp} (h : L[w]? = some (y, x)) : Lands (At safesI u L :: R) (At safeI y x :: At safesI u' (L.eraseIdx w) :: R) := by
  have hp := erase_perm h
  exact safes_open.trans (Lands.trans (fun q H => Den_perm (List.Perm.append_right R (hp.symm.map fun z : Nat × SS => At safeI z.1 z.2)) q H) (Lands.cons safes_close))
theorem safes_put {u u' w y y' : Nat} {x x' : SS} {L : List (Nat × SS)} {R : List HProp} (h : L[w]? = some (y, x)) : Lands (At safeI y' x' :: At safesI u' (L.eraseIdx w) :: R) (At safesI u (L.set w (y', x')) :: R) := by
  have hp := erase_perm (List.getElem?_set_self (a := (y', x')) (List.getElem?_eq_some_iff.1 h).1)
  rw [List.eraseIdx_set_eq] at hp
  exact (Lands.cons safes_open).trans (Lands.trans (fun q H => Den_perm (List.Perm.append_right R (hp.map fun z : Nat × SS => At safeI z.1 z.2)) q H) safes_close)
theorem set_same {X : Type} {L : List X} {w : Nat} {x : X} (h : L[w]? = some x) : L.set w x = L := by
  obtain ⟨hw, e⟩ := List.getElem?_eq_some_iff.1 h
  rw [← e, List.set_getElem_self]
theorem fst_set {ps : List Nat} {L : List (Nat × SS)} {w y : Nat} {x x' : SS} (h : L.map Prod.fst = ps) (hw : L[w]? = some (y, x)) : (L.set w (y, x')).map Prod.fst = ps := by
  rw [List.map_set, h]
  exact set_same (by rw [← h, List.getElem?_map, hw]; rfl)
def ptrV (p : Nat) : Value := .pointer (some ⟨p, 0, none⟩)
def boolV (b : Bool) : Value := .bool b
def natV (n : Nat) : Value := .int .i64 (n : Int)
instance (p : Nat) : One (ptrV p) := ⟨rfl, rfl⟩
instance (p : Bool) : One (boolV p) := ⟨rfl, rfl⟩
instance (p : Nat) : One (natV p) := ⟨rfl, rfl⟩
theorem bor8 : ∀ m, m < 8 → ∀ w, w < 3 → bor .i64 ((m : Nat) : Int) (IntKind.i64.wrap (1 * 2 ^ (min ((w : Nat) : Int).toNat IntKind.i64.bits))) = ((m ||| 1 <<< w : Nat) : Int) := by decide +kernel

theorem law_onWay {W : World} {F : List HProp} [Abs F] (p b : Nat) (s : TS) (ho : s.Ok) (hv : ∀ d, -1 ≤ viewOf (mget s.T d) ∧ viewOf (mget s.T d) ≤ 200) (f c : Int) (hf : ∃ x, mget s.T f = some x) (hc : ∃ x, mget s.T c = some x) :
    CallsK W Try.prog 35 #[.pointer (some ⟨p, 0, none⟩), .pointer (some ⟨b, 0, none⟩), .int .i64 c] (At treeI p s :: pt b (.cells [.int .i64 f].toArray 3) :: F) (fun v L => v = .bool (onw s f c || onw s c f) ∧ Lands L (At treeI p s :: pt b (.cells [.int .i64 (if onw s f c then c else f)].toArray 3) :: F)) := by
  refine CallsK_enter (n := 34) Try.func35 rfl rfl rfl ?_
  refine SC_seq ?_
  refine SC_region ?_
  refine SR_pu (RD_assign rfl) rfl ?_
  refine SR_nil ?_
  refine SN.le (l := [(0, _), (1, _), (2, _)]) ?_ (.cons rfl (.cons rfl (.cons rfl (.nil))))
  refine SN_seq ?_
  refine SC_seq ?_
  refine SC_seq ?_
  refine SC_region ?_
  refine SR_pu (RD_move rfl) rfl ?_
  refine SR_pu (RD_move rfl) rfl ?_
  first
    | refine SR_pu (RD_nilCheck rfl) rfl ?_
    | refine SR_pu (RD_nilCheckF rfl) rfl ?_
  refine SR_rd (RD_load Try.isAgg3 rfl) (Has.ce rfl) rfl ?_
  refine SR_pu (RD_move rfl) rfl ?_
  refine SR_call Try.call37 (.cons rfl (.cons rfl (.cons rfl (.nil)))) (CallsK.at (tree_Path_yes p s ho f c hf hc (by have := hv c; omega))) (lts rfl) ?_
  rintro _ L1 ⟨ra1, rc1, rfl, hL1⟩
  refine SR.lands hL1 ?_
  refine SR_pu (RD_move rfl) rfl ?_
  refine SR_pu (RD_extract rfl rfl) rfl ?_
  refine SR_pu (RD_extract rfl rfl) rfl ?_
  refine SR_pu (RD_assign rfl) rfl ?_
  refine SR_pu (RD_assign rfl) rfl ?_
  refine SR_nil ?_
  refine SN.le (l := [(0, _), (1, _), (2, _), (8, _)]) ?_ (.cons rfl (.cons rfl (.cons rfl (.cons rfl (.nil)))))
  refine SN_seq ?_
  refine SC_seq ?_
  refine SC_region ?_
  refine SR_pu (RD_move rfl) rfl ?_
  refine SR_nil ?_
  refine SN.le (l := [(0, _), (1, _), (2, _), (20, _)]) ?_ (.cons rfl (.cons rfl (.cons rfl (.cons rfl (.nil)))))
  refine SN_seq ?_
  refine SC_cond rfl (fun hc20 => ?_) (fun hc20 => ?_)
  · have h1 : onw s f c = true := hc20
    rw [h1, if_pos rfl]
    refine SC_seq ?_
    refine SC_region ?_
    refine SR_pu (RD_move rfl) rfl ?_
    refine SR_pu (RD_move rfl) rfl ?_
    first
      | refine SR_pu (RD_nilCheck rfl) rfl ?_
      | refine SR_pu (RD_nilCheckF rfl) rfl ?_
    refine SR_ox0 (OX_st Try.sizeOf3 rfl rfl) ?_
    rintro _ _ rfl
    refine SR_nil ?_
    refine SN.le (l := []) ?_ (.nil)
    refine SN_seq ?_
    refine SC_seq ?_
    refine SC_region ?_
    refine SR_pu (RD_assign rfl) rfl ?_
    refine SR_nil ?_
    refine SN.le (l := [(6, _)]) ?_ (.cons rfl (.nil))
    refine SN_seq ?_
    refine SC_ret1 rfl rfl ?_
    exact ⟨rfl, .fin⟩
  · have h1 : onw s f c = false := hc20
    rw [h1, if_neg (by simp)]
    refine SC_skip ?_
    refine SN_seq ?_
    refine SC_seq ?_
    refine SC_region ?_
    refine SR_pu (RD_move rfl) rfl ?_
    refine SR_pu (RD_move rfl) rfl ?_
    refine SR_pu (RD_move rfl) rfl ?_
    first
      | refine SR_pu (RD_nilCheck rfl) rfl ?_
      | refine SR_pu (RD_nilCheckF rfl) rfl ?_
    refine SR_rd (RD_load Try.isAgg3 rfl) (Has.ce rfl) rfl ?_
    refine SR_call Try.call37 (.cons rfl (.cons rfl (.cons rfl (.nil)))) (CallsK.at (tree_Path_yes p s ho c f hc hf (by have := hv f; omega))) (lts rfl) ?_
    rintro _ L2 ⟨ra2, rc2, rfl, hL2⟩
    refine SR.lands hL2 ?_
    refine SR_pu (RD_move rfl) rfl ?_
    refine SR_pu (RD_extract rfl rfl) rfl ?_
    refine SR_pu (RD_extract rfl rfl) rfl ?_
    refine SR_pu (RD_assign rfl) rfl ?_
    refine SR_pu (RD_assign rfl) rfl ?_
    refine SR_nil ?_
    refine SN.le (l := [(10, _)]) ?_ (.cons rfl (.nil))
    refine SN_seq ?_
    refine SC_seq ?_
    refine SC_region ?_
    refine SR_pu (RD_move rfl) rfl ?_
    refine SR_pu (RD_assign rfl) rfl ?_
    refine SR_nil ?_
    refine SN.le (l := [(6, _)]) ?_ (.cons rfl (.nil))
    refine SN_seq ?_
    refine SC_ret1 rfl rfl ?_
    exact ⟨rfl, .fin⟩

theorem law_onWay_at {W : World} {L R1 R : List HProp} [Abs R] (p b : Nat) (s : TS) (ho : s.Ok) (hv : ∀ d, -1 ≤ viewOf (mget s.T d) ∧ viewOf (mget s.T d) ≤ 200) (f c : Int) (hf : ∃ x, mget s.T f = some x) (hc : ∃ x, mget s.T c = some x) [t : TakeAt L treeI p s R1] [u : TakePt R1 b (.cells [.int .i64 f].toArray 3) R] :
    CallsK W Try.prog 35 #[.pointer (some ⟨p, 0, none⟩), .pointer (some ⟨b, 0, none⟩), .int .i64 c] L (fun v L => v = .bool (onw s f c || onw s c f) ∧ Lands L (At treeI p s :: pt b (.cells [.int .i64 (if onw s f c then c else f)].toArray 3) :: R)) :=
  (law_onWay p b s ho hv f c hf hc).pre fun m H => Den_tail (fun m2 h2 => Den_perm u.perm m2 h2) (Den_perm t.perm m H)

set_option maxHeartbeats 2000000 in
theorem law_SafeForks {W : World} {F : List HProp} [Abs F] (a0 : Option Addr) (n0 c0 : Nat) (l0 : List Int) [HasRow F a0 (l0.map intV)] (hn0 : l0.length = n0) :
    CallsK W Try.prog 5 #[.slice a0 n0 c0] (F) (fun v L => v = .bool true ∧ Lands L F) := by
  refine CallsK_enter (n := 306) Try.func5 rfl rfl rfl ?_
  refine SC_seq ?_
  refine SC_region ?_
  refine SR_pu (RD_assign rfl) rfl ?_
  refine SR_nil ?_
  refine SN.le (l := [(0, _)]) ?_ (.cons rfl (.nil))
  refine SN_seq ?_
  refine SC_seq ?_
  refine SC_region ?_
  refine SR_call Try.call7 (.cons rfl (.nil)) (enve_New 1) (lts rfl) ?_
  rintro _ L0 ⟨k, rfl, hL0⟩
  refine SR.lands hL0 ?_
  refine SR_pu (RD_assign rfl) rfl ?_
  refine SR_nil ?_
  refine SN.le (l := [(0, _), (3, _)]) ?_ (.cons rfl (.cons rfl (.nil)))
  refine SN_seq ?_
  refine SC_seq ?_
  refine SC_seq ?_
  refine SC_region ?_
  refine SR_pu (RD_move rfl) rfl ?_
  refine SR_pu (RD_eqlP Try.underlying30 rfl rfl) rfl ?_
  refine SR_nil ?_
  refine SN.le (l := [(0, _), (3, _), (26, _)]) ?_ (.cons rfl (.cons rfl (.cons rfl (.nil))))
  refine SN_seq ?_
  refine SC_cond_false rfl (rfl) ?_
  refine SC_skip ?_
  refine SN_seq ?_
  refine SC_seq ?_
  refine SC_region ?_
  refine SR_pu (RD_move rfl) rfl ?_
  refine SR_call Try.call28 (.cons rfl (.nil)) (CallsK.at (tree_New k ⟨[], []⟩ (by simp) [rootB] 1 (by decide +kernel) (by decide +kernel))) (lts rfl) ?_
  rintro _ L1 ⟨p, rfl, hL1⟩
  try dsimp only at hL1
  change Lands L1 (At treeI p (tS0 k.p) :: _) at hL1
  refine SR.lands hL1 ?_
  refine SR_pu (RD_assign rfl) rfl ?_
  refine SR_nil ?_
  refine SN.le (l := [(0, _), (3, _), (4, _)]) ?_ (.cons rfl (.cons rfl (.cons rfl (.nil))))
  refine SN_seq ?_
  refine SC_seq ?_
  refine SC_seq ?_
  refine SC_region ?_
  refine SR_pu (RD_move rfl) rfl ?_
  refine SR_pu (RD_eqlP Try.underlying61 rfl rfl) rfl ?_
  refine SR_nil ?_
  refine SN.le (l := [(0, _), (3, _), (4, _), (30, _)]) ?_ (.cons rfl (.cons rfl (.cons rfl (.cons rfl (.nil)))))
  refine SN_seq ?_
  refine SC_cond_false rfl (rfl) ?_
  refine SC_skip ?_
  refine SN_seq ?_
  refine SC_seq ?_
  refine SC_region ?_
  refine SR_pu (RD_assign rfl) rfl ?_
  refine SR_nil ?_
  refine SN.le (l := [(0, _), (3, _), (4, _), (5, _)]) ?_ (.cons rfl (.cons rfl (.cons rfl (.cons rfl (.nil)))))
  refine SN_seq ?_
  refine SC_seq ?_
  refine SC_seq ?_
  refine SC_region ?_
  refine SR_pu (RD_assign rfl) rfl ?_
  refine SR_nil ?_
  refine SN.le (l := [(0, _), (3, _), (4, _), (5, _), (6, _)]) ?_ (.cons rfl (.cons rfl (.cons rfl (.cons rfl (.cons rfl (.nil))))))
  refine SN_seq ?_
  refine SC_block ?_
  refine SC_ind (X := Nat × Option Addr × Nat × List Nat) (fun x => x.1 ≤ 3 ∧ x.2.2.2.length = x.1) (fun x => 3 - x.1) (fun x => [(0, .slice a0 n0 c0), (3, .pointer (some ⟨k.p, 0, none⟩)), (4, .pointer (some ⟨p, 0, none⟩)), (5, .slice x.2.1 x.1 x.2.2.1), (6, .int .i64 (x.1 : Nat))]) (fun x => rowP 64 1 x.2.1 x.1 x.2.2.1 (x.2.2.2.map ptrV) :: At safesI 0 (x.2.2.2.map fun y => (y, (⟨p, 0, 1, 1, 0⟩ : SS))) :: At treeI p (tS0 k.p) :: At worldI k ⟨[rootB], []⟩ :: F) ((0, none, 0, [])) (⟨by simp, rfl⟩) (.cons rfl (.cons rfl (.cons rfl (.cons rfl (.cons rfl (.nil)))))) ((row_new 64 1 none).trans ((Lands.cons (safes_nil (u := 0))).trans (show Lands _ (rowP 64 1 none 0 0 [] :: At safesI 0 [] :: At treeI p (tS0 k.p) :: At worldI k ⟨[rootB], []⟩ :: F) from .fin))) ?_
  intro ⟨i, sa, sc, ps⟩ hi ih0
  obtain ⟨hi1, hpl⟩ := hi
  dsimp only at hi1 hpl ih0 ⊢
  refine SC_seq ?_
  refine SC_seq ?_
  refine SC_region ?_
  refine SR_pu (RD_move rfl) rfl ?_
  refine SR_pu (RD_lss rfl rfl) rfl ?_
  refine SR_nil ?_
  refine SN.le (l := [(0, _), (3, _), (4, _), (5, _), (6, _), (32, _)]) ?_ (.cons rfl (.cons rfl (.cons rfl (.cons rfl (.cons rfl (.cons rfl (.nil)))))))
  refine SN_seq ?_
  refine SC_cond rfl (fun hc32 => ?_) (fun hc32 => ?_)
  · have hin : i < 3 := by simp at hc32; omega
    refine SC_skip ?_
    refine SN_seq ?_
    refine SC_seq ?_
    refine SC_block ?_
    refine SC_seq ?_
    refine SC_region ?_
    refine SR_pu (RD_move rfl) rfl ?_
    refine SR_call Try.call29 (.cons rfl (.nil)) (CallsK.at (safe_New p (tS0 k.p))) (lts rfl) ?_
    rintro _ L3 ⟨y, rfl, hL3⟩
    change Lands L3 (At safeI y ⟨p, 0, 1, 1, 0⟩ :: _) at hL3
    refine SR.lands hL3 ?_
    refine SR_pu (RD_assign rfl) rfl ?_
    refine SR_nil ?_
    refine SN.le (l := [(0, _), (3, _), (4, _), (5, _), (6, _), (7, _)]) ?_ (.cons rfl (.cons rfl (.cons rfl (.cons rfl (.cons rfl (.cons rfl (.nil)))))))
    refine SN_seq ?_
    refine SC_seq ?_
    refine SC_seq ?_
    refine SC_region ?_
    refine SR_pu (RD_move rfl) rfl ?_
    refine SR_pu (RD_eqlP Try.underlying64 rfl rfl) rfl ?_
    refine SR_nil ?_
    refine SN.le (l := [(0, _), (3, _), (4, _), (5, _), (6, _), (7, _), (38, _)]) ?_ (.cons rfl (.cons rfl (.cons rfl (.cons rfl (.cons rfl (.cons rfl (.cons rfl (.nil))))))))
    refine SN_seq ?_
    refine SC_cond_false rfl (rfl) ?_
    refine SC_skip ?_
    refine SN_seq ?_
    refine SC_region ?_
    refine SR_pu (RD_move rfl) rfl ?_
    refine SR_pu (RD_move rfl) rfl ?_
    refine SR_ox (OX_lit1 Try.underlying63 Try.type64 rfl rfl rfl rfl (.cons rfl (.nil)) (.cons rfl (.nil))) rfl ?_
    rintro _ _ ⟨b41, rfl, rfl⟩
    refine SR_ox (OX_app 1 Try.underlying63 Try.underlying63 Try.type64 rfl rfl rfl rfl rfl (by first | rfl | simp; done | (simp; omega)) 8 rfl (by omega) (by omega)) rfl ?_
    rintro _ _ ⟨a42, c42, rfl, rfl⟩
    refine SR_pu (RD_assign rfl) rfl ?_
    refine SR_nil ?_
    refine SN.le (l := [(0, _), (3, _), (4, _), (5, _), (6, _)]) ?_ (.cons rfl (.cons rfl (.cons rfl (.cons rfl (.cons rfl (.nil))))))
    refine SN_block ?_
    refine SN_seq ?_
    refine SC_region ?_
    refine SR_pu (RD_move rfl) rfl ?_
    refine SR_pu (RD_addi rfl rfl (by omega) (by omega)) rfl ?_
    refine SR_pu (RD_assign rfl) rfl ?_
    refine SR_nil ?_
    refine SN.le (l := [(0, _), (3, _), (4, _), (5, _), (6, _)]) ?_ (.cons rfl (.cons rfl (.cons rfl (.cons rfl (.cons rfl (.nil))))))
    refine SC_again (ih0 ((i + 1, a42, c42, ps ++ [y])) (⟨by dsimp only; omega, by simp [hpl]⟩) (by dsimp only; omega)) ((show Lands _ (rowP 64 1 a42 (i + 1) c42 ((ps ++ [y]).map ptrV) :: At safesI 0 ((ps ++ [y]).map fun y => (y, (⟨p, 0, 1, 1, 0⟩ : SS))) :: At treeI p (tS0 k.p) :: At worldI k ⟨[rootB], []⟩ :: F) from by rw [List.map_append, List.map_append]; exact (show Lands _ (rowP 64 1 a42 (i + 1) c42 (ps.map ptrV ++ [.pointer (some ⟨y, 0, none⟩)]) :: At safesI 0 (ps.map (fun y => (y, (⟨p, 0, 1, 1, 0⟩ : SS))) ++ [(y, (⟨p, 0, 1, 1, 0⟩ : SS))]) :: At treeI p (tS0 k.p) :: At worldI k ⟨[rootB], []⟩ :: F) from (Lands.trans (show Lands _ (At safeI y (⟨p, 0, 1, 1, 0⟩ : SS) :: At safesI 0 (ps.map fun y => (y, (⟨p, 0, 1, 1, 0⟩ : SS))) :: rowP 64 1 a42 (i + 1) c42 (ps.map ptrV ++ [.pointer (some ⟨y, 0, none⟩)]) :: At treeI p (tS0 k.p) :: At worldI k ⟨[rootB], []⟩ :: F) from .fin) (safes_add.trans .fin))))) (.cons rfl (.cons rfl (.cons rfl (.cons rfl (.cons' rfl (ie (by dsimp only; omega)) (.nil))))))
  · have hin : i = 3 := by simp at hc32; omega
    subst hin
    clear ih0
    obtain ⟨y0, y1, y2, rfl⟩ : ∃ y0 y1 y2, ps = [y0, y1, y2] := by
      match ps, hpl with
      | [y0, y1, y2], _ => exact ⟨y0, y1, y2, rfl⟩
    refine SC.lands (show Lands _ (rowP 64 1 sa 3 sc ([y0, y1, y2].map ptrV) :: At safesI 0 [(y0, (⟨p, 0, 1, 1, 0⟩ : SS)), (y1, (⟨p, 0, 1, 1, 0⟩ : SS)), (y2, (⟨p, 0, 1, 1, 0⟩ : SS))] :: At treeI p (tS0 k.p) :: At worldI k ⟨[rootB], []⟩ :: F) from (show Lands _ (rowP 64 1 sa 3 sc ([y0, y1, y2].map ptrV) :: At safesI 0 ([y0, y1, y2].map fun y => (y, (⟨p, 0, 1, 1, 0⟩ : SS))) :: At treeI p (tS0 k.p) :: At worldI k ⟨[rootB], []⟩ :: F) from .fin)) ?_
    refine SC_exit rfl ?_
    refine SN_seq ?_
    refine SC_seq ?_
    refine SC_region ?_
    refine SR_pu (RD_move rfl) rfl ?_
    refine SR_call Try.call19 (.cons rfl (.nil)) (CallsK.at (cert_Root k ⟨[rootB], []⟩ (by simp) [rootB] 1 (by decide +kernel) (by decide +kernel))) (lts rfl) ?_
    rintro _ L4 ⟨rfl, hL4⟩
    try dsimp only at hL4
    refine SR.lands hL4 ?_
    refine SR_ox (OX_lit1 Try.underlying24 Try.type3 rfl rfl rfl rfl (.cons rfl (.nil)) (.cons rfl (.nil))) rfl ?_
    rintro _ _ ⟨b45, rfl, rfl⟩
    refine SR_ox (OX_lit1 Try.underlying66 Try.type4 rfl rfl rfl rfl (.cons rfl (.nil)) (.cons rfl (.nil))) rfl ?_
    rintro _ _ ⟨b46, rfl, rfl⟩
    refine SR_pu (RD_assign rfl) rfl ?_
    refine SR_pu (RD_assign rfl) rfl ?_
    refine SR_nil ?_
    refine SN.le (l := [(0, _), (3, _), (4, _), (5, _), (8, _), (9, _)]) ?_ (.cons rfl (.cons rfl (.cons rfl (.cons rfl (.cons rfl (.cons rfl (.nil)))))))
    refine SN_seq ?_
    refine SC_seq ?_
    refine SC_region ?_
    refine SR_ox (OX_lit1 Try.underlying24 Try.type3 rfl rfl rfl rfl (.cons rfl (.nil)) (.cons rfl (.nil))) rfl ?_
    rintro _ _ ⟨b47, rfl, rfl⟩
    refine SR_pu (RD_assign rfl) rfl ?_
    refine SR_nil ?_
    refine SN.le (l := [(0, _), (3, _), (4, _), (5, _), (8, _), (9, _), (10, _)]) ?_ (.cons rfl (.cons rfl (.cons rfl (.cons rfl (.cons rfl (.cons rfl (.cons rfl (.nil))))))))
    refine SN_seq ?_
    refine SC_seq ?_
    refine SC_region ?_
    refine SR_pu (RD_move rfl) rfl ?_
    refine SR_call Try.call19 (.cons rfl (.nil)) (CallsK.at (cert_Root k ⟨[rootB], []⟩ (by simp) [rootB] 1 (by decide +kernel) (by decide +kernel))) (lts rfl) ?_
    rintro _ L5 ⟨rfl, hL5⟩
    try dsimp only at hL5
    refine SR.lands hL5 ?_
    refine SR_ox (OX_alloc Try.zeroValue3 rfl) rfl ?_
    rintro _ _ ⟨b11, rfl, rfl⟩
    refine SR_ox0 (OX_st Try.sizeOf3 rfl rfl) ?_
    rintro _ _ rfl
    refine SR_nil ?_
    refine SN.le (l := [(0, _), (4, _), (5, _), (8, _), (9, _), (10, _), (11, _)]) ?_ (.cons rfl (.cons rfl (.cons rfl (.cons rfl (.cons rfl (.cons rfl (.cons rfl (.nil))))))))
    refine SN_seq ?_
    refine SC_seq ?_
    refine SC_seq ?_
    refine SC_region ?_
    refine SR_pu (RD_assign rfl) rfl ?_
    refine SR_nil ?_
    refine SN.le (l := [(0, _), (4, _), (5, _), (8, _), (9, _), (10, _), (11, _), (12, _)]) ?_ (.cons rfl (.cons rfl (.cons rfl (.cons rfl (.cons rfl (.cons rfl (.cons rfl (.cons rfl (.nil)))))))))
    refine SN_seq ?_
    refine SC_block ?_
    refine SC.lands (Lands.trans (.fin : Lands _ (pt b45 (.cells [.int .i64 ((1 : Nat) : Int)].toArray 3) :: pt b46 (.cells [.bool true].toArray 4) :: pt b47 (.cells [.int .i64 7].toArray 3) :: rowP 64 1 sa 3 sc ([y0, y1, y2].map ptrV) :: pt b11 (.cells [.int .i64 ((1 : Nat) : Int)].toArray 3) :: At safesI 0 [(y0, (⟨p, 0, 1, 1, 0⟩ : SS)), (y1, (⟨p, 0, 1, 1, 0⟩ : SS)), (y2, (⟨p, 0, 1, 1, 0⟩ : SS))] :: At treeI p (tS0 k.p) :: At worldI k ⟨[rootB], []⟩ :: F)) ((lit_row (E := 3) (z := 1) (b := b45) (cs := [1].map intV) 1 rfl).trans (Lands.cons ((lit_row (E := 4) (z := 1) (b := b46) (cs := [true].map boolV) 1 rfl).trans (Lands.cons (lit_row (E := 3) (z := 1) (b := b47) (cs := [7].map natV) 1 rfl)))))) ?_
    refine SC_ind (X := Nat × TS × List (List UInt8) × List Int × List (Nat × SS) × List Bool × List Nat × Int × Option Addr × Nat × Option Addr × Nat × Option Addr × Nat) (fun x => (x.1 ≤ 80 ∧ GI k.p x.2.1 x.2.2.1 x.2.2.2.1 x.1) ∧ FJ x.2.1 p x.2.2.2.1 x.2.2.2.2.1 x.2.2.2.2.2.1 x.2.2.2.2.2.2.1 x.2.2.2.2.2.2.2.1 ∧ x.2.2.2.2.1.map Prod.fst = [y0, y1, y2]) (fun x => 80 - x.1) (fun x => [(0, .slice a0 n0 c0), (4, .pointer (some ⟨p, 0, none⟩)), (5, .slice sa 3 sc), (8, .slice x.2.2.2.2.2.2.2.2.1 x.2.2.2.1.length x.2.2.2.2.2.2.2.2.2.1), (9, .slice x.2.2.2.2.2.2.2.2.2.2.1 x.2.2.2.1.length x.2.2.2.2.2.2.2.2.2.2.2.1), (10, .slice x.2.2.2.2.2.2.2.2.2.2.2.2.1 x.2.2.2.1.length x.2.2.2.2.2.2.2.2.2.2.2.2.2), (11, .pointer (some ⟨b11, 0, none⟩)), (12, .int .i64 (x.1 : Nat))]) (fun x => rowP 64 1 sa 3 sc ([y0, y1, y2].map ptrV) :: rowP 3 1 x.2.2.2.2.2.2.2.2.1 x.2.2.2.1.length x.2.2.2.2.2.2.2.2.2.1 (x.2.2.2.1.map intV) :: rowP 4 1 x.2.2.2.2.2.2.2.2.2.2.1 x.2.2.2.1.length x.2.2.2.2.2.2.2.2.2.2.2.1 (x.2.2.2.2.2.1.map boolV) :: rowP 3 1 x.2.2.2.2.2.2.2.2.2.2.2.2.1 x.2.2.2.1.length x.2.2.2.2.2.2.2.2.2.2.2.2.2 (x.2.2.2.2.2.2.1.map natV) :: pt b11 (.cells [.int .i64 x.2.2.2.2.2.2.2.1].toArray 3) :: At safesI 0 x.2.2.2.2.1 :: At treeI p x.2.1 :: At worldI k ⟨x.2.2.1, []⟩ :: F) ((0, tS0 k.p, [rootB], [1], [(y0, (⟨p, 0, 1, 1, 0⟩ : SS)), (y1, (⟨p, 0, 1, 1, 0⟩ : SS)), (y2, (⟨p, 0, 1, 1, 0⟩ : SS))], [true], [7], ((1 : Nat) : Int), some ⟨b45, 0, none⟩, 1, some ⟨b46, 0, none⟩, 1, some ⟨b47, 0, none⟩, 1)) (⟨⟨by simp, GI.start k.p⟩, FJ.start k.p p y0 y1 y2, rfl⟩) (.cons rfl (.cons rfl (.cons rfl (.cons rfl (.cons rfl (.cons rfl (.cons rfl (.cons rfl (.nil))))))))) ((show Lands _ (rowP 64 1 sa 3 sc ([y0, y1, y2].map ptrV) :: rowP 3 1 (some ⟨b45, 0, none⟩) 1 1 ([1].map intV) :: rowP 4 1 (some ⟨b46, 0, none⟩) 1 1 ([true].map boolV) :: rowP 3 1 (some ⟨b47, 0, none⟩) 1 1 ([7].map natV) :: pt b11 (.cells [.int .i64 ((1 : Nat) : Int)].toArray 3) :: At safesI 0 [(y0, (⟨p, 0, 1, 1, 0⟩ : SS)), (y1, (⟨p, 0, 1, 1, 0⟩ : SS)), (y2, (⟨p, 0, 1, 1, 0⟩ : SS))] :: At treeI p (tS0 k.p) :: At worldI k ⟨[rootB], []⟩ :: F) from .fin)) ?_
    intro ⟨i, s, l, ds, L, ce, vo, fx, a, c, a2, c2, a3, c3⟩ hi ih2
    obtain ⟨⟨hi1, hGI⟩, hFJ, hps⟩ := hi
    dsimp only at hi1 hGI hFJ hps ih2 ⊢
    have hpos : 0 < ds.length := (List.getElem?_eq_some_iff.1 hGI.first).1
    have hsz := hGI.size
    have har := hGI.arena
    have hlc := hFJ.lc
    have hlv := hFJ.lv
    have hvw := hGI.views (by omega)
    refine SC_seq ?_
    refine SC_seq ?_
    refine SC_region ?_
    refine SR_pu (RD_move rfl) rfl ?_
    refine SR_pu (RD_move rfl) rfl ?_
    refine SR_pu (RD_len Try.runUnderlying24 rfl) rfl ?_
    refine SR_pu (RD_lss rfl rfl) rfl ?_
    refine SR_pu (RD_move rfl) rfl ?_
    refine SR_guard rfl rfl (fun hg19_4 => ?_) (fun hg19_4 => ?_)
    · refine SR_yes rfl rfl (hg19_4) ?_
      refine SR_pu (RD_move rfl) rfl ?_
      refine SR_yes rfl rfl (hg19_4) ?_
      refine SR_pu (RD_lss rfl rfl) rfl ?_
      refine SR_pu (RD_pick_t rfl (hg19_4) rfl) rfl ?_
      refine SR_nil ?_
      refine SN.le (l := [(0, _), (4, _), (5, _), (8, _), (9, _), (10, _), (11, _), (12, _), (57, _)]) ?_ (.cons rfl (.cons rfl (.cons rfl (.cons rfl (.cons rfl (.cons rfl (.cons rfl (.cons rfl (.cons rfl (.nil))))))))))
      refine SN_seq ?_
      refine SC_cond rfl (fun hc57 => ?_) (fun hc57 => ?_)
      · have hin : i < n0 := by simp at hg19_4; omega
        have hi80 : i < 80 := by simp at hc57; omega
        obtain ⟨z, hz⟩ : ∃ z, l0[i]? = some z := ⟨_, List.getElem?_eq_getElem (by omega)⟩
        refine SC_skip ?_
        refine SN_seq ?_
        refine SC_seq ?_
        refine SC_block ?_
        refine SC_seq ?_
        refine SC_region ?_
        refine SR_pu (RD_move rfl) rfl ?_
        refine SR_pu (RD_move rfl) rfl ?_
        refine SR_rd (RD_ixO Try.runUnderlying24 Try.sizeOf3 rfl rfl (by first | assumption | (simp; done) | (simp; omega)) (by omega) (by omega)) Has.ro rfl ?_
        refine SR_rd (RD_loadO (v := intV z) (cs := l0.map intV) Try.isAgg3 rfl (by simp [hz])) Has.ro rfl ?_
        refine SR_pu (RD_assign rfl) rfl ?_
        refine SR_nil ?_
        refine SN.le (l := [(0, _), (4, _), (5, _), (8, _), (9, _), (10, _), (11, _), (12, _), (13, _)]) ?_ (.cons rfl (.cons rfl (.cons rfl (.cons rfl (.cons rfl (.cons rfl (.cons rfl (.cons rfl (.cons rfl (.nil))))))))))
        refine SN_seq ?_
        refine SC_seq ?_
        refine SC_region ?_
        refine SR_pu (RD_move rfl) rfl ?_
        refine SR_pu (RD_shr rfl rfl (by omega)) rfl ?_
        refine SR_pu (RD_mask 8 rfl rfl rfl (by decide) 256 rfl) rfl ?_
        refine SR_pu (RD_move rfl) rfl ?_
        refine SR_pu (RD_len Try.runUnderlying24 rfl) rfl ?_
        refine SR_pu (RD_remi rfl rfl (by omega) (by omega)) rfl ?_
        refine SR_pu (RD_assign rfl) rfl ?_
        refine SR_nil ?_
        refine SN.le (l := [(0, _), (4, _), (5, _), (8, _), (9, _), (10, _), (11, _), (12, _), (13, _), (14, _)]) ?_ (.cons rfl (.cons rfl (.cons rfl (.cons rfl (.cons rfl (.cons rfl (.cons rfl (.cons rfl (.cons rfl (.cons rfl (.nil)))))))))))
        obtain ⟨o, ho⟩ : ∃ o : Nat, z.fdiv (2 ^ min (3 : Int).toNat IntKind.i64.bits) % 256 % (ds.length : Int) = (o : Int) := ⟨(z.fdiv (2 ^ min (3 : Int).toNat IntKind.i64.bits) % 256 % (ds.length : Int)).toNat, by rw [Int.toNat_of_nonneg (Int.emod_nonneg _ (by omega))]⟩
        have ho1 : o < ds.length := by have := Int.emod_lt_of_pos (z.fdiv (2 ^ min (3 : Int).toNat IntKind.i64.bits) % 256) (show (0 : Int) < (ds.length : Int) by omega); omega
        rw [ho]
        clear ho
        obtain ⟨d, hd⟩ : ∃ d, ds[o]? = some d := ⟨_, List.getElem?_eq_getElem ho1⟩
        obtain ⟨e, he⟩ : ∃ e, ce[o]? = some e := ⟨_, List.getElem?_eq_getElem (by omega)⟩
        refine SN_seq ?_
        refine SC_seq ?_
        refine SC_region ?_
        refine SR_pu (RD_move rfl) rfl ?_
        refine SR_pu (RD_shr rfl rfl (by omega)) rfl ?_
        refine SR_pu (RD_mask 8 rfl rfl rfl (by decide) 256 rfl) rfl ?_
        refine SR_pu (RD_remi rfl rfl (by omega) (by omega)) rfl ?_
        refine SR_pu (RD_assign rfl) rfl ?_
        refine SR_nil ?_
        refine SN.le (l := [(0, _), (4, _), (5, _), (8, _), (9, _), (10, _), (11, _), (12, _), (13, _), (14, _), (15, _)]) ?_ (.cons rfl (.cons rfl (.cons rfl (.cons rfl (.cons rfl (.cons rfl (.cons rfl (.cons rfl (.cons rfl (.cons rfl (.cons rfl (.nil))))))))))))
        obtain ⟨w, hw⟩ : ∃ w : Nat, z.fdiv (2 ^ min (11 : Int).toNat IntKind.i64.bits) % 256 % 3 = (w : Int) := ⟨(z.fdiv (2 ^ min (11 : Int).toNat IntKind.i64.bits) % 256 % 3).toNat, by omega⟩
        have hw3 : w < 3 := by omega
        rw [hw]
        clear hw
        obtain ⟨⟨y, x⟩, hL⟩ : ∃ yx, L[w]? = some yx := ⟨_, List.getElem?_eq_getElem (by rw [hFJ.ll]; exact hw3)⟩
        have hy : [y0, y1, y2][w]? = some y := by rw [← hps, List.getElem?_map, hL]; rfl
        have hxt := (hFJ.lockC hL).2
        have hxC := (hFJ.lockC hL).1
        refine SN_seq ?_
        refine SC_seq ?_
        refine SC_region ?_
        refine SR_pu (RD_move rfl) rfl ?_
        refine SR_pu (RD_mask 3 rfl rfl rfl (by decide) 8 rfl) rfl ?_
        refine SR_nil ?_
        refine SN.le (l := [(0, _), (4, _), (5, _), (8, _), (9, _), (10, _), (11, _), (12, _), (13, _), (14, _), (15, _), (75, _)]) ?_ (.cons rfl (.cons rfl (.cons rfl (.cons rfl (.cons rfl (.cons rfl (.cons rfl (.cons rfl (.cons rfl (.cons rfl (.cons rfl (.cons rfl (.nil)))))))))))))
        obtain ⟨q, hq⟩ : ∃ q, z % 8 = q := ⟨_, rfl⟩
        rw [hq]
        clear hq
        refine SN_seq ?_
        refine SC_block ?_
        refine SC_seq ?_
        refine SC_seq ?_
        refine SC_join2 (X := Bool) (fun x => [(0, .slice a0 n0 c0), (4, .pointer (some ⟨p, 0, none⟩)), (5, .slice sa 3 sc), (8, .slice a ds.length c), (9, .slice a2 ds.length c2), (10, .slice a3 ds.length c3), (11, .pointer (some ⟨b11, 0, none⟩)), (12, .int .i64 (i : Nat)), (13, .int .i64 z), (14, .int .i64 (o : Nat)), (15, .int .i64 (w : Nat)), (75, .int .i64 q), (246, .bool x)]) (fun x => rowP 64 1 sa 3 sc ([y0, y1, y2].map ptrV) :: rowP 3 1 a ds.length c (ds.map intV) :: rowP 4 1 a2 ds.length c2 (ce.map boolV) :: rowP 3 1 a3 ds.length c3 (vo.map natV) :: pt b11 (.cells [.int .i64 fx].toArray 3) :: At safesI 0 L :: At treeI p s :: At worldI k ⟨l, []⟩ :: F) (fun t01 => ?_) (fun J0 => ?_)
        · refine SN_seq ?_
          refine SC_cond rfl (fun hc246 => ?_) (fun hc246 => ?_)
          · refine SC_seq ?_
            refine SC_seq ?_
            refine SC_region ?_
            refine SR_pu (RD_move rfl) rfl ?_
            refine SR_pu (RD_move rfl) rfl ?_
            refine SR_rd (RD_ixO (i := (o : Nat)) (cs := ce.map boolV) Try.runUnderlying66 Try.sizeOf4 rfl rfl (by simp; omega) (by omega) (by omega)) Has.ro rfl ?_
            refine SR_rd (RD_loadO (v := boolV e) (cs := ce.map boolV) Try.isAgg4 rfl ((fun q hq => by rw [hq, List.getElem?_map, he]; rfl : ∀ q : Nat, q = o → (ce.map boolV)[q]? = some (boolV e)) _ (by simp))) Has.ro rfl ?_
            refine SR_pu (RD_not rfl) rfl ?_
            refine SR_nil ?_
            refine SN.le (l := [(0, _), (4, _), (5, _), (8, _), (9, _), (10, _), (11, _), (12, _), (13, _), (14, _), (253, _)]) ?_ (.cons rfl (.cons rfl (.cons rfl (.cons rfl (.cons rfl (.cons rfl (.cons rfl (.cons rfl (.cons rfl (.cons rfl (.cons rfl (.nil))))))))))))
            refine SN_seq ?_
            refine SC_cond rfl (fun hc253 => ?_) (fun hc253 => ?_)
            · refine SC_exit rfl ?_
              refine SN_seq ?_
              refine SC_region ?_
              refine SR_pu (RD_move rfl) rfl ?_
              refine SR_pu (RD_addi rfl rfl (by omega) (by omega)) rfl ?_
              refine SR_pu (RD_assign rfl) rfl ?_
              refine SR_nil ?_
              refine SN.le (l := [(0, _), (4, _), (5, _), (8, _), (9, _), (10, _), (11, _), (12, _)]) ?_ (.cons rfl (.cons rfl (.cons rfl (.cons rfl (.cons rfl (.cons rfl (.cons rfl (.cons rfl (.nil)))))))))
              refine SC_again (ih2 ((i + 1, s, l, ds, L, ce, vo, fx, a, c, a2, c2, a3, c3)) (⟨⟨by dsimp only; omega, hGI.next⟩, hFJ, hps⟩) (by dsimp only; omega)) (.fin) (.cons rfl (.cons rfl (.cons rfl (.cons rfl (.cons rfl (.cons rfl (.cons rfl (.cons' rfl (ie (by dsimp only; omega)) (.nil)))))))))
            · have hce : e = true := by simpa using hc253
              subst hce
              have hdm := List.mem_of_getElem? hd
              have hcd : CC ds ce d := ⟨o, hd, he⟩
              have hxb2 : (z.fdiv (2 ^ min (13 : Int).toNat IntKind.i64.bits) % 2) = 0 ∨ (z.fdiv (2 ^ min (13 : Int).toNat IntKind.i64.bits) % 2) = 1 := by omega
              obtain ⟨s', l', hadd, hGI', hno, hD0, hrt, hget⟩ := hGI.lay (by omega) hdm hxb2 (b := ⟨vw s d + 1 + (z.fdiv (2 ^ min (13 : Int).toNat IntKind.i64.bits) % 2), (i : Int), vw s d, d, [], []⟩) rfl
              obtain ⟨D, hD⟩ : ∃ D, ((blkD l ⟨vw s d + 1 + (z.fdiv (2 ^ min (13 : Int).toNat IntKind.i64.bits) % 2), (i : Int), vw s d, d, [], []⟩ : Nat) : Int) = D := ⟨_, rfl⟩
              rw [hD] at hadd hGI' hno hD0 hget
              have hFJ' := hFJ.lay hGI hGI'.ok hD0 hrt hno hget hcd
              have hvd := hvw d
              clear hD
              refine SC_skip ?_
              refine SN_seq ?_
              refine SC_seq ?_
              refine SC_drawn (.cons 0 true (.cons 1 true (.cons 2 true (.cons 3 true (.cons 4 true (.cons 5 true (.cons 8 true (.cons 9 true (.cons 10 true (.cons 12 true (.cons 13 true (.cons 14 true (.cons 15 true (.cons 16 true (.cons 17 true (.cons 19 true (.cons 20 true (.cons 21 true (.cons 22 true (.cons 6 false (.cons 7 true (.cons 11 true (.cons 18 false (.cons 23 true (.cons 24 true (.cons 25 false (.cons 26 true (.cons 27 true (.cons 28 true (.cons 29 true (.cons 30 true (.nil)))))))))))))))))))))))))))))))) (by kernel_rfl) (by kernel_rfl) ?_
              refine SQ_pu rfl (RD_move rfl) rfl ?_
              refine SQ_pu rfl (RD_move rfl) rfl ?_
              refine SQ_pu rfl (RD_move rfl) rfl ?_
              refine SQ_pu rfl (RD_move rfl) rfl ?_
              refine SQ_rd rfl (RD_ixO (i := (o : Nat)) (cs := ds.map intV) Try.runUnderlying24 Try.sizeOf3 rfl rfl (by simp) (by omega) (by omega)) Has.ro rfl ?_
              refine SQ_rd rfl (RD_loadO (v := intV d) (cs := ds.map intV) Try.isAgg3 rfl (by simp [hd])) Has.ro rfl ?_
              refine SQ_pu rfl (RD_move rfl) rfl ?_
              refine SQ_pu rfl (RD_shr rfl rfl (by omega)) rfl ?_
              refine SQ_pu rfl (RD_mask 1 rfl rfl rfl (by decide) 2 rfl) rfl ?_
              refine SQ_pu rfl (RD_move rfl) rfl ?_
              refine SQ_pu rfl (RD_move rfl) rfl ?_
              refine SQ_pu rfl (RD_move rfl) rfl ?_
              refine SQ_pu rfl (RD_move rfl) rfl ?_
              refine SQ_rd rfl (RD_ixO (i := (o : Nat)) (cs := ds.map intV) Try.runUnderlying24 Try.sizeOf3 rfl rfl (by simp) (by omega) (by omega)) Has.ro rfl ?_
              refine SQ_rd rfl (RD_loadO (v := intV d) (cs := ds.map intV) Try.isAgg3 rfl (by simp [hd])) Has.ro rfl ?_
              refine SQ_pu rfl (RD_move rfl) rfl ?_
              refine SQ_pu rfl (RD_move rfl) rfl ?_
              refine SQ_rd rfl (RD_ixO (i := (o : Nat)) (cs := ds.map intV) Try.runUnderlying24 Try.sizeOf3 rfl rfl (by simp) (by omega) (by omega)) Has.ro rfl ?_
              refine SQ_rd rfl (RD_loadO (v := intV d) (cs := ds.map intV) Try.isAgg3 rfl (by simp [hd])) Has.ro rfl ?_
              refine SQ_call rfl Try.call31 (.cons rfl (.cons rfl (.nil))) (CallsK.at (tree_View p s (d))) (lts rfl) ?_
              rintro _ L6 ⟨rfl, hL6⟩
              refine ⟨.lands hL6 (.h Has.ro (.h Has.ro (.h Has.ro (.h Has.ro (.w rfl (.h Has.ro (.nil))))))), ?_⟩
              refine SQ.lands hL6 ?_
              refine SQ_pu rfl (RD_addi rfl rfl (by omega) (by omega)) rfl ?_
              refine SQ_pu rfl (RD_addi rfl rfl (by omega) (by omega)) rfl ?_
              refine SQ_call rfl Try.call31 (.cons rfl (.cons rfl (.nil))) (CallsK.at (tree_View p s (d))) (lts rfl) ?_
              rintro _ L7 ⟨rfl, hL7⟩
              refine ⟨.lands hL7 (.h Has.ro (.h Has.ro (.w rfl (.h Has.ro (.h Has.ro (.h Has.ro (.nil))))))), ?_⟩
              refine SQ.lands hL7 ?_
              refine SQ_pu rfl (RD_build (.cons rfl (.cons rfl (.nil))) built26_0_1) rfl ?_
              refine SQ_pu rfl (RD_build (.cons rfl (.cons rfl (.cons rfl (.nil)))) built58_0_1_2) rfl ?_
              refine SQ_call rfl Try.call30 (.cons rfl (.cons rfl (.nil))) (CallsK.at2 (tree_Add' p s k hGI.w ⟨l, []⟩ ⟨viewOf (mget s.T d) + 1 + (z.fdiv (2 ^ min (13 : Int).toNat IntKind.i64.bits) % 2), (i : Int), viewOf (mget s.T d), d, ⟨none, 0, 0, []⟩, ⟨none, 0, 0, []⟩⟩ rfl rfl (fit_nil _ _ _ _) (by dsimp only; omega) D 0 s' l' hadd)) (lts rfl) ?_
              rintro _ L8 ⟨rfl, hL8⟩
              refine ⟨.lands hL8 (.h Has.ro (.h Has.ro (.h Has.ro (.h Has.ro (.h Has.ro (.h Has.ro (.nil))))))), ?_⟩
              try dsimp only at hL8
              refine SQ.lands hL8 ?_
              refine SQ_pu rfl (RD_move rfl) rfl ?_
              refine SQ_pu rfl (RD_extract (v := .int .i64 D) rfl rfl) rfl ?_
              refine SQ_pu rfl (RD_extract (v := .int .i64 0) rfl rfl) rfl ?_
              refine SQ_pu rfl (RD_assign rfl) rfl ?_
              refine SQ_pu rfl (RD_assign rfl) rfl ?_
              refine SQ_nil ?_
              refine SN.le (l := [(0, _), (4, _), (5, _), (8, _), (9, _), (10, _), (11, _), (12, _), (16, _), (17, _)]) ?_ (.cons rfl (.cons rfl (.cons rfl (.cons rfl (.cons rfl (.cons rfl (.cons rfl (.cons rfl (.cons rfl (.cons rfl (.nil)))))))))))
              refine SN_seq ?_
              refine SC_seq ?_
              refine SC_seq ?_
              refine SC_region ?_
              refine SR_pu (RD_move rfl) rfl ?_
              refine SR_pu (RD_neq rfl rfl) rfl ?_
              refine SR_nil ?_
              refine SN.le (l := [(0, _), (4, _), (5, _), (8, _), (9, _), (10, _), (11, _), (12, _), (16, _), (284, _)]) ?_ (.cons rfl (.cons rfl (.cons rfl (.cons rfl (.cons rfl (.cons rfl (.cons rfl (.cons rfl (.cons rfl (.cons rfl (.nil)))))))))))
              refine SN_seq ?_
              refine SC_cond_false rfl (rfl) ?_
              refine SC_skip ?_
              refine SN_seq ?_
              refine SC_region ?_
              refine SR_pu (RD_move rfl) rfl ?_
              refine SR_pu (RD_move rfl) rfl ?_
              refine SR_ox (OX_lit1 Try.underlying24 Try.type3 rfl rfl rfl rfl (.cons rfl (.nil)) (.cons rfl (.nil))) rfl ?_
              rintro _ _ ⟨b287, rfl, rfl⟩
              refine SR_ox (OX_app 1 Try.underlying24 Try.underlying24 Try.type3 rfl rfl rfl rfl rfl (by first | rfl | simp; done | (simp; omega)) 8 rfl (by omega) (by omega)) rfl ?_
              rintro _ _ ⟨a288, c288, rfl, rfl⟩
              refine SR_pu (RD_move rfl) rfl ?_
              refine SR_ox (OX_lit1 Try.underlying66 Try.type4 rfl rfl rfl rfl (.cons rfl (.nil)) (.cons rfl (.nil))) rfl ?_
              rintro _ _ ⟨b290, rfl, rfl⟩
              refine SR_ox (OX_app 1 Try.underlying66 Try.underlying66 Try.type4 rfl rfl rfl rfl rfl (by first | rfl | simp; done | (simp; omega)) 1 rfl (by omega) (by omega)) rfl ?_
              rintro _ _ ⟨a291, c291, rfl, rfl⟩
              refine SR_pu (RD_move rfl) rfl ?_
              refine SR_ox (OX_lit1 Try.underlying24 Try.type3 rfl rfl rfl rfl (.cons rfl (.nil)) (.cons rfl (.nil))) rfl ?_
              rintro _ _ ⟨b293, rfl, rfl⟩
              refine SR_ox (OX_app 1 Try.underlying24 Try.underlying24 Try.type3 rfl rfl rfl rfl rfl (by first | rfl | simp; done | (simp; omega)) 8 rfl (by omega) (by omega)) rfl ?_
              rintro _ _ ⟨a294, c294, rfl, rfl⟩
              refine SR_pu (RD_assign rfl) rfl ?_
              refine SR_pu (RD_assign rfl) rfl ?_
              refine SR_pu (RD_assign rfl) rfl ?_
              refine SR_nil ?_
              refine SN.le (l := [(0, _), (4, _), (5, _), (8, _), (9, _), (10, _), (11, _), (12, _)]) ?_ (.cons rfl (.cons rfl (.cons rfl (.cons rfl (.cons rfl (.cons rfl (.cons rfl (.cons rfl (.nil)))))))))
              refine SN_block ?_
              refine SN_block ?_
              refine SN_seq ?_
              refine SC_region ?_
              refine SR_pu (RD_move rfl) rfl ?_
              refine SR_pu (RD_addi rfl rfl (by omega) (by omega)) rfl ?_
              refine SR_pu (RD_assign rfl) rfl ?_
              refine SR_nil ?_
              refine SN.le (l := [(0, _), (4, _), (5, _), (8, _), (9, _), (10, _), (11, _), (12, _)]) ?_ (.cons rfl (.cons rfl (.cons rfl (.cons rfl (.cons rfl (.cons rfl (.cons rfl (.cons rfl (.nil)))))))))
              refine SC_again (ih2 ((i + 1, s', l', ds ++ [D], L, ce ++ [false], vo ++ [0], fx, a288, c288, a291, c291, a294, c294)) (⟨⟨by dsimp only; omega, hGI'⟩, hFJ', hps⟩) (by dsimp only; omega)) ((by (try dsimp only); rw [show (ds ++ [D]).length = ds.length + 1 by simp, show (ds ++ [D]).map intV = ds.map intV ++ [.int .i64 D] by simp [intV], show (ce ++ [false]).map boolV = ce.map boolV ++ [.bool false] by simp [boolV], show List.map natV (vo ++ [0]) = vo.map natV ++ [.int .i64 0] by simp [natV]]; exact (show Lands _ (rowP 64 1 sa 3 sc ([y0, y1, y2].map ptrV) :: rowP 3 1 a288 (ds.length + 1) c288 (ds.map intV ++ [.int .i64 D]) :: rowP 4 1 a291 (ds.length + 1) c291 (ce.map boolV ++ [.bool false]) :: rowP 3 1 a294 (ds.length + 1) c294 (vo.map natV ++ [.int .i64 0]) :: pt b11 (.cells [.int .i64 fx].toArray 3) :: At safesI 0 L :: At treeI p s' :: At worldI k ⟨l', []⟩ :: F) from .fin))) (.cons rfl (.cons rfl (.cons rfl (.cons' rfl (by simp) (.cons' rfl (by simp) (.cons' rfl (by simp) (.cons rfl (.cons' rfl (ie (by dsimp only; omega)) (.nil)))))))))
          · refine SC_seq ?_
            refine SC_region ?_
            refine SR_pu (RD_eql rfl rfl) rfl ?_
            refine SR_pu (RD_assign rfl) rfl ?_
            refine SR_nil ?_
            refine SN.le (l := [(0, _), (4, _), (5, _), (8, _), (9, _), (10, _), (11, _), (12, _), (13, _), (15, _), (295, _)]) ?_ (.cons rfl (.cons rfl (.cons rfl (.cons rfl (.cons rfl (.cons rfl (.cons rfl (.cons rfl (.cons rfl (.cons rfl (.cons rfl (.nil))))))))))))
            refine SN_seq ?_
            refine SC_cond rfl (fun hc295 => ?_) (fun hc295 => ?_)
            · refine SC.lands (Lands.trans (show Lands _ (At safesI 0 L :: rowP 64 1 sa 3 sc ([y0, y1, y2].map ptrV) :: rowP 3 1 a ds.length c (ds.map intV) :: rowP 4 1 a2 ds.length c2 (ce.map boolV) :: rowP 3 1 a3 ds.length c3 (vo.map natV) :: pt b11 (.cells [.int .i64 fx].toArray 3) :: At treeI p s :: At worldI k ⟨l, []⟩ :: F) from .fin) (safes_take (u' := 1) hL)) ?_
              refine SC_region ?_
              refine SR_pu (RD_move rfl) rfl ?_
              refine SR_pu (RD_move rfl) rfl ?_
              refine SR_rd (RD_ixO (i := (w : Nat)) (cs := [y0, y1, y2].map ptrV) Try.runUnderlying63 Try.sizeOf64 rfl rfl (by simp) (by omega) (by omega)) Has.ro rfl ?_
              refine SR_rd (RD_loadO (v := ptrV y) (cs := [y0, y1, y2].map ptrV) Try.isAgg64 rfl (by rw [Nat.add_zero, Int.toNat_natCast, Nat.mul_one, List.getElem?_map, hy]; rfl)) Has.ro rfl ?_
              refine SR_pu (RD_move rfl) rfl ?_
              refine SR_pu (RD_shr rfl rfl (by omega)) rfl ?_
              refine SR_pu (RD_mask 5 rfl rfl rfl (by decide) 32 rfl) rfl ?_
              refine SR_call Try.call32 (.cons rfl (.cons rfl (.nil))) (CallsK.at (safe_Skip y x (z.fdiv (2 ^ min (13 : Int).toNat IntKind.i64.bits) % 32))) (lts rfl) ?_
              rintro _ L9 ⟨rfl, hL9⟩
              refine SR.lands hL9 ?_
              refine SR_nil ?_
              refine SN.le (l := [(0, _), (4, _), (5, _), (8, _), (9, _), (10, _), (11, _), (12, _)]) ?_ (.cons rfl (.cons rfl (.cons rfl (.cons rfl (.cons rfl (.cons rfl (.cons rfl (.cons rfl (.nil)))))))))
              refine SN_block ?_
              refine SN_block ?_
              refine SN_seq ?_
              refine SC_region ?_
              refine SR_pu (RD_move rfl) rfl ?_
              refine SR_pu (RD_addi rfl rfl (by omega) (by omega)) rfl ?_
              refine SR_pu (RD_assign rfl) rfl ?_
              refine SR_nil ?_
              refine SN.le (l := [(0, _), (4, _), (5, _), (8, _), (9, _), (10, _), (11, _), (12, _)]) ?_ (.cons rfl (.cons rfl (.cons rfl (.cons rfl (.cons rfl (.cons rfl (.cons rfl (.cons rfl (.nil)))))))))
              refine SC_again (ih2 ((i + 1, s, l, ds, L.set w (y, ⟨x.t, x.hv, x.hb, x.lock, max x.last (z.fdiv (2 ^ min (13 : Int).toNat IntKind.i64.bits) % 32)⟩), ce, vo, fx, a, c, a2, c2, a3, c3)) (⟨⟨by dsimp only; omega, hGI.next⟩, hFJ.skip hL (z.fdiv (2 ^ min (13 : Int).toNat IntKind.i64.bits) % 32), fst_set hps hL⟩) (by dsimp only; omega)) (((show Lands _ (At safeI y ⟨x.t, x.hv, x.hb, x.lock, max x.last (z.fdiv (2 ^ min (13 : Int).toNat IntKind.i64.bits) % 32)⟩ :: At safesI 1 (L.eraseIdx w) :: rowP 64 1 sa 3 sc ([y0, y1, y2].map ptrV) :: rowP 3 1 a ds.length c (ds.map intV) :: rowP 4 1 a2 ds.length c2 (ce.map boolV) :: rowP 3 1 a3 ds.length c3 (vo.map natV) :: pt b11 (.cells [.int .i64 fx].toArray 3) :: At treeI p s :: At worldI k ⟨l, []⟩ :: F) from .fin).trans ((safes_put (u := 0) hL).trans .fin))) (.cons rfl (.cons rfl (.cons rfl (.cons rfl (.cons rfl (.cons rfl (.cons rfl (.cons' rfl (ie (by dsimp only; omega)) (.nil)))))))))
            · refine SC_seq ?_
              refine SC_region ?_
              refine SR_pu (RD_move rfl) rfl ?_
              refine SR_pu (RD_len Try.runUnderlying24 rfl) rfl ?_
              refine SR_pu (RD_subi rfl rfl (by omega) (by omega)) rfl ?_
              refine SR_pu (RD_move rfl) rfl ?_
              refine SR_pu (RD_shr rfl rfl (by omega)) rfl ?_
              refine SR_pu (RD_mask 2 rfl rfl rfl (by decide) 4 rfl) rfl ?_
              refine SR_pu (RD_subi rfl rfl (by omega) (by omega)) rfl ?_
              refine SR_pu (RD_max rfl rfl) rfl ?_
              refine SR_pu (RD_assign rfl) rfl ?_
              refine SR_nil ?_
              refine SN.le (l := [(0, _), (4, _), (5, _), (8, _), (9, _), (10, _), (11, _), (12, _), (14, _), (15, _)]) ?_ (.cons rfl (.cons rfl (.cons rfl (.cons rfl (.cons rfl (.cons rfl (.cons rfl (.cons rfl (.cons rfl (.cons rfl (.nil)))))))))))
              obtain ⟨o, ho⟩ : ∃ o : Nat, (if (0 : Int) > (ds.length : Int) - 1 - z.fdiv (2 ^ min (13 : Int).toNat IntKind.i64.bits) % 4 then (0 : Int) else (ds.length : Int) - 1 - z.fdiv (2 ^ min (13 : Int).toNat IntKind.i64.bits) % 4) = (o : Int) := ⟨(if (0 : Int) > (ds.length : Int) - 1 - z.fdiv (2 ^ min (13 : Int).toNat IntKind.i64.bits) % 4 then (0 : Int) else (ds.length : Int) - 1 - z.fdiv (2 ^ min (13 : Int).toNat IntKind.i64.bits) % 4).toNat, by split <;> omega⟩
              have ho1 : o < ds.length := by split at ho <;> omega
              rw [ho]
              clear ho
              obtain ⟨d, hd⟩ : ∃ d, ds[o]? = some d := ⟨_, List.getElem?_eq_getElem ho1⟩
              obtain ⟨e, he⟩ : ∃ e, ce[o]? = some e := ⟨_, List.getElem?_eq_getElem (by omega)⟩
              obtain ⟨m, hm⟩ : ∃ m, vo[o]? = some m := ⟨_, List.getElem?_eq_getElem (by omega)⟩
              have hdm := List.mem_of_getElem? hd
              obtain ⟨b, hb⟩ := hGI.in_ d hdm
              have hm8 := hFJ.v8 m (List.mem_of_getElem? hm)
              refine SN_seq ?_
              refine SC_seq ?_
              refine SC_region ?_
              refine SR_pu (RD_move rfl) rfl ?_
              refine SR_pu (RD_move rfl) rfl ?_
              refine SR_pu (RD_move rfl) rfl ?_
              refine SR_rd (RD_ixO (i := (o : Nat)) (cs := ds.map intV) Try.runUnderlying24 Try.sizeOf3 rfl rfl (by simp) (by omega) (by omega)) Has.ro rfl ?_
              refine SR_rd (RD_loadO (v := intV d) (cs := ds.map intV) Try.isAgg3 rfl (by simp [hd])) Has.ro rfl ?_
              refine SR_call Try.call33 (.cons rfl (.cons rfl (.nil))) (CallsK.at (tree_Parent p s d)) (lts rfl) ?_
              rintro _ L10 ⟨rfl, hL10⟩
              refine SR.lands hL10 ?_
              refine SR_pu (RD_assign rfl) rfl ?_
              refine SR_nil ?_
              refine SN.le (l := [(0, _), (4, _), (5, _), (8, _), (9, _), (10, _), (11, _), (12, _), (14, _), (15, _), (18, _)]) ?_ (.cons rfl (.cons rfl (.cons rfl (.cons rfl (.cons rfl (.cons rfl (.cons rfl (.cons rfl (.cons rfl (.cons rfl (.cons rfl (.nil))))))))))))
              rw [show (mget s.T d).elim 0 Blk.jb = parOf s d from rfl]
              refine SN.lands (Lands.trans (show Lands _ (At safesI 0 L :: rowP 64 1 sa 3 sc ([y0, y1, y2].map ptrV) :: rowP 3 1 a ds.length c (ds.map intV) :: rowP 4 1 a2 ds.length c2 (ce.map boolV) :: rowP 3 1 a3 ds.length c3 (vo.map natV) :: pt b11 (.cells [.int .i64 fx].toArray 3) :: At treeI p s :: At worldI k ⟨l, []⟩ :: F) from .fin) (safes_take (u' := 1) hL)) ?_
              refine SN_seq ?_
              refine SC_seq ?_
              refine SC_seq ?_
              refine SC_join2 (X := {x : SS × Int // FJ s p ds (L.set w (y, x.1)) ce vo x.2 ∧ vw s (parOf s (parOf s d)) ≤ vw s x.1.lock}) (fun x => [(0, .slice a0 n0 c0), (4, .pointer (some ⟨p, 0, none⟩)), (5, .slice sa 3 sc), (8, .slice a ds.length c), (9, .slice a2 ds.length c2), (10, .slice a3 ds.length c3), (11, .pointer (some ⟨b11, 0, none⟩)), (12, .int .i64 (i : Nat)), (14, .int .i64 (o : Nat)), (15, .int .i64 (w : Nat))]) (fun x => At safeI y x.1.1 :: At safesI 1 (L.eraseIdx w) :: rowP 64 1 sa 3 sc ([y0, y1, y2].map ptrV) :: rowP 3 1 a ds.length c (ds.map intV) :: rowP 4 1 a2 ds.length c2 (ce.map boolV) :: rowP 3 1 a3 ds.length c3 (vo.map natV) :: pt b11 (.cells [.int .i64 x.1.2].toArray 3) :: At treeI p s :: At worldI k ⟨l, []⟩ :: F) (fun ⟨⟨x, fx⟩, hx⟩ => ?_) (fun J0 => ?_)
              · obtain ⟨hFJ, hlk⟩ := hx
                dsimp only at hFJ hlk ⊢
                have hL2 : (L.set w (y, x))[w]? = some (y, x) := List.getElem?_set_self (List.getElem?_eq_some_iff.1 hL).1
                have hxt := (hFJ.lockC hL2).2
                have hxC := (hFJ.lockC hL2).1
                refine SN_seq ?_
                refine SC_seq ?_
                refine SC_seq ?_
                refine SC_join2 (X := {x : SS × List Nat // FJ s p ds (L.set w (y, x.1)) ce x.2 fx}) (fun x => [(0, .slice a0 n0 c0), (4, .pointer (some ⟨p, 0, none⟩)), (5, .slice sa 3 sc), (8, .slice a ds.length c), (9, .slice a2 ds.length c2), (10, .slice a3 ds.length c3), (11, .pointer (some ⟨b11, 0, none⟩)), (12, .int .i64 (i : Nat)), (14, .int .i64 (o : Nat)), (15, .int .i64 (w : Nat))]) (fun x => At safeI y x.1.1 :: At safesI 1 (L.eraseIdx w) :: rowP 64 1 sa 3 sc ([y0, y1, y2].map ptrV) :: rowP 3 1 a ds.length c (ds.map intV) :: rowP 4 1 a2 ds.length c2 (ce.map boolV) :: rowP 3 1 a3 ds.length c3 (x.1.2.map natV) :: pt b11 (.cells [.int .i64 fx].toArray 3) :: At treeI p s :: At worldI k ⟨l, []⟩ :: F) (fun ⟨⟨x, vo⟩, hFJ⟩ => ?_) (fun J0 => ?_)
                · dsimp only at hFJ ⊢
                  obtain ⟨m, hm⟩ : ∃ m, vo[o]? = some m := ⟨_, List.getElem?_eq_getElem (by have := hFJ.lv; omega)⟩
                  have hL2 : (L.set w (y, x))[w]? = some (y, x) := List.getElem?_set_self (List.getElem?_eq_some_iff.1 hL).1
                  have hxt := (hFJ.lockC hL2).2
                  have hxC := (hFJ.lockC hL2).1
                  have hlv := hFJ.lv
                  refine SN_seq ?_
                  refine SC_seq ?_
                  refine SC_seq ?_
                  refine SC_join2 (X := {z_ : List Bool // FJ s p ds (L.set w (y, x)) z_ vo fx}) (fun z_ => [(0, .slice a0 n0 c0), (4, .pointer (some ⟨p, 0, none⟩)), (5, .slice sa 3 sc), (8, .slice a ds.length c), (9, .slice a2 ds.length c2), (10, .slice a3 ds.length c3), (11, .pointer (some ⟨b11, 0, none⟩)), (12, .int .i64 (i : Nat)), (14, .int .i64 (o : Nat)), (15, .int .i64 (w : Nat))]) (fun z_ => At safeI y x :: At safesI 1 (L.eraseIdx w) :: rowP 64 1 sa 3 sc ([y0, y1, y2].map ptrV) :: rowP 3 1 a ds.length c (ds.map intV) :: rowP 4 1 a2 ds.length c2 (z_.1.map boolV) :: rowP 3 1 a3 ds.length c3 (vo.map natV) :: pt b11 (.cells [.int .i64 fx].toArray 3) :: At treeI p s :: At worldI k ⟨l, []⟩ :: F) (fun ⟨ce, hFJ⟩ => ?_) (fun J0 => ?_)
                  · dsimp only at hFJ ⊢
                    have hlc := hFJ.lc
                    obtain ⟨e, he⟩ : ∃ e, ce[o]? = some e := ⟨_, List.getElem?_eq_getElem (by omega)⟩
                    refine SN_seq ?_
                    refine SC_seq ?_
                    refine SC_region ?_
                    refine SR_pu (RD_move rfl) rfl ?_
                    refine SR_pu (RD_move rfl) rfl ?_
                    refine SR_rd (RD_ixO (i := (o : Nat)) (cs := ce.map boolV) Try.runUnderlying66 Try.sizeOf4 rfl rfl (by simp; omega) (by omega) (by omega)) Has.ro rfl ?_
                    refine SR_rd (RD_loadO (v := boolV e) (cs := ce.map boolV) Try.isAgg4 rfl ((fun q hq => by rw [hq, List.getElem?_map, he]; rfl : ∀ q : Nat, q = o → (ce.map boolV)[q]? = some (boolV e)) _ (by simp))) Has.ro rfl ?_
                    refine SR_nil ?_
                    refine SN.le (l := [(0, _), (4, _), (5, _), (8, _), (9, _), (10, _), (11, _), (12, _), (14, _), (15, _), (221, _)]) ?_ (.cons rfl (.cons rfl (.cons rfl (.cons rfl (.cons rfl (.cons rfl (.cons rfl (.cons rfl (.cons rfl (.cons rfl (.cons rfl (.nil))))))))))))
                    refine SN_seq ?_
                    refine SC_cond rfl (fun hc221 => ?_) (fun hc221 => ?_)
                    · have hee : e = true := hc221
                      subst hee
                      have hcd : CC ds ce d := ⟨o, hd, he⟩
                      have hL2 : (L.set w (y, x))[w]? = some (y, x) := List.getElem?_set_self (List.getElem?_eq_some_iff.1 hL).1
                      obtain ⟨hsee1, hsee2, hsee3⟩ := hFJ.see hGI hL2 hcd
                      rw [List.set_set] at hsee1
                      obtain ⟨cs, xs, hse⟩ : ∃ c x2, x.see s (viewOf (mget s.T d)) d = (c, x2) := ⟨_, _, rfl⟩
                      rw [hse] at hsee1 hsee2 hsee3
                      dsimp only at hsee1 hsee2 hsee3
                      refine SC_seq ?_
                      refine SC_drawn (.cons 0 true (.cons 1 true (.cons 2 true (.cons 3 true (.cons 4 true (.cons 5 true (.cons 6 true (.cons 7 true (.cons 8 true (.cons 10 true (.cons 11 true (.cons 12 true (.cons 13 true (.cons 9 false (.cons 14 true (.cons 15 false (.cons 16 true (.nil)))))))))))))))))) (by kernel_rfl) (by kernel_rfl) ?_
                      refine SQ_pu rfl (RD_move rfl) rfl ?_
                      refine SQ_pu rfl (RD_move rfl) rfl ?_
                      refine SQ_rd rfl (RD_ixO (i := (w : Nat)) (cs := [y0, y1, y2].map ptrV) Try.runUnderlying63 Try.sizeOf64 rfl rfl (by simp) (by omega) (by omega)) Has.ro rfl ?_
                      refine SQ_rd rfl (RD_loadO (v := ptrV y) (cs := [y0, y1, y2].map ptrV) Try.isAgg64 rfl (by rw [Nat.add_zero, Int.toNat_natCast, Nat.mul_one, List.getElem?_map, hy]; rfl)) Has.ro rfl ?_
                      refine SQ_pu rfl (RD_move rfl) rfl ?_
                      refine SQ_pu rfl (RD_move rfl) rfl ?_
                      refine SQ_pu rfl (RD_move rfl) rfl ?_
                      refine SQ_rd rfl (RD_ixO (i := (o : Nat)) (cs := ds.map intV) Try.runUnderlying24 Try.sizeOf3 rfl rfl (by simp) (by omega) (by omega)) Has.ro rfl ?_
                      refine SQ_rd rfl (RD_loadO (v := intV d) (cs := ds.map intV) Try.isAgg3 rfl (by simp [hd])) Has.ro rfl ?_
                      refine SQ_pu rfl (RD_move rfl) rfl ?_
                      refine SQ_pu rfl (RD_move rfl) rfl ?_
                      refine SQ_rd rfl (RD_ixO (i := (o : Nat)) (cs := ds.map intV) Try.runUnderlying24 Try.sizeOf3 rfl rfl (by simp) (by omega) (by omega)) Has.ro rfl ?_
                      refine SQ_rd rfl (RD_loadO (v := intV d) (cs := ds.map intV) Try.isAgg3 rfl (by simp [hd])) Has.ro rfl ?_
                      refine SQ_call rfl Try.call31 (.cons rfl (.cons rfl (.nil))) (CallsK.at (tree_View p s (d))) (lts rfl) ?_
                      rintro _ L20 ⟨rfl, hL20⟩
                      refine ⟨.lands hL20 (.h Has.ro (.h Has.ro (.w rfl (.h Has.ro (.h Has.ro (.h Has.ro (.nil))))))), ?_⟩
                      refine SQ.lands hL20 ?_
                      refine SQ_pu rfl (RD_build (.cons rfl (.cons rfl (.nil))) built26_0_1) rfl ?_
                      refine SQ_call rfl Try.call34 (.cons rfl (.cons rfl (.nil))) (CallsK.at2 (safe_See' y p x hxt s (fun d => by have := hvw d; omega) (viewOf (mget s.T (d))) (d))) (lts rfl) ?_
                      rintro _ L21 ⟨rfl, hL21⟩
                      rw [hse] at hL21
                      refine ⟨.lands hL21 (.h Has.ro (.h Has.ro (.h Has.ro (.h Has.ro (.w rfl (.h Has.ro (.nil))))))), ?_⟩
                      rw [hse]
                      refine SQ.lands hL21 ?_
                      refine SQ_pu rfl (RD_assign rfl) rfl ?_
                      refine SQ_nil ?_
                      refine SN.le (l := [(0, _), (4, _), (5, _), (8, _), (9, _), (10, _), (11, _), (12, _), (23, _)]) ?_ (.cons rfl (.cons rfl (.cons rfl (.cons rfl (.cons rfl (.cons rfl (.cons rfl (.cons rfl (.cons rfl (.nil))))))))))
                      refine SN_seq ?_
                      refine SC_seq ?_
                      refine SC_region ?_
                      refine SR_pu (RD_move rfl) rfl ?_
                      refine SR_pu (RD_gtr rfl rfl) rfl ?_
                      refine SR_pu (RD_move rfl) rfl ?_
                      refine SR_guard rfl rfl (fun hg46_2 => ?_) (fun hg46_2 => ?_)
                      · have hcf := hsee3 (by have := of_decide_eq_true hg46_2; omega)
                        obtain ⟨hre, hone⟩ := hsee1.refix hGI hcf
                        have hcin := (hsee1.in_ hGI (.inr hcf)).2.1
                        have hfin := (hsee1.in_ hGI hsee1.fix).2.1
                        refine SR_yes rfl rfl (hg46_2) ?_
                        refine SR_pu (RD_move rfl) rfl ?_
                        refine SR_yes rfl rfl (hg46_2) ?_
                        refine SR_pu (RD_move rfl) rfl ?_
                        refine SR_yes rfl rfl (hg46_2) ?_
                        refine SR_call Try.call35 (.cons rfl (.cons rfl (.cons rfl (.nil)))) (law_onWay_at p b11 s hGI.ok hvw fx cs hfin hcin) (lts rfl) ?_
                        rintro _ L22 ⟨rfl, hL22⟩
                        rw [hone]
                        refine SR.lands hL22 ?_
                        refine SR_yes rfl rfl (hg46_2) ?_
                        refine SR_pu (RD_not rfl) rfl ?_
                        refine SR_pu (RD_pick_t rfl (hg46_2) rfl) rfl ?_
                        refine SR_nil ?_
                        refine SN.le (l := [(0, _), (4, _), (5, _), (8, _), (9, _), (10, _), (11, _), (12, _), (245, _)]) ?_ (.cons rfl (.cons rfl (.cons rfl (.cons rfl (.cons rfl (.cons rfl (.cons rfl (.cons rfl (.cons rfl (.nil))))))))))
                        refine SN_seq ?_
                        refine SC_cond_false rfl (rfl) ?_
                        refine SC_skip ?_
                        refine SN_block ?_
                        refine SN_block ?_
                        refine SN_seq ?_
                        refine SC_region ?_
                        refine SR_pu (RD_move rfl) rfl ?_
                        refine SR_pu (RD_addi rfl rfl (by omega) (by omega)) rfl ?_
                        refine SR_pu (RD_assign rfl) rfl ?_
                        refine SR_nil ?_
                        refine SN.le (l := [(0, _), (4, _), (5, _), (8, _), (9, _), (10, _), (11, _), (12, _)]) ?_ (.cons rfl (.cons rfl (.cons rfl (.cons rfl (.cons rfl (.cons rfl (.cons rfl (.cons rfl (.nil)))))))))
                        refine SC_again (ih2 ((i + 1, s, l, ds, L.set w (y, xs), ce, vo, (if onw s fx (cs) then (cs) else fx), a, c, a2, c2, a3, c3)) (⟨⟨by dsimp only; omega, hGI.next⟩, hre, fst_set hps hL⟩) (by dsimp only; omega)) (((show Lands _ (At safeI y xs :: At safesI 1 (L.eraseIdx w) :: rowP 64 1 sa 3 sc ([y0, y1, y2].map ptrV) :: rowP 3 1 a ds.length c (ds.map intV) :: rowP 4 1 a2 ds.length c2 (ce.map boolV) :: rowP 3 1 a3 ds.length c3 (vo.map natV) :: pt b11 (.cells [.int .i64 (if onw s fx (cs) then (cs) else fx)].toArray 3) :: At treeI p s :: At worldI k ⟨l, []⟩ :: F) from .fin).trans ((safes_put (u := 0) hL).trans .fin))) (.cons rfl (.cons rfl (.cons rfl (.cons rfl (.cons rfl (.cons rfl (.cons rfl (.cons' rfl (ie (by dsimp only; omega)) (.nil)))))))))
                      · refine SR_no rfl rfl (hg46_2) (lts rfl) ?_
                        refine SR_no rfl rfl (hg46_2) (lts rfl) ?_
                        refine SR_no rfl rfl (hg46_2) (lts rfl) ?_
                        refine SR_no rfl rfl (hg46_2) (lts rfl) ?_
                        refine SR_pu (RD_pick_f rfl (hg46_2) rfl) rfl ?_
                        refine SR_nil ?_
                        refine SN.le (l := [(0, _), (4, _), (5, _), (8, _), (9, _), (10, _), (11, _), (12, _), (245, _)]) ?_ (.cons rfl (.cons rfl (.cons rfl (.cons rfl (.cons rfl (.cons rfl (.cons rfl (.cons rfl (.cons rfl (.nil))))))))))
                        refine SN_seq ?_
                        refine SC_cond_false rfl (rfl) ?_
                        refine SC_skip ?_
                        refine SN_block ?_
                        refine SN_block ?_
                        refine SN_seq ?_
                        refine SC_region ?_
                        refine SR_pu (RD_move rfl) rfl ?_
                        refine SR_pu (RD_addi rfl rfl (by omega) (by omega)) rfl ?_
                        refine SR_pu (RD_assign rfl) rfl ?_
                        refine SR_nil ?_
                        refine SN.le (l := [(0, _), (4, _), (5, _), (8, _), (9, _), (10, _), (11, _), (12, _)]) ?_ (.cons rfl (.cons rfl (.cons rfl (.cons rfl (.cons rfl (.cons rfl (.cons rfl (.cons rfl (.nil)))))))))
                        refine SC_again (ih2 ((i + 1, s, l, ds, L.set w (y, xs), ce, vo, fx, a, c, a2, c2, a3, c3)) (⟨⟨by dsimp only; omega, hGI.next⟩, hsee1, fst_set hps hL⟩) (by dsimp only; omega)) (((show Lands _ (At safeI y xs :: At safesI 1 (L.eraseIdx w) :: rowP 64 1 sa 3 sc ([y0, y1, y2].map ptrV) :: rowP 3 1 a ds.length c (ds.map intV) :: rowP 4 1 a2 ds.length c2 (ce.map boolV) :: rowP 3 1 a3 ds.length c3 (vo.map natV) :: pt b11 (.cells [.int .i64 fx].toArray 3) :: At treeI p s :: At worldI k ⟨l, []⟩ :: F) from .fin).trans ((safes_put (u := 0) hL).trans .fin))) (.cons rfl (.cons rfl (.cons rfl (.cons rfl (.cons rfl (.cons rfl (.cons rfl (.cons' rfl (ie (by dsimp only; omega)) (.nil)))))))))
                    · refine SC_skip ?_
                      refine SN_block ?_
                      refine SN_block ?_
                      refine SN_seq ?_
                      refine SC_region ?_
                      refine SR_pu (RD_move rfl) rfl ?_
                      refine SR_pu (RD_addi rfl rfl (by omega) (by omega)) rfl ?_
                      refine SR_pu (RD_assign rfl) rfl ?_
                      refine SR_nil ?_
                      refine SN.le (l := [(0, _), (4, _), (5, _), (8, _), (9, _), (10, _), (11, _), (12, _)]) ?_ (.cons rfl (.cons rfl (.cons rfl (.cons rfl (.cons rfl (.cons rfl (.cons rfl (.cons rfl (.nil)))))))))
                      refine SC_again (ih2 ((i + 1, s, l, ds, L.set w (y, x), ce, vo, fx, a, c, a2, c2, a3, c3)) (⟨⟨by dsimp only; omega, hGI.next⟩, hFJ, fst_set hps hL⟩) (by dsimp only; omega)) (((show Lands _ (At safeI y x :: At safesI 1 (L.eraseIdx w) :: rowP 64 1 sa 3 sc ([y0, y1, y2].map ptrV) :: rowP 3 1 a ds.length c (ds.map intV) :: rowP 4 1 a2 ds.length c2 (ce.map boolV) :: rowP 3 1 a3 ds.length c3 (vo.map natV) :: pt b11 (.cells [.int .i64 fx].toArray 3) :: At treeI p s :: At worldI k ⟨l, []⟩ :: F) from .fin).trans ((safes_put (u := 0) hL).trans .fin))) (.cons rfl (.cons rfl (.cons rfl (.cons rfl (.cons rfl (.cons rfl (.cons rfl (.cons' rfl (ie (by dsimp only; omega)) (.nil)))))))))
                  · refine SC_region ?_
                    refine SR_pu (RD_move rfl) rfl ?_
                    refine SR_pu (RD_move rfl) rfl ?_
                    refine SR_rd (RD_ixO (i := (o : Nat)) (cs := ce.map boolV) Try.runUnderlying66 Try.sizeOf4 rfl rfl (by simp; omega) (by omega) (by omega)) Has.ro rfl ?_
                    refine SR_rd (RD_loadO (v := boolV e) (cs := ce.map boolV) Try.isAgg4 rfl ((fun q hq => by rw [hq, List.getElem?_map, he]; rfl : ∀ q : Nat, q = o → (ce.map boolV)[q]? = some (boolV e)) _ (by simp))) Has.ro rfl ?_
                    refine SR_pu (RD_not rfl) rfl ?_
                    refine SR_pu (RD_move rfl) rfl ?_
                    refine SR_guard rfl rfl (fun hg33_5 => ?_) (fun hg33_5 => ?_)
                    · refine SR_yes rfl rfl (hg33_5) ?_
                      refine SR_pu (RD_move rfl) rfl ?_
                      refine SR_yes rfl rfl (hg33_5) ?_
                      refine SR_pu (RD_move rfl) rfl ?_
                      refine SR_yes rfl rfl (hg33_5) ?_
                      refine SR_rd (RD_ixO (i := (o : Nat)) (cs := vo.map natV) Try.runUnderlying24 Try.sizeOf3 rfl rfl (by simp; omega) (by omega) (by omega)) Has.ro rfl ?_
                      refine SR_yes rfl rfl (hg33_5) ?_
                      refine SR_rd (RD_loadO (v := natV m) (cs := vo.map natV) Try.isAgg3 rfl (by simp [hm])) Has.ro rfl ?_
                      refine SR_yes rfl rfl (hg33_5) ?_
                      refine SR_pu (RD_eql rfl rfl) rfl ?_
                      refine SR_yes rfl rfl (hg33_5) ?_
                      refine SR_pu (RD_move rfl) rfl ?_
                      refine SR_guard rfl rfl (fun hg33_11 => ?_) (fun hg33_11 => ?_)
                      · refine SR_yes rfl rfl (hg33_11) ?_
                        refine SR_pu (RD_move rfl) rfl ?_
                        refine SR_yes rfl rfl (hg33_11) ?_
                        refine SR_pu (RD_move rfl) rfl ?_
                        refine SR_yes rfl rfl (hg33_11) ?_
                        refine SR_rd (RD_ixO (i := (o : Nat)) (cs := vo.map natV) Try.runUnderlying24 Try.sizeOf3 rfl rfl (by simp; omega) (by omega) (by omega)) Has.ro rfl ?_
                        refine SR_yes rfl rfl (hg33_11) ?_
                        refine SR_rd (RD_loadO (v := natV m) (cs := vo.map natV) Try.isAgg3 rfl (by simp [hm])) Has.ro rfl ?_
                        refine SR_yes rfl rfl (hg33_11) ?_
                        refine SR_pu (RD_eql rfl rfl) rfl ?_
                        refine SR_yes rfl rfl (hg33_5) ?_
                        refine SR_pu (RD_pick_f rfl (hg33_11) rfl) rfl ?_
                        refine SR_yes rfl rfl (hg33_5) ?_
                        refine SR_pu (RD_move rfl) rfl ?_
                        refine SR_guard rfl rfl (fun hg33_18 => ?_) (fun hg33_18 => ?_)
                        · refine SR_yes rfl rfl (hg33_18) ?_
                          refine SR_pu (RD_move rfl) rfl ?_
                          refine SR_yes rfl rfl (hg33_18) ?_
                          refine SR_pu (RD_move rfl) rfl ?_
                          refine SR_yes rfl rfl (hg33_18) ?_
                          refine SR_rd (RD_ixO (i := (o : Nat)) (cs := vo.map natV) Try.runUnderlying24 Try.sizeOf3 rfl rfl (by simp; omega) (by omega) (by omega)) Has.ro rfl ?_
                          refine SR_yes rfl rfl (hg33_18) ?_
                          refine SR_rd (RD_loadO (v := natV m) (cs := vo.map natV) Try.isAgg3 rfl (by simp [hm])) Has.ro rfl ?_
                          refine SR_yes rfl rfl (hg33_18) ?_
                          refine SR_pu (RD_eql rfl rfl) rfl ?_
                          refine SR_yes rfl rfl (hg33_5) ?_
                          refine SR_pu (RD_pick_f rfl (hg33_18) rfl) rfl ?_
                          refine SR_yes rfl rfl (hg33_5) ?_
                          refine SR_pu (RD_move rfl) rfl ?_
                          refine SR_guard rfl rfl (fun hg33_25 => ?_) (fun hg33_25 => ?_)
                          · refine SR_yes rfl rfl (hg33_25) ?_
                            refine SR_pu (RD_move rfl) rfl ?_
                            refine SR_yes rfl rfl (hg33_25) ?_
                            refine SR_pu (RD_move rfl) rfl ?_
                            refine SR_yes rfl rfl (hg33_25) ?_
                            refine SR_rd (RD_ixO (i := (o : Nat)) (cs := vo.map natV) Try.runUnderlying24 Try.sizeOf3 rfl rfl (by simp; omega) (by omega) (by omega)) Has.ro rfl ?_
                            refine SR_yes rfl rfl (hg33_25) ?_
                            refine SR_rd (RD_loadO (v := natV m) (cs := vo.map natV) Try.isAgg3 rfl (by simp [hm])) Has.ro rfl ?_
                            refine SR_yes rfl rfl (hg33_25) ?_
                            refine SR_pu (RD_eql rfl rfl) rfl ?_
                            refine SR_yes rfl rfl (hg33_5) ?_
                            refine SR_pu (RD_pick_f rfl (hg33_25) rfl) rfl ?_
                            refine SR_pu (RD_pick_t rfl (hg33_5) rfl) rfl ?_
                            refine SR_nil ?_
                            refine SN.le (l := [(0, _), (4, _), (5, _), (8, _), (9, _), (10, _), (11, _), (12, _), (14, _), (15, _), (160, _)]) ?_ (.cons rfl (.cons rfl (.cons rfl (.cons rfl (.cons rfl (.cons rfl (.cons rfl (.cons rfl (.cons rfl (.cons rfl (.cons rfl (.nil))))))))))))
                            refine SN_seq ?_
                            refine SC_cond rfl (fun hc160 => ?_) (fun hc160 => ?_)
                            · have hef : e = false := by simpa using hg33_5
                              subst hef
                              obtain ⟨hcer, hahead, halone⟩ := hFJ.certify hGI hd he hm (.inr (.inr (.inr (by have := of_decide_eq_true hc160; omega))))
                              have hfin := (hFJ.in_ hGI hFJ.fix).2.1
                              have hol := (List.getElem?_eq_some_iff.1 hd).1
                              refine SC_seq ?_
                              refine SC_region ?_
                              refine SR_pu (RD_move rfl) rfl ?_
                              refine SR_pu (RD_move rfl) rfl ?_
                              refine SR_rd (RD_ixO (i := (o : Nat)) (cs := ce.map boolV) Try.runUnderlying66 Try.sizeOf4 rfl rfl (by simp; omega) (by omega) (by omega)) Has.ro rfl ?_
                              refine SR_ox0 (OX_stRow (v := boolV true) Try.sizeOf4 rfl rfl (by simp; omega)) ?_
                              rintro _ _ rfl
                              refine SR_nil ?_
                              refine SN.le (l := [(0, _), (4, _), (5, _), (8, _), (9, _), (10, _), (11, _), (12, _), (14, _), (15, _)]) ?_ (.cons rfl (.cons rfl (.cons rfl (.cons rfl (.cons rfl (.cons rfl (.cons rfl (.cons rfl (.cons rfl (.cons rfl (.nil)))))))))))
                              refine SN.lands (show Lands _ (At safeI y x :: At safesI 1 (L.eraseIdx w) :: rowP 64 1 sa 3 sc ([y0, y1, y2].map ptrV) :: rowP 3 1 a ds.length c (ds.map intV) :: rowP 4 1 a2 ds.length c2 ((ce.set o true).map boolV) :: rowP 3 1 a3 ds.length c3 (vo.map natV) :: pt b11 (.cells [.int .i64 fx].toArray 3) :: At treeI p s :: At worldI k ⟨l, []⟩ :: F) from (by rw [show (ce.set o true).map boolV = (ce.map boolV).set (((o : Nat) : Int).toNat * (0 + 1)) (boolV true) by rw [List.map_set]; simp]; exact (show Lands _ (At safeI y x :: At safesI 1 (L.eraseIdx w) :: rowP 64 1 sa 3 sc ([y0, y1, y2].map ptrV) :: rowP 3 1 a ds.length c (ds.map intV) :: rowP 4 1 a2 ds.length c2 ((ce.map boolV).set (((o : Nat) : Int).toNat * (0 + 1)) (boolV true)) :: rowP 3 1 a3 ds.length c3 (vo.map natV) :: pt b11 (.cells [.int .i64 fx].toArray 3) :: At treeI p s :: At worldI k ⟨l, []⟩ :: F) from .fin))) ?_
                              refine SN_seq ?_
                              refine SC_seq ?_
                              refine SC_seq ?_
                              refine SC_drawn (.cons 0 true (.cons 1 true (.cons 2 true (.cons 3 true (.cons 4 true (.cons 5 true (.cons 6 false (.cons 7 true (.cons 8 true (.cons 9 true (.cons 10 true (.cons 11 true (.nil))))))))))))) (by kernel_rfl) (by kernel_rfl) ?_
                              refine SQ_pu rfl (RD_move rfl) rfl ?_
                              refine SQ_rd rfl (RD_load Try.isAgg3 rfl) (Has.ce rfl) rfl ?_
                              refine SQ_pu rfl (RD_move rfl) rfl ?_
                              refine SQ_pu rfl (RD_move rfl) rfl ?_
                              refine SQ_rd rfl (RD_ixO (i := (o : Nat)) (cs := ds.map intV) Try.runUnderlying24 Try.sizeOf3 rfl rfl (by simp) (by omega) (by omega)) Has.ro rfl ?_
                              refine SQ_rd rfl (RD_loadO (v := intV d) (cs := ds.map intV) Try.isAgg3 rfl (by simp [hd])) Has.ro rfl ?_
                              refine SQ_call rfl Try.call37 (.cons rfl (.cons rfl (.cons rfl (.nil)))) (CallsK.at (tree_Path_yes p s hGI.ok fx d hfin ⟨b, hb⟩ (by have := hvw d; omega))) (lts rfl) ?_
                              rintro _ L13 ⟨ra13, rc13, rfl, hL13⟩
                              refine ⟨.lands hL13 (.w rfl (.h Has.ro (.w rfl (.nil)))), ?_⟩
                              refine SQ.lands hL13 ?_
                              refine SQ_pu rfl (RD_move rfl) rfl ?_
                              refine SQ_pu rfl (RD_extract rfl rfl) rfl ?_
                              refine SQ_pu rfl (RD_extract rfl rfl) rfl ?_
                              refine SQ_pu rfl (RD_assign rfl) rfl ?_
                              refine SQ_pu rfl (RD_assign rfl) rfl ?_
                              refine SQ_nil ?_
                              refine SN.le (l := [(0, _), (4, _), (5, _), (8, _), (9, _), (10, _), (11, _), (12, _), (14, _), (15, _), (21, _)]) ?_ (.cons rfl (.cons rfl (.cons rfl (.cons rfl (.cons rfl (.cons rfl (.cons rfl (.cons rfl (.cons rfl (.cons rfl (.cons rfl (.nil))))))))))))
                              refine SN_seq ?_
                              refine SC_seq ?_
                              refine SC_drawn (.cons 0 true (.cons 1 true (.cons 2 true (.cons 3 true (.cons 4 true (.cons 5 true (.cons 6 true (.cons 7 true (.cons 9 true (.cons 10 true (.cons 8 false (.cons 11 false (.cons 12 true (.cons 13 true (.nil))))))))))))))) (by kernel_rfl) (by kernel_rfl) ?_
                              refine SQ_pu rfl (RD_move rfl) rfl ?_
                              refine SQ_pu rfl (RD_not rfl) rfl ?_
                              refine SQ_pu rfl (RD_move rfl) rfl ?_
                              refine SQ_guard (i := 3) rfl rfl rfl (fun hg36_2 => ?_) (fun hg36_2 => ?_)
                              · refine SQ_pyes rfl rfl rfl (hg36_2) (RD_move rfl) rfl ?_
                                refine SQ_pyes rfl rfl rfl (hg36_2) (RD_move rfl) rfl ?_
                                refine SQ_pyes rfl rfl rfl (hg36_2) (RD_move rfl) rfl ?_
                                refine SQ_yes rfl rfl rfl (hg36_2) (RD_ixO (i := (o : Nat)) (cs := ds.map intV) Try.runUnderlying24 Try.sizeOf3 rfl rfl (by simp) (by omega) (by omega)) Has.ro rfl ?_
                                refine SQ_yes rfl rfl rfl (hg36_2) (RD_loadO (v := intV d) (cs := ds.map intV) Try.isAgg3 rfl (by simp [hd])) Has.ro rfl ?_
                                refine SQ_pyes rfl rfl rfl (hg36_2) (RD_move rfl) rfl ?_
                                refine SQ_yes rfl rfl rfl (hg36_2) (RD_load Try.isAgg3 rfl) (Has.ce rfl) rfl ?_
                                refine SQ_one (SA_call rfl (.mk rfl rfl (hg36_2)) Try.call31 (.cons rfl (.cons rfl (.nil))) (CallsK.at (tree_View p s (d))) (lts rfl) ?_)
                                rintro _ L16 ⟨rfl, hL16⟩
                                refine ⟨.lands hL16 (.h (Has.ce rfl) (.w rfl (.h Has.ro (.nil)))), ?_⟩
                                refine SQ.lands hL16 ?_
                                refine SQ_one (SA_call rfl (.mk rfl rfl (hg36_2)) Try.call31 (.cons rfl (.cons rfl (.nil))) (CallsK.at (tree_View p s (fx))) (lts rfl) ?_)
                                rintro _ L17 ⟨rfl, hL17⟩
                                refine ⟨.lands hL17 (.w rfl (.h Has.ro (.h Has.ro (.nil)))), ?_⟩
                                refine SQ.lands hL17 ?_
                                refine SQ_pyes rfl rfl rfl (hg36_2) (RD_gtr rfl rfl) rfl ?_
                                refine SQ_pu rfl (RD_pick_t rfl (hg36_2) rfl) rfl ?_
                                refine SQ_nil ?_
                                refine SN.le (l := [(0, _), (4, _), (5, _), (8, _), (9, _), (10, _), (11, _), (12, _), (14, _), (15, _), (187, _)]) ?_ (.cons rfl (.cons rfl (.cons rfl (.cons rfl (.cons rfl (.cons rfl (.cons rfl (.cons rfl (.cons rfl (.cons rfl (.cons rfl (.nil))))))))))))
                                refine SN_seq ?_
                                refine SC_cond_false rfl (decide_eq_false (fun h => by have h2 := hahead h; rw [show onw s fx d = false by simpa using hg36_2] at h2; cases h2)) ?_
                                refine SC_skip ?_
                                refine SN_seq ?_
                                refine SC_seq ?_
                                refine SC_region ?_
                                refine SR_pu (RD_move rfl) rfl ?_
                                refine SR_pu (RD_len Try.runUnderlying24 rfl) rfl ?_
                                refine SR_pu (RD_move rfl) rfl ?_
                                refine SR_nil ?_
                                refine SN.le (l := [(0, _), (4, _), (5, _), (8, _), (9, _), (10, _), (11, _), (12, _), (14, _), (15, _), (189, _), (190, _)]) ?_ (.cons rfl (.cons rfl (.cons rfl (.cons rfl (.cons rfl (.cons rfl (.cons rfl (.cons rfl (.cons rfl (.cons rfl (.cons rfl (.cons rfl (.nil)))))))))))))
                                refine SN_seq ?_
                                refine SC_block ?_
                                refine SC_ind (X := Nat) (fun j => j ≤ ds.length) (fun j => ds.length - j) (fun j => [(0, .slice a0 n0 c0), (4, .pointer (some ⟨p, 0, none⟩)), (5, .slice sa 3 sc), (8, .slice a ds.length c), (9, .slice a2 ds.length c2), (10, .slice a3 ds.length c3), (11, .pointer (some ⟨b11, 0, none⟩)), (12, .int .i64 (i : Nat)), (14, .int .i64 (o : Nat)), (15, .int .i64 (w : Nat)), (189, .int .i64 (ds.length : Nat)), (190, .int .i64 (j : Nat))]) (fun j => At safeI y x :: At safesI 1 (L.eraseIdx w) :: rowP 64 1 sa 3 sc ([y0, y1, y2].map ptrV) :: rowP 3 1 a ds.length c (ds.map intV) :: rowP 4 1 a2 ds.length c2 ((ce.set o true).map boolV) :: rowP 3 1 a3 ds.length c3 (vo.map natV) :: pt b11 (.cells [.int .i64 fx].toArray 3) :: At treeI p s :: At worldI k ⟨l, []⟩ :: F) (0) (by omega) (.cons rfl (.cons rfl (.cons rfl (.cons rfl (.cons rfl (.cons rfl (.cons rfl (.cons rfl (.cons rfl (.cons rfl (.cons rfl (.cons rfl (.nil))))))))))))) (.fin) ?_
                                intro j hi ih3
                                refine SC_seq ?_
                                refine SC_region ?_
                                refine SR_pu (RD_lss rfl rfl) rfl ?_
                                refine SR_nil ?_
                                refine SN.le (l := [(0, _), (4, _), (5, _), (8, _), (9, _), (10, _), (11, _), (12, _), (14, _), (15, _), (189, _), (190, _), (191, _)]) ?_ (.cons rfl (.cons rfl (.cons rfl (.cons rfl (.cons rfl (.cons rfl (.cons rfl (.cons rfl (.cons rfl (.cons rfl (.cons rfl (.cons rfl (.cons rfl (.nil))))))))))))))
                                refine SN_seq ?_
                                refine SC_seq ?_
                                refine SC_cond rfl (fun hc191 => ?_) (fun hc191 => ?_)
                                · have hjn : j < ds.length := by simp at hc191; omega
                                  obtain ⟨dj, hdj⟩ : ∃ d, ds[j]? = some d := ⟨_, List.getElem?_eq_getElem hjn⟩
                                  obtain ⟨ej, hej⟩ : ∃ e, (ce.set o true)[j]? = some e := ⟨_, List.getElem?_eq_getElem (by simp; omega)⟩
                                  refine SC_skip ?_
                                  refine SN_seq ?_
                                  refine SC_seq ?_
                                  refine SC_block ?_
                                  refine SC_seq ?_
                                  refine SC_region ?_
                                  refine SR_pu (RD_move rfl) rfl ?_
                                  refine SR_pu (RD_assign rfl) rfl ?_
                                  refine SR_nil ?_
                                  refine SN.le (l := [(0, _), (4, _), (5, _), (8, _), (9, _), (10, _), (11, _), (12, _), (14, _), (15, _), (22, _), (189, _), (190, _)]) ?_ (.cons rfl (.cons rfl (.cons rfl (.cons rfl (.cons rfl (.cons rfl (.cons rfl (.cons rfl (.cons rfl (.cons rfl (.cons rfl (.cons rfl (.cons rfl (.nil))))))))))))))
                                  refine SN_seq ?_
                                  refine SC_seq ?_
                                  refine SC_drawn (.cons 0 true (.cons 1 true (.cons 2 true (.cons 3 true (.cons 4 true (.cons 5 true (.cons 6 true (.cons 7 true (.cons 8 true (.cons 9 true (.cons 10 true (.cons 11 true (.cons 12 true (.cons 13 true (.cons 14 true (.cons 16 true (.cons 17 true (.cons 18 true (.cons 19 true (.cons 20 true (.cons 15 false (.cons 21 false (.cons 22 true (.cons 23 true (.nil))))))))))))))))))))))))) (by kernel_rfl) (by kernel_rfl) ?_
                                  refine SQ_pu rfl (RD_move rfl) rfl ?_
                                  refine SQ_pu rfl (RD_move rfl) rfl ?_
                                  refine SQ_pu rfl (RD_neq rfl rfl) rfl ?_
                                  refine SQ_pu rfl (RD_move rfl) rfl ?_
                                  refine SQ_guard (i := 4) rfl rfl rfl (fun hg41_3 => ?_) (fun hg41_3 => ?_)
                                  · refine SQ_pyes rfl rfl rfl (hg41_3) (RD_move rfl) rfl ?_
                                    refine SQ_pyes rfl rfl rfl (hg41_3) (RD_move rfl) rfl ?_
                                    refine SQ_yes rfl rfl rfl (hg41_3) (RD_ixO (i := (j : Nat)) (cs := (ce.set o true).map boolV) Try.runUnderlying66 Try.sizeOf4 rfl rfl (by simp; omega) (by omega) (by omega)) Has.ro rfl ?_
                                    refine SQ_yes rfl rfl rfl (hg41_3) (RD_loadO (v := boolV ej) (cs := (ce.set o true).map boolV) Try.isAgg4 rfl ((fun q hq => by rw [hq, List.getElem?_map, hej]; rfl : ∀ q : Nat, q = j → ((ce.set o true).map boolV)[q]? = some (boolV ej)) _ (by simp))) Has.ro rfl ?_
                                    refine SQ_pu rfl (RD_pick_t rfl (hg41_3) rfl) rfl ?_
                                    refine SQ_pu rfl (RD_move rfl) rfl ?_
                                    refine SQ_guard (i := 10) rfl rfl rfl (fun hg41_9 => ?_) (fun hg41_9 => ?_)
                                    · refine SQ_pyes rfl rfl rfl (hg41_9) (RD_move rfl) rfl ?_
                                      refine SQ_pyes rfl rfl rfl (hg41_9) (RD_move rfl) rfl ?_
                                      refine SQ_pyes rfl rfl rfl (hg41_9) (RD_move rfl) rfl ?_
                                      refine SQ_yes rfl rfl rfl (hg41_9) (RD_ixO (i := (j : Nat)) (cs := ds.map intV) Try.runUnderlying24 Try.sizeOf3 rfl rfl (by simp) (by omega) (by omega)) Has.ro rfl ?_
                                      refine SQ_yes rfl rfl rfl (hg41_9) (RD_loadO (v := intV dj) (cs := ds.map intV) Try.isAgg3 rfl (by simp [hdj])) Has.ro rfl ?_
                                      refine SQ_pyes rfl rfl rfl (hg41_9) (RD_move rfl) rfl ?_
                                      refine SQ_pyes rfl rfl rfl (hg41_9) (RD_move rfl) rfl ?_
                                      refine SQ_pyes rfl rfl rfl (hg41_9) (RD_move rfl) rfl ?_
                                      refine SQ_yes rfl rfl rfl (hg41_9) (RD_ixO (i := (o : Nat)) (cs := ds.map intV) Try.runUnderlying24 Try.sizeOf3 rfl rfl (by simp) (by omega) (by omega)) Has.ro rfl ?_
                                      refine SQ_yes rfl rfl rfl (hg41_9) (RD_loadO (v := intV d) (cs := ds.map intV) Try.isAgg3 rfl (by simp [hd])) Has.ro rfl ?_
                                      refine SQ_one (SA_call rfl (.mk rfl rfl (hg41_9)) Try.call31 (.cons rfl (.cons rfl (.nil))) (CallsK.at (tree_View p s (dj))) (lts rfl) ?_)
                                      rintro _ L18 ⟨rfl, hL18⟩
                                      refine ⟨.lands hL18 (.h Has.ro (.h Has.ro (.w rfl (.h Has.ro (.h Has.ro (.h Has.ro (.nil))))))), ?_⟩
                                      refine SQ.lands hL18 ?_
                                      refine SQ_one (SA_call rfl (.mk rfl rfl (hg41_9)) Try.call31 (.cons rfl (.cons rfl (.nil))) (CallsK.at (tree_View p s (d))) (lts rfl) ?_)
                                      rintro _ L19 ⟨rfl, hL19⟩
                                      refine ⟨.lands hL19 (.w rfl (.h Has.ro (.h Has.ro (.h Has.ro (.h Has.ro (.h Has.ro (.nil))))))), ?_⟩
                                      refine SQ.lands hL19 ?_
                                      refine SQ_pyes rfl rfl rfl (hg41_9) (RD_eql rfl rfl) rfl ?_
                                      refine SQ_pu rfl (RD_pick_t rfl (hg41_9) rfl) rfl ?_
                                      refine SQ_nil ?_
                                      refine SN.le (l := [(0, _), (4, _), (5, _), (8, _), (9, _), (10, _), (11, _), (12, _), (14, _), (15, _), (189, _), (190, _), (216, _)]) ?_ (.cons rfl (.cons rfl (.cons rfl (.cons rfl (.cons rfl (.cons rfl (.cons rfl (.cons rfl (.cons rfl (.cons rfl (.cons rfl (.cons rfl (.cons rfl (.nil))))))))))))))
                                      refine SN_seq ?_
                                      refine SC_cond_false rfl (decide_eq_false (fun h => halone j dj (by have h9 := hg41_3; simp at h9; omega) hdj (by rw [hej, show ej = true from hg41_9]) h)) ?_
                                      refine SC_skip ?_
                                      refine SN_block ?_
                                      refine SN_seq ?_
                                      refine SC_region ?_
                                      refine SR_pu (RD_addi rfl rfl (by omega) (by omega)) rfl ?_
                                      refine SR_pu (RD_move rfl) rfl ?_
                                      refine SR_nil ?_
                                      refine SN.le (l := [(0, _), (4, _), (5, _), (8, _), (9, _), (10, _), (11, _), (12, _), (14, _), (15, _), (189, _), (190, _)]) ?_ (.cons rfl (.cons rfl (.cons rfl (.cons rfl (.cons rfl (.cons rfl (.cons rfl (.cons rfl (.cons rfl (.cons rfl (.cons rfl (.cons rfl (.nil)))))))))))))
                                      refine SC_again (ih3 (j + 1) (by omega) (by omega)) (.fin) (.cons rfl (.cons rfl (.cons rfl (.cons rfl (.cons rfl (.cons rfl (.cons rfl (.cons rfl (.cons rfl (.cons rfl (.cons rfl (.cons' rfl (ie (by omega)) (.nil)))))))))))))
                                    · refine SQ_no rfl rfl rfl (hg41_9) (lts rfl) ?_
                                      refine SQ_no rfl rfl rfl (hg41_9) (lts rfl) ?_
                                      refine SQ_no rfl rfl rfl (hg41_9) (lts rfl) ?_
                                      refine SQ_no rfl rfl rfl (hg41_9) (lts rfl) ?_
                                      refine SQ_no rfl rfl rfl (hg41_9) (lts rfl) ?_
                                      refine SQ_no rfl rfl rfl (hg41_9) (lts rfl) ?_
                                      refine SQ_no rfl rfl rfl (hg41_9) (lts rfl) ?_
                                      refine SQ_no rfl rfl rfl (hg41_9) (lts rfl) ?_
                                      refine SQ_no rfl rfl rfl (hg41_9) (lts rfl) ?_
                                      refine SQ_no rfl rfl rfl (hg41_9) (lts rfl) ?_
                                      refine SQ_no1 rfl rfl rfl (hg41_9) (lts rfl) ?_
                                      refine SQ_no1 rfl rfl rfl (hg41_9) (lts rfl) ?_
                                      refine SQ_no rfl rfl rfl (hg41_9) (lts rfl) ?_
                                      refine SQ_pu rfl (RD_pick_f rfl (hg41_9) rfl) rfl ?_
                                      refine SQ_nil ?_
                                      refine SN.le (l := [(0, _), (4, _), (5, _), (8, _), (9, _), (10, _), (11, _), (12, _), (14, _), (15, _), (189, _), (190, _), (216, _)]) ?_ (.cons rfl (.cons rfl (.cons rfl (.cons rfl (.cons rfl (.cons rfl (.cons rfl (.cons rfl (.cons rfl (.cons rfl (.cons rfl (.cons rfl (.cons rfl (.nil))))))))))))))
                                      refine SN_seq ?_
                                      refine SC_cond_false rfl (rfl) ?_
                                      refine SC_skip ?_
                                      refine SN_block ?_
                                      refine SN_seq ?_
                                      refine SC_region ?_
                                      refine SR_pu (RD_addi rfl rfl (by omega) (by omega)) rfl ?_
                                      refine SR_pu (RD_move rfl) rfl ?_
                                      refine SR_nil ?_
                                      refine SN.le (l := [(0, _), (4, _), (5, _), (8, _), (9, _), (10, _), (11, _), (12, _), (14, _), (15, _), (189, _), (190, _)]) ?_ (.cons rfl (.cons rfl (.cons rfl (.cons rfl (.cons rfl (.cons rfl (.cons rfl (.cons rfl (.cons rfl (.cons rfl (.cons rfl (.cons rfl (.nil)))))))))))))
                                      refine SC_again (ih3 (j + 1) (by omega) (by omega)) (.fin) (.cons rfl (.cons rfl (.cons rfl (.cons rfl (.cons rfl (.cons rfl (.cons rfl (.cons rfl (.cons rfl (.cons rfl (.cons rfl (.cons' rfl (ie (by omega)) (.nil)))))))))))))
                                  · refine SQ_no rfl rfl rfl (hg41_3) (lts rfl) ?_
                                    refine SQ_no rfl rfl rfl (hg41_3) (lts rfl) ?_
                                    refine SQ_no rfl rfl rfl (hg41_3) (lts rfl) ?_
                                    refine SQ_no rfl rfl rfl (hg41_3) (lts rfl) ?_
                                    refine SQ_pu rfl (RD_pick_f rfl (hg41_3) rfl) rfl ?_
                                    refine SQ_pu rfl (RD_move rfl) rfl ?_
                                    refine SQ_no rfl rfl rfl (rfl) (lts rfl) ?_
                                    refine SQ_no rfl rfl rfl (rfl) (lts rfl) ?_
                                    refine SQ_no rfl rfl rfl (rfl) (lts rfl) ?_
                                    refine SQ_no rfl rfl rfl (rfl) (lts rfl) ?_
                                    refine SQ_no rfl rfl rfl (rfl) (lts rfl) ?_
                                    refine SQ_no rfl rfl rfl (rfl) (lts rfl) ?_
                                    refine SQ_no rfl rfl rfl (rfl) (lts rfl) ?_
                                    refine SQ_no rfl rfl rfl (rfl) (lts rfl) ?_
                                    refine SQ_no rfl rfl rfl (rfl) (lts rfl) ?_
                                    refine SQ_no rfl rfl rfl (rfl) (lts rfl) ?_
                                    refine SQ_no1 rfl rfl rfl (rfl) (lts rfl) ?_
                                    refine SQ_no1 rfl rfl rfl (rfl) (lts rfl) ?_
                                    refine SQ_no rfl rfl rfl (rfl) (lts rfl) ?_
                                    refine SQ_pu rfl (RD_pick_f rfl (rfl) rfl) rfl ?_
                                    refine SQ_nil ?_
                                    refine SN.le (l := [(0, _), (4, _), (5, _), (8, _), (9, _), (10, _), (11, _), (12, _), (14, _), (15, _), (189, _), (190, _), (216, _)]) ?_ (.cons rfl (.cons rfl (.cons rfl (.cons rfl (.cons rfl (.cons rfl (.cons rfl (.cons rfl (.cons rfl (.cons rfl (.cons rfl (.cons rfl (.cons rfl (.nil))))))))))))))
                                    refine SN_seq ?_
                                    refine SC_cond_false rfl (rfl) ?_
                                    refine SC_skip ?_
                                    refine SN_block ?_
                                    refine SN_seq ?_
                                    refine SC_region ?_
                                    refine SR_pu (RD_addi rfl rfl (by omega) (by omega)) rfl ?_
                                    refine SR_pu (RD_move rfl) rfl ?_
                                    refine SR_nil ?_
                                    refine SN.le (l := [(0, _), (4, _), (5, _), (8, _), (9, _), (10, _), (11, _), (12, _), (14, _), (15, _), (189, _), (190, _)]) ?_ (.cons rfl (.cons rfl (.cons rfl (.cons rfl (.cons rfl (.cons rfl (.cons rfl (.cons rfl (.cons rfl (.cons rfl (.cons rfl (.cons rfl (.nil)))))))))))))
                                    refine SC_again (ih3 (j + 1) (by omega) (by omega)) (.fin) (.cons rfl (.cons rfl (.cons rfl (.cons rfl (.cons rfl (.cons rfl (.cons rfl (.cons rfl (.cons rfl (.cons rfl (.cons rfl (.cons' rfl (ie (by omega)) (.nil)))))))))))))
                                · clear ih3
                                  refine SC_exit rfl ?_
                                  exact J0 (⟨ce.set o true, hcer⟩) _ _ (.cons rfl (.cons rfl (.cons rfl (.cons rfl (.cons rfl (.cons rfl (.cons rfl (.cons rfl (.cons rfl (.cons rfl (.nil))))))))))) (.fin)
                              · refine SQ_no rfl rfl rfl (hg36_2) (lts rfl) ?_
                                refine SQ_no rfl rfl rfl (hg36_2) (lts rfl) ?_
                                refine SQ_no rfl rfl rfl (hg36_2) (lts rfl) ?_
                                refine SQ_no rfl rfl rfl (hg36_2) (lts rfl) ?_
                                refine SQ_no rfl rfl rfl (hg36_2) (lts rfl) ?_
                                refine SQ_no rfl rfl rfl (hg36_2) (lts rfl) ?_
                                refine SQ_no rfl rfl rfl (hg36_2) (lts rfl) ?_
                                refine SQ_no1 rfl rfl rfl (hg36_2) (lts rfl) ?_
                                refine SQ_no1 rfl rfl rfl (hg36_2) (lts rfl) ?_
                                refine SQ_no rfl rfl rfl (hg36_2) (lts rfl) ?_
                                refine SQ_pu rfl (RD_pick_f rfl (hg36_2) rfl) rfl ?_
                                refine SQ_nil ?_
                                refine SN.le (l := [(0, _), (4, _), (5, _), (8, _), (9, _), (10, _), (11, _), (12, _), (14, _), (15, _), (187, _)]) ?_ (.cons rfl (.cons rfl (.cons rfl (.cons rfl (.cons rfl (.cons rfl (.cons rfl (.cons rfl (.cons rfl (.cons rfl (.cons rfl (.nil))))))))))))
                                refine SN_seq ?_
                                refine SC_cond_false rfl (rfl) ?_
                                refine SC_skip ?_
                                refine SN_seq ?_
                                refine SC_seq ?_
                                refine SC_region ?_
                                refine SR_pu (RD_move rfl) rfl ?_
                                refine SR_pu (RD_len Try.runUnderlying24 rfl) rfl ?_
                                refine SR_pu (RD_move rfl) rfl ?_
                                refine SR_nil ?_
                                refine SN.le (l := [(0, _), (4, _), (5, _), (8, _), (9, _), (10, _), (11, _), (12, _), (14, _), (15, _), (189, _), (190, _)]) ?_ (.cons rfl (.cons rfl (.cons rfl (.cons rfl (.cons rfl (.cons rfl (.cons rfl (.cons rfl (.cons rfl (.cons rfl (.cons rfl (.cons rfl (.nil)))))))))))))
                                refine SN_seq ?_
                                refine SC_block ?_
                                refine SC_ind (X := Nat) (fun j => j ≤ ds.length) (fun j => ds.length - j) (fun j => [(0, .slice a0 n0 c0), (4, .pointer (some ⟨p, 0, none⟩)), (5, .slice sa 3 sc), (8, .slice a ds.length c), (9, .slice a2 ds.length c2), (10, .slice a3 ds.length c3), (11, .pointer (some ⟨b11, 0, none⟩)), (12, .int .i64 (i : Nat)), (14, .int .i64 (o : Nat)), (15, .int .i64 (w : Nat)), (189, .int .i64 (ds.length : Nat)), (190, .int .i64 (j : Nat))]) (fun j => At safeI y x :: At safesI 1 (L.eraseIdx w) :: rowP 64 1 sa 3 sc ([y0, y1, y2].map ptrV) :: rowP 3 1 a ds.length c (ds.map intV) :: rowP 4 1 a2 ds.length c2 ((ce.set o true).map boolV) :: rowP 3 1 a3 ds.length c3 (vo.map natV) :: pt b11 (.cells [.int .i64 fx].toArray 3) :: At treeI p s :: At worldI k ⟨l, []⟩ :: F) (0) (by omega) (.cons rfl (.cons rfl (.cons rfl (.cons rfl (.cons rfl (.cons rfl (.cons rfl (.cons rfl (.cons rfl (.cons rfl (.cons rfl (.cons rfl (.nil))))))))))))) (.fin) ?_
                                intro j hi ih3
                                refine SC_seq ?_
                                refine SC_region ?_
                                refine SR_pu (RD_lss rfl rfl) rfl ?_
                                refine SR_nil ?_
                                refine SN.le (l := [(0, _), (4, _), (5, _), (8, _), (9, _), (10, _), (11, _), (12, _), (14, _), (15, _), (189, _), (190, _), (191, _)]) ?_ (.cons rfl (.cons rfl (.cons rfl (.cons rfl (.cons rfl (.cons rfl (.cons rfl (.cons rfl (.cons rfl (.cons rfl (.cons rfl (.cons rfl (.cons rfl (.nil))))))))))))))
                                refine SN_seq ?_
                                refine SC_seq ?_
                                refine SC_cond rfl (fun hc191 => ?_) (fun hc191 => ?_)
                                · have hjn : j < ds.length := by simp at hc191; omega
                                  obtain ⟨dj, hdj⟩ : ∃ d, ds[j]? = some d := ⟨_, List.getElem?_eq_getElem hjn⟩
                                  obtain ⟨ej, hej⟩ : ∃ e, (ce.set o true)[j]? = some e := ⟨_, List.getElem?_eq_getElem (by simp; omega)⟩
                                  refine SC_skip ?_
                                  refine SN_seq ?_
                                  refine SC_seq ?_
                                  refine SC_block ?_
                                  refine SC_seq ?_
                                  refine SC_region ?_
                                  refine SR_pu (RD_move rfl) rfl ?_
                                  refine SR_pu (RD_assign rfl) rfl ?_
                                  refine SR_nil ?_
                                  refine SN.le (l := [(0, _), (4, _), (5, _), (8, _), (9, _), (10, _), (11, _), (12, _), (14, _), (15, _), (22, _), (189, _), (190, _)]) ?_ (.cons rfl (.cons rfl (.cons rfl (.cons rfl (.cons rfl (.cons rfl (.cons rfl (.cons rfl (.cons rfl (.cons rfl (.cons rfl (.cons rfl (.cons rfl (.nil))))))))))))))
                                  refine SN_seq ?_
                                  refine SC_seq ?_
                                  refine SC_drawn (.cons 0 true (.cons 1 true (.cons 2 true (.cons 3 true (.cons 4 true (.cons 5 true (.cons 6 true (.cons 7 true (.cons 8 true (.cons 9 true (.cons 10 true (.cons 11 true (.cons 12 true (.cons 13 true (.cons 14 true (.cons 16 true (.cons 17 true (.cons 18 true (.cons 19 true (.cons 20 true (.cons 15 false (.cons 21 false (.cons 22 true (.cons 23 true (.nil))))))))))))))))))))))))) (by kernel_rfl) (by kernel_rfl) ?_
                                  refine SQ_pu rfl (RD_move rfl) rfl ?_
                                  refine SQ_pu rfl (RD_move rfl) rfl ?_
                                  refine SQ_pu rfl (RD_neq rfl rfl) rfl ?_
                                  refine SQ_pu rfl (RD_move rfl) rfl ?_
                                  refine SQ_guard (i := 4) rfl rfl rfl (fun hg41_3 => ?_) (fun hg41_3 => ?_)
                                  · refine SQ_pyes rfl rfl rfl (hg41_3) (RD_move rfl) rfl ?_
                                    refine SQ_pyes rfl rfl rfl (hg41_3) (RD_move rfl) rfl ?_
                                    refine SQ_yes rfl rfl rfl (hg41_3) (RD_ixO (i := (j : Nat)) (cs := (ce.set o true).map boolV) Try.runUnderlying66 Try.sizeOf4 rfl rfl (by simp; omega) (by omega) (by omega)) Has.ro rfl ?_
                                    refine SQ_yes rfl rfl rfl (hg41_3) (RD_loadO (v := boolV ej) (cs := (ce.set o true).map boolV) Try.isAgg4 rfl ((fun q hq => by rw [hq, List.getElem?_map, hej]; rfl : ∀ q : Nat, q = j → ((ce.set o true).map boolV)[q]? = some (boolV ej)) _ (by simp))) Has.ro rfl ?_
                                    refine SQ_pu rfl (RD_pick_t rfl (hg41_3) rfl) rfl ?_
                                    refine SQ_pu rfl (RD_move rfl) rfl ?_
                                    refine SQ_guard (i := 10) rfl rfl rfl (fun hg41_9 => ?_) (fun hg41_9 => ?_)
                                    · refine SQ_pyes rfl rfl rfl (hg41_9) (RD_move rfl) rfl ?_
                                      refine SQ_pyes rfl rfl rfl (hg41_9) (RD_move rfl) rfl ?_
                                      refine SQ_pyes rfl rfl rfl (hg41_9) (RD_move rfl) rfl ?_
                                      refine SQ_yes rfl rfl rfl (hg41_9) (RD_ixO (i := (j : Nat)) (cs := ds.map intV) Try.runUnderlying24 Try.sizeOf3 rfl rfl (by simp) (by omega) (by omega)) Has.ro rfl ?_
                                      refine SQ_yes rfl rfl rfl (hg41_9) (RD_loadO (v := intV dj) (cs := ds.map intV) Try.isAgg3 rfl (by simp [hdj])) Has.ro rfl ?_
                                      refine SQ_pyes rfl rfl rfl (hg41_9) (RD_move rfl) rfl ?_
                                      refine SQ_pyes rfl rfl rfl (hg41_9) (RD_move rfl) rfl ?_
                                      refine SQ_pyes rfl rfl rfl (hg41_9) (RD_move rfl) rfl ?_
                                      refine SQ_yes rfl rfl rfl (hg41_9) (RD_ixO (i := (o : Nat)) (cs := ds.map intV) Try.runUnderlying24 Try.sizeOf3 rfl rfl (by simp) (by omega) (by omega)) Has.ro rfl ?_
                                      refine SQ_yes rfl rfl rfl (hg41_9) (RD_loadO (v := intV d) (cs := ds.map intV) Try.isAgg3 rfl (by simp [hd])) Has.ro rfl ?_
                                      refine SQ_one (SA_call rfl (.mk rfl rfl (hg41_9)) Try.call31 (.cons rfl (.cons rfl (.nil))) (CallsK.at (tree_View p s (dj))) (lts rfl) ?_)
                                      rintro _ L18 ⟨rfl, hL18⟩
                                      refine ⟨.lands hL18 (.h Has.ro (.h Has.ro (.w rfl (.h Has.ro (.h Has.ro (.h Has.ro (.nil))))))), ?_⟩
                                      refine SQ.lands hL18 ?_
                                      refine SQ_one (SA_call rfl (.mk rfl rfl (hg41_9)) Try.call31 (.cons rfl (.cons rfl (.nil))) (CallsK.at (tree_View p s (d))) (lts rfl) ?_)
                                      rintro _ L19 ⟨rfl, hL19⟩
                                      refine ⟨.lands hL19 (.w rfl (.h Has.ro (.h Has.ro (.h Has.ro (.h Has.ro (.h Has.ro (.nil))))))), ?_⟩
                                      refine SQ.lands hL19 ?_
                                      refine SQ_pyes rfl rfl rfl (hg41_9) (RD_eql rfl rfl) rfl ?_
                                      refine SQ_pu rfl (RD_pick_t rfl (hg41_9) rfl) rfl ?_
                                      refine SQ_nil ?_
                                      refine SN.le (l := [(0, _), (4, _), (5, _), (8, _), (9, _), (10, _), (11, _), (12, _), (14, _), (15, _), (189, _), (190, _), (216, _)]) ?_ (.cons rfl (.cons rfl (.cons rfl (.cons rfl (.cons rfl (.cons rfl (.cons rfl (.cons rfl (.cons rfl (.cons rfl (.cons rfl (.cons rfl (.cons rfl (.nil))))))))))))))
                                      refine SN_seq ?_
                                      refine SC_cond_false rfl (decide_eq_false (fun h => halone j dj (by have h9 := hg41_3; simp at h9; omega) hdj (by rw [hej, show ej = true from hg41_9]) h)) ?_
                                      refine SC_skip ?_
                                      refine SN_block ?_
                                      refine SN_seq ?_
                                      refine SC_region ?_
                                      refine SR_pu (RD_addi rfl rfl (by omega) (by omega)) rfl ?_
                                      refine SR_pu (RD_move rfl) rfl ?_
                                      refine SR_nil ?_
                                      refine SN.le (l := [(0, _), (4, _), (5, _), (8, _), (9, _), (10, _), (11, _), (12, _), (14, _), (15, _), (189, _), (190, _)]) ?_ (.cons rfl (.cons rfl (.cons rfl (.cons rfl (.cons rfl (.cons rfl (.cons rfl (.cons rfl (.cons rfl (.cons rfl (.cons rfl (.cons rfl (.nil)))))))))))))
                                      refine SC_again (ih3 (j + 1) (by omega) (by omega)) (.fin) (.cons rfl (.cons rfl (.cons rfl (.cons rfl (.cons rfl (.cons rfl (.cons rfl (.cons rfl (.cons rfl (.cons rfl (.cons rfl (.cons' rfl (ie (by omega)) (.nil)))))))))))))
                                    · refine SQ_no rfl rfl rfl (hg41_9) (lts rfl) ?_
                                      refine SQ_no rfl rfl rfl (hg41_9) (lts rfl) ?_
                                      refine SQ_no rfl rfl rfl (hg41_9) (lts rfl) ?_
                                      refine SQ_no rfl rfl rfl (hg41_9) (lts rfl) ?_
                                      refine SQ_no rfl rfl rfl (hg41_9) (lts rfl) ?_
                                      refine SQ_no rfl rfl rfl (hg41_9) (lts rfl) ?_
                                      refine SQ_no rfl rfl rfl (hg41_9) (lts rfl) ?_
                                      refine SQ_no rfl rfl rfl (hg41_9) (lts rfl) ?_
                                      refine SQ_no rfl rfl rfl (hg41_9) (lts rfl) ?_
                                      refine SQ_no rfl rfl rfl (hg41_9) (lts rfl) ?_
                                      refine SQ_no1 rfl rfl rfl (hg41_9) (lts rfl) ?_
                                      refine SQ_no1 rfl rfl rfl (hg41_9) (lts rfl) ?_
                                      refine SQ_no rfl rfl rfl (hg41_9) (lts rfl) ?_
                                      refine SQ_pu rfl (RD_pick_f rfl (hg41_9) rfl) rfl ?_
                                      refine SQ_nil ?_
                                      refine SN.le (l := [(0, _), (4, _), (5, _), (8, _), (9, _), (10, _), (11, _), (12, _), (14, _), (15, _), (189, _), (190, _), (216, _)]) ?_ (.cons rfl (.cons rfl (.cons rfl (.cons rfl (.cons rfl (.cons rfl (.cons rfl (.cons rfl (.cons rfl (.cons rfl (.cons rfl (.cons rfl (.cons rfl (.nil))))))))))))))
                                      refine SN_seq ?_
                                      refine SC_cond_false rfl (rfl) ?_
                                      refine SC_skip ?_
                                      refine SN_block ?_
                                      refine SN_seq ?_
                                      refine SC_region ?_
                                      refine SR_pu (RD_addi rfl rfl (by omega) (by omega)) rfl ?_
                                      refine SR_pu (RD_move rfl) rfl ?_
                                      refine SR_nil ?_
                                      refine SN.le (l := [(0, _), (4, _), (5, _), (8, _), (9, _), (10, _), (11, _), (12, _), (14, _), (15, _), (189, _), (190, _)]) ?_ (.cons rfl (.cons rfl (.cons rfl (.cons rfl (.cons rfl (.cons rfl (.cons rfl (.cons rfl (.cons rfl (.cons rfl (.cons rfl (.cons rfl (.nil)))))))))))))
                                      refine SC_again (ih3 (j + 1) (by omega) (by omega)) (.fin) (.cons rfl (.cons rfl (.cons rfl (.cons rfl (.cons rfl (.cons rfl (.cons rfl (.cons rfl (.cons rfl (.cons rfl (.cons rfl (.cons' rfl (ie (by omega)) (.nil)))))))))))))
                                  · refine SQ_no rfl rfl rfl (hg41_3) (lts rfl) ?_
                                    refine SQ_no rfl rfl rfl (hg41_3) (lts rfl) ?_
                                    refine SQ_no rfl rfl rfl (hg41_3) (lts rfl) ?_
                                    refine SQ_no rfl rfl rfl (hg41_3) (lts rfl) ?_
                                    refine SQ_pu rfl (RD_pick_f rfl (hg41_3) rfl) rfl ?_
                                    refine SQ_pu rfl (RD_move rfl) rfl ?_
                                    refine SQ_no rfl rfl rfl (rfl) (lts rfl) ?_
                                    refine SQ_no rfl rfl rfl (rfl) (lts rfl) ?_
                                    refine SQ_no rfl rfl rfl (rfl) (lts rfl) ?_
                                    refine SQ_no rfl rfl rfl (rfl) (lts rfl) ?_
                                    refine SQ_no rfl rfl rfl (rfl) (lts rfl) ?_
                                    refine SQ_no rfl rfl rfl (rfl) (lts rfl) ?_
                                    refine SQ_no rfl rfl rfl (rfl) (lts rfl) ?_
                                    refine SQ_no rfl rfl rfl (rfl) (lts rfl) ?_
                                    refine SQ_no rfl rfl rfl (rfl) (lts rfl) ?_
                                    refine SQ_no rfl rfl rfl (rfl) (lts rfl) ?_
                                    refine SQ_no1 rfl rfl rfl (rfl) (lts rfl) ?_
                                    refine SQ_no1 rfl rfl rfl (rfl) (lts rfl) ?_
                                    refine SQ_no rfl rfl rfl (rfl) (lts rfl) ?_
                                    refine SQ_pu rfl (RD_pick_f rfl (rfl) rfl) rfl ?_
                                    refine SQ_nil ?_
                                    refine SN.le (l := [(0, _), (4, _), (5, _), (8, _), (9, _), (10, _), (11, _), (12, _), (14, _), (15, _), (189, _), (190, _), (216, _)]) ?_ (.cons rfl (.cons rfl (.cons rfl (.cons rfl (.cons rfl (.cons rfl (.cons rfl (.cons rfl (.cons rfl (.cons rfl (.cons rfl (.cons rfl (.cons rfl (.nil))))))))))))))
                                    refine SN_seq ?_
                                    refine SC_cond_false rfl (rfl) ?_
                                    refine SC_skip ?_
                                    refine SN_block ?_
                                    refine SN_seq ?_
                                    refine SC_region ?_
                                    refine SR_pu (RD_addi rfl rfl (by omega) (by omega)) rfl ?_
                                    refine SR_pu (RD_move rfl) rfl ?_
                                    refine SR_nil ?_
                                    refine SN.le (l := [(0, _), (4, _), (5, _), (8, _), (9, _), (10, _), (11, _), (12, _), (14, _), (15, _), (189, _), (190, _)]) ?_ (.cons rfl (.cons rfl (.cons rfl (.cons rfl (.cons rfl (.cons rfl (.cons rfl (.cons rfl (.cons rfl (.cons rfl (.cons rfl (.cons rfl (.nil)))))))))))))
                                    refine SC_again (ih3 (j + 1) (by omega) (by omega)) (.fin) (.cons rfl (.cons rfl (.cons rfl (.cons rfl (.cons rfl (.cons rfl (.cons rfl (.cons rfl (.cons rfl (.cons rfl (.cons rfl (.cons' rfl (ie (by omega)) (.nil)))))))))))))
                                · clear ih3
                                  refine SC_exit rfl ?_
                                  exact J0 (⟨ce.set o true, hcer⟩) _ _ (.cons rfl (.cons rfl (.cons rfl (.cons rfl (.cons rfl (.cons rfl (.cons rfl (.cons rfl (.cons rfl (.cons rfl (.nil))))))))))) (.fin)
                            · refine SC_skip ?_
                              exact J0 (⟨ce, hFJ⟩) _ _ (.cons rfl (.cons rfl (.cons rfl (.cons rfl (.cons rfl (.cons rfl (.cons rfl (.cons rfl (.cons rfl (.cons rfl (.nil))))))))))) (.fin)
                          · refine SR_no rfl rfl (hg33_25) (lts rfl) ?_
                            refine SR_no rfl rfl (hg33_25) (lts rfl) ?_
                            refine SR_no rfl rfl (hg33_25) (lts rfl) ?_
                            refine SR_no rfl rfl (hg33_25) (lts rfl) ?_
                            refine SR_no rfl rfl (hg33_25) (lts rfl) ?_
                            refine SR_yes rfl rfl (hg33_5) ?_
                            refine SR_pu (RD_pick_t rfl (hg33_25) rfl) rfl ?_
                            refine SR_pu (RD_pick_t rfl (hg33_5) rfl) rfl ?_
                            refine SR_nil ?_
                            refine SN.le (l := [(0, _), (4, _), (5, _), (8, _), (9, _), (10, _), (11, _), (12, _), (14, _), (15, _), (160, _)]) ?_ (.cons rfl (.cons rfl (.cons rfl (.cons rfl (.cons rfl (.cons rfl (.cons rfl (.cons rfl (.cons rfl (.cons rfl (.cons rfl (.nil))))))))))))
                            refine SN_seq ?_
                            refine SC_cond_true rfl (rfl) ?_
                            have hef : e = false := by simpa using hg33_5
                            subst hef
                            obtain ⟨hcer, hahead, halone⟩ := hFJ.certify hGI hd he hm (.inr (.inr (.inl (by have := of_decide_eq_true hg33_25; omega))))
                            have hfin := (hFJ.in_ hGI hFJ.fix).2.1
                            have hol := (List.getElem?_eq_some_iff.1 hd).1
                            refine SC_seq ?_
                            refine SC_region ?_
                            refine SR_pu (RD_move rfl) rfl ?_
                            refine SR_pu (RD_move rfl) rfl ?_
                            refine SR_rd (RD_ixO (i := (o : Nat)) (cs := ce.map boolV) Try.runUnderlying66 Try.sizeOf4 rfl rfl (by simp; omega) (by omega) (by omega)) Has.ro rfl ?_
                            refine SR_ox0 (OX_stRow (v := boolV true) Try.sizeOf4 rfl rfl (by simp; omega)) ?_
                            rintro _ _ rfl
                            refine SR_nil ?_
                            refine SN.le (l := [(0, _), (4, _), (5, _), (8, _), (9, _), (10, _), (11, _), (12, _), (14, _), (15, _)]) ?_ (.cons rfl (.cons rfl (.cons rfl (.cons rfl (.cons rfl (.cons rfl (.cons rfl (.cons rfl (.cons rfl (.cons rfl (.nil)))))))))))
                            refine SN.lands (show Lands _ (At safeI y x :: At safesI 1 (L.eraseIdx w) :: rowP 64 1 sa 3 sc ([y0, y1, y2].map ptrV) :: rowP 3 1 a ds.length c (ds.map intV) :: rowP 4 1 a2 ds.length c2 ((ce.set o true).map boolV) :: rowP 3 1 a3 ds.length c3 (vo.map natV) :: pt b11 (.cells [.int .i64 fx].toArray 3) :: At treeI p s :: At worldI k ⟨l, []⟩ :: F) from (by rw [show (ce.set o true).map boolV = (ce.map boolV).set (((o : Nat) : Int).toNat * (0 + 1)) (boolV true) by rw [List.map_set]; simp]; exact (show Lands _ (At safeI y x :: At safesI 1 (L.eraseIdx w) :: rowP 64 1 sa 3 sc ([y0, y1, y2].map ptrV) :: rowP 3 1 a ds.length c (ds.map intV) :: rowP 4 1 a2 ds.length c2 ((ce.map boolV).set (((o : Nat) : Int).toNat * (0 + 1)) (boolV true)) :: rowP 3 1 a3 ds.length c3 (vo.map natV) :: pt b11 (.cells [.int .i64 fx].toArray 3) :: At treeI p s :: At worldI k ⟨l, []⟩ :: F) from .fin))) ?_
                            refine SN_seq ?_
                            refine SC_seq ?_
                            refine SC_seq ?_
                            refine SC_drawn (.cons 0 true (.cons 1 true (.cons 2 true (.cons 3 true (.cons 4 true (.cons 5 true (.cons 6 false (.cons 7 true (.cons 8 true (.cons 9 true (.cons 10 true (.cons 11 true (.nil))))))))))))) (by kernel_rfl) (by kernel_rfl) ?_
                            refine SQ_pu rfl (RD_move rfl) rfl ?_
                            refine SQ_rd rfl (RD_load Try.isAgg3 rfl) (Has.ce rfl) rfl ?_
                            refine SQ_pu rfl (RD_move rfl) rfl ?_
                            refine SQ_pu rfl (RD_move rfl) rfl ?_
                            refine SQ_rd rfl (RD_ixO (i := (o : Nat)) (cs := ds.map intV) Try.runUnderlying24 Try.sizeOf3 rfl rfl (by simp) (by omega) (by omega)) Has.ro rfl ?_
                            refine SQ_rd rfl (RD_loadO (v := intV d) (cs := ds.map intV) Try.isAgg3 rfl (by simp [hd])) Has.ro rfl ?_
                            refine SQ_call rfl Try.call37 (.cons rfl (.cons rfl (.cons rfl (.nil)))) (CallsK.at (tree_Path_yes p s hGI.ok fx d hfin ⟨b, hb⟩ (by have := hvw d; omega))) (lts rfl) ?_
                            rintro _ L13 ⟨ra13, rc13, rfl, hL13⟩
                            refine ⟨.lands hL13 (.w rfl (.h Has.ro (.w rfl (.nil)))), ?_⟩
                            refine SQ.lands hL13 ?_
                            refine SQ_pu rfl (RD_move rfl) rfl ?_
                            refine SQ_pu rfl (RD_extract rfl rfl) rfl ?_
                            refine SQ_pu rfl (RD_extract rfl rfl) rfl ?_
                            refine SQ_pu rfl (RD_assign rfl) rfl ?_
                            refine SQ_pu rfl (RD_assign rfl) rfl ?_
                            refine SQ_nil ?_
                            refine SN.le (l := [(0, _), (4, _), (5, _), (8, _), (9, _), (10, _), (11, _), (12, _), (14, _), (15, _), (21, _)]) ?_ (.cons rfl (.cons rfl (.cons rfl (.cons rfl (.cons rfl (.cons rfl (.cons rfl (.cons rfl (.cons rfl (.cons rfl (.cons rfl (.nil))))))))))))
                            refine SN_seq ?_
                            refine SC_seq ?_
                            refine SC_drawn (.cons 0 true (.cons 1 true (.cons 2 true (.cons 3 true (.cons 4 true (.cons 5 true (.cons 6 true (.cons 7 true (.cons 9 true (.cons 10 true (.cons 8 false (.cons 11 false (.cons 12 true (.cons 13 true (.nil))))))))))))))) (by kernel_rfl) (by kernel_rfl) ?_
                            refine SQ_pu rfl (RD_move rfl) rfl ?_
                            refine SQ_pu rfl (RD_not rfl) rfl ?_
                            refine SQ_pu rfl (RD_move rfl) rfl ?_
                            refine SQ_guard (i := 3) rfl rfl rfl (fun hg36_2 => ?_) (fun hg36_2 => ?_)
                            · refine SQ_pyes rfl rfl rfl (hg36_2) (RD_move rfl) rfl ?_
                              refine SQ_pyes rfl rfl rfl (hg36_2) (RD_move rfl) rfl ?_
                              refine SQ_pyes rfl rfl rfl (hg36_2) (RD_move rfl) rfl ?_
                              refine SQ_yes rfl rfl rfl (hg36_2) (RD_ixO (i := (o : Nat)) (cs := ds.map intV) Try.runUnderlying24 Try.sizeOf3 rfl rfl (by simp) (by omega) (by omega)) Has.ro rfl ?_
                              refine SQ_yes rfl rfl rfl (hg36_2) (RD_loadO (v := intV d) (cs := ds.map intV) Try.isAgg3 rfl (by simp [hd])) Has.ro rfl ?_
                              refine SQ_pyes rfl rfl rfl (hg36_2) (RD_move rfl) rfl ?_
                              refine SQ_yes rfl rfl rfl (hg36_2) (RD_load Try.isAgg3 rfl) (Has.ce rfl) rfl ?_
                              refine SQ_one (SA_call rfl (.mk rfl rfl (hg36_2)) Try.call31 (.cons rfl (.cons rfl (.nil))) (CallsK.at (tree_View p s (d))) (lts rfl) ?_)
                              rintro _ L16 ⟨rfl, hL16⟩
                              refine ⟨.lands hL16 (.h (Has.ce rfl) (.w rfl (.h Has.ro (.nil)))), ?_⟩
                              refine SQ.lands hL16 ?_
                              refine SQ_one (SA_call rfl (.mk rfl rfl (hg36_2)) Try.call31 (.cons rfl (.cons rfl (.nil))) (CallsK.at (tree_View p s (fx))) (lts rfl) ?_)
                              rintro _ L17 ⟨rfl, hL17⟩
                              refine ⟨.lands hL17 (.w rfl (.h Has.ro (.h Has.ro (.nil)))), ?_⟩
                              refine SQ.lands hL17 ?_
                              refine SQ_pyes rfl rfl rfl (hg36_2) (RD_gtr rfl rfl) rfl ?_
                              refine SQ_pu rfl (RD_pick_t rfl (hg36_2) rfl) rfl ?_
                              refine SQ_nil ?_
                              refine SN.le (l := [(0, _), (4, _), (5, _), (8, _), (9, _), (10, _), (11, _), (12, _), (14, _), (15, _), (187, _)]) ?_ (.cons rfl (.cons rfl (.cons rfl (.cons rfl (.cons rfl (.cons rfl (.cons rfl (.cons rfl (.cons rfl (.cons rfl (.cons rfl (.nil))))))))))))
                              refine SN_seq ?_
                              refine SC_cond_false rfl (decide_eq_false (fun h => by have h2 := hahead h; rw [show onw s fx d = false by simpa using hg36_2] at h2; cases h2)) ?_
                              refine SC_skip ?_
                              refine SN_seq ?_
                              refine SC_seq ?_
                              refine SC_region ?_
                              refine SR_pu (RD_move rfl) rfl ?_
                              refine SR_pu (RD_len Try.runUnderlying24 rfl) rfl ?_
                              refine SR_pu (RD_move rfl) rfl ?_
                              refine SR_nil ?_
                              refine SN.le (l := [(0, _), (4, _), (5, _), (8, _), (9, _), (10, _), (11, _), (12, _), (14, _), (15, _), (189, _), (190, _)]) ?_ (.cons rfl (.cons rfl (.cons rfl (.cons rfl (.cons rfl (.cons rfl (.cons rfl (.cons rfl (.cons rfl (.cons rfl (.cons rfl (.cons rfl (.nil)))))))))))))
                              refine SN_seq ?_
                              refine SC_block ?_
                              refine SC_ind (X := Nat) (fun j => j ≤ ds.length) (fun j => ds.length - j) (fun j => [(0, .slice a0 n0 c0), (4, .pointer (some ⟨p, 0, none⟩)), (5, .slice sa 3 sc), (8, .slice a ds.length c), (9, .slice a2 ds.length c2), (10, .slice a3 ds.length c3), (11, .pointer (some ⟨b11, 0, none⟩)), (12, .int .i64 (i : Nat)), (14, .int .i64 (o : Nat)), (15, .int .i64 (w : Nat)), (189, .int .i64 (ds.length : Nat)), (190, .int .i64 (j : Nat))]) (fun j => At safeI y x :: At safesI 1 (L.eraseIdx w) :: rowP 64 1 sa 3 sc ([y0, y1, y2].map ptrV) :: rowP 3 1 a ds.length c (ds.map intV) :: rowP 4 1 a2 ds.length c2 ((ce.set o true).map boolV) :: rowP 3 1 a3 ds.length c3 (vo.map natV) :: pt b11 (.cells [.int .i64 fx].toArray 3) :: At treeI p s :: At worldI k ⟨l, []⟩ :: F) (0) (by omega) (.cons rfl (.cons rfl (.cons rfl (.cons rfl (.cons rfl (.cons rfl (.cons rfl (.cons rfl (.cons rfl (.cons rfl (.cons rfl (.cons rfl (.nil))))))))))))) (.fin) ?_
                              intro j hi ih3
                              refine SC_seq ?_
                              refine SC_region ?_
                              refine SR_pu (RD_lss rfl rfl) rfl ?_
                              refine SR_nil ?_
                              refine SN.le (l := [(0, _), (4, _), (5, _), (8, _), (9, _), (10, _), (11, _), (12, _), (14, _), (15, _), (189, _), (190, _), (191, _)]) ?_ (.cons rfl (.cons rfl (.cons rfl (.cons rfl (.cons rfl (.cons rfl (.cons rfl (.cons rfl (.cons rfl (.cons rfl (.cons rfl (.cons rfl (.cons rfl (.nil))))))))))))))
                              refine SN_seq ?_
                              refine SC_seq ?_
                              refine SC_cond rfl (fun hc191 => ?_) (fun hc191 => ?_)
                              · have hjn : j < ds.length := by simp at hc191; omega
                                obtain ⟨dj, hdj⟩ : ∃ d, ds[j]? = some d := ⟨_, List.getElem?_eq_getElem hjn⟩
                                obtain ⟨ej, hej⟩ : ∃ e, (ce.set o true)[j]? = some e := ⟨_, List.getElem?_eq_getElem (by simp; omega)⟩
                                refine SC_skip ?_
                                refine SN_seq ?_
                                refine SC_seq ?_
                                refine SC_block ?_
                                refine SC_seq ?_
                                refine SC_region ?_
                                refine SR_pu (RD_move rfl) rfl ?_
                                refine SR_pu (RD_assign rfl) rfl ?_
                                refine SR_nil ?_
                                refine SN.le (l := [(0, _), (4, _), (5, _), (8, _), (9, _), (10, _), (11, _), (12, _), (14, _), (15, _), (22, _), (189, _), (190, _)]) ?_ (.cons rfl (.cons rfl (.cons rfl (.cons rfl (.cons rfl (.cons rfl (.cons rfl (.cons rfl (.cons rfl (.cons rfl (.cons rfl (.cons rfl (.cons rfl (.nil))))))))))))))
                                refine SN_seq ?_
                                refine SC_seq ?_
                                refine SC_drawn (.cons 0 true (.cons 1 true (.cons 2 true (.cons 3 true (.cons 4 true (.cons 5 true (.cons 6 true (.cons 7 true (.cons 8 true (.cons 9 true (.cons 10 true (.cons 11 true (.cons 12 true (.cons 13 true (.cons 14 true (.cons 16 true (.cons 17 true (.cons 18 true (.cons 19 true (.cons 20 true (.cons 15 false (.cons 21 false (.cons 22 true (.cons 23 true (.nil))))))))))))))))))))))))) (by kernel_rfl) (by kernel_rfl) ?_
                                refine SQ_pu rfl (RD_move rfl) rfl ?_
                                refine SQ_pu rfl (RD_move rfl) rfl ?_
                                refine SQ_pu rfl (RD_neq rfl rfl) rfl ?_
                                refine SQ_pu rfl (RD_move rfl) rfl ?_
                                refine SQ_guard (i := 4) rfl rfl rfl (fun hg41_3 => ?_) (fun hg41_3 => ?_)
                                · refine SQ_pyes rfl rfl rfl (hg41_3) (RD_move rfl) rfl ?_
                                  refine SQ_pyes rfl rfl rfl (hg41_3) (RD_move rfl) rfl ?_
                                  refine SQ_yes rfl rfl rfl (hg41_3) (RD_ixO (i := (j : Nat)) (cs := (ce.set o true).map boolV) Try.runUnderlying66 Try.sizeOf4 rfl rfl (by simp; omega) (by omega) (by omega)) Has.ro rfl ?_
                                  refine SQ_yes rfl rfl rfl (hg41_3) (RD_loadO (v := boolV ej) (cs := (ce.set o true).map boolV) Try.isAgg4 rfl ((fun q hq => by rw [hq, List.getElem?_map, hej]; rfl : ∀ q : Nat, q = j → ((ce.set o true).map boolV)[q]? = some (boolV ej)) _ (by simp))) Has.ro rfl ?_
                                  refine SQ_pu rfl (RD_pick_t rfl (hg41_3) rfl) rfl ?_
                                  refine SQ_pu rfl (RD_move rfl) rfl ?_
                                  refine SQ_guard (i := 10) rfl rfl rfl (fun hg41_9 => ?_) (fun hg41_9 => ?_)
                                  · refine SQ_pyes rfl rfl rfl (hg41_9) (RD_move rfl) rfl ?_
                                    refine SQ_pyes rfl rfl rfl (hg41_9) (RD_move rfl) rfl ?_
                                    refine SQ_pyes rfl rfl rfl (hg41_9) (RD_move rfl) rfl ?_
                                    refine SQ_yes rfl rfl rfl (hg41_9) (RD_ixO (i := (j : Nat)) (cs := ds.map intV) Try.runUnderlying24 Try.sizeOf3 rfl rfl (by simp) (by omega) (by omega)) Has.ro rfl ?_
                                    refine SQ_yes rfl rfl rfl (hg41_9) (RD_loadO (v := intV dj) (cs := ds.map intV) Try.isAgg3 rfl (by simp [hdj])) Has.ro rfl ?_
                                    refine SQ_pyes rfl rfl rfl (hg41_9) (RD_move rfl) rfl ?_
                                    refine SQ_pyes rfl rfl rfl (hg41_9) (RD_move rfl) rfl ?_
                                    refine SQ_pyes rfl rfl rfl (hg41_9) (RD_move rfl) rfl ?_
                                    refine SQ_yes rfl rfl rfl (hg41_9) (RD_ixO (i := (o : Nat)) (cs := ds.map intV) Try.runUnderlying24 Try.sizeOf3 rfl rfl (by simp) (by omega) (by omega)) Has.ro rfl ?_
                                    refine SQ_yes rfl rfl rfl (hg41_9) (RD_loadO (v := intV d) (cs := ds.map intV) Try.isAgg3 rfl (by simp [hd])) Has.ro rfl ?_
                                    refine SQ_one (SA_call rfl (.mk rfl rfl (hg41_9)) Try.call31 (.cons rfl (.cons rfl (.nil))) (CallsK.at (tree_View p s (dj))) (lts rfl) ?_)
                                    rintro _ L18 ⟨rfl, hL18⟩
                                    refine ⟨.lands hL18 (.h Has.ro (.h Has.ro (.w rfl (.h Has.ro (.h Has.ro (.h Has.ro (.nil))))))), ?_⟩
                                    refine SQ.lands hL18 ?_
                                    refine SQ_one (SA_call rfl (.mk rfl rfl (hg41_9)) Try.call31 (.cons rfl (.cons rfl (.nil))) (CallsK.at (tree_View p s (d))) (lts rfl) ?_)
                                    rintro _ L19 ⟨rfl, hL19⟩
                                    refine ⟨.lands hL19 (.w rfl (.h Has.ro (.h Has.ro (.h Has.ro (.h Has.ro (.h Has.ro (.nil))))))), ?_⟩
                                    refine SQ.lands hL19 ?_
                                    refine SQ_pyes rfl rfl rfl (hg41_9) (RD_eql rfl rfl) rfl ?_
                                    refine SQ_pu rfl (RD_pick_t rfl (hg41_9) rfl) rfl ?_
                                    refine SQ_nil ?_
                                    refine SN.le (l := [(0, _), (4, _), (5, _), (8, _), (9, _), (10, _), (11, _), (12, _), (14, _), (15, _), (189, _), (190, _), (216, _)]) ?_ (.cons rfl (.cons rfl (.cons rfl (.cons rfl (.cons rfl (.cons rfl (.cons rfl (.cons rfl (.cons rfl (.cons rfl (.cons rfl (.cons rfl (.cons rfl (.nil))))))))))))))
                                    refine SN_seq ?_
                                    refine SC_cond_false rfl (decide_eq_false (fun h => halone j dj (by have h9 := hg41_3; simp at h9; omega) hdj (by rw [hej, show ej = true from hg41_9]) h)) ?_
                                    refine SC_skip ?_
                                    refine SN_block ?_
                                    refine SN_seq ?_
                                    refine SC_region ?_
                                    refine SR_pu (RD_addi rfl rfl (by omega) (by omega)) rfl ?_
                                    refine SR_pu (RD_move rfl) rfl ?_
                                    refine SR_nil ?_
                                    refine SN.le (l := [(0, _), (4, _), (5, _), (8, _), (9, _), (10, _), (11, _), (12, _), (14, _), (15, _), (189, _), (190, _)]) ?_ (.cons rfl (.cons rfl (.cons rfl (.cons rfl (.cons rfl (.cons rfl (.cons rfl (.cons rfl (.cons rfl (.cons rfl (.cons rfl (.cons rfl (.nil)))))))))))))
                                    refine SC_again (ih3 (j + 1) (by omega) (by omega)) (.fin) (.cons rfl (.cons rfl (.cons rfl (.cons rfl (.cons rfl (.cons rfl (.cons rfl (.cons rfl (.cons rfl (.cons rfl (.cons rfl (.cons' rfl (ie (by omega)) (.nil)))))))))))))
                                  · refine SQ_no rfl rfl rfl (hg41_9) (lts rfl) ?_
                                    refine SQ_no rfl rfl rfl (hg41_9) (lts rfl) ?_
                                    refine SQ_no rfl rfl rfl (hg41_9) (lts rfl) ?_
                                    refine SQ_no rfl rfl rfl (hg41_9) (lts rfl) ?_
                                    refine SQ_no rfl rfl rfl (hg41_9) (lts rfl) ?_
                                    refine SQ_no rfl rfl rfl (hg41_9) (lts rfl) ?_
                                    refine SQ_no rfl rfl rfl (hg41_9) (lts rfl) ?_
                                    refine SQ_no rfl rfl rfl (hg41_9) (lts rfl) ?_
                                    refine SQ_no rfl rfl rfl (hg41_9) (lts rfl) ?_
                                    refine SQ_no rfl rfl rfl (hg41_9) (lts rfl) ?_
                                    refine SQ_no1 rfl rfl rfl (hg41_9) (lts rfl) ?_
                                    refine SQ_no1 rfl rfl rfl (hg41_9) (lts rfl) ?_
                                    refine SQ_no rfl rfl rfl (hg41_9) (lts rfl) ?_
                                    refine SQ_pu rfl (RD_pick_f rfl (hg41_9) rfl) rfl ?_
                                    refine SQ_nil ?_
                                    refine SN.le (l := [(0, _), (4, _), (5, _), (8, _), (9, _), (10, _), (11, _), (12, _), (14, _), (15, _), (189, _), (190, _), (216, _)]) ?_ (.cons rfl (.cons rfl (.cons rfl (.cons rfl (.cons rfl (.cons rfl (.cons rfl (.cons rfl (.cons rfl (.cons rfl (.cons rfl (.cons rfl (.cons rfl (.nil))))))))))))))
                                    refine SN_seq ?_
                                    refine SC_cond_false rfl (rfl) ?_
                                    refine SC_skip ?_
                                    refine SN_block ?_
                                    refine SN_seq ?_
                                    refine SC_region ?_
                                    refine SR_pu (RD_addi rfl rfl (by omega) (by omega)) rfl ?_
                                    refine SR_pu (RD_move rfl) rfl ?_
                                    refine SR_nil ?_
                                    refine SN.le (l := [(0, _), (4, _), (5, _), (8, _), (9, _), (10, _), (11, _), (12, _), (14, _), (15, _), (189, _), (190, _)]) ?_ (.cons rfl (.cons rfl (.cons rfl (.cons rfl (.cons rfl (.cons rfl (.cons rfl (.cons rfl (.cons rfl (.cons rfl (.cons rfl (.cons rfl (.nil)))))))))))))
                                    refine SC_again (ih3 (j + 1) (by omega) (by omega)) (.fin) (.cons rfl (.cons rfl (.cons rfl (.cons rfl (.cons rfl (.cons rfl (.cons rfl (.cons rfl (.cons rfl (.cons rfl (.cons rfl (.cons' rfl (ie (by omega)) (.nil)))))))))))))
                                · refine SQ_no rfl rfl rfl (hg41_3) (lts rfl) ?_
                                  refine SQ_no rfl rfl rfl (hg41_3) (lts rfl) ?_
                                  refine SQ_no rfl rfl rfl (hg41_3) (lts rfl) ?_
                                  refine SQ_no rfl rfl rfl (hg41_3) (lts rfl) ?_
                                  refine SQ_pu rfl (RD_pick_f rfl (hg41_3) rfl) rfl ?_
                                  refine SQ_pu rfl (RD_move rfl) rfl ?_
                                  refine SQ_no rfl rfl rfl (rfl) (lts rfl) ?_
                                  refine SQ_no rfl rfl rfl (rfl) (lts rfl) ?_
                                  refine SQ_no rfl rfl rfl (rfl) (lts rfl) ?_
                                  refine SQ_no rfl rfl rfl (rfl) (lts rfl) ?_
                                  refine SQ_no rfl rfl rfl (rfl) (lts rfl) ?_
                                  refine SQ_no rfl rfl rfl (rfl) (lts rfl) ?_
                                  refine SQ_no rfl rfl rfl (rfl) (lts rfl) ?_
                                  refine SQ_no rfl rfl rfl (rfl) (lts rfl) ?_
                                  refine SQ_no rfl rfl rfl (rfl) (lts rfl) ?_
                                  refine SQ_no rfl rfl rfl (rfl) (lts rfl) ?_
                                  refine SQ_no1 rfl rfl rfl (rfl) (lts rfl) ?_
                                  refine SQ_no1 rfl rfl rfl (rfl) (lts rfl) ?_
                                  refine SQ_no rfl rfl rfl (rfl) (lts rfl) ?_
                                  refine SQ_pu rfl (RD_pick_f rfl (rfl) rfl) rfl ?_
                                  refine SQ_nil ?_
                                  refine SN.le (l := [(0, _), (4, _), (5, _), (8, _), (9, _), (10, _), (11, _), (12, _), (14, _), (15, _), (189, _), (190, _), (216, _)]) ?_ (.cons rfl (.cons rfl (.cons rfl (.cons rfl (.cons rfl (.cons rfl (.cons rfl (.cons rfl (.cons rfl (.cons rfl (.cons rfl (.cons rfl (.cons rfl (.nil))))))))))))))
                                  refine SN_seq ?_
                                  refine SC_cond_false rfl (rfl) ?_
                                  refine SC_skip ?_
                                  refine SN_block ?_
                                  refine SN_seq ?_
                                  refine SC_region ?_
                                  refine SR_pu (RD_addi rfl rfl (by omega) (by omega)) rfl ?_
                                  refine SR_pu (RD_move rfl) rfl ?_
                                  refine SR_nil ?_
                                  refine SN.le (l := [(0, _), (4, _), (5, _), (8, _), (9, _), (10, _), (11, _), (12, _), (14, _), (15, _), (189, _), (190, _)]) ?_ (.cons rfl (.cons rfl (.cons rfl (.cons rfl (.cons rfl (.cons rfl (.cons rfl (.cons rfl (.cons rfl (.cons rfl (.cons rfl (.cons rfl (.nil)))))))))))))
                                  refine SC_again (ih3 (j + 1) (by omega) (by omega)) (.fin) (.cons rfl (.cons rfl (.cons rfl (.cons rfl (.cons rfl (.cons rfl (.cons rfl (.cons rfl (.cons rfl (.cons rfl (.cons rfl (.cons' rfl (ie (by omega)) (.nil)))))))))))))
                              · clear ih3
                                refine SC_exit rfl ?_
                                exact J0 (⟨ce.set o true, hcer⟩) _ _ (.cons rfl (.cons rfl (.cons rfl (.cons rfl (.cons rfl (.cons rfl (.cons rfl (.cons rfl (.cons rfl (.cons rfl (.nil))))))))))) (.fin)
                            · refine SQ_no rfl rfl rfl (hg36_2) (lts rfl) ?_
                              refine SQ_no rfl rfl rfl (hg36_2) (lts rfl) ?_
                              refine SQ_no rfl rfl rfl (hg36_2) (lts rfl) ?_
                              refine SQ_no rfl rfl rfl (hg36_2) (lts rfl) ?_
                              refine SQ_no rfl rfl rfl (hg36_2) (lts rfl) ?_
                              refine SQ_no rfl rfl rfl (hg36_2) (lts rfl) ?_
                              refine SQ_no rfl rfl rfl (hg36_2) (lts rfl) ?_
                              refine SQ_no1 rfl rfl rfl (hg36_2) (lts rfl) ?_
                              refine SQ_no1 rfl rfl rfl (hg36_2) (lts rfl) ?_
                              refine SQ_no rfl rfl rfl (hg36_2) (lts rfl) ?_
                              refine SQ_pu rfl (RD_pick_f rfl (hg36_2) rfl) rfl ?_
                              refine SQ_nil ?_
                              refine SN.le (l := [(0, _), (4, _), (5, _), (8, _), (9, _), (10, _), (11, _), (12, _), (14, _), (15, _), (187, _)]) ?_ (.cons rfl (.cons rfl (.cons rfl (.cons rfl (.cons rfl (.cons rfl (.cons rfl (.cons rfl (.cons rfl (.cons rfl (.cons rfl (.nil))))))))))))
                              refine SN_seq ?_
                              refine SC_cond_false rfl (rfl) ?_
                              refine SC_skip ?_
                              refine SN_seq ?_
                              refine SC_seq ?_
                              refine SC_region ?_
                              refine SR_pu (RD_move rfl) rfl ?_
                              refine SR_pu (RD_len Try.runUnderlying24 rfl) rfl ?_
                              refine SR_pu (RD_move rfl) rfl ?_
                              refine SR_nil ?_
                              refine SN.le (l := [(0, _), (4, _), (5, _), (8, _), (9, _), (10, _), (11, _), (12, _), (14, _), (15, _), (189, _), (190, _)]) ?_ (.cons rfl (.cons rfl (.cons rfl (.cons rfl (.cons rfl (.cons rfl (.cons rfl (.cons rfl (.cons rfl (.cons rfl (.cons rfl (.cons rfl (.nil)))))))))))))
                              refine SN_seq ?_
                              refine SC_block ?_
                              refine SC_ind (X := Nat) (fun j => j ≤ ds.length) (fun j => ds.length - j) (fun j => [(0, .slice a0 n0 c0), (4, .pointer (some ⟨p, 0, none⟩)), (5, .slice sa 3 sc), (8, .slice a ds.length c), (9, .slice a2 ds.length c2), (10, .slice a3 ds.length c3), (11, .pointer (some ⟨b11, 0, none⟩)), (12, .int .i64 (i : Nat)), (14, .int .i64 (o : Nat)), (15, .int .i64 (w : Nat)), (189, .int .i64 (ds.length : Nat)), (190, .int .i64 (j : Nat))]) (fun j => At safeI y x :: At safesI 1 (L.eraseIdx w) :: rowP 64 1 sa 3 sc ([y0, y1, y2].map ptrV) :: rowP 3 1 a ds.length c (ds.map intV) :: rowP 4 1 a2 ds.length c2 ((ce.set o true).map boolV) :: rowP 3 1 a3 ds.length c3 (vo.map natV) :: pt b11 (.cells [.int .i64 fx].toArray 3) :: At treeI p s :: At worldI k ⟨l, []⟩ :: F) (0) (by omega) (.cons rfl (.cons rfl (.cons rfl (.cons rfl (.cons rfl (.cons rfl (.cons rfl (.cons rfl (.cons rfl (.cons rfl (.cons rfl (.cons rfl (.nil))))))))))))) (.fin) ?_
                              intro j hi ih3
                              refine SC_seq ?_
                              refine SC_region ?_
                              refine SR_pu (RD_lss rfl rfl) rfl ?_
                              refine SR_nil ?_
                              refine SN.le (l := [(0, _), (4, _), (5, _), (8, _), (9, _), (10, _), (11, _), (12, _), (14, _), (15, _), (189, _), (190, _), (191, _)]) ?_ (.cons rfl (.cons rfl (.cons rfl (.cons rfl (.cons rfl (.cons rfl (.cons rfl (.cons rfl (.cons rfl (.cons rfl (.cons rfl (.cons rfl (.cons rfl (.nil))))))))))))))
                              refine SN_seq ?_
                              refine SC_seq ?_
                              refine SC_cond rfl (fun hc191 => ?_) (fun hc191 => ?_)
                              · have hjn : j < ds.length := by simp at hc191; omega
                                obtain ⟨dj, hdj⟩ : ∃ d, ds[j]? = some d := ⟨_, List.getElem?_eq_getElem hjn⟩
                                obtain ⟨ej, hej⟩ : ∃ e, (ce.set o true)[j]? = some e := ⟨_, List.getElem?_eq_getElem (by simp; omega)⟩
                                refine SC_skip ?_
                                refine SN_seq ?_
                                refine SC_seq ?_
                                refine SC_block ?_
                                refine SC_seq ?_
                                refine SC_region ?_
                                refine SR_pu (RD_move rfl) rfl ?_
                                refine SR_pu (RD_assign rfl) rfl ?_
                                refine SR_nil ?_
                                refine SN.le (l := [(0, _), (4, _), (5, _), (8, _), (9, _), (10, _), (11, _), (12, _), (14, _), (15, _), (22, _), (189, _), (190, _)]) ?_ (.cons rfl (.cons rfl (.cons rfl (.cons rfl (.cons rfl (.cons rfl (.cons rfl (.cons rfl (.cons rfl (.cons rfl (.cons rfl (.cons rfl (.cons rfl (.nil))))))))))))))
                                refine SN_seq ?_
                                refine SC_seq ?_
                                refine SC_drawn (.cons 0 true (.cons 1 true (.cons 2 true (.cons 3 true (.cons 4 true (.cons 5 true (.cons 6 true (.cons 7 true (.cons 8 true (.cons 9 true (.cons 10 true (.cons 11 true (.cons 12 true (.cons 13 true (.cons 14 true (.cons 16 true (.cons 17 true (.cons 18 true (.cons 19 true (.cons 20 true (.cons 15 false (.cons 21 false (.cons 22 true (.cons 23 true (.nil))))))))))))))))))))))))) (by kernel_rfl) (by kernel_rfl) ?_
                                refine SQ_pu rfl (RD_move rfl) rfl ?_
                                refine SQ_pu rfl (RD_move rfl) rfl ?_
                                refine SQ_pu rfl (RD_neq rfl rfl) rfl ?_
                                refine SQ_pu rfl (RD_move rfl) rfl ?_
                                refine SQ_guard (i := 4) rfl rfl rfl (fun hg41_3 => ?_) (fun hg41_3 => ?_)
                                · refine SQ_pyes rfl rfl rfl (hg41_3) (RD_move rfl) rfl ?_
                                  refine SQ_pyes rfl rfl rfl (hg41_3) (RD_move rfl) rfl ?_
                                  refine SQ_yes rfl rfl rfl (hg41_3) (RD_ixO (i := (j : Nat)) (cs := (ce.set o true).map boolV) Try.runUnderlying66 Try.sizeOf4 rfl rfl (by simp; omega) (by omega) (by omega)) Has.ro rfl ?_
                                  refine SQ_yes rfl rfl rfl (hg41_3) (RD_loadO (v := boolV ej) (cs := (ce.set o true).map boolV) Try.isAgg4 rfl ((fun q hq => by rw [hq, List.getElem?_map, hej]; rfl : ∀ q : Nat, q = j → ((ce.set o true).map boolV)[q]? = some (boolV ej)) _ (by simp))) Has.ro rfl ?_
                                  refine SQ_pu rfl (RD_pick_t rfl (hg41_3) rfl) rfl ?_
                                  refine SQ_pu rfl (RD_move rfl) rfl ?_
                                  refine SQ_guard (i := 10) rfl rfl rfl (fun hg41_9 => ?_) (fun hg41_9 => ?_)
                                  · refine SQ_pyes rfl rfl rfl (hg41_9) (RD_move rfl) rfl ?_
                                    refine SQ_pyes rfl rfl rfl (hg41_9) (RD_move rfl) rfl ?_
                                    refine SQ_pyes rfl rfl rfl (hg41_9) (RD_move rfl) rfl ?_
                                    refine SQ_yes rfl rfl rfl (hg41_9) (RD_ixO (i := (j : Nat)) (cs := ds.map intV) Try.runUnderlying24 Try.sizeOf3 rfl rfl (by simp) (by omega) (by omega)) Has.ro rfl ?_
                                    refine SQ_yes rfl rfl rfl (hg41_9) (RD_loadO (v := intV dj) (cs := ds.map intV) Try.isAgg3 rfl (by simp [hdj])) Has.ro rfl ?_
                                    refine SQ_pyes rfl rfl rfl (hg41_9) (RD_move rfl) rfl ?_
                                    refine SQ_pyes rfl rfl rfl (hg41_9) (RD_move rfl) rfl ?_
                                    refine SQ_pyes rfl rfl rfl (hg41_9) (RD_move rfl) rfl ?_
                                    refine SQ_yes rfl rfl rfl (hg41_9) (RD_ixO (i := (o : Nat)) (cs := ds.map intV) Try.runUnderlying24 Try.sizeOf3 rfl rfl (by simp) (by omega) (by omega)) Has.ro rfl ?_
                                    refine SQ_yes rfl rfl rfl (hg41_9) (RD_loadO (v := intV d) (cs := ds.map intV) Try.isAgg3 rfl (by simp [hd])) Has.ro rfl ?_
                                    refine SQ_one (SA_call rfl (.mk rfl rfl (hg41_9)) Try.call31 (.cons rfl (.cons rfl (.nil))) (CallsK.at (tree_View p s (dj))) (lts rfl) ?_)
                                    rintro _ L18 ⟨rfl, hL18⟩
                                    refine ⟨.lands hL18 (.h Has.ro (.h Has.ro (.w rfl (.h Has.ro (.h Has.ro (.h Has.ro (.nil))))))), ?_⟩
                                    refine SQ.lands hL18 ?_
                                    refine SQ_one (SA_call rfl (.mk rfl rfl (hg41_9)) Try.call31 (.cons rfl (.cons rfl (.nil))) (CallsK.at (tree_View p s (d))) (lts rfl) ?_)
                                    rintro _ L19 ⟨rfl, hL19⟩
                                    refine ⟨.lands hL19 (.w rfl (.h Has.ro (.h Has.ro (.h Has.ro (.h Has.ro (.h Has.ro (.nil))))))), ?_⟩
                                    refine SQ.lands hL19 ?_
                                    refine SQ_pyes rfl rfl rfl (hg41_9) (RD_eql rfl rfl) rfl ?_
                                    refine SQ_pu rfl (RD_pick_t rfl (hg41_9) rfl) rfl ?_
                                    refine SQ_nil ?_
                                    refine SN.le (l := [(0, _), (4, _), (5, _), (8, _), (9, _), (10, _), (11, _), (12, _), (14, _), (15, _), (189, _), (190, _), (216, _)]) ?_ (.cons rfl (.cons rfl (.cons rfl (.cons rfl (.cons rfl (.cons rfl (.cons rfl (.cons rfl (.cons rfl (.cons rfl (.cons rfl (.cons rfl (.cons rfl (.nil))))))))))))))
                                    refine SN_seq ?_
                                    refine SC_cond_false rfl (decide_eq_false (fun h => halone j dj (by have h9 := hg41_3; simp at h9; omega) hdj (by rw [hej, show ej = true from hg41_9]) h)) ?_
                                    refine SC_skip ?_
                                    refine SN_block ?_
                                    refine SN_seq ?_
                                    refine SC_region ?_
                                    refine SR_pu (RD_addi rfl rfl (by omega) (by omega)) rfl ?_
                                    refine SR_pu (RD_move rfl) rfl ?_
                                    refine SR_nil ?_
                                    refine SN.le (l := [(0, _), (4, _), (5, _), (8, _), (9, _), (10, _), (11, _), (12, _), (14, _), (15, _), (189, _), (190, _)]) ?_ (.cons rfl (.cons rfl (.cons rfl (.cons rfl (.cons rfl (.cons rfl (.cons rfl (.cons rfl (.cons rfl (.cons rfl (.cons rfl (.cons rfl (.nil)))))))))))))
                                    refine SC_again (ih3 (j + 1) (by omega) (by omega)) (.fin) (.cons rfl (.cons rfl (.cons rfl (.cons rfl (.cons rfl (.cons rfl (.cons rfl (.cons rfl (.cons rfl (.cons rfl (.cons rfl (.cons' rfl (ie (by omega)) (.nil)))))))))))))
                                  · refine SQ_no rfl rfl rfl (hg41_9) (lts rfl) ?_
                                    refine SQ_no rfl rfl rfl (hg41_9) (lts rfl) ?_
                                    refine SQ_no rfl rfl rfl (hg41_9) (lts rfl) ?_
                                    refine SQ_no rfl rfl rfl (hg41_9) (lts rfl) ?_
                                    refine SQ_no rfl rfl rfl (hg41_9) (lts rfl) ?_
                                    refine SQ_no rfl rfl rfl (hg41_9) (lts rfl) ?_
                                    refine SQ_no rfl rfl rfl (hg41_9) (lts rfl) ?_
                                    refine SQ_no rfl rfl rfl (hg41_9) (lts rfl) ?_
                                    refine SQ_no rfl rfl rfl (hg41_9) (lts rfl) ?_
                                    refine SQ_no rfl rfl rfl (hg41_9) (lts rfl) ?_
                                    refine SQ_no1 rfl rfl rfl (hg41_9) (lts rfl) ?_
                                    refine SQ_no1 rfl rfl rfl (hg41_9) (lts rfl) ?_
                                    refine SQ_no rfl rfl rfl (hg41_9) (lts rfl) ?_
                                    refine SQ_pu rfl (RD_pick_f rfl (hg41_9) rfl) rfl ?_
                                    refine SQ_nil ?_
                                    refine SN.le (l := [(0, _), (4, _), (5, _), (8, _), (9, _), (10, _), (11, _), (12, _), (14, _), (15, _), (189, _), (190, _), (216, _)]) ?_ (.cons rfl (.cons rfl (.cons rfl (.cons rfl (.cons rfl (.cons rfl (.cons rfl (.cons rfl (.cons rfl (.cons rfl (.cons rfl (.cons rfl (.cons rfl (.nil))))))))))))))
                                    refine SN_seq ?_
                                    refine SC_cond_false rfl (rfl) ?_
                                    refine SC_skip ?_
                                    refine SN_block ?_
                                    refine SN_seq ?_
                                    refine SC_region ?_
                                    refine SR_pu (RD_addi rfl rfl (by omega) (by omega)) rfl ?_
                                    refine SR_pu (RD_move rfl) rfl ?_
                                    refine SR_nil ?_
                                    refine SN.le (l := [(0, _), (4, _), (5, _), (8, _), (9, _), (10, _), (11, _), (12, _), (14, _), (15, _), (189, _), (190, _)]) ?_ (.cons rfl (.cons rfl (.cons rfl (.cons rfl (.cons rfl (.cons rfl (.cons rfl (.cons rfl (.cons rfl (.cons rfl (.cons rfl (.cons rfl (.nil)))))))))))))
                                    refine SC_again (ih3 (j + 1) (by omega) (by omega)) (.fin) (.cons rfl (.cons rfl (.cons rfl (.cons rfl (.cons rfl (.cons rfl (.cons rfl (.cons rfl (.cons rfl (.cons rfl (.cons rfl (.cons' rfl (ie (by omega)) (.nil)))))))))))))
                                · refine SQ_no rfl rfl rfl (hg41_3) (lts rfl) ?_
                                  refine SQ_no rfl rfl rfl (hg41_3) (lts rfl) ?_
                                  refine SQ_no rfl rfl rfl (hg41_3) (lts rfl) ?_
                                  refine SQ_no rfl rfl rfl (hg41_3) (lts rfl) ?_
                                  refine SQ_pu rfl (RD_pick_f rfl (hg41_3) rfl) rfl ?_
                                  refine SQ_pu rfl (RD_move rfl) rfl ?_
                                  refine SQ_no rfl rfl rfl (rfl) (lts rfl) ?_
                                  refine SQ_no rfl rfl rfl (rfl) (lts rfl) ?_
                                  refine SQ_no rfl rfl rfl (rfl) (lts rfl) ?_
                                  refine SQ_no rfl rfl rfl (rfl) (lts rfl) ?_
                                  refine SQ_no rfl rfl rfl (rfl) (lts rfl) ?_
                                  refine SQ_no rfl rfl rfl (rfl) (lts rfl) ?_
                                  refine SQ_no rfl rfl rfl (rfl) (lts rfl) ?_
                                  refine SQ_no rfl rfl rfl (rfl) (lts rfl) ?_
                                  refine SQ_no rfl rfl rfl (rfl) (lts rfl) ?_
                                  refine SQ_no rfl rfl rfl (rfl) (lts rfl) ?_
                                  refine SQ_no1 rfl rfl rfl (rfl) (lts rfl) ?_
                                  refine SQ_no1 rfl rfl rfl (rfl) (lts rfl) ?_
                                  refine SQ_no rfl rfl rfl (rfl) (lts rfl) ?_
                                  refine SQ_pu rfl (RD_pick_f rfl (rfl) rfl) rfl ?_
                                  refine SQ_nil ?_
                                  refine SN.le (l := [(0, _), (4, _), (5, _), (8, _), (9, _), (10, _), (11, _), (12, _), (14, _), (15, _), (189, _), (190, _), (216, _)]) ?_ (.cons rfl (.cons rfl (.cons rfl (.cons rfl (.cons rfl (.cons rfl (.cons rfl (.cons rfl (.cons rfl (.cons rfl (.cons rfl (.cons rfl (.cons rfl (.nil))))))))))))))
                                  refine SN_seq ?_
                                  refine SC_cond_false rfl (rfl) ?_
                                  refine SC_skip ?_
                                  refine SN_block ?_
                                  refine SN_seq ?_
                                  refine SC_region ?_
                                  refine SR_pu (RD_addi rfl rfl (by omega) (by omega)) rfl ?_
                                  refine SR_pu (RD_move rfl) rfl ?_
                                  refine SR_nil ?_
                                  refine SN.le (l := [(0, _), (4, _), (5, _), (8, _), (9, _), (10, _), (11, _), (12, _), (14, _), (15, _), (189, _), (190, _)]) ?_ (.cons rfl (.cons rfl (.cons rfl (.cons rfl (.cons rfl (.cons rfl (.cons rfl (.cons rfl (.cons rfl (.cons rfl (.cons rfl (.cons rfl (.nil)))))))))))))
                                  refine SC_again (ih3 (j + 1) (by omega) (by omega)) (.fin) (.cons rfl (.cons rfl (.cons rfl (.cons rfl (.cons rfl (.cons rfl (.cons rfl (.cons rfl (.cons rfl (.cons rfl (.cons rfl (.cons' rfl (ie (by omega)) (.nil)))))))))))))
                              · clear ih3
                                refine SC_exit rfl ?_
                                exact J0 (⟨ce.set o true, hcer⟩) _ _ (.cons rfl (.cons rfl (.cons rfl (.cons rfl (.cons rfl (.cons rfl (.cons rfl (.cons rfl (.cons rfl (.cons rfl (.nil))))))))))) (.fin)
                        · refine SR_no rfl rfl (hg33_18) (lts rfl) ?_
                          refine SR_no rfl rfl (hg33_18) (lts rfl) ?_
                          refine SR_no rfl rfl (hg33_18) (lts rfl) ?_
                          refine SR_no rfl rfl (hg33_18) (lts rfl) ?_
                          refine SR_no rfl rfl (hg33_18) (lts rfl) ?_
                          refine SR_yes rfl rfl (hg33_5) ?_
                          refine SR_pu (RD_pick_t rfl (hg33_18) rfl) rfl ?_
                          refine SR_yes rfl rfl (hg33_5) ?_
                          refine SR_pu (RD_move rfl) rfl ?_
                          refine SR_no rfl rfl (rfl) (lts rfl) ?_
                          refine SR_no rfl rfl (rfl) (lts rfl) ?_
                          refine SR_no rfl rfl (rfl) (lts rfl) ?_
                          refine SR_no rfl rfl (rfl) (lts rfl) ?_
                          refine SR_no rfl rfl (rfl) (lts rfl) ?_
                          refine SR_yes rfl rfl (hg33_5) ?_
                          refine SR_pu (RD_pick_t rfl (rfl) rfl) rfl ?_
                          refine SR_pu (RD_pick_t rfl (hg33_5) rfl) rfl ?_
                          refine SR_nil ?_
                          refine SN.le (l := [(0, _), (4, _), (5, _), (8, _), (9, _), (10, _), (11, _), (12, _), (14, _), (15, _), (160, _)]) ?_ (.cons rfl (.cons rfl (.cons rfl (.cons rfl (.cons rfl (.cons rfl (.cons rfl (.cons rfl (.cons rfl (.cons rfl (.cons rfl (.nil))))))))))))
                          refine SN_seq ?_
                          refine SC_cond_true rfl (rfl) ?_
                          have hef : e = false := by simpa using hg33_5
                          subst hef
                          obtain ⟨hcer, hahead, halone⟩ := hFJ.certify hGI hd he hm (.inr (.inl (by have := of_decide_eq_true hg33_18; omega)))
                          have hfin := (hFJ.in_ hGI hFJ.fix).2.1
                          have hol := (List.getElem?_eq_some_iff.1 hd).1
                          refine SC_seq ?_
                          refine SC_region ?_
                          refine SR_pu (RD_move rfl) rfl ?_
                          refine SR_pu (RD_move rfl) rfl ?_
                          refine SR_rd (RD_ixO (i := (o : Nat)) (cs := ce.map boolV) Try.runUnderlying66 Try.sizeOf4 rfl rfl (by simp; omega) (by omega) (by omega)) Has.ro rfl ?_
                          refine SR_ox0 (OX_stRow (v := boolV true) Try.sizeOf4 rfl rfl (by simp; omega)) ?_
                          rintro _ _ rfl
                          refine SR_nil ?_
                          refine SN.le (l := [(0, _), (4, _), (5, _), (8, _), (9, _), (10, _), (11, _), (12, _), (14, _), (15, _)]) ?_ (.cons rfl (.cons rfl (.cons rfl (.cons rfl (.cons rfl (.cons rfl (.cons rfl (.cons rfl (.cons rfl (.cons rfl (.nil)))))))))))
                          refine SN.lands (show Lands _ (At safeI y x :: At safesI 1 (L.eraseIdx w) :: rowP 64 1 sa 3 sc ([y0, y1, y2].map ptrV) :: rowP 3 1 a ds.length c (ds.map intV) :: rowP 4 1 a2 ds.length c2 ((ce.set o true).map boolV) :: rowP 3 1 a3 ds.length c3 (vo.map natV) :: pt b11 (.cells [.int .i64 fx].toArray 3) :: At treeI p s :: At worldI k ⟨l, []⟩ :: F) from (by rw [show (ce.set o true).map boolV = (ce.map boolV).set (((o : Nat) : Int).toNat * (0 + 1)) (boolV true) by rw [List.map_set]; simp]; exact (show Lands _ (At safeI y x :: At safesI 1 (L.eraseIdx w) :: rowP 64 1 sa 3 sc ([y0, y1, y2].map ptrV) :: rowP 3 1 a ds.length c (ds.map intV) :: rowP 4 1 a2 ds.length c2 ((ce.map boolV).set (((o : Nat) : Int).toNat * (0 + 1)) (boolV true)) :: rowP 3 1 a3 ds.length c3 (vo.map natV) :: pt b11 (.cells [.int .i64 fx].toArray 3) :: At treeI p s :: At worldI k ⟨l, []⟩ :: F) from .fin))) ?_
                          refine SN_seq ?_
                          refine SC_seq ?_
                          refine SC_seq ?_
                          refine SC_drawn (.cons 0 true (.cons 1 true (.cons 2 true (.cons 3 true (.cons 4 true (.cons 5 true (.cons 6 false (.cons 7 true (.cons 8 true (.cons 9 true (.cons 10 true (.cons 11 true (.nil))))))))))))) (by kernel_rfl) (by kernel_rfl) ?_
                          refine SQ_pu rfl (RD_move rfl) rfl ?_
                          refine SQ_rd rfl (RD_load Try.isAgg3 rfl) (Has.ce rfl) rfl ?_
                          refine SQ_pu rfl (RD_move rfl) rfl ?_
                          refine SQ_pu rfl (RD_move rfl) rfl ?_
                          refine SQ_rd rfl (RD_ixO (i := (o : Nat)) (cs := ds.map intV) Try.runUnderlying24 Try.sizeOf3 rfl rfl (by simp) (by omega) (by omega)) Has.ro rfl ?_
                          refine SQ_rd rfl (RD_loadO (v := intV d) (cs := ds.map intV) Try.isAgg3 rfl (by simp [hd])) Has.ro rfl ?_
                          refine SQ_call rfl Try.call37 (.cons rfl (.cons rfl (.cons rfl (.nil)))) (CallsK.at (tree_Path_yes p s hGI.ok fx d hfin ⟨b, hb⟩ (by have := hvw d; omega))) (lts rfl) ?_
                          rintro _ L13 ⟨ra13, rc13, rfl, hL13⟩
                          refine ⟨.lands hL13 (.w rfl (.h Has.ro (.w rfl (.nil)))), ?_⟩
                          refine SQ.lands hL13 ?_
                          refine SQ_pu rfl (RD_move rfl) rfl ?_
                          refine SQ_pu rfl (RD_extract rfl rfl) rfl ?_
                          refine SQ_pu rfl (RD_extract rfl rfl) rfl ?_
                          refine SQ_pu rfl (RD_assign rfl) rfl ?_
                          refine SQ_pu rfl (RD_assign rfl) rfl ?_
                          refine SQ_nil ?_
                          refine SN.le (l := [(0, _), (4, _), (5, _), (8, _), (9, _), (10, _), (11, _), (12, _), (14, _), (15, _), (21, _)]) ?_ (.cons rfl (.cons rfl (.cons rfl (.cons rfl (.cons rfl (.cons rfl (.cons rfl (.cons rfl (.cons rfl (.cons rfl (.cons rfl (.nil))))))))))))
                          refine SN_seq ?_
                          refine SC_seq ?_
                          refine SC_drawn (.cons 0 true (.cons 1 true (.cons 2 true (.cons 3 true (.cons 4 true (.cons 5 true (.cons 6 true (.cons 7 true (.cons 9 true (.cons 10 true (.cons 8 false (.cons 11 false (.cons 12 true (.cons 13 true (.nil))))))))))))))) (by kernel_rfl) (by kernel_rfl) ?_
                          refine SQ_pu rfl (RD_move rfl) rfl ?_
                          refine SQ_pu rfl (RD_not rfl) rfl ?_
                          refine SQ_pu rfl (RD_move rfl) rfl ?_
                          refine SQ_guard (i := 3) rfl rfl rfl (fun hg36_2 => ?_) (fun hg36_2 => ?_)
                          · refine SQ_pyes rfl rfl rfl (hg36_2) (RD_move rfl) rfl ?_
                            refine SQ_pyes rfl rfl rfl (hg36_2) (RD_move rfl) rfl ?_
                            refine SQ_pyes rfl rfl rfl (hg36_2) (RD_move rfl) rfl ?_
                            refine SQ_yes rfl rfl rfl (hg36_2) (RD_ixO (i := (o : Nat)) (cs := ds.map intV) Try.runUnderlying24 Try.sizeOf3 rfl rfl (by simp) (by omega) (by omega)) Has.ro rfl ?_
                            refine SQ_yes rfl rfl rfl (hg36_2) (RD_loadO (v := intV d) (cs := ds.map intV) Try.isAgg3 rfl (by simp [hd])) Has.ro rfl ?_
                            refine SQ_pyes rfl rfl rfl (hg36_2) (RD_move rfl) rfl ?_
                            refine SQ_yes rfl rfl rfl (hg36_2) (RD_load Try.isAgg3 rfl) (Has.ce rfl) rfl ?_
                            refine SQ_one (SA_call rfl (.mk rfl rfl (hg36_2)) Try.call31 (.cons rfl (.cons rfl (.nil))) (CallsK.at (tree_View p s (d))) (lts rfl) ?_)
                            rintro _ L16 ⟨rfl, hL16⟩
                            refine ⟨.lands hL16 (.h (Has.ce rfl) (.w rfl (.h Has.ro (.nil)))), ?_⟩
                            refine SQ.lands hL16 ?_
                            refine SQ_one (SA_call rfl (.mk rfl rfl (hg36_2)) Try.call31 (.cons rfl (.cons rfl (.nil))) (CallsK.at (tree_View p s (fx))) (lts rfl) ?_)
                            rintro _ L17 ⟨rfl, hL17⟩
                            refine ⟨.lands hL17 (.w rfl (.h Has.ro (.h Has.ro (.nil)))), ?_⟩
                            refine SQ.lands hL17 ?_
                            refine SQ_pyes rfl rfl rfl (hg36_2) (RD_gtr rfl rfl) rfl ?_
                            refine SQ_pu rfl (RD_pick_t rfl (hg36_2) rfl) rfl ?_
                            refine SQ_nil ?_
                            refine SN.le (l := [(0, _), (4, _), (5, _), (8, _), (9, _), (10, _), (11, _), (12, _), (14, _), (15, _), (187, _)]) ?_ (.cons rfl (.cons rfl (.cons rfl (.cons rfl (.cons rfl (.cons rfl (.cons rfl (.cons rfl (.cons rfl (.cons rfl (.cons rfl (.nil))))))))))))
                            refine SN_seq ?_
                            refine SC_cond_false rfl (decide_eq_false (fun h => by have h2 := hahead h; rw [show onw s fx d = false by simpa using hg36_2] at h2; cases h2)) ?_
                            refine SC_skip ?_
                            refine SN_seq ?_
                            refine SC_seq ?_
                            refine SC_region ?_
                            refine SR_pu (RD_move rfl) rfl ?_
                            refine SR_pu (RD_len Try.runUnderlying24 rfl) rfl ?_
                            refine SR_pu (RD_move rfl) rfl ?_
                            refine SR_nil ?_
                            refine SN.le (l := [(0, _), (4, _), (5, _), (8, _), (9, _), (10, _), (11, _), (12, _), (14, _), (15, _), (189, _), (190, _)]) ?_ (.cons rfl (.cons rfl (.cons rfl (.cons rfl (.cons rfl (.cons rfl (.cons rfl (.cons rfl (.cons rfl (.cons rfl (.cons rfl (.cons rfl (.nil)))))))))))))
                            refine SN_seq ?_
                            refine SC_block ?_
                            refine SC_ind (X := Nat) (fun j => j ≤ ds.length) (fun j => ds.length - j) (fun j => [(0, .slice a0 n0 c0), (4, .pointer (some ⟨p, 0, none⟩)), (5, .slice sa 3 sc), (8, .slice a ds.length c), (9, .slice a2 ds.length c2), (10, .slice a3 ds.length c3), (11, .pointer (some ⟨b11, 0, none⟩)), (12, .int .i64 (i : Nat)), (14, .int .i64 (o : Nat)), (15, .int .i64 (w : Nat)), (189, .int .i64 (ds.length : Nat)), (190, .int .i64 (j : Nat))]) (fun j => At safeI y x :: At safesI 1 (L.eraseIdx w) :: rowP 64 1 sa 3 sc ([y0, y1, y2].map ptrV) :: rowP 3 1 a ds.length c (ds.map intV) :: rowP 4 1 a2 ds.length c2 ((ce.set o true).map boolV) :: rowP 3 1 a3 ds.length c3 (vo.map natV) :: pt b11 (.cells [.int .i64 fx].toArray 3) :: At treeI p s :: At worldI k ⟨l, []⟩ :: F) (0) (by omega) (.cons rfl (.cons rfl (.cons rfl (.cons rfl (.cons rfl (.cons rfl (.cons rfl (.cons rfl (.cons rfl (.cons rfl (.cons rfl (.cons rfl (.nil))))))))))))) (.fin) ?_
                            intro j hi ih3
                            refine SC_seq ?_
                            refine SC_region ?_
                            refine SR_pu (RD_lss rfl rfl) rfl ?_
                            refine SR_nil ?_
                            refine SN.le (l := [(0, _), (4, _), (5, _), (8, _), (9, _), (10, _), (11, _), (12, _), (14, _), (15, _), (189, _), (190, _), (191, _)]) ?_ (.cons rfl (.cons rfl (.cons rfl (.cons rfl (.cons rfl (.cons rfl (.cons rfl (.cons rfl (.cons rfl (.cons rfl (.cons rfl (.cons rfl (.cons rfl (.nil))))))))))))))
                            refine SN_seq ?_
                            refine SC_seq ?_
                            refine SC_cond rfl (fun hc191 => ?_) (fun hc191 => ?_)
                            · have hjn : j < ds.length := by simp at hc191; omega
                              obtain ⟨dj, hdj⟩ : ∃ d, ds[j]? = some d := ⟨_, List.getElem?_eq_getElem hjn⟩
                              obtain ⟨ej, hej⟩ : ∃ e, (ce.set o true)[j]? = some e := ⟨_, List.getElem?_eq_getElem (by simp; omega)⟩
                              refine SC_skip ?_
                              refine SN_seq ?_
                              refine SC_seq ?_
                              refine SC_block ?_
                              refine SC_seq ?_
                              refine SC_region ?_
                              refine SR_pu (RD_move rfl) rfl ?_
                              refine SR_pu (RD_assign rfl) rfl ?_
                              refine SR_nil ?_
                              refine SN.le (l := [(0, _), (4, _), (5, _), (8, _), (9, _), (10, _), (11, _), (12, _), (14, _), (15, _), (22, _), (189, _), (190, _)]) ?_ (.cons rfl (.cons rfl (.cons rfl (.cons rfl (.cons rfl (.cons rfl (.cons rfl (.cons rfl (.cons rfl (.cons rfl (.cons rfl (.cons rfl (.cons rfl (.nil))))))))))))))
                              refine SN_seq ?_
                              refine SC_seq ?_
                              refine SC_drawn (.cons 0 true (.cons 1 true (.cons 2 true (.cons 3 true (.cons 4 true (.cons 5 true (.cons 6 true (.cons 7 true (.cons 8 true (.cons 9 true (.cons 10 true (.cons 11 true (.cons 12 true (.cons 13 true (.cons 14 true (.cons 16 true (.cons 17 true (.cons 18 true (.cons 19 true (.cons 20 true (.cons 15 false (.cons 21 false (.cons 22 true (.cons 23 true (.nil))))))))))))))))))))))))) (by kernel_rfl) (by kernel_rfl) ?_
                              refine SQ_pu rfl (RD_move rfl) rfl ?_
                              refine SQ_pu rfl (RD_move rfl) rfl ?_
                              refine SQ_pu rfl (RD_neq rfl rfl) rfl ?_
                              refine SQ_pu rfl (RD_move rfl) rfl ?_
                              refine SQ_guard (i := 4) rfl rfl rfl (fun hg41_3 => ?_) (fun hg41_3 => ?_)
                              · refine SQ_pyes rfl rfl rfl (hg41_3) (RD_move rfl) rfl ?_
                                refine SQ_pyes rfl rfl rfl (hg41_3) (RD_move rfl) rfl ?_
                                refine SQ_yes rfl rfl rfl (hg41_3) (RD_ixO (i := (j : Nat)) (cs := (ce.set o true).map boolV) Try.runUnderlying66 Try.sizeOf4 rfl rfl (by simp; omega) (by omega) (by omega)) Has.ro rfl ?_
                                refine SQ_yes rfl rfl rfl (hg41_3) (RD_loadO (v := boolV ej) (cs := (ce.set o true).map boolV) Try.isAgg4 rfl ((fun q hq => by rw [hq, List.getElem?_map, hej]; rfl : ∀ q : Nat, q = j → ((ce.set o true).map boolV)[q]? = some (boolV ej)) _ (by simp))) Has.ro rfl ?_
                                refine SQ_pu rfl (RD_pick_t rfl (hg41_3) rfl) rfl ?_
                                refine SQ_pu rfl (RD_move rfl) rfl ?_
                                refine SQ_guard (i := 10) rfl rfl rfl (fun hg41_9 => ?_) (fun hg41_9 => ?_)
                                · refine SQ_pyes rfl rfl rfl (hg41_9) (RD_move rfl) rfl ?_
                                  refine SQ_pyes rfl rfl rfl (hg41_9) (RD_move rfl) rfl ?_
                                  refine SQ_pyes rfl rfl rfl (hg41_9) (RD_move rfl) rfl ?_
                                  refine SQ_yes rfl rfl rfl (hg41_9) (RD_ixO (i := (j : Nat)) (cs := ds.map intV) Try.runUnderlying24 Try.sizeOf3 rfl rfl (by simp) (by omega) (by omega)) Has.ro rfl ?_
                                  refine SQ_yes rfl rfl rfl (hg41_9) (RD_loadO (v := intV dj) (cs := ds.map intV) Try.isAgg3 rfl (by simp [hdj])) Has.ro rfl ?_
                                  refine SQ_pyes rfl rfl rfl (hg41_9) (RD_move rfl) rfl ?_
                                  refine SQ_pyes rfl rfl rfl (hg41_9) (RD_move rfl) rfl ?_
                                  refine SQ_pyes rfl rfl rfl (hg41_9) (RD_move rfl) rfl ?_
                                  refine SQ_yes rfl rfl rfl (hg41_9) (RD_ixO (i := (o : Nat)) (cs := ds.map intV) Try.runUnderlying24 Try.sizeOf3 rfl rfl (by simp) (by omega) (by omega)) Has.ro rfl ?_
                                  refine SQ_yes rfl rfl rfl (hg41_9) (RD_loadO (v := intV d) (cs := ds.map intV) Try.isAgg3 rfl (by simp [hd])) Has.ro rfl ?_
                                  refine SQ_one (SA_call rfl (.mk rfl rfl (hg41_9)) Try.call31 (.cons rfl (.cons rfl (.nil))) (CallsK.at (tree_View p s (dj))) (lts rfl) ?_)
                                  rintro _ L18 ⟨rfl, hL18⟩
                                  refine ⟨.lands hL18 (.h Has.ro (.h Has.ro (.w rfl (.h Has.ro (.h Has.ro (.h Has.ro (.nil))))))), ?_⟩
                                  refine SQ.lands hL18 ?_
                                  refine SQ_one (SA_call rfl (.mk rfl rfl (hg41_9)) Try.call31 (.cons rfl (.cons rfl (.nil))) (CallsK.at (tree_View p s (d))) (lts rfl) ?_)
                                  rintro _ L19 ⟨rfl, hL19⟩
                                  refine ⟨.lands hL19 (.w rfl (.h Has.ro (.h Has.ro (.h Has.ro (.h Has.ro (.h Has.ro (.nil))))))), ?_⟩
                                  refine SQ.lands hL19 ?_
                                  refine SQ_pyes rfl rfl rfl (hg41_9) (RD_eql rfl rfl) rfl ?_
                                  refine SQ_pu rfl (RD_pick_t rfl (hg41_9) rfl) rfl ?_
                                  refine SQ_nil ?_
                                  refine SN.le (l := [(0, _), (4, _), (5, _), (8, _), (9, _), (10, _), (11, _), (12, _), (14, _), (15, _), (189, _), (190, _), (216, _)]) ?_ (.cons rfl (.cons rfl (.cons rfl (.cons rfl (.cons rfl (.cons rfl (.cons rfl (.cons rfl (.cons rfl (.cons rfl (.cons rfl (.cons rfl (.cons rfl (.nil))))))))))))))
                                  refine SN_seq ?_
                                  refine SC_cond_false rfl (decide_eq_false (fun h => halone j dj (by have h9 := hg41_3; simp at h9; omega) hdj (by rw [hej, show ej = true from hg41_9]) h)) ?_
                                  refine SC_skip ?_
                                  refine SN_block ?_
                                  refine SN_seq ?_
                                  refine SC_region ?_
                                  refine SR_pu (RD_addi rfl rfl (by omega) (by omega)) rfl ?_
                                  refine SR_pu (RD_move rfl) rfl ?_
                                  refine SR_nil ?_
                                  refine SN.le (l := [(0, _), (4, _), (5, _), (8, _), (9, _), (10, _), (11, _), (12, _), (14, _), (15, _), (189, _), (190, _)]) ?_ (.cons rfl (.cons rfl (.cons rfl (.cons rfl (.cons rfl (.cons rfl (.cons rfl (.cons rfl (.cons rfl (.cons rfl (.cons rfl (.cons rfl (.nil)))))))))))))
                                  refine SC_again (ih3 (j + 1) (by omega) (by omega)) (.fin) (.cons rfl (.cons rfl (.cons rfl (.cons rfl (.cons rfl (.cons rfl (.cons rfl (.cons rfl (.cons rfl (.cons rfl (.cons rfl (.cons' rfl (ie (by omega)) (.nil)))))))))))))
                                · refine SQ_no rfl rfl rfl (hg41_9) (lts rfl) ?_
                                  refine SQ_no rfl rfl rfl (hg41_9) (lts rfl) ?_
                                  refine SQ_no rfl rfl rfl (hg41_9) (lts rfl) ?_
                                  refine SQ_no rfl rfl rfl (hg41_9) (lts rfl) ?_
                                  refine SQ_no rfl rfl rfl (hg41_9) (lts rfl) ?_
                                  refine SQ_no rfl rfl rfl (hg41_9) (lts rfl) ?_
                                  refine SQ_no rfl rfl rfl (hg41_9) (lts rfl) ?_
                                  refine SQ_no rfl rfl rfl (hg41_9) (lts rfl) ?_
                                  refine SQ_no rfl rfl rfl (hg41_9) (lts rfl) ?_
                                  refine SQ_no rfl rfl rfl (hg41_9) (lts rfl) ?_
                                  refine SQ_no1 rfl rfl rfl (hg41_9) (lts rfl) ?_
                                  refine SQ_no1 rfl rfl rfl (hg41_9) (lts rfl) ?_
                                  refine SQ_no rfl rfl rfl (hg41_9) (lts rfl) ?_
                                  refine SQ_pu rfl (RD_pick_f rfl (hg41_9) rfl) rfl ?_
                                  refine SQ_nil ?_
                                  refine SN.le (l := [(0, _), (4, _), (5, _), (8, _), (9, _), (10, _), (11, _), (12, _), (14, _), (15, _), (189, _), (190, _), (216, _)]) ?_ (.cons rfl (.cons rfl (.cons rfl (.cons rfl (.cons rfl (.cons rfl (.cons rfl (.cons rfl (.cons rfl (.cons rfl (.cons rfl (.cons rfl (.cons rfl (.nil))))))))))))))
                                  refine SN_seq ?_
                                  refine SC_cond_false rfl (rfl) ?_
                                  refine SC_skip ?_
                                  refine SN_block ?_
                                  refine SN_seq ?_
                                  refine SC_region ?_
                                  refine SR_pu (RD_addi rfl rfl (by omega) (by omega)) rfl ?_
                                  refine SR_pu (RD_move rfl) rfl ?_
                                  refine SR_nil ?_
                                  refine SN.le (l := [(0, _), (4, _), (5, _), (8, _), (9, _), (10, _), (11, _), (12, _), (14, _), (15, _), (189, _), (190, _)]) ?_ (.cons rfl (.cons rfl (.cons rfl (.cons rfl (.cons rfl (.cons rfl (.cons rfl (.cons rfl (.cons rfl (.cons rfl (.cons rfl (.cons rfl (.nil)))))))))))))
                                  refine SC_again (ih3 (j + 1) (by omega) (by omega)) (.fin) (.cons rfl (.cons rfl (.cons rfl (.cons rfl (.cons rfl (.cons rfl (.cons rfl (.cons rfl (.cons rfl (.cons rfl (.cons rfl (.cons' rfl (ie (by omega)) (.nil)))))))))))))
                              · refine SQ_no rfl rfl rfl (hg41_3) (lts rfl) ?_
                                refine SQ_no rfl rfl rfl (hg41_3) (lts rfl) ?_
                                refine SQ_no rfl rfl rfl (hg41_3) (lts rfl) ?_
                                refine SQ_no rfl rfl rfl (hg41_3) (lts rfl) ?_
                                refine SQ_pu rfl (RD_pick_f rfl (hg41_3) rfl) rfl ?_
                                refine SQ_pu rfl (RD_move rfl) rfl ?_
                                refine SQ_no rfl rfl rfl (rfl) (lts rfl) ?_
                                refine SQ_no rfl rfl rfl (rfl) (lts rfl) ?_
                                refine SQ_no rfl rfl rfl (rfl) (lts rfl) ?_
                                refine SQ_no rfl rfl rfl (rfl) (lts rfl) ?_
                                refine SQ_no rfl rfl rfl (rfl) (lts rfl) ?_
                                refine SQ_no rfl rfl rfl (rfl) (lts rfl) ?_
                                refine SQ_no rfl rfl rfl (rfl) (lts rfl) ?_
                                refine SQ_no rfl rfl rfl (rfl) (lts rfl) ?_
                                refine SQ_no rfl rfl rfl (rfl) (lts rfl) ?_
                                refine SQ_no rfl rfl rfl (rfl) (lts rfl) ?_
                                refine SQ_no1 rfl rfl rfl (rfl) (lts rfl) ?_
                                refine SQ_no1 rfl rfl rfl (rfl) (lts rfl) ?_
                                refine SQ_no rfl rfl rfl (rfl) (lts rfl) ?_
                                refine SQ_pu rfl (RD_pick_f rfl (rfl) rfl) rfl ?_
                                refine SQ_nil ?_
                                refine SN.le (l := [(0, _), (4, _), (5, _), (8, _), (9, _), (10, _), (11, _), (12, _), (14, _), (15, _), (189, _), (190, _), (216, _)]) ?_ (.cons rfl (.cons rfl (.cons rfl (.cons rfl (.cons rfl (.cons rfl (.cons rfl (.cons rfl (.cons rfl (.cons rfl (.cons rfl (.cons rfl (.cons rfl (.nil))))))))))))))
                                refine SN_seq ?_
                                refine SC_cond_false rfl (rfl) ?_
                                refine SC_skip ?_
                                refine SN_block ?_
                                refine SN_seq ?_
                                refine SC_region ?_
                                refine SR_pu (RD_addi rfl rfl (by omega) (by omega)) rfl ?_
                                refine SR_pu (RD_move rfl) rfl ?_
                                refine SR_nil ?_
                                refine SN.le (l := [(0, _), (4, _), (5, _), (8, _), (9, _), (10, _), (11, _), (12, _), (14, _), (15, _), (189, _), (190, _)]) ?_ (.cons rfl (.cons rfl (.cons rfl (.cons rfl (.cons rfl (.cons rfl (.cons rfl (.cons rfl (.cons rfl (.cons rfl (.cons rfl (.cons rfl (.nil)))))))))))))
                                refine SC_again (ih3 (j + 1) (by omega) (by omega)) (.fin) (.cons rfl (.cons rfl (.cons rfl (.cons rfl (.cons rfl (.cons rfl (.cons rfl (.cons rfl (.cons rfl (.cons rfl (.cons rfl (.cons' rfl (ie (by omega)) (.nil)))))))))))))
                            · clear ih3
                              refine SC_exit rfl ?_
                              exact J0 (⟨ce.set o true, hcer⟩) _ _ (.cons rfl (.cons rfl (.cons rfl (.cons rfl (.cons rfl (.cons rfl (.cons rfl (.cons rfl (.cons rfl (.cons rfl (.nil))))))))))) (.fin)
                          · refine SQ_no rfl rfl rfl (hg36_2) (lts rfl) ?_
                            refine SQ_no rfl rfl rfl (hg36_2) (lts rfl) ?_
                            refine SQ_no rfl rfl rfl (hg36_2) (lts rfl) ?_
                            refine SQ_no rfl rfl rfl (hg36_2) (lts rfl) ?_
                            refine SQ_no rfl rfl rfl (hg36_2) (lts rfl) ?_
                            refine SQ_no rfl rfl rfl (hg36_2) (lts rfl) ?_
                            refine SQ_no rfl rfl rfl (hg36_2) (lts rfl) ?_
                            refine SQ_no1 rfl rfl rfl (hg36_2) (lts rfl) ?_
                            refine SQ_no1 rfl rfl rfl (hg36_2) (lts rfl) ?_
                            refine SQ_no rfl rfl rfl (hg36_2) (lts rfl) ?_
                            refine SQ_pu rfl (RD_pick_f rfl (hg36_2) rfl) rfl ?_
                            refine SQ_nil ?_
                            refine SN.le (l := [(0, _), (4, _), (5, _), (8, _), (9, _), (10, _), (11, _), (12, _), (14, _), (15, _), (187, _)]) ?_ (.cons rfl (.cons rfl (.cons rfl (.cons rfl (.cons rfl (.cons rfl (.cons rfl (.cons rfl (.cons rfl (.cons rfl (.cons rfl (.nil))))))))))))
                            refine SN_seq ?_
                            refine SC_cond_false rfl (rfl) ?_
                            refine SC_skip ?_
                            refine SN_seq ?_
                            refine SC_seq ?_
                            refine SC_region ?_
                            refine SR_pu (RD_move rfl) rfl ?_
                            refine SR_pu (RD_len Try.runUnderlying24 rfl) rfl ?_
                            refine SR_pu (RD_move rfl) rfl ?_
                            refine SR_nil ?_
                            refine SN.le (l := [(0, _), (4, _), (5, _), (8, _), (9, _), (10, _), (11, _), (12, _), (14, _), (15, _), (189, _), (190, _)]) ?_ (.cons rfl (.cons rfl (.cons rfl (.cons rfl (.cons rfl (.cons rfl (.cons rfl (.cons rfl (.cons rfl (.cons rfl (.cons rfl (.cons rfl (.nil)))))))))))))
                            refine SN_seq ?_
                            refine SC_block ?_
                            refine SC_ind (X := Nat) (fun j => j ≤ ds.length) (fun j => ds.length - j) (fun j => [(0, .slice a0 n0 c0), (4, .pointer (some ⟨p, 0, none⟩)), (5, .slice sa 3 sc), (8, .slice a ds.length c), (9, .slice a2 ds.length c2), (10, .slice a3 ds.length c3), (11, .pointer (some ⟨b11, 0, none⟩)), (12, .int .i64 (i : Nat)), (14, .int .i64 (o : Nat)), (15, .int .i64 (w : Nat)), (189, .int .i64 (ds.length : Nat)), (190, .int .i64 (j : Nat))]) (fun j => At safeI y x :: At safesI 1 (L.eraseIdx w) :: rowP 64 1 sa 3 sc ([y0, y1, y2].map ptrV) :: rowP 3 1 a ds.length c (ds.map intV) :: rowP 4 1 a2 ds.length c2 ((ce.set o true).map boolV) :: rowP 3 1 a3 ds.length c3 (vo.map natV) :: pt b11 (.cells [.int .i64 fx].toArray 3) :: At treeI p s :: At worldI k ⟨l, []⟩ :: F) (0) (by omega) (.cons rfl (.cons rfl (.cons rfl (.cons rfl (.cons rfl (.cons rfl (.cons rfl (.cons rfl (.cons rfl (.cons rfl (.cons rfl (.cons rfl (.nil))))))))))))) (.fin) ?_
                            intro j hi ih3
                            refine SC_seq ?_
                            refine SC_region ?_
                            refine SR_pu (RD_lss rfl rfl) rfl ?_
                            refine SR_nil ?_
                            refine SN.le (l := [(0, _), (4, _), (5, _), (8, _), (9, _), (10, _), (11, _), (12, _), (14, _), (15, _), (189, _), (190, _), (191, _)]) ?_ (.cons rfl (.cons rfl (.cons rfl (.cons rfl (.cons rfl (.cons rfl (.cons rfl (.cons rfl (.cons rfl (.cons rfl (.cons rfl (.cons rfl (.cons rfl (.nil))))))))))))))
                            refine SN_seq ?_
                            refine SC_seq ?_
                            refine SC_cond rfl (fun hc191 => ?_) (fun hc191 => ?_)
                            · have hjn : j < ds.length := by simp at hc191; omega
                              obtain ⟨dj, hdj⟩ : ∃ d, ds[j]? = some d := ⟨_, List.getElem?_eq_getElem hjn⟩
                              obtain ⟨ej, hej⟩ : ∃ e, (ce.set o true)[j]? = some e := ⟨_, List.getElem?_eq_getElem (by simp; omega)⟩
                              refine SC_skip ?_
                              refine SN_seq ?_
                              refine SC_seq ?_
                              refine SC_block ?_
                              refine SC_seq ?_
                              refine SC_region ?_
                              refine SR_pu (RD_move rfl) rfl ?_
                              refine SR_pu (RD_assign rfl) rfl ?_
                              refine SR_nil ?_
                              refine SN.le (l := [(0, _), (4, _), (5, _), (8, _), (9, _), (10, _), (11, _), (12, _), (14, _), (15, _), (22, _), (189, _), (190, _)]) ?_ (.cons rfl (.cons rfl (.cons rfl (.cons rfl (.cons rfl (.cons rfl (.cons rfl (.cons rfl (.cons rfl (.cons rfl (.cons rfl (.cons rfl (.cons rfl (.nil))))))))))))))
                              refine SN_seq ?_
                              refine SC_seq ?_
                              refine SC_drawn (.cons 0 true (.cons 1 true (.cons 2 true (.cons 3 true (.cons 4 true (.cons 5 true (.cons 6 true (.cons 7 true (.cons 8 true (.cons 9 true (.cons 10 true (.cons 11 true (.cons 12 true (.cons 13 true (.cons 14 true (.cons 16 true (.cons 17 true (.cons 18 true (.cons 19 true (.cons 20 true (.cons 15 false (.cons 21 false (.cons 22 true (.cons 23 true (.nil))))))))))))))))))))))))) (by kernel_rfl) (by kernel_rfl) ?_
                              refine SQ_pu rfl (RD_move rfl) rfl ?_
                              refine SQ_pu rfl (RD_move rfl) rfl ?_
                              refine SQ_pu rfl (RD_neq rfl rfl) rfl ?_
                              refine SQ_pu rfl (RD_move rfl) rfl ?_
                              refine SQ_guard (i := 4) rfl rfl rfl (fun hg41_3 => ?_) (fun hg41_3 => ?_)
                              · refine SQ_pyes rfl rfl rfl (hg41_3) (RD_move rfl) rfl ?_
                                refine SQ_pyes rfl rfl rfl (hg41_3) (RD_move rfl) rfl ?_
                                refine SQ_yes rfl rfl rfl (hg41_3) (RD_ixO (i := (j : Nat)) (cs := (ce.set o true).map boolV) Try.runUnderlying66 Try.sizeOf4 rfl rfl (by simp; omega) (by omega) (by omega)) Has.ro rfl ?_
                                refine SQ_yes rfl rfl rfl (hg41_3) (RD_loadO (v := boolV ej) (cs := (ce.set o true).map boolV) Try.isAgg4 rfl ((fun q hq => by rw [hq, List.getElem?_map, hej]; rfl : ∀ q : Nat, q = j → ((ce.set o true).map boolV)[q]? = some (boolV ej)) _ (by simp))) Has.ro rfl ?_
                                refine SQ_pu rfl (RD_pick_t rfl (hg41_3) rfl) rfl ?_
                                refine SQ_pu rfl (RD_move rfl) rfl ?_
                                refine SQ_guard (i := 10) rfl rfl rfl (fun hg41_9 => ?_) (fun hg41_9 => ?_)
                                · refine SQ_pyes rfl rfl rfl (hg41_9) (RD_move rfl) rfl ?_
                                  refine SQ_pyes rfl rfl rfl (hg41_9) (RD_move rfl) rfl ?_
                                  refine SQ_pyes rfl rfl rfl (hg41_9) (RD_move rfl) rfl ?_
                                  refine SQ_yes rfl rfl rfl (hg41_9) (RD_ixO (i := (j : Nat)) (cs := ds.map intV) Try.runUnderlying24 Try.sizeOf3 rfl rfl (by simp) (by omega) (by omega)) Has.ro rfl ?_
                                  refine SQ_yes rfl rfl rfl (hg41_9) (RD_loadO (v := intV dj) (cs := ds.map intV) Try.isAgg3 rfl (by simp [hdj])) Has.ro rfl ?_
                                  refine SQ_pyes rfl rfl rfl (hg41_9) (RD_move rfl) rfl ?_
                                  refine SQ_pyes rfl rfl rfl (hg41_9) (RD_move rfl) rfl ?_
                                  refine SQ_pyes rfl rfl rfl (hg41_9) (RD_move rfl) rfl ?_
                                  refine SQ_yes rfl rfl rfl (hg41_9) (RD_ixO (i := (o : Nat)) (cs := ds.map intV) Try.runUnderlying24 Try.sizeOf3 rfl rfl (by simp) (by omega) (by omega)) Has.ro rfl ?_
                                  refine SQ_yes rfl rfl rfl (hg41_9) (RD_loadO (v := intV d) (cs := ds.map intV) Try.isAgg3 rfl (by simp [hd])) Has.ro rfl ?_
                                  refine SQ_one (SA_call rfl (.mk rfl rfl (hg41_9)) Try.call31 (.cons rfl (.cons rfl (.nil))) (CallsK.at (tree_View p s (dj))) (lts rfl) ?_)
                                  rintro _ L18 ⟨rfl, hL18⟩
                                  refine ⟨.lands hL18 (.h Has.ro (.h Has.ro (.w rfl (.h Has.ro (.h Has.ro (.h Has.ro (.nil))))))), ?_⟩
                                  refine SQ.lands hL18 ?_
                                  refine SQ_one (SA_call rfl (.mk rfl rfl (hg41_9)) Try.call31 (.cons rfl (.cons rfl (.nil))) (CallsK.at (tree_View p s (d))) (lts rfl) ?_)
                                  rintro _ L19 ⟨rfl, hL19⟩
                                  refine ⟨.lands hL19 (.w rfl (.h Has.ro (.h Has.ro (.h Has.ro (.h Has.ro (.h Has.ro (.nil))))))), ?_⟩
                                  refine SQ.lands hL19 ?_
                                  refine SQ_pyes rfl rfl rfl (hg41_9) (RD_eql rfl rfl) rfl ?_
                                  refine SQ_pu rfl (RD_pick_t rfl (hg41_9) rfl) rfl ?_
                                  refine SQ_nil ?_
                                  refine SN.le (l := [(0, _), (4, _), (5, _), (8, _), (9, _), (10, _), (11, _), (12, _), (14, _), (15, _), (189, _), (190, _), (216, _)]) ?_ (.cons rfl (.cons rfl (.cons rfl (.cons rfl (.cons rfl (.cons rfl (.cons rfl (.cons rfl (.cons rfl (.cons rfl (.cons rfl (.cons rfl (.cons rfl (.nil))))))))))))))
                                  refine SN_seq ?_
                                  refine SC_cond_false rfl (decide_eq_false (fun h => halone j dj (by have h9 := hg41_3; simp at h9; omega) hdj (by rw [hej, show ej = true from hg41_9]) h)) ?_
                                  refine SC_skip ?_
                                  refine SN_block ?_
                                  refine SN_seq ?_
                                  refine SC_region ?_
                                  refine SR_pu (RD_addi rfl rfl (by omega) (by omega)) rfl ?_
                                  refine SR_pu (RD_move rfl) rfl ?_
                                  refine SR_nil ?_
                                  refine SN.le (l := [(0, _), (4, _), (5, _), (8, _), (9, _), (10, _), (11, _), (12, _), (14, _), (15, _), (189, _), (190, _)]) ?_ (.cons rfl (.cons rfl (.cons rfl (.cons rfl (.cons rfl (.cons rfl (.cons rfl (.cons rfl (.cons rfl (.cons rfl (.cons rfl (.cons rfl (.nil)))))))))))))
                                  refine SC_again (ih3 (j + 1) (by omega) (by omega)) (.fin) (.cons rfl (.cons rfl (.cons rfl (.cons rfl (.cons rfl (.cons rfl (.cons rfl (.cons rfl (.cons rfl (.cons rfl (.cons rfl (.cons' rfl (ie (by omega)) (.nil)))))))))))))
                                · refine SQ_no rfl rfl rfl (hg41_9) (lts rfl) ?_
                                  refine SQ_no rfl rfl rfl (hg41_9) (lts rfl) ?_
                                  refine SQ_no rfl rfl rfl (hg41_9) (lts rfl) ?_
                                  refine SQ_no rfl rfl rfl (hg41_9) (lts rfl) ?_
                                  refine SQ_no rfl rfl rfl (hg41_9) (lts rfl) ?_
                                  refine SQ_no rfl rfl rfl (hg41_9) (lts rfl) ?_
                                  refine SQ_no rfl rfl rfl (hg41_9) (lts rfl) ?_
                                  refine SQ_no rfl rfl rfl (hg41_9) (lts rfl) ?_
                                  refine SQ_no rfl rfl rfl (hg41_9) (lts rfl) ?_
                                  refine SQ_no rfl rfl rfl (hg41_9) (lts rfl) ?_
                                  refine SQ_no1 rfl rfl rfl (hg41_9) (lts rfl) ?_
                                  refine SQ_no1 rfl rfl rfl (hg41_9) (lts rfl) ?_
                                  refine SQ_no rfl rfl rfl (hg41_9) (lts rfl) ?_
                                  refine SQ_pu rfl (RD_pick_f rfl (hg41_9) rfl) rfl ?_
                                  refine SQ_nil ?_
                                  refine SN.le (l := [(0, _), (4, _), (5, _), (8, _), (9, _), (10, _), (11, _), (12, _), (14, _), (15, _), (189, _), (190, _), (216, _)]) ?_ (.cons rfl (.cons rfl (.cons rfl (.cons rfl (.cons rfl (.cons rfl (.cons rfl (.cons rfl (.cons rfl (.cons rfl (.cons rfl (.cons rfl (.cons rfl (.nil))))))))))))))
                                  refine SN_seq ?_
                                  refine SC_cond_false rfl (rfl) ?_
                                  refine SC_skip ?_
                                  refine SN_block ?_
                                  refine SN_seq ?_
                                  refine SC_region ?_
                                  refine SR_pu (RD_addi rfl rfl (by omega) (by omega)) rfl ?_
                                  refine SR_pu (RD_move rfl) rfl ?_
                                  refine SR_nil ?_
                                  refine SN.le (l := [(0, _), (4, _), (5, _), (8, _), (9, _), (10, _), (11, _), (12, _), (14, _), (15, _), (189, _), (190, _)]) ?_ (.cons rfl (.cons rfl (.cons rfl (.cons rfl (.cons rfl (.cons rfl (.cons rfl (.cons rfl (.cons rfl (.cons rfl (.cons rfl (.cons rfl (.nil)))))))))))))
                                  refine SC_again (ih3 (j + 1) (by omega) (by omega)) (.fin) (.cons rfl (.cons rfl (.cons rfl (.cons rfl (.cons rfl (.cons rfl (.cons rfl (.cons rfl (.cons rfl (.cons rfl (.cons rfl (.cons' rfl (ie (by omega)) (.nil)))))))))))))
                              · refine SQ_no rfl rfl rfl (hg41_3) (lts rfl) ?_
                                refine SQ_no rfl rfl rfl (hg41_3) (lts rfl) ?_
                                refine SQ_no rfl rfl rfl (hg41_3) (lts rfl) ?_
                                refine SQ_no rfl rfl rfl (hg41_3) (lts rfl) ?_
                                refine SQ_pu rfl (RD_pick_f rfl (hg41_3) rfl) rfl ?_
                                refine SQ_pu rfl (RD_move rfl) rfl ?_
                                refine SQ_no rfl rfl rfl (rfl) (lts rfl) ?_
                                refine SQ_no rfl rfl rfl (rfl) (lts rfl) ?_
                                refine SQ_no rfl rfl rfl (rfl) (lts rfl) ?_
                                refine SQ_no rfl rfl rfl (rfl) (lts rfl) ?_
                                refine SQ_no rfl rfl rfl (rfl) (lts rfl) ?_
                                refine SQ_no rfl rfl rfl (rfl) (lts rfl) ?_
                                refine SQ_no rfl rfl rfl (rfl) (lts rfl) ?_
                                refine SQ_no rfl rfl rfl (rfl) (lts rfl) ?_
                                refine SQ_no rfl rfl rfl (rfl) (lts rfl) ?_
                                refine SQ_no rfl rfl rfl (rfl) (lts rfl) ?_
                                refine SQ_no1 rfl rfl rfl (rfl) (lts rfl) ?_
                                refine SQ_no1 rfl rfl rfl (rfl) (lts rfl) ?_
                                refine SQ_no rfl rfl rfl (rfl) (lts rfl) ?_
                                refine SQ_pu rfl (RD_pick_f rfl (rfl) rfl) rfl ?_
                                refine SQ_nil ?_
                                refine SN.le (l := [(0, _), (4, _), (5, _), (8, _), (9, _), (10, _), (11, _), (12, _), (14, _), (15, _), (189, _), (190, _), (216, _)]) ?_ (.cons rfl (.cons rfl (.cons rfl (.cons rfl (.cons rfl (.cons rfl (.cons rfl (.cons rfl (.cons rfl (.cons rfl (.cons rfl (.cons rfl (.cons rfl (.nil))))))))))))))
                                refine SN_seq ?_
                                refine SC_cond_false rfl (rfl) ?_
                                refine SC_skip ?_
                                refine SN_block ?_
                                refine SN_seq ?_
                                refine SC_region ?_
                                refine SR_pu (RD_addi rfl rfl (by omega) (by omega)) rfl ?_
                                refine SR_pu (RD_move rfl) rfl ?_
                                refine SR_nil ?_
                                refine SN.le (l := [(0, _), (4, _), (5, _), (8, _), (9, _), (10, _), (11, _), (12, _), (14, _), (15, _), (189, _), (190, _)]) ?_ (.cons rfl (.cons rfl (.cons rfl (.cons rfl (.cons rfl (.cons rfl (.cons rfl (.cons rfl (.cons rfl (.cons rfl (.cons rfl (.cons rfl (.nil)))))))))))))
                                refine SC_again (ih3 (j + 1) (by omega) (by omega)) (.fin) (.cons rfl (.cons rfl (.cons rfl (.cons rfl (.cons rfl (.cons rfl (.cons rfl (.cons rfl (.cons rfl (.cons rfl (.cons rfl (.cons' rfl (ie (by omega)) (.nil)))))))))))))
                            · clear ih3
                              refine SC_exit rfl ?_
                              exact J0 (⟨ce.set o true, hcer⟩) _ _ (.cons rfl (.cons rfl (.cons rfl (.cons rfl (.cons rfl (.cons rfl (.cons rfl (.cons rfl (.cons rfl (.cons rfl (.nil))))))))))) (.fin)
                      · refine SR_no rfl rfl (hg33_11) (lts rfl) ?_
                        refine SR_no rfl rfl (hg33_11) (lts rfl) ?_
                        refine SR_no rfl rfl (hg33_11) (lts rfl) ?_
                        refine SR_no rfl rfl (hg33_11) (lts rfl) ?_
                        refine SR_no rfl rfl (hg33_11) (lts rfl) ?_
                        refine SR_yes rfl rfl (hg33_5) ?_
                        refine SR_pu (RD_pick_t rfl (hg33_11) rfl) rfl ?_
                        refine SR_yes rfl rfl (hg33_5) ?_
                        refine SR_pu (RD_move rfl) rfl ?_
                        refine SR_no rfl rfl (rfl) (lts rfl) ?_
                        refine SR_no rfl rfl (rfl) (lts rfl) ?_
                        refine SR_no rfl rfl (rfl) (lts rfl) ?_
                        refine SR_no rfl rfl (rfl) (lts rfl) ?_
                        refine SR_no rfl rfl (rfl) (lts rfl) ?_
                        refine SR_yes rfl rfl (hg33_5) ?_
                        refine SR_pu (RD_pick_t rfl (rfl) rfl) rfl ?_
                        refine SR_yes rfl rfl (hg33_5) ?_
                        refine SR_pu (RD_move rfl) rfl ?_
                        refine SR_no rfl rfl (rfl) (lts rfl) ?_
                        refine SR_no rfl rfl (rfl) (lts rfl) ?_
                        refine SR_no rfl rfl (rfl) (lts rfl) ?_
                        refine SR_no rfl rfl (rfl) (lts rfl) ?_
                        refine SR_no rfl rfl (rfl) (lts rfl) ?_
                        refine SR_yes rfl rfl (hg33_5) ?_
                        refine SR_pu (RD_pick_t rfl (rfl) rfl) rfl ?_
                        refine SR_pu (RD_pick_t rfl (hg33_5) rfl) rfl ?_
                        refine SR_nil ?_
                        refine SN.le (l := [(0, _), (4, _), (5, _), (8, _), (9, _), (10, _), (11, _), (12, _), (14, _), (15, _), (160, _)]) ?_ (.cons rfl (.cons rfl (.cons rfl (.cons rfl (.cons rfl (.cons rfl (.cons rfl (.cons rfl (.cons rfl (.cons rfl (.cons rfl (.nil))))))))))))
                        refine SN_seq ?_
                        refine SC_cond_true rfl (rfl) ?_
                        have hef : e = false := by simpa using hg33_5
                        subst hef
                        obtain ⟨hcer, hahead, halone⟩ := hFJ.certify hGI hd he hm (.inl (by have := of_decide_eq_true hg33_11; omega))
                        have hfin := (hFJ.in_ hGI hFJ.fix).2.1
                        have hol := (List.getElem?_eq_some_iff.1 hd).1
                        refine SC_seq ?_
                        refine SC_region ?_
                        refine SR_pu (RD_move rfl) rfl ?_
                        refine SR_pu (RD_move rfl) rfl ?_
                        refine SR_rd (RD_ixO (i := (o : Nat)) (cs := ce.map boolV) Try.runUnderlying66 Try.sizeOf4 rfl rfl (by simp; omega) (by omega) (by omega)) Has.ro rfl ?_
                        refine SR_ox0 (OX_stRow (v := boolV true) Try.sizeOf4 rfl rfl (by simp; omega)) ?_
                        rintro _ _ rfl
                        refine SR_nil ?_
                        refine SN.le (l := [(0, _), (4, _), (5, _), (8, _), (9, _), (10, _), (11, _), (12, _), (14, _), (15, _)]) ?_ (.cons rfl (.cons rfl (.cons rfl (.cons rfl (.cons rfl (.cons rfl (.cons rfl (.cons rfl (.cons rfl (.cons rfl (.nil)))))))))))
                        refine SN.lands (show Lands _ (At safeI y x :: At safesI 1 (L.eraseIdx w) :: rowP 64 1 sa 3 sc ([y0, y1, y2].map ptrV) :: rowP 3 1 a ds.length c (ds.map intV) :: rowP 4 1 a2 ds.length c2 ((ce.set o true).map boolV) :: rowP 3 1 a3 ds.length c3 (vo.map natV) :: pt b11 (.cells [.int .i64 fx].toArray 3) :: At treeI p s :: At worldI k ⟨l, []⟩ :: F) from (by rw [show (ce.set o true).map boolV = (ce.map boolV).set (((o : Nat) : Int).toNat * (0 + 1)) (boolV true) by rw [List.map_set]; simp]; exact (show Lands _ (At safeI y x :: At safesI 1 (L.eraseIdx w) :: rowP 64 1 sa 3 sc ([y0, y1, y2].map ptrV) :: rowP 3 1 a ds.length c (ds.map intV) :: rowP 4 1 a2 ds.length c2 ((ce.map boolV).set (((o : Nat) : Int).toNat * (0 + 1)) (boolV true)) :: rowP 3 1 a3 ds.length c3 (vo.map natV) :: pt b11 (.cells [.int .i64 fx].toArray 3) :: At treeI p s :: At worldI k ⟨l, []⟩ :: F) from .fin))) ?_
                        refine SN_seq ?_
                        refine SC_seq ?_
                        refine SC_seq ?_
                        refine SC_drawn (.cons 0 true (.cons 1 true (.cons 2 true (.cons 3 true (.cons 4 true (.cons 5 true (.cons 6 false (.cons 7 true (.cons 8 true (.cons 9 true (.cons 10 true (.cons 11 true (.nil))))))))))))) (by kernel_rfl) (by kernel_rfl) ?_
                        refine SQ_pu rfl (RD_move rfl) rfl ?_
                        refine SQ_rd rfl (RD_load Try.isAgg3 rfl) (Has.ce rfl) rfl ?_
                        refine SQ_pu rfl (RD_move rfl) rfl ?_
                        refine SQ_pu rfl (RD_move rfl) rfl ?_
                        refine SQ_rd rfl (RD_ixO (i := (o : Nat)) (cs := ds.map intV) Try.runUnderlying24 Try.sizeOf3 rfl rfl (by simp) (by omega) (by omega)) Has.ro rfl ?_
                        refine SQ_rd rfl (RD_loadO (v := intV d) (cs := ds.map intV) Try.isAgg3 rfl (by simp [hd])) Has.ro rfl ?_
                        refine SQ_call rfl Try.call37 (.cons rfl (.cons rfl (.cons rfl (.nil)))) (CallsK.at (tree_Path_yes p s hGI.ok fx d hfin ⟨b, hb⟩ (by have := hvw d; omega))) (lts rfl) ?_
                        rintro _ L13 ⟨ra13, rc13, rfl, hL13⟩
                        refine ⟨.lands hL13 (.w rfl (.h Has.ro (.w rfl (.nil)))), ?_⟩
                        refine SQ.lands hL13 ?_
                        refine SQ_pu rfl (RD_move rfl) rfl ?_
                        refine SQ_pu rfl (RD_extract rfl rfl) rfl ?_
                        refine SQ_pu rfl (RD_extract rfl rfl) rfl ?_
                        refine SQ_pu rfl (RD_assign rfl) rfl ?_
                        refine SQ_pu rfl (RD_assign rfl) rfl ?_
                        refine SQ_nil ?_
                        refine SN.le (l := [(0, _), (4, _), (5, _), (8, _), (9, _), (10, _), (11, _), (12, _), (14, _), (15, _), (21, _)]) ?_ (.cons rfl (.cons rfl (.cons rfl (.cons rfl (.cons rfl (.cons rfl (.cons rfl (.cons rfl (.cons rfl (.cons rfl (.cons rfl (.nil))))))))))))
                        refine SN_seq ?_
                        refine SC_seq ?_
                        refine SC_drawn (.cons 0 true (.cons 1 true (.cons 2 true (.cons 3 true (.cons 4 true (.cons 5 true (.cons 6 true (.cons 7 true (.cons 9 true (.cons 10 true (.cons 8 false (.cons 11 false (.cons 12 true (.cons 13 true (.nil))))))))))))))) (by kernel_rfl) (by kernel_rfl) ?_
                        refine SQ_pu rfl (RD_move rfl) rfl ?_
                        refine SQ_pu rfl (RD_not rfl) rfl ?_
                        refine SQ_pu rfl (RD_move rfl) rfl ?_
                        refine SQ_guard (i := 3) rfl rfl rfl (fun hg36_2 => ?_) (fun hg36_2 => ?_)
                        · refine SQ_pyes rfl rfl rfl (hg36_2) (RD_move rfl) rfl ?_
                          refine SQ_pyes rfl rfl rfl (hg36_2) (RD_move rfl) rfl ?_
                          refine SQ_pyes rfl rfl rfl (hg36_2) (RD_move rfl) rfl ?_
                          refine SQ_yes rfl rfl rfl (hg36_2) (RD_ixO (i := (o : Nat)) (cs := ds.map intV) Try.runUnderlying24 Try.sizeOf3 rfl rfl (by simp) (by omega) (by omega)) Has.ro rfl ?_
                          refine SQ_yes rfl rfl rfl (hg36_2) (RD_loadO (v := intV d) (cs := ds.map intV) Try.isAgg3 rfl (by simp [hd])) Has.ro rfl ?_
                          refine SQ_pyes rfl rfl rfl (hg36_2) (RD_move rfl) rfl ?_
                          refine SQ_yes rfl rfl rfl (hg36_2) (RD_load Try.isAgg3 rfl) (Has.ce rfl) rfl ?_
                          refine SQ_one (SA_call rfl (.mk rfl rfl (hg36_2)) Try.call31 (.cons rfl (.cons rfl (.nil))) (CallsK.at (tree_View p s (d))) (lts rfl) ?_)
                          rintro _ L16 ⟨rfl, hL16⟩
                          refine ⟨.lands hL16 (.h (Has.ce rfl) (.w rfl (.h Has.ro (.nil)))), ?_⟩
                          refine SQ.lands hL16 ?_
                          refine SQ_one (SA_call rfl (.mk rfl rfl (hg36_2)) Try.call31 (.cons rfl (.cons rfl (.nil))) (CallsK.at (tree_View p s (fx))) (lts rfl) ?_)
                          rintro _ L17 ⟨rfl, hL17⟩
                          refine ⟨.lands hL17 (.w rfl (.h Has.ro (.h Has.ro (.nil)))), ?_⟩
                          refine SQ.lands hL17 ?_
                          refine SQ_pyes rfl rfl rfl (hg36_2) (RD_gtr rfl rfl) rfl ?_
                          refine SQ_pu rfl (RD_pick_t rfl (hg36_2) rfl) rfl ?_
                          refine SQ_nil ?_
                          refine SN.le (l := [(0, _), (4, _), (5, _), (8, _), (9, _), (10, _), (11, _), (12, _), (14, _), (15, _), (187, _)]) ?_ (.cons rfl (.cons rfl (.cons rfl (.cons rfl (.cons rfl (.cons rfl (.cons rfl (.cons rfl (.cons rfl (.cons rfl (.cons rfl (.nil))))))))))))
                          refine SN_seq ?_
                          refine SC_cond_false rfl (decide_eq_false (fun h => by have h2 := hahead h; rw [show onw s fx d = false by simpa using hg36_2] at h2; cases h2)) ?_
                          refine SC_skip ?_
                          refine SN_seq ?_
                          refine SC_seq ?_
                          refine SC_region ?_
                          refine SR_pu (RD_move rfl) rfl ?_
                          refine SR_pu (RD_len Try.runUnderlying24 rfl) rfl ?_
                          refine SR_pu (RD_move rfl) rfl ?_
                          refine SR_nil ?_
                          refine SN.le (l := [(0, _), (4, _), (5, _), (8, _), (9, _), (10, _), (11, _), (12, _), (14, _), (15, _), (189, _), (190, _)]) ?_ (.cons rfl (.cons rfl (.cons rfl (.cons rfl (.cons rfl (.cons rfl (.cons rfl (.cons rfl (.cons rfl (.cons rfl (.cons rfl (.cons rfl (.nil)))))))))))))
                          refine SN_seq ?_
                          refine SC_block ?_
                          refine SC_ind (X := Nat) (fun j => j ≤ ds.length) (fun j => ds.length - j) (fun j => [(0, .slice a0 n0 c0), (4, .pointer (some ⟨p, 0, none⟩)), (5, .slice sa 3 sc), (8, .slice a ds.length c), (9, .slice a2 ds.length c2), (10, .slice a3 ds.length c3), (11, .pointer (some ⟨b11, 0, none⟩)), (12, .int .i64 (i : Nat)), (14, .int .i64 (o : Nat)), (15, .int .i64 (w : Nat)), (189, .int .i64 (ds.length : Nat)), (190, .int .i64 (j : Nat))]) (fun j => At safeI y x :: At safesI 1 (L.eraseIdx w) :: rowP 64 1 sa 3 sc ([y0, y1, y2].map ptrV) :: rowP 3 1 a ds.length c (ds.map intV) :: rowP 4 1 a2 ds.length c2 ((ce.set o true).map boolV) :: rowP 3 1 a3 ds.length c3 (vo.map natV) :: pt b11 (.cells [.int .i64 fx].toArray 3) :: At treeI p s :: At worldI k ⟨l, []⟩ :: F) (0) (by omega) (.cons rfl (.cons rfl (.cons rfl (.cons rfl (.cons rfl (.cons rfl (.cons rfl (.cons rfl (.cons rfl (.cons rfl (.cons rfl (.cons rfl (.nil))))))))))))) (.fin) ?_
                          intro j hi ih3
                          refine SC_seq ?_
                          refine SC_region ?_
                          refine SR_pu (RD_lss rfl rfl) rfl ?_
                          refine SR_nil ?_
                          refine SN.le (l := [(0, _), (4, _), (5, _), (8, _), (9, _), (10, _), (11, _), (12, _), (14, _), (15, _), (189, _), (190, _), (191, _)]) ?_ (.cons rfl (.cons rfl (.cons rfl (.cons rfl (.cons rfl (.cons rfl (.cons rfl (.cons rfl (.cons rfl (.cons rfl (.cons rfl (.cons rfl (.cons rfl (.nil))))))))))))))
                          refine SN_seq ?_
                          refine SC_seq ?_
                          refine SC_cond rfl (fun hc191 => ?_) (fun hc191 => ?_)
                          · have hjn : j < ds.length := by simp at hc191; omega
                            obtain ⟨dj, hdj⟩ : ∃ d, ds[j]? = some d := ⟨_, List.getElem?_eq_getElem hjn⟩
                            obtain ⟨ej, hej⟩ : ∃ e, (ce.set o true)[j]? = some e := ⟨_, List.getElem?_eq_getElem (by simp; omega)⟩
                            refine SC_skip ?_
                            refine SN_seq ?_
                            refine SC_seq ?_
                            refine SC_block ?_
                            refine SC_seq ?_
                            refine SC_region ?_
                            refine SR_pu (RD_move rfl) rfl ?_
                            refine SR_pu (RD_assign rfl) rfl ?_
                            refine SR_nil ?_
                            refine SN.le (l := [(0, _), (4, _), (5, _), (8, _), (9, _), (10, _), (11, _), (12, _), (14, _), (15, _), (22, _), (189, _), (190, _)]) ?_ (.cons rfl (.cons rfl (.cons rfl (.cons rfl (.cons rfl (.cons rfl (.cons rfl (.cons rfl (.cons rfl (.cons rfl (.cons rfl (.cons rfl (.cons rfl (.nil))))))))))))))
                            refine SN_seq ?_
                            refine SC_seq ?_
                            refine SC_drawn (.cons 0 true (.cons 1 true (.cons 2 true (.cons 3 true (.cons 4 true (.cons 5 true (.cons 6 true (.cons 7 true (.cons 8 true (.cons 9 true (.cons 10 true (.cons 11 true (.cons 12 true (.cons 13 true (.cons 14 true (.cons 16 true (.cons 17 true (.cons 18 true (.cons 19 true (.cons 20 true (.cons 15 false (.cons 21 false (.cons 22 true (.cons 23 true (.nil))))))))))))))))))))))))) (by kernel_rfl) (by kernel_rfl) ?_
                            refine SQ_pu rfl (RD_move rfl) rfl ?_
                            refine SQ_pu rfl (RD_move rfl) rfl ?_
                            refine SQ_pu rfl (RD_neq rfl rfl) rfl ?_
                            refine SQ_pu rfl (RD_move rfl) rfl ?_
                            refine SQ_guard (i := 4) rfl rfl rfl (fun hg41_3 => ?_) (fun hg41_3 => ?_)
                            · refine SQ_pyes rfl rfl rfl (hg41_3) (RD_move rfl) rfl ?_
                              refine SQ_pyes rfl rfl rfl (hg41_3) (RD_move rfl) rfl ?_
                              refine SQ_yes rfl rfl rfl (hg41_3) (RD_ixO (i := (j : Nat)) (cs := (ce.set o true).map boolV) Try.runUnderlying66 Try.sizeOf4 rfl rfl (by simp; omega) (by omega) (by omega)) Has.ro rfl ?_
                              refine SQ_yes rfl rfl rfl (hg41_3) (RD_loadO (v := boolV ej) (cs := (ce.set o true).map boolV) Try.isAgg4 rfl ((fun q hq => by rw [hq, List.getElem?_map, hej]; rfl : ∀ q : Nat, q = j → ((ce.set o true).map boolV)[q]? = some (boolV ej)) _ (by simp))) Has.ro rfl ?_
                              refine SQ_pu rfl (RD_pick_t rfl (hg41_3) rfl) rfl ?_
                              refine SQ_pu rfl (RD_move rfl) rfl ?_
                              refine SQ_guard (i := 10) rfl rfl rfl (fun hg41_9 => ?_) (fun hg41_9 => ?_)
                              · refine SQ_pyes rfl rfl rfl (hg41_9) (RD_move rfl) rfl ?_
                                refine SQ_pyes rfl rfl rfl (hg41_9) (RD_move rfl) rfl ?_
                                refine SQ_pyes rfl rfl rfl (hg41_9) (RD_move rfl) rfl ?_
                                refine SQ_yes rfl rfl rfl (hg41_9) (RD_ixO (i := (j : Nat)) (cs := ds.map intV) Try.runUnderlying24 Try.sizeOf3 rfl rfl (by simp) (by omega) (by omega)) Has.ro rfl ?_
                                refine SQ_yes rfl rfl rfl (hg41_9) (RD_loadO (v := intV dj) (cs := ds.map intV) Try.isAgg3 rfl (by simp [hdj])) Has.ro rfl ?_
                                refine SQ_pyes rfl rfl rfl (hg41_9) (RD_move rfl) rfl ?_
                                refine SQ_pyes rfl rfl rfl (hg41_9) (RD_move rfl) rfl ?_
                                refine SQ_pyes rfl rfl rfl (hg41_9) (RD_move rfl) rfl ?_
                                refine SQ_yes rfl rfl rfl (hg41_9) (RD_ixO (i := (o : Nat)) (cs := ds.map intV) Try.runUnderlying24 Try.sizeOf3 rfl rfl (by simp) (by omega) (by omega)) Has.ro rfl ?_
                                refine SQ_yes rfl rfl rfl (hg41_9) (RD_loadO (v := intV d) (cs := ds.map intV) Try.isAgg3 rfl (by simp [hd])) Has.ro rfl ?_
                                refine SQ_one (SA_call rfl (.mk rfl rfl (hg41_9)) Try.call31 (.cons rfl (.cons rfl (.nil))) (CallsK.at (tree_View p s (dj))) (lts rfl) ?_)
                                rintro _ L18 ⟨rfl, hL18⟩
                                refine ⟨.lands hL18 (.h Has.ro (.h Has.ro (.w rfl (.h Has.ro (.h Has.ro (.h Has.ro (.nil))))))), ?_⟩
                                refine SQ.lands hL18 ?_
                                refine SQ_one (SA_call rfl (.mk rfl rfl (hg41_9)) Try.call31 (.cons rfl (.cons rfl (.nil))) (CallsK.at (tree_View p s (d))) (lts rfl) ?_)
                                rintro _ L19 ⟨rfl, hL19⟩
                                refine ⟨.lands hL19 (.w rfl (.h Has.ro (.h Has.ro (.h Has.ro (.h Has.ro (.h Has.ro (.nil))))))), ?_⟩
                                refine SQ.lands hL19 ?_
                                refine SQ_pyes rfl rfl rfl (hg41_9) (RD_eql rfl rfl) rfl ?_
                                refine SQ_pu rfl (RD_pick_t rfl (hg41_9) rfl) rfl ?_
                                refine SQ_nil ?_
                                refine SN.le (l := [(0, _), (4, _), (5, _), (8, _), (9, _), (10, _), (11, _), (12, _), (14, _), (15, _), (189, _), (190, _), (216, _)]) ?_ (.cons rfl (.cons rfl (.cons rfl (.cons rfl (.cons rfl (.cons rfl (.cons rfl (.cons rfl (.cons rfl (.cons rfl (.cons rfl (.cons rfl (.cons rfl (.nil))))))))))))))
                                refine SN_seq ?_
                                refine SC_cond_false rfl (decide_eq_false (fun h => halone j dj (by have h9 := hg41_3; simp at h9; omega) hdj (by rw [hej, show ej = true from hg41_9]) h)) ?_
                                refine SC_skip ?_
                                refine SN_block ?_
                                refine SN_seq ?_
                                refine SC_region ?_
                                refine SR_pu (RD_addi rfl rfl (by omega) (by omega)) rfl ?_
                                refine SR_pu (RD_move rfl) rfl ?_
                                refine SR_nil ?_
                                refine SN.le (l := [(0, _), (4, _), (5, _), (8, _), (9, _), (10, _), (11, _), (12, _), (14, _), (15, _), (189, _), (190, _)]) ?_ (.cons rfl (.cons rfl (.cons rfl (.cons rfl (.cons rfl (.cons rfl (.cons rfl (.cons rfl (.cons rfl (.cons rfl (.cons rfl (.cons rfl (.nil)))))))))))))
                                refine SC_again (ih3 (j + 1) (by omega) (by omega)) (.fin) (.cons rfl (.cons rfl (.cons rfl (.cons rfl (.cons rfl (.cons rfl (.cons rfl (.cons rfl (.cons rfl (.cons rfl (.cons rfl (.cons' rfl (ie (by omega)) (.nil)))))))))))))
                              · refine SQ_no rfl rfl rfl (hg41_9) (lts rfl) ?_
                                refine SQ_no rfl rfl rfl (hg41_9) (lts rfl) ?_
                                refine SQ_no rfl rfl rfl (hg41_9) (lts rfl) ?_
                                refine SQ_no rfl rfl rfl (hg41_9) (lts rfl) ?_
                                refine SQ_no rfl rfl rfl (hg41_9) (lts rfl) ?_
                                refine SQ_no rfl rfl rfl (hg41_9) (lts rfl) ?_
                                refine SQ_no rfl rfl rfl (hg41_9) (lts rfl) ?_
                                refine SQ_no rfl rfl rfl (hg41_9) (lts rfl) ?_
                                refine SQ_no rfl rfl rfl (hg41_9) (lts rfl) ?_
                                refine SQ_no rfl rfl rfl (hg41_9) (lts rfl) ?_
                                refine SQ_no1 rfl rfl rfl (hg41_9) (lts rfl) ?_
                                refine SQ_no1 rfl rfl rfl (hg41_9) (lts rfl) ?_
                                refine SQ_no rfl rfl rfl (hg41_9) (lts rfl) ?_
                                refine SQ_pu rfl (RD_pick_f rfl (hg41_9) rfl) rfl ?_
                                refine SQ_nil ?_
                                refine SN.le (l := [(0, _), (4, _), (5, _), (8, _), (9, _), (10, _), (11, _), (12, _), (14, _), (15, _), (189, _), (190, _), (216, _)]) ?_ (.cons rfl (.cons rfl (.cons rfl (.cons rfl (.cons rfl (.cons rfl (.cons rfl (.cons rfl (.cons rfl (.cons rfl (.cons rfl (.cons rfl (.cons rfl (.nil))))))))))))))
                                refine SN_seq ?_
                                refine SC_cond_false rfl (rfl) ?_
                                refine SC_skip ?_
                                refine SN_block ?_
                                refine SN_seq ?_
                                refine SC_region ?_
                                refine SR_pu (RD_addi rfl rfl (by omega) (by omega)) rfl ?_
                                refine SR_pu (RD_move rfl) rfl ?_
                                refine SR_nil ?_
                                refine SN.le (l := [(0, _), (4, _), (5, _), (8, _), (9, _), (10, _), (11, _), (12, _), (14, _), (15, _), (189, _), (190, _)]) ?_ (.cons rfl (.cons rfl (.cons rfl (.cons rfl (.cons rfl (.cons rfl (.cons rfl (.cons rfl (.cons rfl (.cons rfl (.cons rfl (.cons rfl (.nil)))))))))))))
                                refine SC_again (ih3 (j + 1) (by omega) (by omega)) (.fin) (.cons rfl (.cons rfl (.cons rfl (.cons rfl (.cons rfl (.cons rfl (.cons rfl (.cons rfl (.cons rfl (.cons rfl (.cons rfl (.cons' rfl (ie (by omega)) (.nil)))))))))))))
                            · refine SQ_no rfl rfl rfl (hg41_3) (lts rfl) ?_
                              refine SQ_no rfl rfl rfl (hg41_3) (lts rfl) ?_
                              refine SQ_no rfl rfl rfl (hg41_3) (lts rfl) ?_
                              refine SQ_no rfl rfl rfl (hg41_3) (lts rfl) ?_
                              refine SQ_pu rfl (RD_pick_f rfl (hg41_3) rfl) rfl ?_
                              refine SQ_pu rfl (RD_move rfl) rfl ?_
                              refine SQ_no rfl rfl rfl (rfl) (lts rfl) ?_
                              refine SQ_no rfl rfl rfl (rfl) (lts rfl) ?_
                              refine SQ_no rfl rfl rfl (rfl) (lts rfl) ?_
                              refine SQ_no rfl rfl rfl (rfl) (lts rfl) ?_
                              refine SQ_no rfl rfl rfl (rfl) (lts rfl) ?_
                              refine SQ_no rfl rfl rfl (rfl) (lts rfl) ?_
                              refine SQ_no rfl rfl rfl (rfl) (lts rfl) ?_
                              refine SQ_no rfl rfl rfl (rfl) (lts rfl) ?_
                              refine SQ_no rfl rfl rfl (rfl) (lts rfl) ?_
                              refine SQ_no rfl rfl rfl (rfl) (lts rfl) ?_
                              refine SQ_no1 rfl rfl rfl (rfl) (lts rfl) ?_
                              refine SQ_no1 rfl rfl rfl (rfl) (lts rfl) ?_
                              refine SQ_no rfl rfl rfl (rfl) (lts rfl) ?_
                              refine SQ_pu rfl (RD_pick_f rfl (rfl) rfl) rfl ?_
                              refine SQ_nil ?_
                              refine SN.le (l := [(0, _), (4, _), (5, _), (8, _), (9, _), (10, _), (11, _), (12, _), (14, _), (15, _), (189, _), (190, _), (216, _)]) ?_ (.cons rfl (.cons rfl (.cons rfl (.cons rfl (.cons rfl (.cons rfl (.cons rfl (.cons rfl (.cons rfl (.cons rfl (.cons rfl (.cons rfl (.cons rfl (.nil))))))))))))))
                              refine SN_seq ?_
                              refine SC_cond_false rfl (rfl) ?_
                              refine SC_skip ?_
                              refine SN_block ?_
                              refine SN_seq ?_
                              refine SC_region ?_
                              refine SR_pu (RD_addi rfl rfl (by omega) (by omega)) rfl ?_
                              refine SR_pu (RD_move rfl) rfl ?_
                              refine SR_nil ?_
                              refine SN.le (l := [(0, _), (4, _), (5, _), (8, _), (9, _), (10, _), (11, _), (12, _), (14, _), (15, _), (189, _), (190, _)]) ?_ (.cons rfl (.cons rfl (.cons rfl (.cons rfl (.cons rfl (.cons rfl (.cons rfl (.cons rfl (.cons rfl (.cons rfl (.cons rfl (.cons rfl (.nil)))))))))))))
                              refine SC_again (ih3 (j + 1) (by omega) (by omega)) (.fin) (.cons rfl (.cons rfl (.cons rfl (.cons rfl (.cons rfl (.cons rfl (.cons rfl (.cons rfl (.cons rfl (.cons rfl (.cons rfl (.cons' rfl (ie (by omega)) (.nil)))))))))))))
                          · clear ih3
                            refine SC_exit rfl ?_
                            exact J0 (⟨ce.set o true, hcer⟩) _ _ (.cons rfl (.cons rfl (.cons rfl (.cons rfl (.cons rfl (.cons rfl (.cons rfl (.cons rfl (.cons rfl (.cons rfl (.nil))))))))))) (.fin)
                        · refine SQ_no rfl rfl rfl (hg36_2) (lts rfl) ?_
                          refine SQ_no rfl rfl rfl (hg36_2) (lts rfl) ?_
                          refine SQ_no rfl rfl rfl (hg36_2) (lts rfl) ?_
                          refine SQ_no rfl rfl rfl (hg36_2) (lts rfl) ?_
                          refine SQ_no rfl rfl rfl (hg36_2) (lts rfl) ?_
                          refine SQ_no rfl rfl rfl (hg36_2) (lts rfl) ?_
                          refine SQ_no rfl rfl rfl (hg36_2) (lts rfl) ?_
                          refine SQ_no1 rfl rfl rfl (hg36_2) (lts rfl) ?_
                          refine SQ_no1 rfl rfl rfl (hg36_2) (lts rfl) ?_
                          refine SQ_no rfl rfl rfl (hg36_2) (lts rfl) ?_
                          refine SQ_pu rfl (RD_pick_f rfl (hg36_2) rfl) rfl ?_
                          refine SQ_nil ?_
                          refine SN.le (l := [(0, _), (4, _), (5, _), (8, _), (9, _), (10, _), (11, _), (12, _), (14, _), (15, _), (187, _)]) ?_ (.cons rfl (.cons rfl (.cons rfl (.cons rfl (.cons rfl (.cons rfl (.cons rfl (.cons rfl (.cons rfl (.cons rfl (.cons rfl (.nil))))))))))))
                          refine SN_seq ?_
                          refine SC_cond_false rfl (rfl) ?_
                          refine SC_skip ?_
                          refine SN_seq ?_
                          refine SC_seq ?_
                          refine SC_region ?_
                          refine SR_pu (RD_move rfl) rfl ?_
                          refine SR_pu (RD_len Try.runUnderlying24 rfl) rfl ?_
                          refine SR_pu (RD_move rfl) rfl ?_
                          refine SR_nil ?_
                          refine SN.le (l := [(0, _), (4, _), (5, _), (8, _), (9, _), (10, _), (11, _), (12, _), (14, _), (15, _), (189, _), (190, _)]) ?_ (.cons rfl (.cons rfl (.cons rfl (.cons rfl (.cons rfl (.cons rfl (.cons rfl (.cons rfl (.cons rfl (.cons rfl (.cons rfl (.cons rfl (.nil)))))))))))))
                          refine SN_seq ?_
                          refine SC_block ?_
                          refine SC_ind (X := Nat) (fun j => j ≤ ds.length) (fun j => ds.length - j) (fun j => [(0, .slice a0 n0 c0), (4, .pointer (some ⟨p, 0, none⟩)), (5, .slice sa 3 sc), (8, .slice a ds.length c), (9, .slice a2 ds.length c2), (10, .slice a3 ds.length c3), (11, .pointer (some ⟨b11, 0, none⟩)), (12, .int .i64 (i : Nat)), (14, .int .i64 (o : Nat)), (15, .int .i64 (w : Nat)), (189, .int .i64 (ds.length : Nat)), (190, .int .i64 (j : Nat))]) (fun j => At safeI y x :: At safesI 1 (L.eraseIdx w) :: rowP 64 1 sa 3 sc ([y0, y1, y2].map ptrV) :: rowP 3 1 a ds.length c (ds.map intV) :: rowP 4 1 a2 ds.length c2 ((ce.set o true).map boolV) :: rowP 3 1 a3 ds.length c3 (vo.map natV) :: pt b11 (.cells [.int .i64 fx].toArray 3) :: At treeI p s :: At worldI k ⟨l, []⟩ :: F) (0) (by omega) (.cons rfl (.cons rfl (.cons rfl (.cons rfl (.cons rfl (.cons rfl (.cons rfl (.cons rfl (.cons rfl (.cons rfl (.cons rfl (.cons rfl (.nil))))))))))))) (.fin) ?_
                          intro j hi ih3
                          refine SC_seq ?_
                          refine SC_region ?_
                          refine SR_pu (RD_lss rfl rfl) rfl ?_
                          refine SR_nil ?_
                          refine SN.le (l := [(0, _), (4, _), (5, _), (8, _), (9, _), (10, _), (11, _), (12, _), (14, _), (15, _), (189, _), (190, _), (191, _)]) ?_ (.cons rfl (.cons rfl (.cons rfl (.cons rfl (.cons rfl (.cons rfl (.cons rfl (.cons rfl (.cons rfl (.cons rfl (.cons rfl (.cons rfl (.cons rfl (.nil))))))))))))))
                          refine SN_seq ?_
                          refine SC_seq ?_
                          refine SC_cond rfl (fun hc191 => ?_) (fun hc191 => ?_)
                          · have hjn : j < ds.length := by simp at hc191; omega
                            obtain ⟨dj, hdj⟩ : ∃ d, ds[j]? = some d := ⟨_, List.getElem?_eq_getElem hjn⟩
                            obtain ⟨ej, hej⟩ : ∃ e, (ce.set o true)[j]? = some e := ⟨_, List.getElem?_eq_getElem (by simp; omega)⟩
                            refine SC_skip ?_
                            refine SN_seq ?_
                            refine SC_seq ?_
                            refine SC_block ?_
                            refine SC_seq ?_
                            refine SC_region ?_
                            refine SR_pu (RD_move rfl) rfl ?_
                            refine SR_pu (RD_assign rfl) rfl ?_
                            refine SR_nil ?_
                            refine SN.le (l := [(0, _), (4, _), (5, _), (8, _), (9, _), (10, _), (11, _), (12, _), (14, _), (15, _), (22, _), (189, _), (190, _)]) ?_ (.cons rfl (.cons rfl (.cons rfl (.cons rfl (.cons rfl (.cons rfl (.cons rfl (.cons rfl (.cons rfl (.cons rfl (.cons rfl (.cons rfl (.cons rfl (.nil))))))))))))))
                            refine SN_seq ?_
                            refine SC_seq ?_
                            refine SC_drawn (.cons 0 true (.cons 1 true (.cons 2 true (.cons 3 true (.cons 4 true (.cons 5 true (.cons 6 true (.cons 7 true (.cons 8 true (.cons 9 true (.cons 10 true (.cons 11 true (.cons 12 true (.cons 13 true (.cons 14 true (.cons 16 true (.cons 17 true (.cons 18 true (.cons 19 true (.cons 20 true (.cons 15 false (.cons 21 false (.cons 22 true (.cons 23 true (.nil))))))))))))))))))))))))) (by kernel_rfl) (by kernel_rfl) ?_
                            refine SQ_pu rfl (RD_move rfl) rfl ?_
                            refine SQ_pu rfl (RD_move rfl) rfl ?_
                            refine SQ_pu rfl (RD_neq rfl rfl) rfl ?_
                            refine SQ_pu rfl (RD_move rfl) rfl ?_
                            refine SQ_guard (i := 4) rfl rfl rfl (fun hg41_3 => ?_) (fun hg41_3 => ?_)
                            · refine SQ_pyes rfl rfl rfl (hg41_3) (RD_move rfl) rfl ?_
                              refine SQ_pyes rfl rfl rfl (hg41_3) (RD_move rfl) rfl ?_
                              refine SQ_yes rfl rfl rfl (hg41_3) (RD_ixO (i := (j : Nat)) (cs := (ce.set o true).map boolV) Try.runUnderlying66 Try.sizeOf4 rfl rfl (by simp; omega) (by omega) (by omega)) Has.ro rfl ?_
                              refine SQ_yes rfl rfl rfl (hg41_3) (RD_loadO (v := boolV ej) (cs := (ce.set o true).map boolV) Try.isAgg4 rfl ((fun q hq => by rw [hq, List.getElem?_map, hej]; rfl : ∀ q : Nat, q = j → ((ce.set o true).map boolV)[q]? = some (boolV ej)) _ (by simp))) Has.ro rfl ?_
                              refine SQ_pu rfl (RD_pick_t rfl (hg41_3) rfl) rfl ?_
                              refine SQ_pu rfl (RD_move rfl) rfl ?_
                              refine SQ_guard (i := 10) rfl rfl rfl (fun hg41_9 => ?_) (fun hg41_9 => ?_)
                              · refine SQ_pyes rfl rfl rfl (hg41_9) (RD_move rfl) rfl ?_
                                refine SQ_pyes rfl rfl rfl (hg41_9) (RD_move rfl) rfl ?_
                                refine SQ_pyes rfl rfl rfl (hg41_9) (RD_move rfl) rfl ?_
                                refine SQ_yes rfl rfl rfl (hg41_9) (RD_ixO (i := (j : Nat)) (cs := ds.map intV) Try.runUnderlying24 Try.sizeOf3 rfl rfl (by simp) (by omega) (by omega)) Has.ro rfl ?_
                                refine SQ_yes rfl rfl rfl (hg41_9) (RD_loadO (v := intV dj) (cs := ds.map intV) Try.isAgg3 rfl (by simp [hdj])) Has.ro rfl ?_
                                refine SQ_pyes rfl rfl rfl (hg41_9) (RD_move rfl) rfl ?_
                                refine SQ_pyes rfl rfl rfl (hg41_9) (RD_move rfl) rfl ?_
                                refine SQ_pyes rfl rfl rfl (hg41_9) (RD_move rfl) rfl ?_
                                refine SQ_yes rfl rfl rfl (hg41_9) (RD_ixO (i := (o : Nat)) (cs := ds.map intV) Try.runUnderlying24 Try.sizeOf3 rfl rfl (by simp) (by omega) (by omega)) Has.ro rfl ?_
                                refine SQ_yes rfl rfl rfl (hg41_9) (RD_loadO (v := intV d) (cs := ds.map intV) Try.isAgg3 rfl (by simp [hd])) Has.ro rfl ?_
                                refine SQ_one (SA_call rfl (.mk rfl rfl (hg41_9)) Try.call31 (.cons rfl (.cons rfl (.nil))) (CallsK.at (tree_View p s (dj))) (lts rfl) ?_)
                                rintro _ L18 ⟨rfl, hL18⟩
                                refine ⟨.lands hL18 (.h Has.ro (.h Has.ro (.w rfl (.h Has.ro (.h Has.ro (.h Has.ro (.nil))))))), ?_⟩
                                refine SQ.lands hL18 ?_
                                refine SQ_one (SA_call rfl (.mk rfl rfl (hg41_9)) Try.call31 (.cons rfl (.cons rfl (.nil))) (CallsK.at (tree_View p s (d))) (lts rfl) ?_)
                                rintro _ L19 ⟨rfl, hL19⟩
                                refine ⟨.lands hL19 (.w rfl (.h Has.ro (.h Has.ro (.h Has.ro (.h Has.ro (.h Has.ro (.nil))))))), ?_⟩
                                refine SQ.lands hL19 ?_
                                refine SQ_pyes rfl rfl rfl (hg41_9) (RD_eql rfl rfl) rfl ?_
                                refine SQ_pu rfl (RD_pick_t rfl (hg41_9) rfl) rfl ?_
                                refine SQ_nil ?_
                                refine SN.le (l := [(0, _), (4, _), (5, _), (8, _), (9, _), (10, _), (11, _), (12, _), (14, _), (15, _), (189, _), (190, _), (216, _)]) ?_ (.cons rfl (.cons rfl (.cons rfl (.cons rfl (.cons rfl (.cons rfl (.cons rfl (.cons rfl (.cons rfl (.cons rfl (.cons rfl (.cons rfl (.cons rfl (.nil))))))))))))))
                                refine SN_seq ?_
                                refine SC_cond_false rfl (decide_eq_false (fun h => halone j dj (by have h9 := hg41_3; simp at h9; omega) hdj (by rw [hej, show ej = true from hg41_9]) h)) ?_
                                refine SC_skip ?_
                                refine SN_block ?_
                                refine SN_seq ?_
                                refine SC_region ?_
                                refine SR_pu (RD_addi rfl rfl (by omega) (by omega)) rfl ?_
                                refine SR_pu (RD_move rfl) rfl ?_
                                refine SR_nil ?_
                                refine SN.le (l := [(0, _), (4, _), (5, _), (8, _), (9, _), (10, _), (11, _), (12, _), (14, _), (15, _), (189, _), (190, _)]) ?_ (.cons rfl (.cons rfl (.cons rfl (.cons rfl (.cons rfl (.cons rfl (.cons rfl (.cons rfl (.cons rfl (.cons rfl (.cons rfl (.cons rfl (.nil)))))))))))))
                                refine SC_again (ih3 (j + 1) (by omega) (by omega)) (.fin) (.cons rfl (.cons rfl (.cons rfl (.cons rfl (.cons rfl (.cons rfl (.cons rfl (.cons rfl (.cons rfl (.cons rfl (.cons rfl (.cons' rfl (ie (by omega)) (.nil)))))))))))))
                              · refine SQ_no rfl rfl rfl (hg41_9) (lts rfl) ?_
                                refine SQ_no rfl rfl rfl (hg41_9) (lts rfl) ?_
                                refine SQ_no rfl rfl rfl (hg41_9) (lts rfl) ?_
                                refine SQ_no rfl rfl rfl (hg41_9) (lts rfl) ?_
                                refine SQ_no rfl rfl rfl (hg41_9) (lts rfl) ?_
                                refine SQ_no rfl rfl rfl (hg41_9) (lts rfl) ?_
                                refine SQ_no rfl rfl rfl (hg41_9) (lts rfl) ?_
                                refine SQ_no rfl rfl rfl (hg41_9) (lts rfl) ?_
                                refine SQ_no rfl rfl rfl (hg41_9) (lts rfl) ?_
                                refine SQ_no rfl rfl rfl (hg41_9) (lts rfl) ?_
                                refine SQ_no1 rfl rfl rfl (hg41_9) (lts rfl) ?_
                                refine SQ_no1 rfl rfl rfl (hg41_9) (lts rfl) ?_
                                refine SQ_no rfl rfl rfl (hg41_9) (lts rfl) ?_
                                refine SQ_pu rfl (RD_pick_f rfl (hg41_9) rfl) rfl ?_
                                refine SQ_nil ?_
                                refine SN.le (l := [(0, _), (4, _), (5, _), (8, _), (9, _), (10, _), (11, _), (12, _), (14, _), (15, _), (189, _), (190, _), (216, _)]) ?_ (.cons rfl (.cons rfl (.cons rfl (.cons rfl (.cons rfl (.cons rfl (.cons rfl (.cons rfl (.cons rfl (.cons rfl (.cons rfl (.cons rfl (.cons rfl (.nil))))))))))))))
                                refine SN_seq ?_
                                refine SC_cond_false rfl (rfl) ?_
                                refine SC_skip ?_
                                refine SN_block ?_
                                refine SN_seq ?_
                                refine SC_region ?_
                                refine SR_pu (RD_addi rfl rfl (by omega) (by omega)) rfl ?_
                                refine SR_pu (RD_move rfl) rfl ?_
                                refine SR_nil ?_
                                refine SN.le (l := [(0, _), (4, _), (5, _), (8, _), (9, _), (10, _), (11, _), (12, _), (14, _), (15, _), (189, _), (190, _)]) ?_ (.cons rfl (.cons rfl (.cons rfl (.cons rfl (.cons rfl (.cons rfl (.cons rfl (.cons rfl (.cons rfl (.cons rfl (.cons rfl (.cons rfl (.nil)))))))))))))
                                refine SC_again (ih3 (j + 1) (by omega) (by omega)) (.fin) (.cons rfl (.cons rfl (.cons rfl (.cons rfl (.cons rfl (.cons rfl (.cons rfl (.cons rfl (.cons rfl (.cons rfl (.cons rfl (.cons' rfl (ie (by omega)) (.nil)))))))))))))
                            · refine SQ_no rfl rfl rfl (hg41_3) (lts rfl) ?_
                              refine SQ_no rfl rfl rfl (hg41_3) (lts rfl) ?_
                              refine SQ_no rfl rfl rfl (hg41_3) (lts rfl) ?_
                              refine SQ_no rfl rfl rfl (hg41_3) (lts rfl) ?_
                              refine SQ_pu rfl (RD_pick_f rfl (hg41_3) rfl) rfl ?_
                              refine SQ_pu rfl (RD_move rfl) rfl ?_
                              refine SQ_no rfl rfl rfl (rfl) (lts rfl) ?_
                              refine SQ_no rfl rfl rfl (rfl) (lts rfl) ?_
                              refine SQ_no rfl rfl rfl (rfl) (lts rfl) ?_
                              refine SQ_no rfl rfl rfl (rfl) (lts rfl) ?_
                              refine SQ_no rfl rfl rfl (rfl) (lts rfl) ?_
                              refine SQ_no rfl rfl rfl (rfl) (lts rfl) ?_
                              refine SQ_no rfl rfl rfl (rfl) (lts rfl) ?_
                              refine SQ_no rfl rfl rfl (rfl) (lts rfl) ?_
                              refine SQ_no rfl rfl rfl (rfl) (lts rfl) ?_
                              refine SQ_no rfl rfl rfl (rfl) (lts rfl) ?_
                              refine SQ_no1 rfl rfl rfl (rfl) (lts rfl) ?_
                              refine SQ_no1 rfl rfl rfl (rfl) (lts rfl) ?_
                              refine SQ_no rfl rfl rfl (rfl) (lts rfl) ?_
                              refine SQ_pu rfl (RD_pick_f rfl (rfl) rfl) rfl ?_
                              refine SQ_nil ?_
                              refine SN.le (l := [(0, _), (4, _), (5, _), (8, _), (9, _), (10, _), (11, _), (12, _), (14, _), (15, _), (189, _), (190, _), (216, _)]) ?_ (.cons rfl (.cons rfl (.cons rfl (.cons rfl (.cons rfl (.cons rfl (.cons rfl (.cons rfl (.cons rfl (.cons rfl (.cons rfl (.cons rfl (.cons rfl (.nil))))))))))))))
                              refine SN_seq ?_
                              refine SC_cond_false rfl (rfl) ?_
                              refine SC_skip ?_
                              refine SN_block ?_
                              refine SN_seq ?_
                              refine SC_region ?_
                              refine SR_pu (RD_addi rfl rfl (by omega) (by omega)) rfl ?_
                              refine SR_pu (RD_move rfl) rfl ?_
                              refine SR_nil ?_
                              refine SN.le (l := [(0, _), (4, _), (5, _), (8, _), (9, _), (10, _), (11, _), (12, _), (14, _), (15, _), (189, _), (190, _)]) ?_ (.cons rfl (.cons rfl (.cons rfl (.cons rfl (.cons rfl (.cons rfl (.cons rfl (.cons rfl (.cons rfl (.cons rfl (.cons rfl (.cons rfl (.nil)))))))))))))
                              refine SC_again (ih3 (j + 1) (by omega) (by omega)) (.fin) (.cons rfl (.cons rfl (.cons rfl (.cons rfl (.cons rfl (.cons rfl (.cons rfl (.cons rfl (.cons rfl (.cons rfl (.cons rfl (.cons' rfl (ie (by omega)) (.nil)))))))))))))
                          · clear ih3
                            refine SC_exit rfl ?_
                            exact J0 (⟨ce.set o true, hcer⟩) _ _ (.cons rfl (.cons rfl (.cons rfl (.cons rfl (.cons rfl (.cons rfl (.cons rfl (.cons rfl (.cons rfl (.cons rfl (.nil))))))))))) (.fin)
                    · refine SR_no rfl rfl (hg33_5) (lts rfl) ?_
                      refine SR_no rfl rfl (hg33_5) (lts rfl) ?_
                      refine SR_no rfl rfl (hg33_5) (lts rfl) ?_
                      refine SR_no rfl rfl (hg33_5) (lts rfl) ?_
                      refine SR_no rfl rfl (hg33_5) (lts rfl) ?_
                      refine SR_no rfl rfl (hg33_5) (lts rfl) ?_
                      refine SR_nou  rfl rfl (lts rfl) ?_
                      refine SR_nou  rfl rfl (lts rfl) ?_
                      refine SR_nou  rfl rfl (lts rfl) ?_
                      refine SR_nou  rfl rfl (lts rfl) ?_
                      refine SR_nou  rfl rfl (lts rfl) ?_
                      refine SR_no rfl rfl (hg33_5) (lts rfl) ?_
                      refine SR_no rfl rfl (hg33_5) (lts rfl) ?_
                      refine SR_nou  rfl rfl (lts rfl) ?_
                      refine SR_nou  rfl rfl (lts rfl) ?_
                      refine SR_nou  rfl rfl (lts rfl) ?_
                      refine SR_nou  rfl rfl (lts rfl) ?_
                      refine SR_nou  rfl rfl (lts rfl) ?_
                      refine SR_no rfl rfl (hg33_5) (lts rfl) ?_
                      refine SR_no rfl rfl (hg33_5) (lts rfl) ?_
                      refine SR_nou  rfl rfl (lts rfl) ?_
                      refine SR_nou  rfl rfl (lts rfl) ?_
                      refine SR_nou  rfl rfl (lts rfl) ?_
                      refine SR_nou  rfl rfl (lts rfl) ?_
                      refine SR_nou  rfl rfl (lts rfl) ?_
                      refine SR_no rfl rfl (hg33_5) (lts rfl) ?_
                      refine SR_pu (RD_pick_f rfl (hg33_5) rfl) rfl ?_
                      refine SR_nil ?_
                      refine SN.le (l := [(0, _), (4, _), (5, _), (8, _), (9, _), (10, _), (11, _), (12, _), (14, _), (15, _), (160, _)]) ?_ (.cons rfl (.cons rfl (.cons rfl (.cons rfl (.cons rfl (.cons rfl (.cons rfl (.cons rfl (.cons rfl (.cons rfl (.cons rfl (.nil))))))))))))
                      refine SN_seq ?_
                      refine SC_cond_false rfl (rfl) ?_
                      refine SC_skip ?_
                      exact J0 (⟨ce, hFJ⟩) _ _ (.cons rfl (.cons rfl (.cons rfl (.cons rfl (.cons rfl (.cons rfl (.cons rfl (.cons rfl (.cons rfl (.cons rfl (.nil))))))))))) (.fin)
                · have hvt := hFJ.vote hGI hL2 hd hm hlk
                  rw [List.set_set] at hvt
                  refine SC_drawn (.cons 0 true (.cons 1 true (.cons 2 true (.cons 3 true (.cons 4 true (.cons 5 true (.cons 6 true (.cons 7 true (.cons 8 false (.nil)))))))))) (by kernel_rfl) (by kernel_rfl) ?_
                  refine SQ_pu rfl (RD_move rfl) rfl ?_
                  refine SQ_pu rfl (RD_move rfl) rfl ?_
                  refine SQ_rd rfl (RD_ixO (i := (w : Nat)) (cs := [y0, y1, y2].map ptrV) Try.runUnderlying63 Try.sizeOf64 rfl rfl (by simp) (by omega) (by omega)) Has.ro rfl ?_
                  refine SQ_rd rfl (RD_loadO (v := ptrV y) (cs := [y0, y1, y2].map ptrV) Try.isAgg64 rfl (by rw [Nat.add_zero, Int.toNat_natCast, Nat.mul_one, List.getElem?_map, hy]; rfl)) Has.ro rfl ?_
                  refine SQ_pu rfl (RD_move rfl) rfl ?_
                  refine SQ_pu rfl (RD_move rfl) rfl ?_
                  refine SQ_rd rfl (RD_ixO (i := (o : Nat)) (cs := ds.map intV) Try.runUnderlying24 Try.sizeOf3 rfl rfl (by simp) (by omega) (by omega)) Has.ro rfl ?_
                  refine SQ_rd rfl (RD_loadO (v := intV d) (cs := ds.map intV) Try.isAgg3 rfl (by simp [hd])) Has.ro rfl ?_
                  refine SQ_call rfl Try.call36 (.cons rfl (.cons rfl (.nil))) (CallsK.at2 (safe_Vote' y p x hxt s hGI.ok (hGI.in_ _ hxC.mem) d b hb (by have h1 := hvw d; rw [hb] at h1; have h2 : viewOf (some b) = b.view := rfl; omega))) (lts rfl) ?_
                  rintro _ L12 ⟨rfl, hL12⟩
                  refine ⟨.lands hL12 (.w rfl (.h Has.ro (.w rfl (.h Has.ro (.nil))))), ?_⟩
                  refine SQ.lands hL12 ?_
                  refine SQ_nil ?_
                  refine SN.le (l := [(0, _), (4, _), (5, _), (8, _), (9, _), (10, _), (11, _), (12, _), (14, _), (15, _), (118, _)]) ?_ (.cons rfl (.cons rfl (.cons rfl (.cons rfl (.cons rfl (.cons rfl (.cons rfl (.cons rfl (.cons rfl (.cons rfl (.cons rfl (.nil))))))))))))
                  refine SN_seq ?_
                  refine SC_cond rfl (fun hc118 => ?_) (fun hc118 => ?_)
                  · refine SC_region ?_
                    refine SR_pu (RD_move rfl) rfl ?_
                    refine SR_pu (RD_move rfl) rfl ?_
                    refine SR_rd (RD_ixO (i := (o : Nat)) (cs := vo.map natV) Try.runUnderlying24 Try.sizeOf3 rfl rfl (by simp; omega) (by omega) (by omega)) Has.ro rfl ?_
                    refine SR_rd (RD_loadO (v := natV m) (cs := vo.map natV) Try.isAgg3 rfl (by simp [hm])) Has.ro rfl ?_
                    refine SR_pu (RD_move rfl) rfl ?_
                    first
                      | refine SR_pu (RD_conv64 Try.runUnderlying3 Try.runUnderlying44 rfl (by omega) (by omega)) rfl ?_
                      | refine SR_pu (RD_convI Try.runUnderlying3 Try.runUnderlying44 rfl) rfl ?_
                    refine SR_pu (RD_shl rfl rfl (by omega)) rfl ?_
                    refine SR_pu (RD_or rfl rfl) rfl ?_
                    refine SR_rd (RD_ixO (i := (o : Nat)) (cs := vo.map natV) Try.runUnderlying24 Try.sizeOf3 rfl rfl (by simp; omega) (by omega) (by omega)) Has.ro rfl ?_
                    refine SR_ox0 (OX_stRow (v := natV (m ||| 1 <<< w)) Try.sizeOf3 rfl (congrArg (fun z => some (Value.int .i64 z)) (bor8 m hm8 w hw3)) (by simp; omega)) ?_
                    rintro _ _ rfl
                    refine SR_nil ?_
                    refine SN.le (l := [(0, _), (4, _), (5, _), (8, _), (9, _), (10, _), (11, _), (12, _), (14, _), (15, _)]) ?_ (.cons rfl (.cons rfl (.cons rfl (.cons rfl (.cons rfl (.cons rfl (.cons rfl (.cons rfl (.cons rfl (.cons rfl (.nil)))))))))))
                    refine SN.lands (show Lands _ (At safeI y (x.vote s d).2 :: At safesI 1 (L.eraseIdx w) :: rowP 64 1 sa 3 sc ([y0, y1, y2].map ptrV) :: rowP 3 1 a ds.length c (ds.map intV) :: rowP 4 1 a2 ds.length c2 (ce.map boolV) :: rowP 3 1 a3 ds.length c3 ((vo.set o (m ||| 1 <<< w)).map natV) :: pt b11 (.cells [.int .i64 fx].toArray 3) :: At treeI p s :: At worldI k ⟨l, []⟩ :: F) from (by rw [show (vo.set o (m ||| 1 <<< w)).map natV = (vo.map natV).set (((o : Nat) : Int).toNat * (0 + 1)) (natV (m ||| 1 <<< w)) by rw [List.map_set]; simp]; exact (show Lands _ (At safeI y (x.vote s d).2 :: At safesI 1 (L.eraseIdx w) :: rowP 64 1 sa 3 sc ([y0, y1, y2].map ptrV) :: rowP 3 1 a ds.length c (ds.map intV) :: rowP 4 1 a2 ds.length c2 (ce.map boolV) :: rowP 3 1 a3 ds.length c3 ((vo.map natV).set (((o : Nat) : Int).toNat * (0 + 1)) (natV (m ||| 1 <<< w))) :: pt b11 (.cells [.int .i64 fx].toArray 3) :: At treeI p s :: At worldI k ⟨l, []⟩ :: F) from .fin))) ?_
                    exact J0 (⟨((x.vote s d).2, vo.set o (m ||| 1 <<< w)), hvt.1 hc118⟩) _ _ (.cons rfl (.cons rfl (.cons rfl (.cons rfl (.cons rfl (.cons rfl (.cons rfl (.cons rfl (.cons rfl (.cons rfl (.nil))))))))))) (.fin)
                  · refine SC_skip ?_
                    exact J0 (⟨((x.vote s d).2, vo), hvt.2 hc118⟩) _ _ (.cons rfl (.cons rfl (.cons rfl (.cons rfl (.cons rfl (.cons rfl (.cons rfl (.cons rfl (.cons rfl (.cons rfl (.nil))))))))))) (.fin)
              · refine SC_region ?_
                refine SR_pu (RD_move rfl) rfl ?_
                refine SR_pu (RD_gtr rfl rfl) rfl ?_
                refine SR_nil ?_
                refine SN.le (l := [(0, _), (4, _), (5, _), (8, _), (9, _), (10, _), (11, _), (12, _), (14, _), (15, _), (18, _), (91, _)]) ?_ (.cons rfl (.cons rfl (.cons rfl (.cons rfl (.cons rfl (.cons rfl (.cons rfl (.cons rfl (.cons rfl (.cons rfl (.cons rfl (.cons rfl (.nil)))))))))))))
                refine SN_seq ?_
                refine SC_cond rfl (fun hc91 => ?_) (fun hc91 => ?_)
                · have hp0 : 0 < parOf s d := of_decide_eq_true hc91
                  have hpC := hFJ.parC hGI hdm (by omega)
                  obtain ⟨hsee1, hsee2, hsee3⟩ := hFJ.see hGI hL hpC
                  obtain ⟨cs, xs, hse⟩ : ∃ c x2, x.see s (viewOf (mget s.T (parOf s d))) (parOf s d) = (c, x2) := ⟨_, _, rfl⟩
                  rw [hse] at hsee1 hsee2 hsee3
                  dsimp only at hsee1 hsee2 hsee3
                  refine SC_seq ?_
                  refine SC_drawn (.cons 0 true (.cons 1 true (.cons 2 true (.cons 3 true (.cons 4 true (.cons 5 true (.cons 7 true (.cons 6 false (.cons 8 true (.cons 9 false (.cons 10 true (.nil)))))))))))) (by kernel_rfl) (by kernel_rfl) ?_
                  refine SQ_pu rfl (RD_move rfl) rfl ?_
                  refine SQ_pu rfl (RD_move rfl) rfl ?_
                  refine SQ_rd rfl (RD_ixO (i := (w : Nat)) (cs := [y0, y1, y2].map ptrV) Try.runUnderlying63 Try.sizeOf64 rfl rfl (by simp) (by omega) (by omega)) Has.ro rfl ?_
                  refine SQ_rd rfl (RD_loadO (v := ptrV y) (cs := [y0, y1, y2].map ptrV) Try.isAgg64 rfl (by rw [Nat.add_zero, Int.toNat_natCast, Nat.mul_one, List.getElem?_map, hy]; rfl)) Has.ro rfl ?_
                  refine SQ_pu rfl (RD_move rfl) rfl ?_
                  refine SQ_pu rfl (RD_move rfl) rfl ?_
                  refine SQ_pu rfl (RD_move rfl) rfl ?_
                  refine SQ_call rfl Try.call31 (.cons rfl (.cons rfl (.nil))) (CallsK.at (tree_View p s (parOf s d))) (lts rfl) ?_
                  rintro _ L11 ⟨rfl, hL11⟩
                  refine ⟨.lands hL11 (.h Has.ro (.h Has.ro (.nil))), ?_⟩
                  refine SQ.lands hL11 ?_
                  refine SQ_pu rfl (RD_build (.cons rfl (.cons rfl (.nil))) built26_0_1) rfl ?_
                  refine SQ_call rfl Try.call34 (.cons rfl (.cons rfl (.nil))) (CallsK.at2 (safe_See' y p x hxt s (fun d => by have := hvw d; omega) (viewOf (mget s.T (parOf s d))) (parOf s d))) (lts rfl) ?_
                  rintro _ L14 ⟨rfl, hL14⟩
                  rw [hse] at hL14
                  refine ⟨.lands hL14 (.w rfl (.h Has.ro (.nil))), ?_⟩
                  rw [hse]
                  refine SQ.lands hL14 ?_
                  refine SQ_pu rfl (RD_assign rfl) rfl ?_
                  refine SQ_nil ?_
                  refine SN.le (l := [(0, _), (4, _), (5, _), (8, _), (9, _), (10, _), (11, _), (12, _), (14, _), (15, _), (19, _)]) ?_ (.cons rfl (.cons rfl (.cons rfl (.cons rfl (.cons rfl (.cons rfl (.cons rfl (.cons rfl (.cons rfl (.cons rfl (.cons rfl (.nil))))))))))))
                  refine SN_seq ?_
                  refine SC_seq ?_
                  refine SC_region ?_
                  refine SR_pu (RD_move rfl) rfl ?_
                  refine SR_pu (RD_gtr rfl rfl) rfl ?_
                  refine SR_pu (RD_move rfl) rfl ?_
                  refine SR_guard rfl rfl (fun hg29_2 => ?_) (fun hg29_2 => ?_)
                  · have hcf := hsee3 (by have := of_decide_eq_true hg29_2; omega)
                    obtain ⟨hre, hone⟩ := hsee1.refix hGI hcf
                    have hcin := (hsee1.in_ hGI (.inr hcf)).2.1
                    have hfin := (hsee1.in_ hGI hsee1.fix).2.1
                    refine SR_yes rfl rfl (hg29_2) ?_
                    refine SR_pu (RD_move rfl) rfl ?_
                    refine SR_yes rfl rfl (hg29_2) ?_
                    refine SR_pu (RD_move rfl) rfl ?_
                    refine SR_yes rfl rfl (hg29_2) ?_
                    refine SR_call Try.call35 (.cons rfl (.cons rfl (.cons rfl (.nil)))) (law_onWay_at p b11 s hGI.ok hvw fx cs hfin hcin) (lts rfl) ?_
                    rintro _ L15 ⟨rfl, hL15⟩
                    rw [hone]
                    refine SR.lands hL15 ?_
                    refine SR_yes rfl rfl (hg29_2) ?_
                    refine SR_pu (RD_not rfl) rfl ?_
                    refine SR_pu (RD_pick_t rfl (hg29_2) rfl) rfl ?_
                    refine SR_nil ?_
                    refine SN.le (l := [(0, _), (4, _), (5, _), (8, _), (9, _), (10, _), (11, _), (12, _), (14, _), (15, _), (109, _)]) ?_ (.cons rfl (.cons rfl (.cons rfl (.cons rfl (.cons rfl (.cons rfl (.cons rfl (.cons rfl (.cons rfl (.cons rfl (.cons rfl (.nil))))))))))))
                    refine SN_seq ?_
                    refine SC_cond_false rfl (rfl) ?_
                    refine SC_skip ?_
                    exact J0 (⟨(xs, (if onw s fx (cs) then (cs) else fx)), hre, hsee2⟩) _ _ (.cons rfl (.cons rfl (.cons rfl (.cons rfl (.cons rfl (.cons rfl (.cons rfl (.cons rfl (.cons rfl (.cons rfl (.nil))))))))))) (.fin)
                  · refine SR_no rfl rfl (hg29_2) (lts rfl) ?_
                    refine SR_no rfl rfl (hg29_2) (lts rfl) ?_
                    refine SR_no rfl rfl (hg29_2) (lts rfl) ?_
                    refine SR_no rfl rfl (hg29_2) (lts rfl) ?_
                    refine SR_pu (RD_pick_f rfl (hg29_2) rfl) rfl ?_
                    refine SR_nil ?_
                    refine SN.le (l := [(0, _), (4, _), (5, _), (8, _), (9, _), (10, _), (11, _), (12, _), (14, _), (15, _), (109, _)]) ?_ (.cons rfl (.cons rfl (.cons rfl (.cons rfl (.cons rfl (.cons rfl (.cons rfl (.cons rfl (.cons rfl (.cons rfl (.cons rfl (.nil))))))))))))
                    refine SN_seq ?_
                    refine SC_cond_false rfl (rfl) ?_
                    refine SC_skip ?_
                    exact J0 (⟨(xs, fx), hsee1, hsee2⟩) _ _ (.cons rfl (.cons rfl (.cons rfl (.cons rfl (.cons rfl (.cons rfl (.cons rfl (.cons rfl (.cons rfl (.cons rfl (.nil))))))))))) (.fin)
                · have hp0 : parOf s d = 0 := by
                    have h1 := of_decide_eq_false hc91
                    exact Classical.byContradiction fun h => by have := (hGI.dig _ (hFJ.parC hGI hdm h).mem).1; omega
                  have hFJ0 : FJ s p ds (L.set w (y, x)) ce vo fx := by rw [set_same hL]; exact hFJ
                  obtain ⟨xl, hxl⟩ := hGI.in_ _ hxC.mem
                  have hx0 := hGI.ok.vpos hxl
                  refine SC_skip ?_
                  exact J0 (⟨(x, fx), hFJ0, by (try dsimp only); rw [hp0, show parOf s 0 = 0 by unfold parOf; rw [hGI.zero]; rfl]; have h0 : vw s 0 = -1 := (by unfold vw; rw [hGI.zero]; rfl); omega⟩) _ _ (.cons rfl (.cons rfl (.cons rfl (.cons rfl (.cons rfl (.cons rfl (.cons rfl (.cons rfl (.cons rfl (.cons rfl (.nil))))))))))) (.fin)
        · refine SC_region ?_
          refine SR_pu (RD_eql rfl rfl) rfl ?_
          refine SR_pu (RD_assign rfl) rfl ?_
          refine SR_nil ?_
          refine SN.le (l := [(0, _), (4, _), (5, _), (8, _), (9, _), (10, _), (11, _), (12, _), (13, _), (14, _), (15, _), (75, _), (246, _)]) ?_ (.cons rfl (.cons rfl (.cons rfl (.cons rfl (.cons rfl (.cons rfl (.cons rfl (.cons rfl (.cons rfl (.cons rfl (.cons rfl (.cons rfl (.cons rfl (.nil))))))))))))))
          refine SN_seq ?_
          refine SC_cond rfl (fun hc246 => ?_) (fun hc246 => ?_)
          · have hc246b := hc246
            refine SC_skip ?_
            exact J0 (decide (q = 0)) _ _ (.cons rfl (.cons rfl (.cons rfl (.cons rfl (.cons rfl (.cons rfl (.cons rfl (.cons rfl (.cons rfl (.cons rfl (.cons rfl (.cons rfl (.cons rfl (.nil)))))))))))))) (.fin)
          · refine SC_region ?_
            refine SR_pu (RD_eql rfl rfl) rfl ?_
            refine SR_pu (RD_assign rfl) rfl ?_
            refine SR_nil ?_
            refine SN.le (l := [(0, _), (4, _), (5, _), (8, _), (9, _), (10, _), (11, _), (12, _), (13, _), (14, _), (15, _), (75, _), (246, _)]) ?_ (.cons rfl (.cons rfl (.cons rfl (.cons rfl (.cons rfl (.cons rfl (.cons rfl (.cons rfl (.cons rfl (.cons rfl (.cons rfl (.cons rfl (.cons rfl (.nil))))))))))))))
            exact J0 (decide (q = 1)) _ _ (.cons rfl (.cons rfl (.cons rfl (.cons rfl (.cons rfl (.cons rfl (.cons rfl (.cons rfl (.cons rfl (.cons rfl (.cons rfl (.cons rfl (.cons rfl (.nil)))))))))))))) (.fin)
      · clear ih2
        refine SC_exit rfl ?_
        refine SN_seq ?_
        refine SC_seq ?_
        refine SC_region ?_
        refine SR_call Try.call38 (.nil) (safe_awake) (lts rfl) ?_
        rintro _ L30 ⟨rfl, hL30⟩
        refine SR.lands hL30 ?_
        refine SR_pu (RD_assign rfl) rfl ?_
        refine SR_nil ?_
        refine SN.le (l := [(2, _)]) ?_ (.cons rfl (.nil))
        refine SN_seq ?_
        refine SC_ret1 rfl rfl ?_
        exact ⟨rfl, .fin⟩
    · refine SR_no rfl rfl (hg19_4) (lts rfl) ?_
      refine SR_no rfl rfl (hg19_4) (lts rfl) ?_
      refine SR_pu (RD_pick_f rfl (hg19_4) rfl) rfl ?_
      refine SR_nil ?_
      refine SN.le (l := [(0, _), (4, _), (5, _), (8, _), (9, _), (10, _), (11, _), (12, _), (57, _)]) ?_ (.cons rfl (.cons rfl (.cons rfl (.cons rfl (.cons rfl (.cons rfl (.cons rfl (.cons rfl (.cons rfl (.nil))))))))))
      refine SN_seq ?_
      clear ih2
      refine SC_cond_false rfl (rfl) ?_
      refine SC_exit rfl ?_
      refine SN_seq ?_
      refine SC_seq ?_
      refine SC_region ?_
      refine SR_call Try.call38 (.nil) (safe_awake) (lts rfl) ?_
      rintro _ L30 ⟨rfl, hL30⟩
      refine SR.lands hL30 ?_
      refine SR_pu (RD_assign rfl) rfl ?_
      refine SR_nil ?_
      refine SN.le (l := [(2, _)]) ?_ (.cons rfl (.nil))
      refine SN_seq ?_
      refine SC_ret1 rfl rfl ?_
      exact ⟨rfl, .fin⟩

end Go.Proofs.Ytmigjpmadhebfaa
