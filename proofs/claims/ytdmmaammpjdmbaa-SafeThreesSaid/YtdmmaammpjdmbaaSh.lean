/- Three in a row: the statement. -/
import Derived.Test.YtdmmaammpjdmbaaSr
namespace Go.Proofs.Ytdmmaammpjdmbaa
open Go Go.Proofs
set_option maxRecDepth 100000
def qv (x y z : Nat) : Nat → Nat
  | 0 => 0
  | 1 => 5
  | 2 => 6 + x
  | 3 => 7 + x + y
  | _ => 8 + x + y + z
def qB (x y z i : Nat) : Blk := ⟨(qv x y z (i + 1) : Nat), 0, (qv x y z i : Nat), ((i + 1 : Nat) : Int), [], []⟩
def qT (x y z i : Nat) : List (Int × Blk) := (1, zBlk) :: (List.range i).map fun j => (((j + 2 : Nat) : Int), qB x y z j)
def qL (x y z i : Nat) : List (List UInt8) := rootB :: (List.range i).map fun j => blkB [] (qB x y z j)
def qS (w x y z i : Nat) : TS := ⟨w, 1, qT x y z i⟩
def qDB : Bool := (List.range 2).all fun x => (List.range 2).all fun y => (List.range 2).all fun z => (List.range 4).all fun i => decide (blkD (qL x y z i) (qB x y z i) = i + 2) && decide (blkL (qL x y z i) (qB x y z i) = qL x y z (i + 1))
theorem qD0 : qDB = true := by decide +kernel
theorem qD : ∀ x, x < 2 → ∀ y, y < 2 → ∀ z, z < 2 → ∀ i, i < 4 → blkD (qL x y z i) (qB x y z i) = i + 2 ∧ blkL (qL x y z i) (qB x y z i) = qL x y z (i + 1) := by
  intro x hx y hy z hz i hi
  have h := qD0
  unfold qDB at h
  simp only [List.all_eq_true, List.mem_range, Bool.and_eq_true, decide_eq_true_eq] at h
  exact h x hx y hy z hz i hi
theorem qT_succ (x y z i : Nat) : qT x y z (i + 1) = qT x y z i ++ [(((i + 2 : Nat) : Int), qB x y z i)] := by simp [qT, List.range_succ]
theorem qM : ∀ i, i < 4 → ∀ x y z, mget (qT x y z i) (((i + 2 : Nat) : Int)) = none ∧ ∃ q, mget (qT x y z i) ((i + 1 : Nat) : Int) = some q ∧ q.view = (qv x y z i : Nat) := by
  intro i hi x y z
  rcases i with _ | _ | _ | _ | i
  · exact ⟨by simp [qT, mget], zBlk, by simp [qT, mget], rfl⟩
  · exact ⟨by simp [qT, mget, List.range_succ], qB x y z 0, by simp [qT, mget, List.range_succ], rfl⟩
  · exact ⟨by simp [qT, mget, List.range_succ], qB x y z 1, by simp [qT, mget, List.range_succ], rfl⟩
  · exact ⟨by simp [qT, mget, List.range_succ], qB x y z 2, by simp [qT, mget, List.range_succ], rfl⟩
  · omega
theorem qv_lt (x y z : Nat) : ∀ i, i < 4 → qv x y z i < qv x y z (i + 1) ∧ qv x y z (i + 1) ≤ 8 + x + y + z := by
  intro i hi
  rcases i with _ | _ | _ | _ | i <;> simp [qv] <;> omega
theorem qA (w : Nat) {x y z : Nat} (hx : x < 2) (hy : y < 2) (hz : z < 2) : ∀ i, i ≤ 4 → TL (qS w x y z i) (qL x y z i) ∧ (qS w x y z i).Ok ∧ (i < 4 → (qS w x y z i).add (qL x y z i) (qB x y z i) = (((((i + 2 : Nat)) : Int), 0), qS w x y z (i + 1), qL x y z (i + 1))) := by
  have step : ∀ i, i < 4 → TL (qS w x y z i) (qL x y z i) → (qS w x y z i).Ok → (qS w x y z i).add (qL x y z i) (qB x y z i) = (((((i + 2 : Nat)) : Int), 0), qS w x y z (i + 1), qL x y z (i + 1)) ∧ TL (qS w x y z (i + 1)) (qL x y z (i + 1)) ∧ (qS w x y z (i + 1)).Ok := by
    intro i hi h ho
    obtain ⟨d1, d2⟩ := qD x hx y hy z hz i hi
    obtain ⟨m1, q, m2, m3⟩ := qM i hi x y z
    obtain ⟨v1, v2⟩ := qv_lt x y z i hi
    have h2 := TL.add (s := qS w x y z i) h ho (b := qB x y z i) (q := q) (good_nil (by unfold I64; omega) (by unfold I64; omega) (by unfold I64; omega) (by unfold I64; omega)) (by simp [qL]; omega) (by simp [qS, qT]; omega) m2 m3.symm (by show ((qv x y z i : Nat) : Int) < (qv x y z (i + 1) : Nat); omega) (by rw [d1]; exact m1)
    rw [d1, d2] at h2
    have e : (⟨(qS w x y z i).w, (qS w x y z i).root, (qS w x y z i).T ++ [(((i + 2 : Nat) : Int), qB x y z i)]⟩ : TS) = qS w x y z (i + 1) := by unfold qS; rw [qT_succ]
    rw [e] at h2
    exact h2
  have base : TL (qS w x y z 0) (qL x y z 0) ∧ (qS w x y z 0).Ok := by
    have h := TL.start (l := [rootB]) w (by simp)
    rw [show dnum [rootB] rootB = 1 by simp [dnum]] at h
    exact ⟨h, TS.Ok.new w 1⟩
  intro i
  induction i with
  | zero => intro _; exact ⟨base.1, base.2, fun h => (step 0 h base.1 base.2).1⟩
  | succ i ih =>
    intro hi
    obtain ⟨h1, h2, _⟩ := ih (by omega)
    obtain ⟨_, h4, h5⟩ := step i (by omega) h1 h2
    exact ⟨h4, h5, fun h => (step (i + 1) h h4 h5).1⟩
def qK (t : Nat) (x y z : Nat) (all : Bool) (i : Nat) : SS := if i = 0 ∨ (all = false ∧ i < 4) then ⟨t, 0, 1, 1, 0⟩ else ⟨t, (qv x y z i : Nat), ((i + 1 : Nat) : Int), ((i : Nat) : Int), 0⟩
def qW (x y z i : Nat) : Int := if i = 2 ∧ x = 0 ∧ y = 0 then 2 else if i = 3 ∧ y = 0 ∧ z = 0 then 3 else 0
theorem qSee (w t : Nat) : ∀ x, x < 2 → ∀ y, y < 2 → ∀ z, z < 2 → ∀ all : Bool, ∀ i, i < 4 → (all = true ∨ i = 3) → (qK t x y z all i).see (qS w x y z 4) (qv x y z (i + 1) : Nat) ((i + 2 : Nat) : Int) = (qW x y z i, qK t x y z all (i + 1)) := by
  intro x hx y hy z hz all i hi h
  have ex : x = 0 ∨ x = 1 := by omega
  have ey : y = 0 ∨ y = 1 := by omega
  have ez : z = 0 ∨ z = 1 := by omega
  have ei : i = 0 ∨ i = 1 ∨ i = 2 ∨ i = 3 := by omega
  cases all
  · obtain rfl : i = 3 := by simpa using h
    rcases ex with rfl | rfl <;> rcases ey with rfl | rfl <;> rcases ez with rfl | rfl <;> rfl
  · rcases ei with rfl | rfl | rfl | rfl <;> rcases ex with rfl | rfl <;> rcases ey with rfl | rfl <;> rcases ez with rfl | rfl <;> rfl
theorem qV (w : Nat) {x y z : Nat} (hx : x < 2) (hy : y < 2) (hz : z < 2) (d : Int) : -1 ≤ viewOf (mget (qS w x y z 4).T d) ∧ viewOf (mget (qS w x y z 4).T d) ≤ 1000000000 := by
  simp only [qS, qT, mget, List.range_succ, List.range_zero, List.nil_append, List.cons_append, List.map_cons, List.map_nil]
  split
  · simp [viewOf, zBlk]
  · split
    · simp [viewOf, qB, qv]
    · split
      · simp [viewOf, qB, qv]; omega
      · split
        · simp [viewOf, qB, qv]; omega
        · split
          · simp [viewOf, qB, qv]; omega
          · simp [viewOf]
theorem qG (w : Nat) (x y z : Nat) : ∀ i, i < 4 → mget (qS w x y z 4).T ((i + 2 : Nat) : Int) = some (qB x y z i) := by
  intro i hi
  rcases i with _ | _ | _ | _ | i
  · simp [qS, qT, mget, List.range_succ]
  · simp [qS, qT, mget, List.range_succ]
  · simp [qS, qT, mget, List.range_succ]
  · simp [qS, qT, mget, List.range_succ]
  · omega
def qR (i : Nat) : List Int := (List.range i).map fun j => ((j + 2 : Nat) : Int)
theorem qR_succ (i : Nat) : qR (i + 1) = qR i ++ [((i + 2 : Nat) : Int)] := by simp [qR, List.range_succ]
theorem qR_len (i : Nat) : (qR i).length = i := by simp [qR]
def qGap (x y z : Nat) : List Int := [5, (x : Int) + 1, (y : Int) + 1, (z : Int) + 1]
theorem qGap_at (x y z : Nat) : ∀ i, i < 4 → (qGap x y z)[i]? = some ((qv x y z (i + 1) : Nat) - (qv x y z i : Nat) : Int) := by
  intro i hi
  rcases i with _ | _ | _ | _ | i <;> simp [qGap, qv] <;> omega

theorem law_SafeThrees {W : World} {F : List HProp} [Abs F] (a b c : Int) (al : Bool) :
    CallsK W Try.prog 13 #[.int .i64 a, .int .i64 b, .int .i64 c, .bool al] (F) (fun v L => v = .bool true ∧ Lands L F) := by
  refine CallsK_enter (n := 155) Try.func13 rfl rfl rfl ?_
  obtain ⟨x, hx⟩ : ∃ x : Nat, a % 2 = (x : Int) := ⟨(a % 2).toNat, by omega⟩
  have hx2 : x < 2 := by omega
  obtain ⟨y, hy⟩ : ∃ y : Nat, b % 2 = (y : Int) := ⟨(b % 2).toNat, by omega⟩
  have hy2 : y < 2 := by omega
  obtain ⟨z, hz⟩ : ∃ z : Nat, c % 2 = (z : Int) := ⟨(c % 2).toNat, by omega⟩
  have hz2 : z < 2 := by omega
  refine SC_seq ?_
  refine SC_region ?_
  refine SR_pu (RD_assign rfl) rfl ?_
  refine SR_nil ?_
  refine SN.le (l := [(0, _), (1, _), (2, _), (3, _)]) ?_ (.cons rfl (.cons rfl (.cons rfl (.cons rfl (.nil)))))
  refine SN_seq ?_
  refine SC_seq ?_
  refine SC_region ?_
  refine SR_call Try.call15 (.cons rfl (.nil)) (enve_New 1) (lts rfl) ?_
  rintro _ L0 ⟨k, rfl, hL0⟩
  refine SR.lands hL0 ?_
  refine SR_pu (RD_assign rfl) rfl ?_
  refine SR_nil ?_
  refine SN.le (l := [(0, _), (1, _), (2, _), (3, _), (9, _)]) ?_ (.cons rfl (.cons rfl (.cons rfl (.cons rfl (.cons rfl (.nil))))))
  refine SN_seq ?_
  refine SC_seq ?_
  refine SC_seq ?_
  refine SC_region ?_
  refine SR_pu (RD_move rfl) rfl ?_
  refine SR_pu (RD_eqlP Try.underlying25 rfl rfl) rfl ?_
  refine SR_nil ?_
  refine SN.le (l := [(0, _), (1, _), (2, _), (3, _), (9, _), (26, _)]) ?_ (.cons rfl (.cons rfl (.cons rfl (.cons rfl (.cons rfl (.cons rfl (.nil)))))))
  refine SN_seq ?_
  refine SC_cond_false rfl (rfl) ?_
  refine SC_skip ?_
  refine SN_seq ?_
  refine SC_seq ?_
  refine SC_region ?_
  refine SR_pu (RD_move rfl) rfl ?_
  refine SR_call Try.call33 (.cons rfl (.nil)) (CallsK.at (tree_New k ⟨[], []⟩ (by simp) [rootB] 1 (by decide +kernel) (by decide +kernel))) (lts rfl) ?_
  rintro _ L1 ⟨p, rfl, hL1⟩
  try dsimp only at hL1
  change Lands L1 (At treeI p (tS0 k.p) :: _) at hL1
  refine SR.lands hL1 ?_
  refine SR_pu (RD_assign rfl) rfl ?_
  refine SR_nil ?_
  refine SN.le (l := [(0, _), (1, _), (2, _), (3, _), (9, _), (10, _)]) ?_ (.cons rfl (.cons rfl (.cons rfl (.cons rfl (.cons rfl (.cons rfl (.nil)))))))
  refine SN_seq ?_
  refine SC_seq ?_
  refine SC_region ?_
  refine SR_pu (RD_move rfl) rfl ?_
  refine SR_call Try.call51 (.cons rfl (.nil)) (CallsK.at (safe_New p (tS0 k.p))) (lts rfl) ?_
  rintro _ L3 ⟨sp, rfl, hL3⟩
  change Lands L3 (At safeI sp ⟨p, 0, 1, 1, 0⟩ :: _) at hL3
  refine SR.lands hL3 ?_
  refine SR_pu (RD_assign rfl) rfl ?_
  refine SR_nil ?_
  refine SN.le (l := [(0, _), (1, _), (2, _), (3, _), (9, _), (10, _), (11, _)]) ?_ (.cons rfl (.cons rfl (.cons rfl (.cons rfl (.cons rfl (.cons rfl (.cons rfl (.nil))))))))
  refine SN_seq ?_
  refine SC_seq ?_
  refine SC_seq ?_
  refine SC_region ?_
  refine SR_pu (RD_move rfl) rfl ?_
  refine SR_pu (RD_eqlP Try.underlying54 rfl rfl) rfl ?_
  refine SR_pu (RD_move rfl) rfl ?_
  refine SR_yes rfl rfl (rfl) ?_
  refine SR_pu (RD_move rfl) rfl ?_
  refine SR_yes rfl rfl (rfl) ?_
  refine SR_pu (RD_eqlP Try.underlying86 rfl rfl) rfl ?_
  refine SR_pu (RD_pick_f rfl (rfl) rfl) rfl ?_
  refine SR_nil ?_
  refine SN.le (l := [(0, _), (1, _), (2, _), (3, _), (9, _), (10, _), (11, _), (36, _)]) ?_ (.cons rfl (.cons rfl (.cons rfl (.cons rfl (.cons rfl (.cons rfl (.cons rfl (.cons rfl (.nil)))))))))
  refine SN_seq ?_
  refine SC_cond_false rfl (rfl) ?_
  refine SC_skip ?_
  refine SN_seq ?_
  refine SC_seq ?_
  refine SC_region ?_
  refine SR_pu (RD_move rfl) rfl ?_
  refine SR_call Try.call21 (.cons rfl (.nil)) (CallsK.at (cert_Root k ⟨[rootB], []⟩ (by simp) [rootB] 1 (by decide +kernel) (by decide +kernel))) (lts rfl) ?_
  rintro _ L4 ⟨rfl, hL4⟩
  try dsimp only at hL4
  refine SR.lands hL4 ?_
  refine SR_pu (RD_assign rfl) rfl ?_
  refine SR_pu (RD_assign rfl) rfl ?_
  refine SR_nil ?_
  refine SN.le (l := [(0, _), (1, _), (2, _), (3, _), (10, _), (11, _), (12, _), (13, _)]) ?_ (.cons rfl (.cons rfl (.cons rfl (.cons rfl (.cons rfl (.cons rfl (.cons rfl (.cons rfl (.nil)))))))))
  refine SN_seq ?_
  refine SC_seq ?_
  refine SC_region ?_
  refine SR_pu (RD_assign rfl) rfl ?_
  refine SR_nil ?_
  refine SN.le (l := [(0, _), (1, _), (2, _), (3, _), (10, _), (11, _), (12, _), (13, _), (14, _)]) ?_ (.cons rfl (.cons rfl (.cons rfl (.cons rfl (.cons rfl (.cons rfl (.cons rfl (.cons rfl (.cons rfl (.nil))))))))))
  refine SN_seq ?_
  refine SC_seq ?_
  refine SC_seq ?_
  refine SC_region ?_
  refine SR_pu (RD_move rfl) rfl ?_
  refine SR_pu (RD_mask 1 rfl rfl rfl (by decide) 2 rfl) rfl ?_
  refine SR_pu (RD_addi rfl rfl (by omega) (by omega)) rfl ?_
  refine SR_pu (RD_move rfl) rfl ?_
  refine SR_pu (RD_mask 1 rfl rfl rfl (by decide) 2 rfl) rfl ?_
  refine SR_pu (RD_addi rfl rfl (by omega) (by omega)) rfl ?_
  refine SR_pu (RD_move rfl) rfl ?_
  refine SR_pu (RD_mask 1 rfl rfl rfl (by decide) 2 rfl) rfl ?_
  refine SR_pu (RD_addi rfl rfl (by omega) (by omega)) rfl ?_
  refine SR_ox (OX_lit1 Try.underlying22 Try.type3 rfl rfl rfl rfl (.cons rfl (.cons rfl (.cons rfl (.cons rfl (.nil))))) (.cons rfl (.cons rfl (.cons rfl (.cons rfl (.nil)))))) rfl ?_
  rintro _ _ ⟨b48, rfl, rfl⟩
  refine SR_pu (RD_len Try.runUnderlying22 rfl) rfl ?_
  refine SR_pu (RD_move rfl) rfl ?_
  refine SR_nil ?_
  refine SN.le (l := [(0, _), (1, _), (2, _), (3, _), (10, _), (11, _), (12, _), (13, _), (14, _), (48, _), (49, _), (50, _)]) ?_ (.cons rfl (.cons rfl (.cons rfl (.cons rfl (.cons rfl (.cons rfl (.cons rfl (.cons rfl (.cons rfl (.cons rfl (.cons rfl (.cons rfl (.nil)))))))))))))
  refine SN_seq ?_
  refine SC_block ?_
  rw [hx, hy, hz]
  refine SC_ind (X := Nat × Option Addr × Nat) (fun q => q.1 ≤ 4) (fun q => 4 - q.1) (fun q => [(0, .int .i64 a), (1, .int .i64 b), (2, .int .i64 c), (3, .bool al), (10, .pointer (some ⟨p, 0, none⟩)), (11, .pointer (some ⟨sp, 0, none⟩)), (12, .int .i64 ((q.1 + 1 : Nat) : Int)), (13, .int .i64 (qv x y z q.1 : Nat)), (14, .slice q.2.1 q.1 q.2.2), (48, .slice (some ⟨b48, 0, none⟩) 4 4), (49, .int .i64 4), (50, .int .i64 (q.1 : Nat))]) (fun q => rowP 3 1 q.2.1 q.1 q.2.2 ((qR q.1).map intV) :: pt b48 (.cells ((qGap x y z).map intV).toArray 3) :: At safeI sp ⟨p, 0, 1, 1, 0⟩ :: At treeI p (qS k.p x y z q.1) :: At worldI k ⟨qL x y z q.1, []⟩ :: F) ((0, none, 0)) (by simp) (.cons rfl (.cons rfl (.cons rfl (.cons rfl (.cons rfl (.cons rfl (.cons rfl (.cons rfl (.cons rfl (.cons rfl (.cons rfl (.cons rfl (.nil))))))))))))) ((row_new 3 1 none).trans (show Lands _ (rowP 3 1 none 0 0 [] :: pt b48 (.cells [.int .i64 5, .int .i64 ((x : Int) + 1), .int .i64 ((y : Int) + 1), .int .i64 ((z : Int) + 1)].toArray 3) :: At safeI sp ⟨p, 0, 1, 1, 0⟩ :: At treeI p (tS0 k.p) :: At worldI k ⟨[rootB], []⟩ :: F) from .fin)) ?_
  intro ⟨i, ra, rc⟩ hi ih0
  dsimp only at hi ih0 ⊢
  refine SC_seq ?_
  refine SC_region ?_
  refine SR_pu (RD_lss rfl rfl) rfl ?_
  refine SR_nil ?_
  refine SN.le (l := [(0, _), (1, _), (2, _), (3, _), (10, _), (11, _), (12, _), (13, _), (14, _), (48, _), (49, _), (50, _), (51, _)]) ?_ (.cons rfl (.cons rfl (.cons rfl (.cons rfl (.cons rfl (.cons rfl (.cons rfl (.cons rfl (.cons rfl (.cons rfl (.cons rfl (.cons rfl (.cons rfl (.nil))))))))))))))
  refine SN_seq ?_
  refine SC_seq ?_
  refine SC_cond rfl (fun hc51 => ?_) (fun hc51 => ?_)
  · have hi4 : i < 4 := by simp at hc51; omega
    have hgap := qGap_at x y z i hi4
    have hve : ((qv x y z i : Nat) : Int) + (((qv x y z (i + 1) : Nat) : Int) - ((qv x y z i : Nat) : Int)) = ((qv x y z (i + 1) : Nat) : Int) := by omega
    have hadd := (qA k.p hx2 hy2 hz2 i (by omega)).2.2 hi4
    obtain ⟨v1, v2⟩ := qv_lt x y z i hi4
    have hll : (qL x y z i).length ≤ 10 := by simp [qL]; omega
    refine SC_skip ?_
    refine SN_seq ?_
    refine SC_seq ?_
    refine SC_block ?_
    refine SC_seq ?_
    refine SC_region ?_
    refine SR_rd (RD_ixO (cs := (qGap x y z).map intV) Try.runUnderlying22 Try.sizeOf3 rfl rfl (by simp [qGap]) (by omega) (by omega)) Has.ro rfl ?_
    refine SR_rd (RD_loadO (v := .int .i64 ((qv x y z (i + 1) : Nat) - (qv x y z i : Nat) : Int)) (cs := (qGap x y z).map intV) Try.isAgg3 rfl (by simp [hgap, intV])) Has.ro rfl ?_
    refine SR_pu (RD_assign rfl) rfl ?_
    refine SR_nil ?_
    refine SN.le (l := [(0, _), (1, _), (2, _), (3, _), (10, _), (11, _), (12, _), (13, _), (14, _), (16, _), (48, _), (49, _), (50, _)]) ?_ (.cons rfl (.cons rfl (.cons rfl (.cons rfl (.cons rfl (.cons rfl (.cons rfl (.cons rfl (.cons rfl (.cons rfl (.cons rfl (.cons rfl (.cons rfl (.nil))))))))))))))
    refine SN_seq ?_
    refine SC_seq ?_
    refine SC_region ?_
    refine SR_pu (RD_move rfl) rfl ?_
    refine SR_pu (RD_move rfl) rfl ?_
    refine SR_pu (RD_move rfl) rfl ?_
    refine SR_pu (RD_addi rfl rfl (by omega) (by omega)) rfl ?_
    refine SR_pu (RD_move rfl) rfl ?_
    refine SR_pu (RD_move rfl) rfl ?_
    refine SR_pu (RD_build (.cons rfl (.cons rfl (.nil))) built34_0_1) rfl ?_
    refine SR_pu (RD_build (.cons rfl (.cons rfl (.nil))) built69_0_2) rfl ?_
    refine SR_call Try.call40 (.cons rfl (.cons rfl (.nil))) (CallsK.at2 (tree_Add' p (qS k.p x y z i) k rfl ⟨qL x y z i, []⟩ ⟨((qv x y z i : Nat) : Int) + (((qv x y z (i + 1) : Nat) : Int) - ((qv x y z i : Nat) : Int)), 0, (qv x y z i : Nat), ((i + 1 : Nat) : Int), ⟨none, 0, 0, []⟩, ⟨none, 0, 0, []⟩⟩ rfl rfl (fit_nil _ _ _ _) (by dsimp only; omega) _ 0 (qS k.p x y z (i + 1)) (qL x y z (i + 1)) (by show TS.add _ _ (Blk.mk (((qv x y z i : Nat) : Int) + (((qv x y z (i + 1) : Nat) : Int) - ((qv x y z i : Nat) : Int))) 0 _ _ [] []) = _; rw [hve]; exact hadd))) (lts rfl) ?_
    rintro _ L5 ⟨rfl, hL5⟩
    try dsimp only at hL5
    refine SR.lands hL5 ?_
    refine SR_pu (RD_move rfl) rfl ?_
    refine SR_pu (RD_extract (v := .int .i64 ((i + 2 : Nat) : Int)) rfl rfl) rfl ?_
    refine SR_pu (RD_extract (v := .int .i64 0) rfl rfl) rfl ?_
    refine SR_pu (RD_assign rfl) rfl ?_
    refine SR_pu (RD_assign rfl) rfl ?_
    refine SR_nil ?_
    refine SN.le (l := [(0, _), (1, _), (2, _), (3, _), (10, _), (11, _), (13, _), (14, _), (16, _), (17, _), (18, _), (48, _), (49, _), (50, _)]) ?_ (.cons rfl (.cons rfl (.cons rfl (.cons rfl (.cons rfl (.cons rfl (.cons rfl (.cons rfl (.cons rfl (.cons rfl (.cons rfl (.cons rfl (.cons rfl (.cons rfl (.nil)))))))))))))))
    refine SN_seq ?_
    refine SC_seq ?_
    refine SC_seq ?_
    refine SC_region ?_
    refine SR_pu (RD_move rfl) rfl ?_
    refine SR_pu (RD_neq rfl rfl) rfl ?_
    refine SR_nil ?_
    refine SN.le (l := [(0, _), (1, _), (2, _), (3, _), (10, _), (11, _), (13, _), (14, _), (16, _), (17, _), (48, _), (49, _), (50, _), (67, _)]) ?_ (.cons rfl (.cons rfl (.cons rfl (.cons rfl (.cons rfl (.cons rfl (.cons rfl (.cons rfl (.cons rfl (.cons rfl (.cons rfl (.cons rfl (.cons rfl (.cons rfl (.nil)))))))))))))))
    refine SN_seq ?_
    refine SC_cond_false rfl (rfl) ?_
    refine SC_skip ?_
    refine SN_seq ?_
    refine SC_seq ?_
    refine SC_region ?_
    refine SR_pu (RD_move rfl) rfl ?_
    refine SR_pu (RD_move rfl) rfl ?_
    refine SR_pu (RD_move rfl) rfl ?_
    refine SR_pu (RD_addi rfl rfl (by omega) (by omega)) rfl ?_
    refine SR_pu (RD_assign rfl) rfl ?_
    refine SR_pu (RD_assign rfl) rfl ?_
    refine SR_nil ?_
    refine SN.le (l := [(0, _), (1, _), (2, _), (3, _), (10, _), (11, _), (12, _), (13, _), (14, _), (17, _), (48, _), (49, _), (50, _)]) ?_ (.cons rfl (.cons rfl (.cons rfl (.cons rfl (.cons rfl (.cons rfl (.cons rfl (.cons rfl (.cons rfl (.cons rfl (.cons rfl (.cons rfl (.cons rfl (.nil))))))))))))))
    refine SN_seq ?_
    refine SC_region ?_
    refine SR_pu (RD_move rfl) rfl ?_
    refine SR_pu (RD_move rfl) rfl ?_
    refine SR_ox (OX_lit1 Try.underlying22 Try.type3 rfl rfl rfl rfl (.cons rfl (.nil)) (.cons rfl (.nil))) rfl ?_
    rintro _ _ ⟨b74, rfl, rfl⟩
    refine SR_ox (OX_app 1 Try.underlying22 Try.underlying22 Try.type3 rfl rfl rfl rfl rfl (by first | rfl | simp; done | (simp; omega)) 8 rfl (by omega) (by omega)) rfl ?_
    rintro _ _ ⟨a75, c75, rfl, rfl⟩
    refine SR_pu (RD_assign rfl) rfl ?_
    refine SR_nil ?_
    refine SN.le (l := [(0, _), (1, _), (2, _), (3, _), (10, _), (11, _), (12, _), (13, _), (14, _), (48, _), (49, _), (50, _)]) ?_ (.cons rfl (.cons rfl (.cons rfl (.cons rfl (.cons rfl (.cons rfl (.cons rfl (.cons rfl (.cons rfl (.cons rfl (.cons rfl (.cons rfl (.nil)))))))))))))
    refine SN_block ?_
    refine SN_seq ?_
    refine SC_region ?_
    refine SR_pu (RD_addi rfl rfl (by omega) (by omega)) rfl ?_
    refine SR_pu (RD_move rfl) rfl ?_
    refine SR_nil ?_
    refine SN.le (l := [(0, _), (1, _), (2, _), (3, _), (10, _), (11, _), (12, _), (13, _), (14, _), (48, _), (49, _), (50, _)]) ?_ (.cons rfl (.cons rfl (.cons rfl (.cons rfl (.cons rfl (.cons rfl (.cons rfl (.cons rfl (.cons rfl (.cons rfl (.cons rfl (.cons rfl (.nil)))))))))))))
    refine SC_again (ih0 ((i + 1, a75, c75)) (by dsimp only; omega) (by dsimp only; omega)) (by dsimp only; rw [qR_succ]; simp only [List.map_append, List.map_cons, List.map_nil, intV]; exact .fin) (.cons rfl (.cons rfl (.cons rfl (.cons rfl (.cons rfl (.cons rfl (.cons' rfl (ie (by dsimp only <;> omega)) (.cons' rfl (ie (by dsimp only <;> omega)) (.cons rfl (.cons rfl (.cons rfl (.cons' rfl (ie (by dsimp only <;> omega)) (.nil)))))))))))))
  · have hi4 : i = 4 := by simp at hc51; omega
    subst hi4
    clear ih0
    refine SC_exit rfl ?_
    refine SN_seq ?_
    refine SC_seq ?_
    refine SC_region ?_
    refine SR_pu (RD_assign rfl) rfl ?_
    refine SR_nil ?_
    refine SN.le (l := [(0, _), (1, _), (2, _), (3, _), (10, _), (11, _), (14, _), (19, _)]) ?_ (.cons rfl (.cons rfl (.cons rfl (.cons rfl (.cons rfl (.cons rfl (.cons rfl (.cons rfl (.nil)))))))))
    refine SN_seq ?_
    refine SC_seq ?_
    refine SC_seq ?_
    refine SC_region ?_
    refine SR_pu (RD_move rfl) rfl ?_
    refine SR_pu (RD_len Try.runUnderlying22 rfl) rfl ?_
    refine SR_pu (RD_move rfl) rfl ?_
    refine SR_nil ?_
    refine SN.le (l := [(0, _), (1, _), (2, _), (3, _), (10, _), (11, _), (14, _), (19, _), (77, _), (78, _), (79, _)]) ?_ (.cons rfl (.cons rfl (.cons rfl (.cons rfl (.cons rfl (.cons rfl (.cons rfl (.cons rfl (.cons rfl (.cons rfl (.cons rfl (.nil))))))))))))
    refine SN_seq ?_
    refine SC_block ?_
    refine SC_ind (X := Nat × Int) (fun q => q.1 ≤ 4 ∧ 0 ≤ q.2 ∧ q.2 ≤ q.1 ∧ (q.1 = 4 → 0 < q.2)) (fun q => 4 - q.1) (fun q => [(0, .int .i64 a), (1, .int .i64 b), (2, .int .i64 c), (3, .bool al), (10, .pointer (some ⟨p, 0, none⟩)), (11, .pointer (some ⟨sp, 0, none⟩)), (14, .slice ra 4 rc), (19, .int .i64 q.2), (77, .slice ra 4 rc), (78, .int .i64 4), (79, .int .i64 (q.1 : Nat))]) (fun q => rowP 3 1 ra 4 rc ((qR 4).map intV) :: At safeI sp (qK p x y z al q.1) :: At treeI p (qS k.p x y z 4) :: At worldI k ⟨qL x y z 4, []⟩ :: F) ((0, 0)) (⟨by simp, by simp, by simp, fun h => by dsimp only at h; omega⟩) (.cons rfl (.cons rfl (.cons rfl (.cons rfl (.cons rfl (.cons rfl (.cons rfl (.cons rfl (.cons rfl (.cons rfl (.cons rfl (.nil)))))))))))) ((show Lands _ (rowP 3 1 ra 4 rc ((qR 4).map intV) :: At safeI sp ⟨p, 0, 1, 1, 0⟩ :: At treeI p (qS k.p x y z 4) :: At worldI k ⟨qL x y z 4, []⟩ :: F) from .fin)) ?_
    intro ⟨i, got⟩ hi ih1
    obtain ⟨hi1, hg1, hg2, hg3⟩ := hi
    dsimp only at hi1 hg1 hg2 hg3 ih1 ⊢
    refine SC_seq ?_
    refine SC_region ?_
    refine SR_pu (RD_lss rfl rfl) rfl ?_
    refine SR_nil ?_
    refine SN.le (l := [(0, _), (1, _), (2, _), (3, _), (10, _), (11, _), (14, _), (19, _), (77, _), (78, _), (79, _), (80, _)]) ?_ (.cons rfl (.cons rfl (.cons rfl (.cons rfl (.cons rfl (.cons rfl (.cons rfl (.cons rfl (.cons rfl (.cons rfl (.cons rfl (.cons rfl (.nil)))))))))))))
    refine SN_seq ?_
    refine SC_seq ?_
    refine SC_cond rfl (fun hc80 => ?_) (fun hc80 => ?_)
    · have hi4 : i < 4 := by simp at hc80; omega
      have hG := qG k.p x y z i hi4
      have hR : (qR 4)[i]? = some ((i + 2 : Nat) : Int) := by rcases (show i = 0 ∨ i = 1 ∨ i = 2 ∨ i = 3 by omega) with h | h | h | h <;> subst h <;> rfl
      obtain ⟨v1, v2⟩ := qv_lt x y z i hi4
      have hi01 : i = 0 ∨ i = 1 ∨ i = 2 ∨ i = 3 := by omega
      rcases hi01 with hi0 | hi0 | hi0 | hi0
      · refine SC_skip ?_
        refine SN_seq ?_
        refine SC_seq ?_
        refine SC_block ?_
        refine SC_seq ?_
        refine SC_region ?_
        refine SR_pu (RD_move rfl) rfl ?_
        refine SR_rd (RD_ixO (cs := (qR 4).map intV) Try.runUnderlying22 Try.sizeOf3 rfl rfl (by simp [qR]) (by omega) (by omega)) Has.ro rfl ?_
        refine SR_rd (RD_loadO (v := .int .i64 ((i + 2 : Nat) : Int)) (cs := (qR 4).map intV) Try.isAgg3 rfl (by simp [hR, intV])) Has.ro rfl ?_
        refine SR_pu (RD_assign rfl) rfl ?_
        refine SR_pu (RD_assign rfl) rfl ?_
        refine SR_nil ?_
        refine SN.le (l := [(0, _), (1, _), (2, _), (3, _), (10, _), (11, _), (14, _), (19, _), (20, _), (21, _), (77, _), (78, _), (79, _)]) ?_ (.cons rfl (.cons rfl (.cons rfl (.cons rfl (.cons rfl (.cons rfl (.cons rfl (.cons rfl (.cons rfl (.cons rfl (.cons rfl (.cons rfl (.cons rfl (.nil))))))))))))))
        refine SN_seq ?_
        refine SC_seq ?_
        refine SC_seq ?_
        refine SC_region ?_
        refine SR_pu (RD_move rfl) rfl ?_
        refine SR_pu (RD_not rfl) rfl ?_
        refine SR_pu (RD_move rfl) rfl ?_
        refine SR_guard rfl rfl (fun hg23_2 => ?_) (fun hg23_2 => ?_)
        · refine SR_yes rfl rfl (hg23_2) ?_
          refine SR_pu (RD_move rfl) rfl ?_
          refine SR_yes rfl rfl (hg23_2) ?_
          refine SR_pu (RD_lss rfl rfl) rfl ?_
          refine SR_pu (RD_pick_t rfl (hg23_2) rfl) rfl ?_
          refine SR_nil ?_
          refine SN.le (l := [(0, _), (1, _), (2, _), (3, _), (10, _), (11, _), (14, _), (19, _), (20, _), (21, _), (77, _), (78, _), (79, _), (89, _)]) ?_ (.cons rfl (.cons rfl (.cons rfl (.cons rfl (.cons rfl (.cons rfl (.cons rfl (.cons rfl (.cons rfl (.cons rfl (.cons rfl (.cons rfl (.cons rfl (.cons rfl (.nil)))))))))))))))
          refine SN_seq ?_
          refine SC_cond_true rfl (by simp [hi0]) ?_
          refine SC_exit rfl ?_
          refine SN_seq ?_
          refine SC_region ?_
          refine SR_pu (RD_addi rfl rfl (by omega) (by omega)) rfl ?_
          refine SR_pu (RD_move rfl) rfl ?_
          refine SR_nil ?_
          refine SN.le (l := [(0, _), (1, _), (2, _), (3, _), (10, _), (11, _), (14, _), (19, _), (77, _), (78, _), (79, _)]) ?_ (.cons rfl (.cons rfl (.cons rfl (.cons rfl (.cons rfl (.cons rfl (.cons rfl (.cons rfl (.cons rfl (.cons rfl (.cons rfl (.nil))))))))))))
          have hKK : qK p x y z al (i + 1) = qK p x y z al i := by
            have h : al = false := by simpa using hg23_2
            unfold qK
            rw [if_pos (.inr ⟨h, by omega⟩), if_pos (.inr ⟨h, by omega⟩)]
          refine SC_again (ih1 ((i + 1, got)) (⟨by dsimp only; omega, hg1, by dsimp only; omega, fun h => by dsimp only at h; omega⟩) (by dsimp only; omega)) (by dsimp only; rw [hKK]; exact .fin) (.cons rfl (.cons rfl (.cons rfl (.cons rfl (.cons rfl (.cons rfl (.cons rfl (.cons rfl (.cons rfl (.cons rfl (.cons' rfl (ie (by dsimp only; omega)) (.nil))))))))))))
        · refine SR_no rfl rfl (hg23_2) (lts rfl) ?_
          refine SR_no rfl rfl (hg23_2) (lts rfl) ?_
          refine SR_pu (RD_pick_f rfl (hg23_2) rfl) rfl ?_
          refine SR_nil ?_
          refine SN.le (l := [(0, _), (1, _), (2, _), (3, _), (10, _), (11, _), (14, _), (19, _), (20, _), (21, _), (77, _), (78, _), (79, _), (89, _)]) ?_ (.cons rfl (.cons rfl (.cons rfl (.cons rfl (.cons rfl (.cons rfl (.cons rfl (.cons rfl (.cons rfl (.cons rfl (.cons rfl (.cons rfl (.cons rfl (.cons rfl (.nil)))))))))))))))
          refine SN_seq ?_
          have hall : al = true := by simpa using hg23_2
          have hsee := qSee k.p p x hx2 y hy2 z hz2 al i hi4 (.inl hall)
          refine SC_cond_false rfl (rfl) ?_
          refine SC_skip ?_
          refine SN_seq ?_
          refine SC_seq ?_
          refine SC_region ?_
          refine SR_pu (RD_move rfl) rfl ?_
          refine SR_pu (RD_move rfl) rfl ?_
          refine SR_pu (RD_move rfl) rfl ?_
          refine SR_call Try.call38 (.cons rfl (.cons rfl (.nil))) (CallsK.at (tree_View p (qS k.p x y z 4) ((i + 2 : Nat) : Int))) (lts rfl) ?_
          rintro _ L6 ⟨rfl, hL6⟩
          rw [hG, show viewOf (some (qB x y z i)) = (qv x y z (i + 1) : Nat) from rfl]
          refine SR.lands hL6 ?_
          refine SR_pu (RD_move rfl) rfl ?_
          refine SR_pu (RD_build (.cons rfl (.cons rfl (.nil))) built34_0_1) rfl ?_
          refine SR_call Try.call53 (.cons rfl (.cons rfl (.nil))) (CallsK.at2 (safe_See' sp p (qK p x y z al i) (by unfold qK; split <;> rfl) (qS k.p x y z 4) (qV k.p hx2 hy2 hz2) (qv x y z (i + 1) : Nat) ((i + 2 : Nat) : Int))) (lts rfl) ?_
          rintro _ L7 ⟨rfl, hL7⟩
          rw [hsee] at hL7 ⊢
          refine SR.lands (hL7 : Lands L7 (At safeI sp (qK p x y z al (i + 1)) :: At treeI p (qS k.p x y z 4) :: _)) ?_
          refine SR_pu (RD_assign rfl) rfl ?_
          refine SR_nil ?_
          refine SN.le (l := [(0, _), (1, _), (2, _), (3, _), (10, _), (11, _), (14, _), (19, _), (20, _), (22, _), (77, _), (78, _), (79, _)]) ?_ (.cons rfl (.cons rfl (.cons rfl (.cons rfl (.cons rfl (.cons rfl (.cons rfl (.cons rfl (.cons rfl (.cons rfl (.cons rfl (.cons rfl (.cons rfl (.nil))))))))))))))
          refine SN_seq ?_
          refine SC_seq ?_
          refine SC_region ?_
          refine SR_pu (RD_assign rfl) rfl ?_
          refine SR_nil ?_
          refine SN.le (l := [(0, _), (1, _), (2, _), (3, _), (10, _), (11, _), (14, _), (19, _), (20, _), (22, _), (23, _), (77, _), (78, _), (79, _)]) ?_ (.cons rfl (.cons rfl (.cons rfl (.cons rfl (.cons rfl (.cons rfl (.cons rfl (.cons rfl (.cons rfl (.cons rfl (.cons rfl (.cons rfl (.cons rfl (.cons rfl (.nil)))))))))))))))
          refine SN_seq ?_
          refine SC_seq ?_
          refine SC_seq ?_
          refine SC_region ?_
          refine SR_pu (RD_move rfl) rfl ?_
          refine SR_pu (RD_eql rfl rfl) rfl ?_
          refine SR_pu (RD_move rfl) rfl ?_
          refine SR_no rfl rfl (by simp [hi0]) (lts rfl) ?_
          refine SR_no rfl rfl (by simp [hi0]) (lts rfl) ?_
          refine SR_no rfl rfl (by simp [hi0]) (lts rfl) ?_
          refine SR_pu (RD_pick_f rfl (by simp [hi0]) rfl) rfl ?_
          refine SR_pu (RD_move rfl) rfl ?_
          refine SR_no rfl rfl (rfl) (lts rfl) ?_
          refine SR_no rfl rfl (rfl) (lts rfl) ?_
          refine SR_no rfl rfl (rfl) (lts rfl) ?_
          refine SR_pu (RD_pick_f rfl (rfl) rfl) rfl ?_
          refine SR_nil ?_
          refine SN.le (l := [(0, _), (1, _), (2, _), (3, _), (10, _), (11, _), (14, _), (19, _), (20, _), (22, _), (23, _), (77, _), (78, _), (79, _), (108, _)]) ?_ (.cons rfl (.cons rfl (.cons rfl (.cons rfl (.cons rfl (.cons rfl (.cons rfl (.cons rfl (.cons rfl (.cons rfl (.cons rfl (.cons rfl (.cons rfl (.cons rfl (.cons rfl (.nil))))))))))))))))
          refine SN_seq ?_
          refine SC_cond_false rfl (rfl) ?_
          refine SC_skip ?_
          refine SN_seq ?_
          refine SC_seq ?_
          refine SC_seq ?_
          refine SC_region ?_
          refine SR_pu (RD_move rfl) rfl ?_
          refine SR_pu (RD_eql rfl rfl) rfl ?_
          refine SR_pu (RD_move rfl) rfl ?_
          refine SR_no rfl rfl (by simp [hi0]) (lts rfl) ?_
          refine SR_no rfl rfl (by simp [hi0]) (lts rfl) ?_
          refine SR_no rfl rfl (by simp [hi0]) (lts rfl) ?_
          refine SR_pu (RD_pick_f rfl (by simp [hi0]) rfl) rfl ?_
          refine SR_pu (RD_move rfl) rfl ?_
          refine SR_no rfl rfl (rfl) (lts rfl) ?_
          refine SR_no rfl rfl (rfl) (lts rfl) ?_
          refine SR_no rfl rfl (rfl) (lts rfl) ?_
          refine SR_pu (RD_pick_f rfl (rfl) rfl) rfl ?_
          refine SR_nil ?_
          refine SN.le (l := [(0, _), (1, _), (2, _), (3, _), (10, _), (11, _), (14, _), (19, _), (22, _), (23, _), (77, _), (78, _), (79, _), (123, _)]) ?_ (.cons rfl (.cons rfl (.cons rfl (.cons rfl (.cons rfl (.cons rfl (.cons rfl (.cons rfl (.cons rfl (.cons rfl (.cons rfl (.cons rfl (.cons rfl (.cons rfl (.nil)))))))))))))))
          refine SN_seq ?_
          refine SC_cond_false rfl (rfl) ?_
          refine SC_skip ?_
          refine SN_seq ?_
          refine SC_seq ?_
          refine SC_seq ?_
          refine SC_region ?_
          refine SR_pu (RD_move rfl) rfl ?_
          refine SR_pu (RD_move rfl) rfl ?_
          refine SR_pu (RD_neq rfl rfl) rfl ?_
          refine SR_nil ?_
          refine SN.le (l := [(0, _), (1, _), (2, _), (3, _), (10, _), (11, _), (14, _), (19, _), (77, _), (78, _), (79, _), (129, _)]) ?_ (.cons rfl (.cons rfl (.cons rfl (.cons rfl (.cons rfl (.cons rfl (.cons rfl (.cons rfl (.cons rfl (.cons rfl (.cons rfl (.cons rfl (.nil)))))))))))))
          refine SN_seq ?_
          refine SC_cond_false rfl (by first | (simp [qW, hi0]; done) | (have hh := hx; have hh2 := hy; have hh3 := hz; simp [qW, hi0] at *; omega)) ?_
          refine SC_skip ?_
          refine SN_seq ?_
          refine SC_region ?_
          refine SR_pu (RD_move rfl) rfl ?_
          refine SR_pu (RD_addi rfl rfl (by omega) (by omega)) rfl ?_
          refine SR_pu (RD_assign rfl) rfl ?_
          refine SR_nil ?_
          refine SN.le (l := [(0, _), (1, _), (2, _), (3, _), (10, _), (11, _), (14, _), (19, _), (77, _), (78, _), (79, _)]) ?_ (.cons rfl (.cons rfl (.cons rfl (.cons rfl (.cons rfl (.cons rfl (.cons rfl (.cons rfl (.cons rfl (.cons rfl (.cons rfl (.nil))))))))))))
          refine SN_block ?_
          refine SN_seq ?_
          refine SC_region ?_
          refine SR_pu (RD_addi rfl rfl (by omega) (by omega)) rfl ?_
          refine SR_pu (RD_move rfl) rfl ?_
          refine SR_nil ?_
          refine SN.le (l := [(0, _), (1, _), (2, _), (3, _), (10, _), (11, _), (14, _), (19, _), (77, _), (78, _), (79, _)]) ?_ (.cons rfl (.cons rfl (.cons rfl (.cons rfl (.cons rfl (.cons rfl (.cons rfl (.cons rfl (.cons rfl (.cons rfl (.cons rfl (.nil))))))))))))
          refine SC_again (ih1 ((i + 1, got + 1)) (⟨by dsimp only; omega, by dsimp only; omega, by dsimp only; omega, fun h => by dsimp only; omega⟩) (by dsimp only; omega)) (.fin) (.cons rfl (.cons rfl (.cons rfl (.cons rfl (.cons rfl (.cons rfl (.cons rfl (.cons rfl (.cons rfl (.cons rfl (.cons' rfl (ie (by dsimp only; omega)) (.nil))))))))))))
      · refine SC_skip ?_
        refine SN_seq ?_
        refine SC_seq ?_
        refine SC_block ?_
        refine SC_seq ?_
        refine SC_region ?_
        refine SR_pu (RD_move rfl) rfl ?_
        refine SR_rd (RD_ixO (cs := (qR 4).map intV) Try.runUnderlying22 Try.sizeOf3 rfl rfl (by simp [qR]) (by omega) (by omega)) Has.ro rfl ?_
        refine SR_rd (RD_loadO (v := .int .i64 ((i + 2 : Nat) : Int)) (cs := (qR 4).map intV) Try.isAgg3 rfl (by simp [hR, intV])) Has.ro rfl ?_
        refine SR_pu (RD_assign rfl) rfl ?_
        refine SR_pu (RD_assign rfl) rfl ?_
        refine SR_nil ?_
        refine SN.le (l := [(0, _), (1, _), (2, _), (3, _), (10, _), (11, _), (14, _), (19, _), (20, _), (21, _), (77, _), (78, _), (79, _)]) ?_ (.cons rfl (.cons rfl (.cons rfl (.cons rfl (.cons rfl (.cons rfl (.cons rfl (.cons rfl (.cons rfl (.cons rfl (.cons rfl (.cons rfl (.cons rfl (.nil))))))))))))))
        refine SN_seq ?_
        refine SC_seq ?_
        refine SC_seq ?_
        refine SC_region ?_
        refine SR_pu (RD_move rfl) rfl ?_
        refine SR_pu (RD_not rfl) rfl ?_
        refine SR_pu (RD_move rfl) rfl ?_
        refine SR_guard rfl rfl (fun hg23_2 => ?_) (fun hg23_2 => ?_)
        · refine SR_yes rfl rfl (hg23_2) ?_
          refine SR_pu (RD_move rfl) rfl ?_
          refine SR_yes rfl rfl (hg23_2) ?_
          refine SR_pu (RD_lss rfl rfl) rfl ?_
          refine SR_pu (RD_pick_t rfl (hg23_2) rfl) rfl ?_
          refine SR_nil ?_
          refine SN.le (l := [(0, _), (1, _), (2, _), (3, _), (10, _), (11, _), (14, _), (19, _), (20, _), (21, _), (77, _), (78, _), (79, _), (89, _)]) ?_ (.cons rfl (.cons rfl (.cons rfl (.cons rfl (.cons rfl (.cons rfl (.cons rfl (.cons rfl (.cons rfl (.cons rfl (.cons rfl (.cons rfl (.cons rfl (.cons rfl (.nil)))))))))))))))
          refine SN_seq ?_
          refine SC_cond_true rfl (by simp [hi0]) ?_
          refine SC_exit rfl ?_
          refine SN_seq ?_
          refine SC_region ?_
          refine SR_pu (RD_addi rfl rfl (by omega) (by omega)) rfl ?_
          refine SR_pu (RD_move rfl) rfl ?_
          refine SR_nil ?_
          refine SN.le (l := [(0, _), (1, _), (2, _), (3, _), (10, _), (11, _), (14, _), (19, _), (77, _), (78, _), (79, _)]) ?_ (.cons rfl (.cons rfl (.cons rfl (.cons rfl (.cons rfl (.cons rfl (.cons rfl (.cons rfl (.cons rfl (.cons rfl (.cons rfl (.nil))))))))))))
          have hKK : qK p x y z al (i + 1) = qK p x y z al i := by
            have h : al = false := by simpa using hg23_2
            unfold qK
            rw [if_pos (.inr ⟨h, by omega⟩), if_pos (.inr ⟨h, by omega⟩)]
          refine SC_again (ih1 ((i + 1, got)) (⟨by dsimp only; omega, hg1, by dsimp only; omega, fun h => by dsimp only at h; omega⟩) (by dsimp only; omega)) (by dsimp only; rw [hKK]; exact .fin) (.cons rfl (.cons rfl (.cons rfl (.cons rfl (.cons rfl (.cons rfl (.cons rfl (.cons rfl (.cons rfl (.cons rfl (.cons' rfl (ie (by dsimp only; omega)) (.nil))))))))))))
        · refine SR_no rfl rfl (hg23_2) (lts rfl) ?_
          refine SR_no rfl rfl (hg23_2) (lts rfl) ?_
          refine SR_pu (RD_pick_f rfl (hg23_2) rfl) rfl ?_
          refine SR_nil ?_
          refine SN.le (l := [(0, _), (1, _), (2, _), (3, _), (10, _), (11, _), (14, _), (19, _), (20, _), (21, _), (77, _), (78, _), (79, _), (89, _)]) ?_ (.cons rfl (.cons rfl (.cons rfl (.cons rfl (.cons rfl (.cons rfl (.cons rfl (.cons rfl (.cons rfl (.cons rfl (.cons rfl (.cons rfl (.cons rfl (.cons rfl (.nil)))))))))))))))
          refine SN_seq ?_
          have hall : al = true := by simpa using hg23_2
          have hsee := qSee k.p p x hx2 y hy2 z hz2 al i hi4 (.inl hall)
          refine SC_cond_false rfl (rfl) ?_
          refine SC_skip ?_
          refine SN_seq ?_
          refine SC_seq ?_
          refine SC_region ?_
          refine SR_pu (RD_move rfl) rfl ?_
          refine SR_pu (RD_move rfl) rfl ?_
          refine SR_pu (RD_move rfl) rfl ?_
          refine SR_call Try.call38 (.cons rfl (.cons rfl (.nil))) (CallsK.at (tree_View p (qS k.p x y z 4) ((i + 2 : Nat) : Int))) (lts rfl) ?_
          rintro _ L6 ⟨rfl, hL6⟩
          rw [hG, show viewOf (some (qB x y z i)) = (qv x y z (i + 1) : Nat) from rfl]
          refine SR.lands hL6 ?_
          refine SR_pu (RD_move rfl) rfl ?_
          refine SR_pu (RD_build (.cons rfl (.cons rfl (.nil))) built34_0_1) rfl ?_
          refine SR_call Try.call53 (.cons rfl (.cons rfl (.nil))) (CallsK.at2 (safe_See' sp p (qK p x y z al i) (by unfold qK; split <;> rfl) (qS k.p x y z 4) (qV k.p hx2 hy2 hz2) (qv x y z (i + 1) : Nat) ((i + 2 : Nat) : Int))) (lts rfl) ?_
          rintro _ L7 ⟨rfl, hL7⟩
          rw [hsee] at hL7 ⊢
          refine SR.lands (hL7 : Lands L7 (At safeI sp (qK p x y z al (i + 1)) :: At treeI p (qS k.p x y z 4) :: _)) ?_
          refine SR_pu (RD_assign rfl) rfl ?_
          refine SR_nil ?_
          refine SN.le (l := [(0, _), (1, _), (2, _), (3, _), (10, _), (11, _), (14, _), (19, _), (20, _), (22, _), (77, _), (78, _), (79, _)]) ?_ (.cons rfl (.cons rfl (.cons rfl (.cons rfl (.cons rfl (.cons rfl (.cons rfl (.cons rfl (.cons rfl (.cons rfl (.cons rfl (.cons rfl (.cons rfl (.nil))))))))))))))
          refine SN_seq ?_
          refine SC_seq ?_
          refine SC_region ?_
          refine SR_pu (RD_assign rfl) rfl ?_
          refine SR_nil ?_
          refine SN.le (l := [(0, _), (1, _), (2, _), (3, _), (10, _), (11, _), (14, _), (19, _), (20, _), (22, _), (23, _), (77, _), (78, _), (79, _)]) ?_ (.cons rfl (.cons rfl (.cons rfl (.cons rfl (.cons rfl (.cons rfl (.cons rfl (.cons rfl (.cons rfl (.cons rfl (.cons rfl (.cons rfl (.cons rfl (.cons rfl (.nil)))))))))))))))
          refine SN_seq ?_
          refine SC_seq ?_
          refine SC_seq ?_
          refine SC_region ?_
          refine SR_pu (RD_move rfl) rfl ?_
          refine SR_pu (RD_eql rfl rfl) rfl ?_
          refine SR_pu (RD_move rfl) rfl ?_
          refine SR_no rfl rfl (by simp [hi0]) (lts rfl) ?_
          refine SR_no rfl rfl (by simp [hi0]) (lts rfl) ?_
          refine SR_no rfl rfl (by simp [hi0]) (lts rfl) ?_
          refine SR_pu (RD_pick_f rfl (by simp [hi0]) rfl) rfl ?_
          refine SR_pu (RD_move rfl) rfl ?_
          refine SR_no rfl rfl (rfl) (lts rfl) ?_
          refine SR_no rfl rfl (rfl) (lts rfl) ?_
          refine SR_no rfl rfl (rfl) (lts rfl) ?_
          refine SR_pu (RD_pick_f rfl (rfl) rfl) rfl ?_
          refine SR_nil ?_
          refine SN.le (l := [(0, _), (1, _), (2, _), (3, _), (10, _), (11, _), (14, _), (19, _), (20, _), (22, _), (23, _), (77, _), (78, _), (79, _), (108, _)]) ?_ (.cons rfl (.cons rfl (.cons rfl (.cons rfl (.cons rfl (.cons rfl (.cons rfl (.cons rfl (.cons rfl (.cons rfl (.cons rfl (.cons rfl (.cons rfl (.cons rfl (.cons rfl (.nil))))))))))))))))
          refine SN_seq ?_
          refine SC_cond_false rfl (rfl) ?_
          refine SC_skip ?_
          refine SN_seq ?_
          refine SC_seq ?_
          refine SC_seq ?_
          refine SC_region ?_
          refine SR_pu (RD_move rfl) rfl ?_
          refine SR_pu (RD_eql rfl rfl) rfl ?_
          refine SR_pu (RD_move rfl) rfl ?_
          refine SR_no rfl rfl (by simp [hi0]) (lts rfl) ?_
          refine SR_no rfl rfl (by simp [hi0]) (lts rfl) ?_
          refine SR_no rfl rfl (by simp [hi0]) (lts rfl) ?_
          refine SR_pu (RD_pick_f rfl (by simp [hi0]) rfl) rfl ?_
          refine SR_pu (RD_move rfl) rfl ?_
          refine SR_no rfl rfl (rfl) (lts rfl) ?_
          refine SR_no rfl rfl (rfl) (lts rfl) ?_
          refine SR_no rfl rfl (rfl) (lts rfl) ?_
          refine SR_pu (RD_pick_f rfl (rfl) rfl) rfl ?_
          refine SR_nil ?_
          refine SN.le (l := [(0, _), (1, _), (2, _), (3, _), (10, _), (11, _), (14, _), (19, _), (22, _), (23, _), (77, _), (78, _), (79, _), (123, _)]) ?_ (.cons rfl (.cons rfl (.cons rfl (.cons rfl (.cons rfl (.cons rfl (.cons rfl (.cons rfl (.cons rfl (.cons rfl (.cons rfl (.cons rfl (.cons rfl (.cons rfl (.nil)))))))))))))))
          refine SN_seq ?_
          refine SC_cond_false rfl (rfl) ?_
          refine SC_skip ?_
          refine SN_seq ?_
          refine SC_seq ?_
          refine SC_seq ?_
          refine SC_region ?_
          refine SR_pu (RD_move rfl) rfl ?_
          refine SR_pu (RD_move rfl) rfl ?_
          refine SR_pu (RD_neq rfl rfl) rfl ?_
          refine SR_nil ?_
          refine SN.le (l := [(0, _), (1, _), (2, _), (3, _), (10, _), (11, _), (14, _), (19, _), (77, _), (78, _), (79, _), (129, _)]) ?_ (.cons rfl (.cons rfl (.cons rfl (.cons rfl (.cons rfl (.cons rfl (.cons rfl (.cons rfl (.cons rfl (.cons rfl (.cons rfl (.cons rfl (.nil)))))))))))))
          refine SN_seq ?_
          refine SC_cond_false rfl (by first | (simp [qW, hi0]; done) | (have hh := hx; have hh2 := hy; have hh3 := hz; simp [qW, hi0] at *; omega)) ?_
          refine SC_skip ?_
          refine SN_seq ?_
          refine SC_region ?_
          refine SR_pu (RD_move rfl) rfl ?_
          refine SR_pu (RD_addi rfl rfl (by omega) (by omega)) rfl ?_
          refine SR_pu (RD_assign rfl) rfl ?_
          refine SR_nil ?_
          refine SN.le (l := [(0, _), (1, _), (2, _), (3, _), (10, _), (11, _), (14, _), (19, _), (77, _), (78, _), (79, _)]) ?_ (.cons rfl (.cons rfl (.cons rfl (.cons rfl (.cons rfl (.cons rfl (.cons rfl (.cons rfl (.cons rfl (.cons rfl (.cons rfl (.nil))))))))))))
          refine SN_block ?_
          refine SN_seq ?_
          refine SC_region ?_
          refine SR_pu (RD_addi rfl rfl (by omega) (by omega)) rfl ?_
          refine SR_pu (RD_move rfl) rfl ?_
          refine SR_nil ?_
          refine SN.le (l := [(0, _), (1, _), (2, _), (3, _), (10, _), (11, _), (14, _), (19, _), (77, _), (78, _), (79, _)]) ?_ (.cons rfl (.cons rfl (.cons rfl (.cons rfl (.cons rfl (.cons rfl (.cons rfl (.cons rfl (.cons rfl (.cons rfl (.cons rfl (.nil))))))))))))
          refine SC_again (ih1 ((i + 1, got + 1)) (⟨by dsimp only; omega, by dsimp only; omega, by dsimp only; omega, fun h => by dsimp only; omega⟩) (by dsimp only; omega)) (.fin) (.cons rfl (.cons rfl (.cons rfl (.cons rfl (.cons rfl (.cons rfl (.cons rfl (.cons rfl (.cons rfl (.cons rfl (.cons' rfl (ie (by dsimp only; omega)) (.nil))))))))))))
      · refine SC_skip ?_
        refine SN_seq ?_
        refine SC_seq ?_
        refine SC_block ?_
        refine SC_seq ?_
        refine SC_region ?_
        refine SR_pu (RD_move rfl) rfl ?_
        refine SR_rd (RD_ixO (cs := (qR 4).map intV) Try.runUnderlying22 Try.sizeOf3 rfl rfl (by simp [qR]) (by omega) (by omega)) Has.ro rfl ?_
        refine SR_rd (RD_loadO (v := .int .i64 ((i + 2 : Nat) : Int)) (cs := (qR 4).map intV) Try.isAgg3 rfl (by simp [hR, intV])) Has.ro rfl ?_
        refine SR_pu (RD_assign rfl) rfl ?_
        refine SR_pu (RD_assign rfl) rfl ?_
        refine SR_nil ?_
        refine SN.le (l := [(0, _), (1, _), (2, _), (3, _), (10, _), (11, _), (14, _), (19, _), (20, _), (21, _), (77, _), (78, _), (79, _)]) ?_ (.cons rfl (.cons rfl (.cons rfl (.cons rfl (.cons rfl (.cons rfl (.cons rfl (.cons rfl (.cons rfl (.cons rfl (.cons rfl (.cons rfl (.cons rfl (.nil))))))))))))))
        refine SN_seq ?_
        refine SC_seq ?_
        refine SC_seq ?_
        refine SC_region ?_
        refine SR_pu (RD_move rfl) rfl ?_
        refine SR_pu (RD_not rfl) rfl ?_
        refine SR_pu (RD_move rfl) rfl ?_
        refine SR_guard rfl rfl (fun hg23_2 => ?_) (fun hg23_2 => ?_)
        · refine SR_yes rfl rfl (hg23_2) ?_
          refine SR_pu (RD_move rfl) rfl ?_
          refine SR_yes rfl rfl (hg23_2) ?_
          refine SR_pu (RD_lss rfl rfl) rfl ?_
          refine SR_pu (RD_pick_t rfl (hg23_2) rfl) rfl ?_
          refine SR_nil ?_
          refine SN.le (l := [(0, _), (1, _), (2, _), (3, _), (10, _), (11, _), (14, _), (19, _), (20, _), (21, _), (77, _), (78, _), (79, _), (89, _)]) ?_ (.cons rfl (.cons rfl (.cons rfl (.cons rfl (.cons rfl (.cons rfl (.cons rfl (.cons rfl (.cons rfl (.cons rfl (.cons rfl (.cons rfl (.cons rfl (.cons rfl (.nil)))))))))))))))
          refine SN_seq ?_
          refine SC_cond_true rfl (by simp [hi0]) ?_
          refine SC_exit rfl ?_
          refine SN_seq ?_
          refine SC_region ?_
          refine SR_pu (RD_addi rfl rfl (by omega) (by omega)) rfl ?_
          refine SR_pu (RD_move rfl) rfl ?_
          refine SR_nil ?_
          refine SN.le (l := [(0, _), (1, _), (2, _), (3, _), (10, _), (11, _), (14, _), (19, _), (77, _), (78, _), (79, _)]) ?_ (.cons rfl (.cons rfl (.cons rfl (.cons rfl (.cons rfl (.cons rfl (.cons rfl (.cons rfl (.cons rfl (.cons rfl (.cons rfl (.nil))))))))))))
          have hKK : qK p x y z al (i + 1) = qK p x y z al i := by
            have h : al = false := by simpa using hg23_2
            unfold qK
            rw [if_pos (.inr ⟨h, by omega⟩), if_pos (.inr ⟨h, by omega⟩)]
          refine SC_again (ih1 ((i + 1, got)) (⟨by dsimp only; omega, hg1, by dsimp only; omega, fun h => by dsimp only at h; omega⟩) (by dsimp only; omega)) (by dsimp only; rw [hKK]; exact .fin) (.cons rfl (.cons rfl (.cons rfl (.cons rfl (.cons rfl (.cons rfl (.cons rfl (.cons rfl (.cons rfl (.cons rfl (.cons' rfl (ie (by dsimp only; omega)) (.nil))))))))))))
        · refine SR_no rfl rfl (hg23_2) (lts rfl) ?_
          refine SR_no rfl rfl (hg23_2) (lts rfl) ?_
          refine SR_pu (RD_pick_f rfl (hg23_2) rfl) rfl ?_
          refine SR_nil ?_
          refine SN.le (l := [(0, _), (1, _), (2, _), (3, _), (10, _), (11, _), (14, _), (19, _), (20, _), (21, _), (77, _), (78, _), (79, _), (89, _)]) ?_ (.cons rfl (.cons rfl (.cons rfl (.cons rfl (.cons rfl (.cons rfl (.cons rfl (.cons rfl (.cons rfl (.cons rfl (.cons rfl (.cons rfl (.cons rfl (.cons rfl (.nil)))))))))))))))
          refine SN_seq ?_
          have hall : al = true := by simpa using hg23_2
          have hsee := qSee k.p p x hx2 y hy2 z hz2 al i hi4 (.inl hall)
          refine SC_cond_false rfl (rfl) ?_
          refine SC_skip ?_
          refine SN_seq ?_
          refine SC_seq ?_
          refine SC_region ?_
          refine SR_pu (RD_move rfl) rfl ?_
          refine SR_pu (RD_move rfl) rfl ?_
          refine SR_pu (RD_move rfl) rfl ?_
          refine SR_call Try.call38 (.cons rfl (.cons rfl (.nil))) (CallsK.at (tree_View p (qS k.p x y z 4) ((i + 2 : Nat) : Int))) (lts rfl) ?_
          rintro _ L6 ⟨rfl, hL6⟩
          rw [hG, show viewOf (some (qB x y z i)) = (qv x y z (i + 1) : Nat) from rfl]
          refine SR.lands hL6 ?_
          refine SR_pu (RD_move rfl) rfl ?_
          refine SR_pu (RD_build (.cons rfl (.cons rfl (.nil))) built34_0_1) rfl ?_
          refine SR_call Try.call53 (.cons rfl (.cons rfl (.nil))) (CallsK.at2 (safe_See' sp p (qK p x y z al i) (by unfold qK; split <;> rfl) (qS k.p x y z 4) (qV k.p hx2 hy2 hz2) (qv x y z (i + 1) : Nat) ((i + 2 : Nat) : Int))) (lts rfl) ?_
          rintro _ L7 ⟨rfl, hL7⟩
          rw [hsee] at hL7 ⊢
          refine SR.lands (hL7 : Lands L7 (At safeI sp (qK p x y z al (i + 1)) :: At treeI p (qS k.p x y z 4) :: _)) ?_
          refine SR_pu (RD_assign rfl) rfl ?_
          refine SR_nil ?_
          refine SN.le (l := [(0, _), (1, _), (2, _), (3, _), (10, _), (11, _), (14, _), (19, _), (20, _), (22, _), (77, _), (78, _), (79, _)]) ?_ (.cons rfl (.cons rfl (.cons rfl (.cons rfl (.cons rfl (.cons rfl (.cons rfl (.cons rfl (.cons rfl (.cons rfl (.cons rfl (.cons rfl (.cons rfl (.nil))))))))))))))
          refine SN_seq ?_
          refine SC_seq ?_
          refine SC_region ?_
          refine SR_pu (RD_assign rfl) rfl ?_
          refine SR_nil ?_
          refine SN.le (l := [(0, _), (1, _), (2, _), (3, _), (10, _), (11, _), (14, _), (19, _), (20, _), (22, _), (23, _), (77, _), (78, _), (79, _)]) ?_ (.cons rfl (.cons rfl (.cons rfl (.cons rfl (.cons rfl (.cons rfl (.cons rfl (.cons rfl (.cons rfl (.cons rfl (.cons rfl (.cons rfl (.cons rfl (.cons rfl (.nil)))))))))))))))
          refine SN_seq ?_
          refine SC_seq ?_
          refine SC_seq ?_
          refine SC_region ?_
          refine SR_pu (RD_move rfl) rfl ?_
          refine SR_pu (RD_eql rfl rfl) rfl ?_
          refine SR_pu (RD_move rfl) rfl ?_
          refine SR_yes rfl rfl (by simp [hi0]) ?_
          refine SR_pu (RD_move rfl) rfl ?_
          refine SR_yes rfl rfl (by simp [hi0]) ?_
          refine SR_pu (RD_mask 1 rfl rfl rfl (by decide) 2 rfl) rfl ?_
          refine SR_yes rfl rfl (by simp [hi0]) ?_
          refine SR_pu (RD_eql rfl rfl) rfl ?_
          refine SR_pu (RD_pick_t rfl (by simp [hi0]) rfl) rfl ?_
          refine SR_pu (RD_move rfl) rfl ?_
          refine SR_guard rfl rfl (fun hg26_7 => ?_) (fun hg26_7 => ?_)
          · refine SR_yes rfl rfl (hg26_7) ?_
            refine SR_pu (RD_move rfl) rfl ?_
            refine SR_yes rfl rfl (hg26_7) ?_
            refine SR_pu (RD_mask 1 rfl rfl rfl (by decide) 2 rfl) rfl ?_
            refine SR_yes rfl rfl (hg26_7) ?_
            refine SR_pu (RD_eql rfl rfl) rfl ?_
            refine SR_pu (RD_pick_t rfl (hg26_7) rfl) rfl ?_
            refine SR_nil ?_
            refine SN.le (l := [(0, _), (1, _), (2, _), (3, _), (10, _), (11, _), (14, _), (19, _), (20, _), (22, _), (23, _), (77, _), (78, _), (79, _), (108, _)]) ?_ (.cons rfl (.cons rfl (.cons rfl (.cons rfl (.cons rfl (.cons rfl (.cons rfl (.cons rfl (.cons rfl (.cons rfl (.cons rfl (.cons rfl (.cons rfl (.cons rfl (.cons rfl (.nil))))))))))))))))
            refine SN_seq ?_
            refine SC_cond rfl (fun hc108 => ?_) (fun hc108 => ?_)
            · refine SC_region ?_
              refine SR_pu (RD_move rfl) rfl ?_
              refine SR_rd (RD_ixO (i := (0 : Nat)) (cs := (qR 4).map intV) Try.runUnderlying22 Try.sizeOf3 rfl rfl (by simp [qR]) (by omega) (by omega)) Has.ro rfl ?_
              refine SR_rd (RD_loadO (v := .int .i64 2) (cs := (qR 4).map intV) Try.isAgg3 rfl rfl) Has.ro rfl ?_
              refine SR_pu (RD_assign rfl) rfl ?_
              refine SR_nil ?_
              refine SN.le (l := [(0, _), (1, _), (2, _), (3, _), (10, _), (11, _), (14, _), (19, _), (20, _), (22, _), (23, _), (77, _), (78, _), (79, _)]) ?_ (.cons rfl (.cons rfl (.cons rfl (.cons rfl (.cons rfl (.cons rfl (.cons rfl (.cons rfl (.cons rfl (.cons rfl (.cons rfl (.cons rfl (.cons rfl (.cons rfl (.nil)))))))))))))))
              refine SN_seq ?_
              refine SC_seq ?_
              refine SC_seq ?_
              refine SC_region ?_
              refine SR_pu (RD_move rfl) rfl ?_
              refine SR_pu (RD_eql rfl rfl) rfl ?_
              refine SR_pu (RD_move rfl) rfl ?_
              refine SR_no rfl rfl (by simp [hi0]) (lts rfl) ?_
              refine SR_no rfl rfl (by simp [hi0]) (lts rfl) ?_
              refine SR_no rfl rfl (by simp [hi0]) (lts rfl) ?_
              refine SR_pu (RD_pick_f rfl (by simp [hi0]) rfl) rfl ?_
              refine SR_pu (RD_move rfl) rfl ?_
              refine SR_no rfl rfl (rfl) (lts rfl) ?_
              refine SR_no rfl rfl (rfl) (lts rfl) ?_
              refine SR_no rfl rfl (rfl) (lts rfl) ?_
              refine SR_pu (RD_pick_f rfl (rfl) rfl) rfl ?_
              refine SR_nil ?_
              refine SN.le (l := [(0, _), (1, _), (2, _), (3, _), (10, _), (11, _), (14, _), (19, _), (22, _), (23, _), (77, _), (78, _), (79, _), (123, _)]) ?_ (.cons rfl (.cons rfl (.cons rfl (.cons rfl (.cons rfl (.cons rfl (.cons rfl (.cons rfl (.cons rfl (.cons rfl (.cons rfl (.cons rfl (.cons rfl (.cons rfl (.nil)))))))))))))))
              refine SN_seq ?_
              refine SC_cond_false rfl (rfl) ?_
              refine SC_skip ?_
              refine SN_seq ?_
              refine SC_seq ?_
              refine SC_seq ?_
              refine SC_region ?_
              refine SR_pu (RD_move rfl) rfl ?_
              refine SR_pu (RD_move rfl) rfl ?_
              refine SR_pu (RD_neq rfl rfl) rfl ?_
              refine SR_nil ?_
              refine SN.le (l := [(0, _), (1, _), (2, _), (3, _), (10, _), (11, _), (14, _), (19, _), (77, _), (78, _), (79, _), (129, _)]) ?_ (.cons rfl (.cons rfl (.cons rfl (.cons rfl (.cons rfl (.cons rfl (.cons rfl (.cons rfl (.cons rfl (.cons rfl (.cons rfl (.cons rfl (.nil)))))))))))))
              refine SN_seq ?_
              refine SC_cond_false rfl (by first | (simp [qW, hi0]; done) | (have hh := hx; have hh2 := hy; have hh3 := hz; simp [qW, hi0] at *; omega)) ?_
              refine SC_skip ?_
              refine SN_seq ?_
              refine SC_region ?_
              refine SR_pu (RD_move rfl) rfl ?_
              refine SR_pu (RD_addi rfl rfl (by omega) (by omega)) rfl ?_
              refine SR_pu (RD_assign rfl) rfl ?_
              refine SR_nil ?_
              refine SN.le (l := [(0, _), (1, _), (2, _), (3, _), (10, _), (11, _), (14, _), (19, _), (77, _), (78, _), (79, _)]) ?_ (.cons rfl (.cons rfl (.cons rfl (.cons rfl (.cons rfl (.cons rfl (.cons rfl (.cons rfl (.cons rfl (.cons rfl (.cons rfl (.nil))))))))))))
              refine SN_block ?_
              refine SN_seq ?_
              refine SC_region ?_
              refine SR_pu (RD_addi rfl rfl (by omega) (by omega)) rfl ?_
              refine SR_pu (RD_move rfl) rfl ?_
              refine SR_nil ?_
              refine SN.le (l := [(0, _), (1, _), (2, _), (3, _), (10, _), (11, _), (14, _), (19, _), (77, _), (78, _), (79, _)]) ?_ (.cons rfl (.cons rfl (.cons rfl (.cons rfl (.cons rfl (.cons rfl (.cons rfl (.cons rfl (.cons rfl (.cons rfl (.cons rfl (.nil))))))))))))
              refine SC_again (ih1 ((i + 1, got + 1)) (⟨by dsimp only; omega, by dsimp only; omega, by dsimp only; omega, fun h => by dsimp only; omega⟩) (by dsimp only; omega)) (.fin) (.cons rfl (.cons rfl (.cons rfl (.cons rfl (.cons rfl (.cons rfl (.cons rfl (.cons rfl (.cons rfl (.cons rfl (.cons' rfl (ie (by dsimp only; omega)) (.nil))))))))))))
            · refine SC_skip ?_
              refine SN_seq ?_
              refine SC_seq ?_
              refine SC_seq ?_
              refine SC_region ?_
              refine SR_pu (RD_move rfl) rfl ?_
              refine SR_pu (RD_eql rfl rfl) rfl ?_
              refine SR_pu (RD_move rfl) rfl ?_
              refine SR_no rfl rfl (by simp [hi0]) (lts rfl) ?_
              refine SR_no rfl rfl (by simp [hi0]) (lts rfl) ?_
              refine SR_no rfl rfl (by simp [hi0]) (lts rfl) ?_
              refine SR_pu (RD_pick_f rfl (by simp [hi0]) rfl) rfl ?_
              refine SR_pu (RD_move rfl) rfl ?_
              refine SR_no rfl rfl (rfl) (lts rfl) ?_
              refine SR_no rfl rfl (rfl) (lts rfl) ?_
              refine SR_no rfl rfl (rfl) (lts rfl) ?_
              refine SR_pu (RD_pick_f rfl (rfl) rfl) rfl ?_
              refine SR_nil ?_
              refine SN.le (l := [(0, _), (1, _), (2, _), (3, _), (10, _), (11, _), (14, _), (19, _), (22, _), (23, _), (77, _), (78, _), (79, _), (123, _)]) ?_ (.cons rfl (.cons rfl (.cons rfl (.cons rfl (.cons rfl (.cons rfl (.cons rfl (.cons rfl (.cons rfl (.cons rfl (.cons rfl (.cons rfl (.cons rfl (.cons rfl (.nil)))))))))))))))
              refine SN_seq ?_
              refine SC_cond_false rfl (rfl) ?_
              refine SC_skip ?_
              refine SN_seq ?_
              refine SC_seq ?_
              refine SC_seq ?_
              refine SC_region ?_
              refine SR_pu (RD_move rfl) rfl ?_
              refine SR_pu (RD_move rfl) rfl ?_
              refine SR_pu (RD_neq rfl rfl) rfl ?_
              refine SR_nil ?_
              refine SN.le (l := [(0, _), (1, _), (2, _), (3, _), (10, _), (11, _), (14, _), (19, _), (77, _), (78, _), (79, _), (129, _)]) ?_ (.cons rfl (.cons rfl (.cons rfl (.cons rfl (.cons rfl (.cons rfl (.cons rfl (.cons rfl (.cons rfl (.cons rfl (.cons rfl (.cons rfl (.nil)))))))))))))
              refine SN_seq ?_
              refine SC_cond_false rfl (by first | (simp [qW, hi0]; done) | (have hh := hx; have hh2 := hy; have hh3 := hz; simp [qW, hi0] at *; omega)) ?_
              refine SC_skip ?_
              refine SN_seq ?_
              refine SC_region ?_
              refine SR_pu (RD_move rfl) rfl ?_
              refine SR_pu (RD_addi rfl rfl (by omega) (by omega)) rfl ?_
              refine SR_pu (RD_assign rfl) rfl ?_
              refine SR_nil ?_
              refine SN.le (l := [(0, _), (1, _), (2, _), (3, _), (10, _), (11, _), (14, _), (19, _), (77, _), (78, _), (79, _)]) ?_ (.cons rfl (.cons rfl (.cons rfl (.cons rfl (.cons rfl (.cons rfl (.cons rfl (.cons rfl (.cons rfl (.cons rfl (.cons rfl (.nil))))))))))))
              refine SN_block ?_
              refine SN_seq ?_
              refine SC_region ?_
              refine SR_pu (RD_addi rfl rfl (by omega) (by omega)) rfl ?_
              refine SR_pu (RD_move rfl) rfl ?_
              refine SR_nil ?_
              refine SN.le (l := [(0, _), (1, _), (2, _), (3, _), (10, _), (11, _), (14, _), (19, _), (77, _), (78, _), (79, _)]) ?_ (.cons rfl (.cons rfl (.cons rfl (.cons rfl (.cons rfl (.cons rfl (.cons rfl (.cons rfl (.cons rfl (.cons rfl (.cons rfl (.nil))))))))))))
              refine SC_again (ih1 ((i + 1, got + 1)) (⟨by dsimp only; omega, by dsimp only; omega, by dsimp only; omega, fun h => by dsimp only; omega⟩) (by dsimp only; omega)) (.fin) (.cons rfl (.cons rfl (.cons rfl (.cons rfl (.cons rfl (.cons rfl (.cons rfl (.cons rfl (.cons rfl (.cons rfl (.cons' rfl (ie (by dsimp only; omega)) (.nil))))))))))))
          · refine SR_no rfl rfl (hg26_7) (lts rfl) ?_
            refine SR_no rfl rfl (hg26_7) (lts rfl) ?_
            refine SR_no rfl rfl (hg26_7) (lts rfl) ?_
            refine SR_pu (RD_pick_f rfl (hg26_7) rfl) rfl ?_
            refine SR_nil ?_
            refine SN.le (l := [(0, _), (1, _), (2, _), (3, _), (10, _), (11, _), (14, _), (19, _), (20, _), (22, _), (23, _), (77, _), (78, _), (79, _), (108, _)]) ?_ (.cons rfl (.cons rfl (.cons rfl (.cons rfl (.cons rfl (.cons rfl (.cons rfl (.cons rfl (.cons rfl (.cons rfl (.cons rfl (.cons rfl (.cons rfl (.cons rfl (.cons rfl (.nil))))))))))))))))
            refine SN_seq ?_
            refine SC_cond_false rfl (rfl) ?_
            refine SC_skip ?_
            refine SN_seq ?_
            refine SC_seq ?_
            refine SC_seq ?_
            refine SC_region ?_
            refine SR_pu (RD_move rfl) rfl ?_
            refine SR_pu (RD_eql rfl rfl) rfl ?_
            refine SR_pu (RD_move rfl) rfl ?_
            refine SR_no rfl rfl (by simp [hi0]) (lts rfl) ?_
            refine SR_no rfl rfl (by simp [hi0]) (lts rfl) ?_
            refine SR_no rfl rfl (by simp [hi0]) (lts rfl) ?_
            refine SR_pu (RD_pick_f rfl (by simp [hi0]) rfl) rfl ?_
            refine SR_pu (RD_move rfl) rfl ?_
            refine SR_no rfl rfl (rfl) (lts rfl) ?_
            refine SR_no rfl rfl (rfl) (lts rfl) ?_
            refine SR_no rfl rfl (rfl) (lts rfl) ?_
            refine SR_pu (RD_pick_f rfl (rfl) rfl) rfl ?_
            refine SR_nil ?_
            refine SN.le (l := [(0, _), (1, _), (2, _), (3, _), (10, _), (11, _), (14, _), (19, _), (22, _), (23, _), (77, _), (78, _), (79, _), (123, _)]) ?_ (.cons rfl (.cons rfl (.cons rfl (.cons rfl (.cons rfl (.cons rfl (.cons rfl (.cons rfl (.cons rfl (.cons rfl (.cons rfl (.cons rfl (.cons rfl (.cons rfl (.nil)))))))))))))))
            refine SN_seq ?_
            refine SC_cond_false rfl (rfl) ?_
            refine SC_skip ?_
            refine SN_seq ?_
            refine SC_seq ?_
            refine SC_seq ?_
            refine SC_region ?_
            refine SR_pu (RD_move rfl) rfl ?_
            refine SR_pu (RD_move rfl) rfl ?_
            refine SR_pu (RD_neq rfl rfl) rfl ?_
            refine SR_nil ?_
            refine SN.le (l := [(0, _), (1, _), (2, _), (3, _), (10, _), (11, _), (14, _), (19, _), (77, _), (78, _), (79, _), (129, _)]) ?_ (.cons rfl (.cons rfl (.cons rfl (.cons rfl (.cons rfl (.cons rfl (.cons rfl (.cons rfl (.cons rfl (.cons rfl (.cons rfl (.cons rfl (.nil)))))))))))))
            refine SN_seq ?_
            refine SC_cond_false rfl (by first | (simp [qW, hi0]; done) | (have hh := hx; have hh2 := hy; have hh3 := hz; simp [qW, hi0] at *; omega)) ?_
            refine SC_skip ?_
            refine SN_seq ?_
            refine SC_region ?_
            refine SR_pu (RD_move rfl) rfl ?_
            refine SR_pu (RD_addi rfl rfl (by omega) (by omega)) rfl ?_
            refine SR_pu (RD_assign rfl) rfl ?_
            refine SR_nil ?_
            refine SN.le (l := [(0, _), (1, _), (2, _), (3, _), (10, _), (11, _), (14, _), (19, _), (77, _), (78, _), (79, _)]) ?_ (.cons rfl (.cons rfl (.cons rfl (.cons rfl (.cons rfl (.cons rfl (.cons rfl (.cons rfl (.cons rfl (.cons rfl (.cons rfl (.nil))))))))))))
            refine SN_block ?_
            refine SN_seq ?_
            refine SC_region ?_
            refine SR_pu (RD_addi rfl rfl (by omega) (by omega)) rfl ?_
            refine SR_pu (RD_move rfl) rfl ?_
            refine SR_nil ?_
            refine SN.le (l := [(0, _), (1, _), (2, _), (3, _), (10, _), (11, _), (14, _), (19, _), (77, _), (78, _), (79, _)]) ?_ (.cons rfl (.cons rfl (.cons rfl (.cons rfl (.cons rfl (.cons rfl (.cons rfl (.cons rfl (.cons rfl (.cons rfl (.cons rfl (.nil))))))))))))
            refine SC_again (ih1 ((i + 1, got + 1)) (⟨by dsimp only; omega, by dsimp only; omega, by dsimp only; omega, fun h => by dsimp only; omega⟩) (by dsimp only; omega)) (.fin) (.cons rfl (.cons rfl (.cons rfl (.cons rfl (.cons rfl (.cons rfl (.cons rfl (.cons rfl (.cons rfl (.cons rfl (.cons' rfl (ie (by dsimp only; omega)) (.nil))))))))))))
      · refine SC_skip ?_
        refine SN_seq ?_
        refine SC_seq ?_
        refine SC_block ?_
        refine SC_seq ?_
        refine SC_region ?_
        refine SR_pu (RD_move rfl) rfl ?_
        refine SR_rd (RD_ixO (cs := (qR 4).map intV) Try.runUnderlying22 Try.sizeOf3 rfl rfl (by simp [qR]) (by omega) (by omega)) Has.ro rfl ?_
        refine SR_rd (RD_loadO (v := .int .i64 ((i + 2 : Nat) : Int)) (cs := (qR 4).map intV) Try.isAgg3 rfl (by simp [hR, intV])) Has.ro rfl ?_
        refine SR_pu (RD_assign rfl) rfl ?_
        refine SR_pu (RD_assign rfl) rfl ?_
        refine SR_nil ?_
        refine SN.le (l := [(0, _), (1, _), (2, _), (3, _), (10, _), (11, _), (14, _), (19, _), (20, _), (21, _), (77, _), (78, _), (79, _)]) ?_ (.cons rfl (.cons rfl (.cons rfl (.cons rfl (.cons rfl (.cons rfl (.cons rfl (.cons rfl (.cons rfl (.cons rfl (.cons rfl (.cons rfl (.cons rfl (.nil))))))))))))))
        refine SN_seq ?_
        refine SC_seq ?_
        refine SC_seq ?_
        refine SC_region ?_
        refine SR_pu (RD_move rfl) rfl ?_
        refine SR_pu (RD_not rfl) rfl ?_
        refine SR_pu (RD_move rfl) rfl ?_
        refine SR_guard rfl rfl (fun hg23_2 => ?_) (fun hg23_2 => ?_)
        · refine SR_yes rfl rfl (hg23_2) ?_
          refine SR_pu (RD_move rfl) rfl ?_
          refine SR_yes rfl rfl (hg23_2) ?_
          refine SR_pu (RD_lss rfl rfl) rfl ?_
          refine SR_pu (RD_pick_t rfl (hg23_2) rfl) rfl ?_
          refine SR_nil ?_
          refine SN.le (l := [(0, _), (1, _), (2, _), (3, _), (10, _), (11, _), (14, _), (19, _), (20, _), (21, _), (77, _), (78, _), (79, _), (89, _)]) ?_ (.cons rfl (.cons rfl (.cons rfl (.cons rfl (.cons rfl (.cons rfl (.cons rfl (.cons rfl (.cons rfl (.cons rfl (.cons rfl (.cons rfl (.cons rfl (.cons rfl (.nil)))))))))))))))
          refine SN_seq ?_
          have hsee := qSee k.p p x hx2 y hy2 z hz2 al i hi4 (.inr hi0)
          refine SC_cond_false rfl (by simp [hi0]) ?_
          refine SC_skip ?_
          refine SN_seq ?_
          refine SC_seq ?_
          refine SC_region ?_
          refine SR_pu (RD_move rfl) rfl ?_
          refine SR_pu (RD_move rfl) rfl ?_
          refine SR_pu (RD_move rfl) rfl ?_
          refine SR_call Try.call38 (.cons rfl (.cons rfl (.nil))) (CallsK.at (tree_View p (qS k.p x y z 4) ((i + 2 : Nat) : Int))) (lts rfl) ?_
          rintro _ L6 ⟨rfl, hL6⟩
          rw [hG, show viewOf (some (qB x y z i)) = (qv x y z (i + 1) : Nat) from rfl]
          refine SR.lands hL6 ?_
          refine SR_pu (RD_move rfl) rfl ?_
          refine SR_pu (RD_build (.cons rfl (.cons rfl (.nil))) built34_0_1) rfl ?_
          refine SR_call Try.call53 (.cons rfl (.cons rfl (.nil))) (CallsK.at2 (safe_See' sp p (qK p x y z al i) (by unfold qK; split <;> rfl) (qS k.p x y z 4) (qV k.p hx2 hy2 hz2) (qv x y z (i + 1) : Nat) ((i + 2 : Nat) : Int))) (lts rfl) ?_
          rintro _ L7 ⟨rfl, hL7⟩
          rw [hsee] at hL7 ⊢
          refine SR.lands (hL7 : Lands L7 (At safeI sp (qK p x y z al (i + 1)) :: At treeI p (qS k.p x y z 4) :: _)) ?_
          refine SR_pu (RD_assign rfl) rfl ?_
          refine SR_nil ?_
          refine SN.le (l := [(0, _), (1, _), (2, _), (3, _), (10, _), (11, _), (14, _), (19, _), (20, _), (22, _), (77, _), (78, _), (79, _)]) ?_ (.cons rfl (.cons rfl (.cons rfl (.cons rfl (.cons rfl (.cons rfl (.cons rfl (.cons rfl (.cons rfl (.cons rfl (.cons rfl (.cons rfl (.cons rfl (.nil))))))))))))))
          refine SN_seq ?_
          refine SC_seq ?_
          refine SC_region ?_
          refine SR_pu (RD_assign rfl) rfl ?_
          refine SR_nil ?_
          refine SN.le (l := [(0, _), (1, _), (2, _), (3, _), (10, _), (11, _), (14, _), (19, _), (20, _), (22, _), (23, _), (77, _), (78, _), (79, _)]) ?_ (.cons rfl (.cons rfl (.cons rfl (.cons rfl (.cons rfl (.cons rfl (.cons rfl (.cons rfl (.cons rfl (.cons rfl (.cons rfl (.cons rfl (.cons rfl (.cons rfl (.nil)))))))))))))))
          refine SN_seq ?_
          refine SC_seq ?_
          refine SC_seq ?_
          refine SC_region ?_
          refine SR_pu (RD_move rfl) rfl ?_
          refine SR_pu (RD_eql rfl rfl) rfl ?_
          refine SR_pu (RD_move rfl) rfl ?_
          refine SR_no rfl rfl (by simp [hi0]) (lts rfl) ?_
          refine SR_no rfl rfl (by simp [hi0]) (lts rfl) ?_
          refine SR_no rfl rfl (by simp [hi0]) (lts rfl) ?_
          refine SR_pu (RD_pick_f rfl (by simp [hi0]) rfl) rfl ?_
          refine SR_pu (RD_move rfl) rfl ?_
          refine SR_no rfl rfl (rfl) (lts rfl) ?_
          refine SR_no rfl rfl (rfl) (lts rfl) ?_
          refine SR_no rfl rfl (rfl) (lts rfl) ?_
          refine SR_pu (RD_pick_f rfl (rfl) rfl) rfl ?_
          refine SR_nil ?_
          refine SN.le (l := [(0, _), (1, _), (2, _), (3, _), (10, _), (11, _), (14, _), (19, _), (20, _), (22, _), (23, _), (77, _), (78, _), (79, _), (108, _)]) ?_ (.cons rfl (.cons rfl (.cons rfl (.cons rfl (.cons rfl (.cons rfl (.cons rfl (.cons rfl (.cons rfl (.cons rfl (.cons rfl (.cons rfl (.cons rfl (.cons rfl (.cons rfl (.nil))))))))))))))))
          refine SN_seq ?_
          refine SC_cond_false rfl (rfl) ?_
          refine SC_skip ?_
          refine SN_seq ?_
          refine SC_seq ?_
          refine SC_seq ?_
          refine SC_region ?_
          refine SR_pu (RD_move rfl) rfl ?_
          refine SR_pu (RD_eql rfl rfl) rfl ?_
          refine SR_pu (RD_move rfl) rfl ?_
          refine SR_yes rfl rfl (by simp [hi0]) ?_
          refine SR_pu (RD_move rfl) rfl ?_
          refine SR_yes rfl rfl (by simp [hi0]) ?_
          refine SR_pu (RD_mask 1 rfl rfl rfl (by decide) 2 rfl) rfl ?_
          refine SR_yes rfl rfl (by simp [hi0]) ?_
          refine SR_pu (RD_eql rfl rfl) rfl ?_
          refine SR_pu (RD_pick_t rfl (by simp [hi0]) rfl) rfl ?_
          refine SR_pu (RD_move rfl) rfl ?_
          refine SR_guard rfl rfl (fun hg28_7 => ?_) (fun hg28_7 => ?_)
          · refine SR_yes rfl rfl (hg28_7) ?_
            refine SR_pu (RD_move rfl) rfl ?_
            refine SR_yes rfl rfl (hg28_7) ?_
            refine SR_pu (RD_mask 1 rfl rfl rfl (by decide) 2 rfl) rfl ?_
            refine SR_yes rfl rfl (hg28_7) ?_
            refine SR_pu (RD_eql rfl rfl) rfl ?_
            refine SR_pu (RD_pick_t rfl (hg28_7) rfl) rfl ?_
            refine SR_nil ?_
            refine SN.le (l := [(0, _), (1, _), (2, _), (3, _), (10, _), (11, _), (14, _), (19, _), (22, _), (23, _), (77, _), (78, _), (79, _), (123, _)]) ?_ (.cons rfl (.cons rfl (.cons rfl (.cons rfl (.cons rfl (.cons rfl (.cons rfl (.cons rfl (.cons rfl (.cons rfl (.cons rfl (.cons rfl (.cons rfl (.cons rfl (.nil)))))))))))))))
            refine SN_seq ?_
            refine SC_cond rfl (fun hc123 => ?_) (fun hc123 => ?_)
            · refine SC_region ?_
              refine SR_pu (RD_move rfl) rfl ?_
              refine SR_rd (RD_ixO (i := (1 : Nat)) (cs := (qR 4).map intV) Try.runUnderlying22 Try.sizeOf3 rfl rfl (by simp [qR]) (by omega) (by omega)) Has.ro rfl ?_
              refine SR_rd (RD_loadO (v := .int .i64 3) (cs := (qR 4).map intV) Try.isAgg3 rfl rfl) Has.ro rfl ?_
              refine SR_pu (RD_assign rfl) rfl ?_
              refine SR_nil ?_
              refine SN.le (l := [(0, _), (1, _), (2, _), (3, _), (10, _), (11, _), (14, _), (19, _), (22, _), (23, _), (77, _), (78, _), (79, _)]) ?_ (.cons rfl (.cons rfl (.cons rfl (.cons rfl (.cons rfl (.cons rfl (.cons rfl (.cons rfl (.cons rfl (.cons rfl (.cons rfl (.cons rfl (.cons rfl (.nil))))))))))))))
              refine SN_seq ?_
              refine SC_seq ?_
              refine SC_seq ?_
              refine SC_region ?_
              refine SR_pu (RD_move rfl) rfl ?_
              refine SR_pu (RD_move rfl) rfl ?_
              refine SR_pu (RD_neq rfl rfl) rfl ?_
              refine SR_nil ?_
              refine SN.le (l := [(0, _), (1, _), (2, _), (3, _), (10, _), (11, _), (14, _), (19, _), (77, _), (78, _), (79, _), (129, _)]) ?_ (.cons rfl (.cons rfl (.cons rfl (.cons rfl (.cons rfl (.cons rfl (.cons rfl (.cons rfl (.cons rfl (.cons rfl (.cons rfl (.cons rfl (.nil)))))))))))))
              refine SN_seq ?_
              refine SC_cond_false rfl (by first | (simp [qW, hi0]; done) | (have hh := hx; have hh2 := hy; have hh3 := hz; simp [qW, hi0] at *; omega)) ?_
              refine SC_skip ?_
              refine SN_seq ?_
              refine SC_region ?_
              refine SR_pu (RD_move rfl) rfl ?_
              refine SR_pu (RD_addi rfl rfl (by omega) (by omega)) rfl ?_
              refine SR_pu (RD_assign rfl) rfl ?_
              refine SR_nil ?_
              refine SN.le (l := [(0, _), (1, _), (2, _), (3, _), (10, _), (11, _), (14, _), (19, _), (77, _), (78, _), (79, _)]) ?_ (.cons rfl (.cons rfl (.cons rfl (.cons rfl (.cons rfl (.cons rfl (.cons rfl (.cons rfl (.cons rfl (.cons rfl (.cons rfl (.nil))))))))))))
              refine SN_block ?_
              refine SN_seq ?_
              refine SC_region ?_
              refine SR_pu (RD_addi rfl rfl (by omega) (by omega)) rfl ?_
              refine SR_pu (RD_move rfl) rfl ?_
              refine SR_nil ?_
              refine SN.le (l := [(0, _), (1, _), (2, _), (3, _), (10, _), (11, _), (14, _), (19, _), (77, _), (78, _), (79, _)]) ?_ (.cons rfl (.cons rfl (.cons rfl (.cons rfl (.cons rfl (.cons rfl (.cons rfl (.cons rfl (.cons rfl (.cons rfl (.cons rfl (.nil))))))))))))
              refine SC_again (ih1 ((i + 1, got + 1)) (⟨by dsimp only; omega, by dsimp only; omega, by dsimp only; omega, fun h => by dsimp only; omega⟩) (by dsimp only; omega)) (.fin) (.cons rfl (.cons rfl (.cons rfl (.cons rfl (.cons rfl (.cons rfl (.cons rfl (.cons rfl (.cons rfl (.cons rfl (.cons' rfl (ie (by dsimp only; omega)) (.nil))))))))))))
            · refine SC_skip ?_
              refine SN_seq ?_
              refine SC_seq ?_
              refine SC_seq ?_
              refine SC_region ?_
              refine SR_pu (RD_move rfl) rfl ?_
              refine SR_pu (RD_move rfl) rfl ?_
              refine SR_pu (RD_neq rfl rfl) rfl ?_
              refine SR_nil ?_
              refine SN.le (l := [(0, _), (1, _), (2, _), (3, _), (10, _), (11, _), (14, _), (19, _), (77, _), (78, _), (79, _), (129, _)]) ?_ (.cons rfl (.cons rfl (.cons rfl (.cons rfl (.cons rfl (.cons rfl (.cons rfl (.cons rfl (.cons rfl (.cons rfl (.cons rfl (.cons rfl (.nil)))))))))))))
              refine SN_seq ?_
              refine SC_cond_false rfl (by first | (simp [qW, hi0]; done) | (have hh := hx; have hh2 := hy; have hh3 := hz; simp [qW, hi0] at *; omega)) ?_
              refine SC_skip ?_
              refine SN_seq ?_
              refine SC_region ?_
              refine SR_pu (RD_move rfl) rfl ?_
              refine SR_pu (RD_addi rfl rfl (by omega) (by omega)) rfl ?_
              refine SR_pu (RD_assign rfl) rfl ?_
              refine SR_nil ?_
              refine SN.le (l := [(0, _), (1, _), (2, _), (3, _), (10, _), (11, _), (14, _), (19, _), (77, _), (78, _), (79, _)]) ?_ (.cons rfl (.cons rfl (.cons rfl (.cons rfl (.cons rfl (.cons rfl (.cons rfl (.cons rfl (.cons rfl (.cons rfl (.cons rfl (.nil))))))))))))
              refine SN_block ?_
              refine SN_seq ?_
              refine SC_region ?_
              refine SR_pu (RD_addi rfl rfl (by omega) (by omega)) rfl ?_
              refine SR_pu (RD_move rfl) rfl ?_
              refine SR_nil ?_
              refine SN.le (l := [(0, _), (1, _), (2, _), (3, _), (10, _), (11, _), (14, _), (19, _), (77, _), (78, _), (79, _)]) ?_ (.cons rfl (.cons rfl (.cons rfl (.cons rfl (.cons rfl (.cons rfl (.cons rfl (.cons rfl (.cons rfl (.cons rfl (.cons rfl (.nil))))))))))))
              refine SC_again (ih1 ((i + 1, got + 1)) (⟨by dsimp only; omega, by dsimp only; omega, by dsimp only; omega, fun h => by dsimp only; omega⟩) (by dsimp only; omega)) (.fin) (.cons rfl (.cons rfl (.cons rfl (.cons rfl (.cons rfl (.cons rfl (.cons rfl (.cons rfl (.cons rfl (.cons rfl (.cons' rfl (ie (by dsimp only; omega)) (.nil))))))))))))
          · refine SR_no rfl rfl (hg28_7) (lts rfl) ?_
            refine SR_no rfl rfl (hg28_7) (lts rfl) ?_
            refine SR_no rfl rfl (hg28_7) (lts rfl) ?_
            refine SR_pu (RD_pick_f rfl (hg28_7) rfl) rfl ?_
            refine SR_nil ?_
            refine SN.le (l := [(0, _), (1, _), (2, _), (3, _), (10, _), (11, _), (14, _), (19, _), (22, _), (23, _), (77, _), (78, _), (79, _), (123, _)]) ?_ (.cons rfl (.cons rfl (.cons rfl (.cons rfl (.cons rfl (.cons rfl (.cons rfl (.cons rfl (.cons rfl (.cons rfl (.cons rfl (.cons rfl (.cons rfl (.cons rfl (.nil)))))))))))))))
            refine SN_seq ?_
            refine SC_cond_false rfl (rfl) ?_
            refine SC_skip ?_
            refine SN_seq ?_
            refine SC_seq ?_
            refine SC_seq ?_
            refine SC_region ?_
            refine SR_pu (RD_move rfl) rfl ?_
            refine SR_pu (RD_move rfl) rfl ?_
            refine SR_pu (RD_neq rfl rfl) rfl ?_
            refine SR_nil ?_
            refine SN.le (l := [(0, _), (1, _), (2, _), (3, _), (10, _), (11, _), (14, _), (19, _), (77, _), (78, _), (79, _), (129, _)]) ?_ (.cons rfl (.cons rfl (.cons rfl (.cons rfl (.cons rfl (.cons rfl (.cons rfl (.cons rfl (.cons rfl (.cons rfl (.cons rfl (.cons rfl (.nil)))))))))))))
            refine SN_seq ?_
            refine SC_cond_false rfl (by first | (simp [qW, hi0]; done) | (have hh := hx; have hh2 := hy; have hh3 := hz; simp [qW, hi0] at *; omega)) ?_
            refine SC_skip ?_
            refine SN_seq ?_
            refine SC_region ?_
            refine SR_pu (RD_move rfl) rfl ?_
            refine SR_pu (RD_addi rfl rfl (by omega) (by omega)) rfl ?_
            refine SR_pu (RD_assign rfl) rfl ?_
            refine SR_nil ?_
            refine SN.le (l := [(0, _), (1, _), (2, _), (3, _), (10, _), (11, _), (14, _), (19, _), (77, _), (78, _), (79, _)]) ?_ (.cons rfl (.cons rfl (.cons rfl (.cons rfl (.cons rfl (.cons rfl (.cons rfl (.cons rfl (.cons rfl (.cons rfl (.cons rfl (.nil))))))))))))
            refine SN_block ?_
            refine SN_seq ?_
            refine SC_region ?_
            refine SR_pu (RD_addi rfl rfl (by omega) (by omega)) rfl ?_
            refine SR_pu (RD_move rfl) rfl ?_
            refine SR_nil ?_
            refine SN.le (l := [(0, _), (1, _), (2, _), (3, _), (10, _), (11, _), (14, _), (19, _), (77, _), (78, _), (79, _)]) ?_ (.cons rfl (.cons rfl (.cons rfl (.cons rfl (.cons rfl (.cons rfl (.cons rfl (.cons rfl (.cons rfl (.cons rfl (.cons rfl (.nil))))))))))))
            refine SC_again (ih1 ((i + 1, got + 1)) (⟨by dsimp only; omega, by dsimp only; omega, by dsimp only; omega, fun h => by dsimp only; omega⟩) (by dsimp only; omega)) (.fin) (.cons rfl (.cons rfl (.cons rfl (.cons rfl (.cons rfl (.cons rfl (.cons rfl (.cons rfl (.cons rfl (.cons rfl (.cons' rfl (ie (by dsimp only; omega)) (.nil))))))))))))
        · refine SR_no rfl rfl (hg23_2) (lts rfl) ?_
          refine SR_no rfl rfl (hg23_2) (lts rfl) ?_
          refine SR_pu (RD_pick_f rfl (hg23_2) rfl) rfl ?_
          refine SR_nil ?_
          refine SN.le (l := [(0, _), (1, _), (2, _), (3, _), (10, _), (11, _), (14, _), (19, _), (20, _), (21, _), (77, _), (78, _), (79, _), (89, _)]) ?_ (.cons rfl (.cons rfl (.cons rfl (.cons rfl (.cons rfl (.cons rfl (.cons rfl (.cons rfl (.cons rfl (.cons rfl (.cons rfl (.cons rfl (.cons rfl (.cons rfl (.nil)))))))))))))))
          refine SN_seq ?_
          have hall : al = true := by simpa using hg23_2
          have hsee := qSee k.p p x hx2 y hy2 z hz2 al i hi4 (.inl hall)
          refine SC_cond_false rfl (rfl) ?_
          refine SC_skip ?_
          refine SN_seq ?_
          refine SC_seq ?_
          refine SC_region ?_
          refine SR_pu (RD_move rfl) rfl ?_
          refine SR_pu (RD_move rfl) rfl ?_
          refine SR_pu (RD_move rfl) rfl ?_
          refine SR_call Try.call38 (.cons rfl (.cons rfl (.nil))) (CallsK.at (tree_View p (qS k.p x y z 4) ((i + 2 : Nat) : Int))) (lts rfl) ?_
          rintro _ L6 ⟨rfl, hL6⟩
          rw [hG, show viewOf (some (qB x y z i)) = (qv x y z (i + 1) : Nat) from rfl]
          refine SR.lands hL6 ?_
          refine SR_pu (RD_move rfl) rfl ?_
          refine SR_pu (RD_build (.cons rfl (.cons rfl (.nil))) built34_0_1) rfl ?_
          refine SR_call Try.call53 (.cons rfl (.cons rfl (.nil))) (CallsK.at2 (safe_See' sp p (qK p x y z al i) (by unfold qK; split <;> rfl) (qS k.p x y z 4) (qV k.p hx2 hy2 hz2) (qv x y z (i + 1) : Nat) ((i + 2 : Nat) : Int))) (lts rfl) ?_
          rintro _ L7 ⟨rfl, hL7⟩
          rw [hsee] at hL7 ⊢
          refine SR.lands (hL7 : Lands L7 (At safeI sp (qK p x y z al (i + 1)) :: At treeI p (qS k.p x y z 4) :: _)) ?_
          refine SR_pu (RD_assign rfl) rfl ?_
          refine SR_nil ?_
          refine SN.le (l := [(0, _), (1, _), (2, _), (3, _), (10, _), (11, _), (14, _), (19, _), (20, _), (22, _), (77, _), (78, _), (79, _)]) ?_ (.cons rfl (.cons rfl (.cons rfl (.cons rfl (.cons rfl (.cons rfl (.cons rfl (.cons rfl (.cons rfl (.cons rfl (.cons rfl (.cons rfl (.cons rfl (.nil))))))))))))))
          refine SN_seq ?_
          refine SC_seq ?_
          refine SC_region ?_
          refine SR_pu (RD_assign rfl) rfl ?_
          refine SR_nil ?_
          refine SN.le (l := [(0, _), (1, _), (2, _), (3, _), (10, _), (11, _), (14, _), (19, _), (20, _), (22, _), (23, _), (77, _), (78, _), (79, _)]) ?_ (.cons rfl (.cons rfl (.cons rfl (.cons rfl (.cons rfl (.cons rfl (.cons rfl (.cons rfl (.cons rfl (.cons rfl (.cons rfl (.cons rfl (.cons rfl (.cons rfl (.nil)))))))))))))))
          refine SN_seq ?_
          refine SC_seq ?_
          refine SC_seq ?_
          refine SC_region ?_
          refine SR_pu (RD_move rfl) rfl ?_
          refine SR_pu (RD_eql rfl rfl) rfl ?_
          refine SR_pu (RD_move rfl) rfl ?_
          refine SR_no rfl rfl (by simp [hi0]) (lts rfl) ?_
          refine SR_no rfl rfl (by simp [hi0]) (lts rfl) ?_
          refine SR_no rfl rfl (by simp [hi0]) (lts rfl) ?_
          refine SR_pu (RD_pick_f rfl (by simp [hi0]) rfl) rfl ?_
          refine SR_pu (RD_move rfl) rfl ?_
          refine SR_no rfl rfl (rfl) (lts rfl) ?_
          refine SR_no rfl rfl (rfl) (lts rfl) ?_
          refine SR_no rfl rfl (rfl) (lts rfl) ?_
          refine SR_pu (RD_pick_f rfl (rfl) rfl) rfl ?_
          refine SR_nil ?_
          refine SN.le (l := [(0, _), (1, _), (2, _), (3, _), (10, _), (11, _), (14, _), (19, _), (20, _), (22, _), (23, _), (77, _), (78, _), (79, _), (108, _)]) ?_ (.cons rfl (.cons rfl (.cons rfl (.cons rfl (.cons rfl (.cons rfl (.cons rfl (.cons rfl (.cons rfl (.cons rfl (.cons rfl (.cons rfl (.cons rfl (.cons rfl (.cons rfl (.nil))))))))))))))))
          refine SN_seq ?_
          refine SC_cond_false rfl (rfl) ?_
          refine SC_skip ?_
          refine SN_seq ?_
          refine SC_seq ?_
          refine SC_seq ?_
          refine SC_region ?_
          refine SR_pu (RD_move rfl) rfl ?_
          refine SR_pu (RD_eql rfl rfl) rfl ?_
          refine SR_pu (RD_move rfl) rfl ?_
          refine SR_yes rfl rfl (by simp [hi0]) ?_
          refine SR_pu (RD_move rfl) rfl ?_
          refine SR_yes rfl rfl (by simp [hi0]) ?_
          refine SR_pu (RD_mask 1 rfl rfl rfl (by decide) 2 rfl) rfl ?_
          refine SR_yes rfl rfl (by simp [hi0]) ?_
          refine SR_pu (RD_eql rfl rfl) rfl ?_
          refine SR_pu (RD_pick_t rfl (by simp [hi0]) rfl) rfl ?_
          refine SR_pu (RD_move rfl) rfl ?_
          refine SR_guard rfl rfl (fun hg28_7 => ?_) (fun hg28_7 => ?_)
          · refine SR_yes rfl rfl (hg28_7) ?_
            refine SR_pu (RD_move rfl) rfl ?_
            refine SR_yes rfl rfl (hg28_7) ?_
            refine SR_pu (RD_mask 1 rfl rfl rfl (by decide) 2 rfl) rfl ?_
            refine SR_yes rfl rfl (hg28_7) ?_
            refine SR_pu (RD_eql rfl rfl) rfl ?_
            refine SR_pu (RD_pick_t rfl (hg28_7) rfl) rfl ?_
            refine SR_nil ?_
            refine SN.le (l := [(0, _), (1, _), (2, _), (3, _), (10, _), (11, _), (14, _), (19, _), (22, _), (23, _), (77, _), (78, _), (79, _), (123, _)]) ?_ (.cons rfl (.cons rfl (.cons rfl (.cons rfl (.cons rfl (.cons rfl (.cons rfl (.cons rfl (.cons rfl (.cons rfl (.cons rfl (.cons rfl (.cons rfl (.cons rfl (.nil)))))))))))))))
            refine SN_seq ?_
            refine SC_cond rfl (fun hc123 => ?_) (fun hc123 => ?_)
            · refine SC_region ?_
              refine SR_pu (RD_move rfl) rfl ?_
              refine SR_rd (RD_ixO (i := (1 : Nat)) (cs := (qR 4).map intV) Try.runUnderlying22 Try.sizeOf3 rfl rfl (by simp [qR]) (by omega) (by omega)) Has.ro rfl ?_
              refine SR_rd (RD_loadO (v := .int .i64 3) (cs := (qR 4).map intV) Try.isAgg3 rfl rfl) Has.ro rfl ?_
              refine SR_pu (RD_assign rfl) rfl ?_
              refine SR_nil ?_
              refine SN.le (l := [(0, _), (1, _), (2, _), (3, _), (10, _), (11, _), (14, _), (19, _), (22, _), (23, _), (77, _), (78, _), (79, _)]) ?_ (.cons rfl (.cons rfl (.cons rfl (.cons rfl (.cons rfl (.cons rfl (.cons rfl (.cons rfl (.cons rfl (.cons rfl (.cons rfl (.cons rfl (.cons rfl (.nil))))))))))))))
              refine SN_seq ?_
              refine SC_seq ?_
              refine SC_seq ?_
              refine SC_region ?_
              refine SR_pu (RD_move rfl) rfl ?_
              refine SR_pu (RD_move rfl) rfl ?_
              refine SR_pu (RD_neq rfl rfl) rfl ?_
              refine SR_nil ?_
              refine SN.le (l := [(0, _), (1, _), (2, _), (3, _), (10, _), (11, _), (14, _), (19, _), (77, _), (78, _), (79, _), (129, _)]) ?_ (.cons rfl (.cons rfl (.cons rfl (.cons rfl (.cons rfl (.cons rfl (.cons rfl (.cons rfl (.cons rfl (.cons rfl (.cons rfl (.cons rfl (.nil)))))))))))))
              refine SN_seq ?_
              refine SC_cond_false rfl (by first | (simp [qW, hi0]; done) | (have hh := hx; have hh2 := hy; have hh3 := hz; simp [qW, hi0] at *; omega)) ?_
              refine SC_skip ?_
              refine SN_seq ?_
              refine SC_region ?_
              refine SR_pu (RD_move rfl) rfl ?_
              refine SR_pu (RD_addi rfl rfl (by omega) (by omega)) rfl ?_
              refine SR_pu (RD_assign rfl) rfl ?_
              refine SR_nil ?_
              refine SN.le (l := [(0, _), (1, _), (2, _), (3, _), (10, _), (11, _), (14, _), (19, _), (77, _), (78, _), (79, _)]) ?_ (.cons rfl (.cons rfl (.cons rfl (.cons rfl (.cons rfl (.cons rfl (.cons rfl (.cons rfl (.cons rfl (.cons rfl (.cons rfl (.nil))))))))))))
              refine SN_block ?_
              refine SN_seq ?_
              refine SC_region ?_
              refine SR_pu (RD_addi rfl rfl (by omega) (by omega)) rfl ?_
              refine SR_pu (RD_move rfl) rfl ?_
              refine SR_nil ?_
              refine SN.le (l := [(0, _), (1, _), (2, _), (3, _), (10, _), (11, _), (14, _), (19, _), (77, _), (78, _), (79, _)]) ?_ (.cons rfl (.cons rfl (.cons rfl (.cons rfl (.cons rfl (.cons rfl (.cons rfl (.cons rfl (.cons rfl (.cons rfl (.cons rfl (.nil))))))))))))
              refine SC_again (ih1 ((i + 1, got + 1)) (⟨by dsimp only; omega, by dsimp only; omega, by dsimp only; omega, fun h => by dsimp only; omega⟩) (by dsimp only; omega)) (.fin) (.cons rfl (.cons rfl (.cons rfl (.cons rfl (.cons rfl (.cons rfl (.cons rfl (.cons rfl (.cons rfl (.cons rfl (.cons' rfl (ie (by dsimp only; omega)) (.nil))))))))))))
            · refine SC_skip ?_
              refine SN_seq ?_
              refine SC_seq ?_
              refine SC_seq ?_
              refine SC_region ?_
              refine SR_pu (RD_move rfl) rfl ?_
              refine SR_pu (RD_move rfl) rfl ?_
              refine SR_pu (RD_neq rfl rfl) rfl ?_
              refine SR_nil ?_
              refine SN.le (l := [(0, _), (1, _), (2, _), (3, _), (10, _), (11, _), (14, _), (19, _), (77, _), (78, _), (79, _), (129, _)]) ?_ (.cons rfl (.cons rfl (.cons rfl (.cons rfl (.cons rfl (.cons rfl (.cons rfl (.cons rfl (.cons rfl (.cons rfl (.cons rfl (.cons rfl (.nil)))))))))))))
              refine SN_seq ?_
              refine SC_cond_false rfl (by first | (simp [qW, hi0]; done) | (have hh := hx; have hh2 := hy; have hh3 := hz; simp [qW, hi0] at *; omega)) ?_
              refine SC_skip ?_
              refine SN_seq ?_
              refine SC_region ?_
              refine SR_pu (RD_move rfl) rfl ?_
              refine SR_pu (RD_addi rfl rfl (by omega) (by omega)) rfl ?_
              refine SR_pu (RD_assign rfl) rfl ?_
              refine SR_nil ?_
              refine SN.le (l := [(0, _), (1, _), (2, _), (3, _), (10, _), (11, _), (14, _), (19, _), (77, _), (78, _), (79, _)]) ?_ (.cons rfl (.cons rfl (.cons rfl (.cons rfl (.cons rfl (.cons rfl (.cons rfl (.cons rfl (.cons rfl (.cons rfl (.cons rfl (.nil))))))))))))
              refine SN_block ?_
              refine SN_seq ?_
              refine SC_region ?_
              refine SR_pu (RD_addi rfl rfl (by omega) (by omega)) rfl ?_
              refine SR_pu (RD_move rfl) rfl ?_
              refine SR_nil ?_
              refine SN.le (l := [(0, _), (1, _), (2, _), (3, _), (10, _), (11, _), (14, _), (19, _), (77, _), (78, _), (79, _)]) ?_ (.cons rfl (.cons rfl (.cons rfl (.cons rfl (.cons rfl (.cons rfl (.cons rfl (.cons rfl (.cons rfl (.cons rfl (.cons rfl (.nil))))))))))))
              refine SC_again (ih1 ((i + 1, got + 1)) (⟨by dsimp only; omega, by dsimp only; omega, by dsimp only; omega, fun h => by dsimp only; omega⟩) (by dsimp only; omega)) (.fin) (.cons rfl (.cons rfl (.cons rfl (.cons rfl (.cons rfl (.cons rfl (.cons rfl (.cons rfl (.cons rfl (.cons rfl (.cons' rfl (ie (by dsimp only; omega)) (.nil))))))))))))
          · refine SR_no rfl rfl (hg28_7) (lts rfl) ?_
            refine SR_no rfl rfl (hg28_7) (lts rfl) ?_
            refine SR_no rfl rfl (hg28_7) (lts rfl) ?_
            refine SR_pu (RD_pick_f rfl (hg28_7) rfl) rfl ?_
            refine SR_nil ?_
            refine SN.le (l := [(0, _), (1, _), (2, _), (3, _), (10, _), (11, _), (14, _), (19, _), (22, _), (23, _), (77, _), (78, _), (79, _), (123, _)]) ?_ (.cons rfl (.cons rfl (.cons rfl (.cons rfl (.cons rfl (.cons rfl (.cons rfl (.cons rfl (.cons rfl (.cons rfl (.cons rfl (.cons rfl (.cons rfl (.cons rfl (.nil)))))))))))))))
            refine SN_seq ?_
            refine SC_cond_false rfl (rfl) ?_
            refine SC_skip ?_
            refine SN_seq ?_
            refine SC_seq ?_
            refine SC_seq ?_
            refine SC_region ?_
            refine SR_pu (RD_move rfl) rfl ?_
            refine SR_pu (RD_move rfl) rfl ?_
            refine SR_pu (RD_neq rfl rfl) rfl ?_
            refine SR_nil ?_
            refine SN.le (l := [(0, _), (1, _), (2, _), (3, _), (10, _), (11, _), (14, _), (19, _), (77, _), (78, _), (79, _), (129, _)]) ?_ (.cons rfl (.cons rfl (.cons rfl (.cons rfl (.cons rfl (.cons rfl (.cons rfl (.cons rfl (.cons rfl (.cons rfl (.cons rfl (.cons rfl (.nil)))))))))))))
            refine SN_seq ?_
            refine SC_cond_false rfl (by first | (simp [qW, hi0]; done) | (have hh := hx; have hh2 := hy; have hh3 := hz; simp [qW, hi0] at *; omega)) ?_
            refine SC_skip ?_
            refine SN_seq ?_
            refine SC_region ?_
            refine SR_pu (RD_move rfl) rfl ?_
            refine SR_pu (RD_addi rfl rfl (by omega) (by omega)) rfl ?_
            refine SR_pu (RD_assign rfl) rfl ?_
            refine SR_nil ?_
            refine SN.le (l := [(0, _), (1, _), (2, _), (3, _), (10, _), (11, _), (14, _), (19, _), (77, _), (78, _), (79, _)]) ?_ (.cons rfl (.cons rfl (.cons rfl (.cons rfl (.cons rfl (.cons rfl (.cons rfl (.cons rfl (.cons rfl (.cons rfl (.cons rfl (.nil))))))))))))
            refine SN_block ?_
            refine SN_seq ?_
            refine SC_region ?_
            refine SR_pu (RD_addi rfl rfl (by omega) (by omega)) rfl ?_
            refine SR_pu (RD_move rfl) rfl ?_
            refine SR_nil ?_
            refine SN.le (l := [(0, _), (1, _), (2, _), (3, _), (10, _), (11, _), (14, _), (19, _), (77, _), (78, _), (79, _)]) ?_ (.cons rfl (.cons rfl (.cons rfl (.cons rfl (.cons rfl (.cons rfl (.cons rfl (.cons rfl (.cons rfl (.cons rfl (.cons rfl (.nil))))))))))))
            refine SC_again (ih1 ((i + 1, got + 1)) (⟨by dsimp only; omega, by dsimp only; omega, by dsimp only; omega, fun h => by dsimp only; omega⟩) (by dsimp only; omega)) (.fin) (.cons rfl (.cons rfl (.cons rfl (.cons rfl (.cons rfl (.cons rfl (.cons rfl (.cons rfl (.cons rfl (.cons rfl (.cons' rfl (ie (by dsimp only; omega)) (.nil))))))))))))
    · have hi4 : i = 4 := by simp at hc80; omega
      subst hi4
      clear ih1
      have hgot := hg3 rfl
      have hK : qK p x y z al 4 = ⟨p, (qv x y z 4 : Nat), 5, 4, 0⟩ := by unfold qK; rw [if_neg (by simp)]; rfl
      rw [hK]
      refine SC_exit rfl ?_
      refine SN_seq ?_
      refine SC_seq ?_
      refine SC_drawn (.cons 0 true (.cons 2 true (.cons 3 true (.cons 4 true (.cons 1 false (.cons 5 true (.cons 6 true (.cons 7 true (.cons 10 true (.cons 11 true (.cons 12 true (.cons 8 false (.cons 9 true (.cons 13 true (.cons 14 true (.cons 15 true (.cons 16 true (.cons 17 true (.cons 18 true (.cons 19 true (.cons 20 false (.cons 21 true (.cons 22 true (.nil)))))))))))))))))))))))) (by kernel_rfl) (by kernel_rfl) ?_
      refine SQ_pu rfl (RD_move rfl) rfl ?_
      refine SQ_pu rfl (RD_move rfl) rfl ?_
      refine SQ_rd rfl (RD_ixO (i := (2 : Nat)) (cs := (qR 4).map intV) Try.runUnderlying22 Try.sizeOf3 rfl rfl (by simp [qR]) (by omega) (by omega)) Has.ro rfl ?_
      refine SQ_rd rfl (RD_loadO (v := .int .i64 4) (cs := (qR 4).map intV) Try.isAgg3 rfl rfl) Has.ro rfl ?_
      refine SQ_call rfl Try.call57 (.cons rfl (.nil)) (CallsK.at (safe_Lock sp _)) (lts rfl) ?_
      rintro _ L8 ⟨rfl, hL8⟩
      refine ⟨.lands hL8 (.h Has.ro (.h Has.ro (.nil))), ?_⟩
      refine SQ.lands hL8 ?_
      refine SQ_pu rfl (RD_eql rfl rfl) rfl ?_
      refine SQ_pu rfl (RD_move rfl) rfl ?_
      refine SQ_pyes rfl rfl rfl (by first | rfl | exact decide_eq_true (by omega) | exact decide_eq_false (by omega) | decide | (simp; done) | (simp; omega)) (RD_move rfl) rfl ?_
      refine SQ_pyes rfl rfl rfl (by first | rfl | exact decide_eq_true (by omega) | exact decide_eq_false (by omega) | decide | (simp; done) | (simp; omega)) (RD_move rfl) rfl ?_
      refine SQ_yes rfl rfl rfl (by first | rfl | exact decide_eq_true (by omega) | exact decide_eq_false (by omega) | decide | (simp; done) | (simp; omega)) (RD_ixO (i := (3 : Nat)) (cs := (qR 4).map intV) Try.runUnderlying22 Try.sizeOf3 rfl rfl (by simp [qR]) (by omega) (by omega)) Has.ro rfl ?_
      refine SQ_yes rfl rfl rfl (by first | rfl | exact decide_eq_true (by omega) | exact decide_eq_false (by omega) | decide | (simp; done) | (simp; omega)) (RD_loadO (v := .int .i64 5) (cs := (qR 4).map intV) Try.isAgg3 rfl rfl) Has.ro rfl ?_
      refine SQ_one (SA_call rfl (.mk rfl rfl (by first | rfl | exact decide_eq_true (by omega) | exact decide_eq_false (by omega) | decide | (simp; done) | (simp; omega))) Try.call58 (.cons rfl (.nil)) (CallsK.at (safe_High sp _)) (lts rfl) ?_)
      rintro _ L9 ⟨⟨ha9, hc9, rfl⟩, hL9⟩
      refine ⟨.lands hL9 (.h Has.ro (.h Has.ro (.h Has.ro (.h Has.ro (.nil))))), ?_⟩
      refine SQ.lands hL9 ?_
      refine SQ_pyes rfl rfl rfl (by first | rfl | exact decide_eq_true (by omega) | exact decide_eq_false (by omega) | decide | (simp; done) | (simp; omega)) (RD_field Try.runUnderlying34 rfl Try.isAgg3 rfl rfl) rfl ?_
      refine SQ_pyes rfl rfl rfl (by first | rfl | exact decide_eq_true (by omega) | exact decide_eq_false (by omega) | decide | (simp; done) | (simp; omega)) (RD_eql rfl rfl) rfl ?_
      refine SQ_pu rfl (RD_pick_t rfl (by first | rfl | exact decide_eq_true (by omega) | exact decide_eq_false (by omega) | decide | (simp; done) | (simp; omega)) rfl) rfl ?_
      refine SQ_pu rfl (RD_move rfl) rfl ?_
      refine SQ_pyes rfl rfl rfl (by first | rfl | exact decide_eq_true (by omega) | exact decide_eq_false (by omega) | decide | (simp; done) | (simp; omega)) (RD_move rfl) rfl ?_
      refine SQ_pyes rfl rfl rfl (by first | rfl | exact decide_eq_true (by omega) | exact decide_eq_false (by omega) | decide | (simp; done) | (simp; omega)) (RD_gtr rfl rfl) rfl ?_
      refine SQ_pu rfl (RD_pick_t rfl (by first | rfl | exact decide_eq_true (by omega) | exact decide_eq_false (by omega) | decide | (simp; done) | (simp; omega)) rfl) rfl ?_
      refine SQ_pu rfl (RD_move rfl) rfl ?_
      refine SQ_one (SA_call rfl (.mk rfl rfl (by first | rfl | exact decide_eq_true (by omega) | exact decide_eq_false (by omega) | decide | (simp; done) | (simp; omega))) Try.call56 (.nil) (safe_awake) (lts rfl) ?_)
      rintro _ L10 ⟨rfl, hL10⟩
      refine ⟨.lands hL10 (.h Has.ro (.h Has.ro (.h Has.ro (.h Has.ro (.nil))))), ?_⟩
      refine SQ.lands hL10 ?_
      refine SQ_pu rfl (RD_pick_t rfl (by first | rfl | exact decide_eq_true (by omega) | exact decide_eq_false (by omega) | decide | (simp; done) | (simp; omega)) rfl) rfl ?_
      refine SQ_pu rfl (RD_assign rfl) rfl ?_
      refine SQ_nil ?_
      refine SN.le (l := [(8, _)]) ?_ (.cons rfl (.nil))
      refine SN_seq ?_
      refine SC_ret1 rfl rfl ?_
      exact ⟨rfl, .fin⟩

end Go.Proofs.Ytdmmaammpjdmbaa
