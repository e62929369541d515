/- Each replica leads in its turn: the statement. -/
import Derived.Test.YtnifaajdiolbjaaBk2
namespace Go.Proofs.Ytnifaajdiolbjaa
open Go Go.Proofs
set_option maxRecDepth 100000
/-- Who leads so many views behind a view. -/
def rr (g v j : Nat) : Int := (((v + j) % (3 * g + 1) : Nat) : Int)
def gC (g : Nat) : CfgD := ⟨(g : Int), 3 * (g : Int) + 1, 0, 0, 0, 0, 0, 0⟩
theorem lead_rr (g v j : Nat) {x : Int} (h : x = ((v + j : Nat) : Int)) : (CfgD.lead ⟨(g : Int), 3 * (g : Int) + 1, 0, 0, 0, 0, 0, 0⟩ x) = rr g v j := by
  unfold CfgD.lead rr
  rw [if_neg (by dsimp only; omega), h]
  simp
theorem rr_lt (g v j : Nat) : 0 ≤ rr g v j ∧ rr g v j < 3 * (g : Int) + 1 := by
  have := Nat.mod_lt (v + j) (show 0 < 3 * g + 1 by omega)
  unfold rr; omega
theorem rr_N (g v j : Nat) : rr g v (j + (3 * g + 1)) = rr g v j := by
  unfold rr; rw [← Nat.add_assoc, Nat.add_mod_right]
theorem rr_inj {g v i j : Nat} (h : rr g v i = rr g v j) (hij : i ≤ j) (hj : j < i + (3 * g + 1)) : i = j := by
  unfold rr at h
  have h2 : (v + i) % (3 * g + 1) = (v + j) % (3 * g + 1) := by omega
  have h3 := Nat.sub_mod_eq_zero_of_mod_eq h2.symm
  rw [show v + j - (v + i) = j - i by omega, Nat.mod_eq_of_lt (by omega)] at h3
  omega
def KK (g v i : Nat) : List Int := (List.range i).map (rr g v)
theorem KK_succ (g v i : Nat) : KK g v (i + 1) = KK g v i ++ [rr g v i] := by simp [KK, List.range_succ]
theorem KK_no {g v i : Nat} (h : i < 3 * g + 1) : rr g v i ∉ KK g v i := fun hm => by
  unfold KK at hm
  obtain ⟨j, hj, e⟩ := List.mem_map.1 hm
  have hj := List.mem_range.1 hj
  have := rr_inj e (by omega) (by omega)
  omega
def wsM (T : List Int) : List (Int × Value) := T.map fun w => (w, Value.int .i64 1)
theorem wsM_KK {g v i : Nat} (h : i < 3 * g + 1) : mset (wsM (KK g v i)) (rr g v i) (.int .i64 1) = wsM (KK g v (i + 1)) := by
  unfold wsM
  rw [mset_ws, KK_succ]; unfold putW; rw [if_neg (KK_no h)]
theorem putW_len (T : List Int) (w : Int) : (putW T w).length ≤ T.length + 1 := by unfold putW; split <;> simp
theorem iget01 (T : List Int) (x : Int) : 0 ≤ iget (wsM T) x ∧ iget (wsM T) x ≤ 1 := by
  unfold wsM; rw [iget_ws]; split <;> omega
/-- Are three that follow each other honest? -/
def ok3 (T : List Int) (g v k : Nat) : Bool := decide (iget (wsM T) (rr g v k) + iget (wsM T) (rr g v (k + 1)) + iget (wsM T) (rr g v (k + 2)) = 0)
def runB (T : List Int) (g v i : Nat) : Bool := (List.range i).any (ok3 T g v)
theorem runB_succ (T : List Int) (g v i : Nat) : runB T g v (i + 1) = (runB T g v i || ok3 T g v i) := by simp [runB, List.range_succ]
theorem countP_or2 {α : Type} (p q : α → Bool) : ∀ l : List α, l.countP (fun x => p x || q x) ≤ l.countP p + l.countP q
  | [] => by simp
  | x :: l => by
    have := countP_or2 p q l
    simp only [List.countP_cons]
    cases p x <;> cases q x <;> simp <;> omega
theorem count_one {f : Nat → Int} {N : Nat} (hf : ∀ i j, i ≤ j → j < N → f i = f j → i = j) (x : Int) : ∀ n, n ≤ N → (List.range n).countP (fun k => decide (f k = x)) ≤ 1
  | 0, _ => by simp
  | n + 1, h => by
    rw [List.range_succ, List.countP_append, List.countP_singleton]
    by_cases hx : f n = x
    · have : (List.range n).countP (fun k => decide (f k = x)) = 0 := List.countP_eq_zero.2 fun k hk => by
        have hk := List.mem_range.1 hk
        have : ¬ f k = x := fun e => by have := hf k n (by omega) (by omega) (e.trans hx.symm); omega
        simpa using this
      rw [this]; split <;> omega
    · have := count_one hf x n (by omega)
      rw [if_neg (by simpa using hx)]; omega
theorem count_in {f : Nat → Int} {N : Nat} (hf : ∀ i j, i ≤ j → j < N → f i = f j → i = j) : ∀ T : List Int, (List.range N).countP (fun k => decide (f k ∈ T)) ≤ T.length
  | [] => by simp
  | x :: T => by
    have h1 := count_one hf x N (by omega)
    have h2 := count_in hf T
    have h3 := countP_or2 (fun k => decide (f k = x)) (fun k => decide (f k ∈ T)) (List.range N)
    have h4 : (fun k => decide (f k ∈ x :: T)) = fun k => (decide (f k = x) || decide (f k ∈ T)) := by funext k; simp
    rw [h4, List.length_cons]; omega
theorem run_all {T : List Int} {g v : Nat} (h : T.length ≤ g) : runB T g v (3 * g + 1) = true := by
  cases hr : runB T g v (3 * g + 1) with
  | true => rfl
  | false =>
    unfold runB at hr
    rw [List.any_eq_false] at hr
    have hf : ∀ d i j, i ≤ j → j < 3 * g + 1 → rr g v (i + d) = rr g v (j + d) → i = j := fun d i j h1 h2 h3 => by have := rr_inj h3 (by omega) (by omega); omega
    have c0 := count_in (f := fun k => rr g v (k + 0)) (hf 0) T
    have c1 := count_in (f := fun k => rr g v (k + 1)) (hf 1) T
    have c2 := count_in (f := fun k => rr g v (k + 2)) (hf 2) T
    have ha : (List.range (3 * g + 1)).countP (fun k => (decide (rr g v (k + 0) ∈ T) || decide (rr g v (k + 1) ∈ T)) || decide (rr g v (k + 2) ∈ T)) = 3 * g + 1 := by
      rw [List.countP_eq_length.2, List.length_range]
      intro k hk
      have hk2 := hr k hk
      unfold ok3 wsM at hk2
      rw [iget_ws, iget_ws, iget_ws] at hk2
      by_cases a0 : rr g v k ∈ T
      · simp [a0]
      · by_cases a1 : rr g v (k + 1) ∈ T
        · simp [a1]
        · by_cases a2 : rr g v (k + 2) ∈ T
          · simp [a2]
          · simp [a0, a1, a2] at hk2
    have h1 := countP_or2 (fun k => decide (rr g v (k + 0) ∈ T) || decide (rr g v (k + 1) ∈ T)) (fun k => decide (rr g v (k + 2) ∈ T)) (List.range (3 * g + 1))
    have h2 := countP_or2 (fun k => decide (rr g v (k + 0) ∈ T)) (fun k => decide (rr g v (k + 1) ∈ T)) (List.range (3 * g + 1))
    omega

theorem law_BlokLeads {W : World} {F : List HProp} [Abs F] (f view : Int) (a1 : Option Addr) (n1 c1 : Nat) (l1 : List Int) [HasRow F a1 (l1.map intV)] (hn1 : l1.length = n1) :
    CallsK W Try.prog 3 #[.int .i64 f, .int .i64 view, .slice a1 n1 c1] (F) (fun v L => v = .bool true ∧ Lands L F) := by
  refine CallsK_enter (n := 129) Try.func3 rfl rfl rfl ?_
  obtain ⟨g, hg⟩ : ∃ g : Nat, f % 4 = (g : Int) := ⟨(f % 4).toNat, by omega⟩
  have hg1 : g ≤ 3 := by omega
  obtain ⟨v, hv⟩ : ∃ v : Nat, view % 16777216 = (v : Int) := ⟨(view % 16777216).toNat, by omega⟩
  have hv1 : v < 16777216 := by omega
  refine SC_seq ?_
  refine SC_region ?_
  refine SR_pu (RD_assign rfl) rfl ?_
  refine SR_nil ?_
  refine SN.le (l := [(0, _), (1, _), (2, _)]) ?_ (.cons rfl (.cons rfl (.cons rfl (.nil))))
  refine SN_seq ?_
  refine SC_seq ?_
  refine SC_region ?_
  refine SR_pu (RD_move rfl) rfl ?_
  refine SR_pu (RD_mask 2 rfl rfl rfl (by decide) 4 rfl) rfl ?_
  refine SR_pu (RD_assign rfl) rfl ?_
  refine SR_nil ?_
  refine SN.le (l := [(0, _), (1, _), (2, _)]) ?_ (.cons rfl (.cons rfl (.cons rfl (.nil))))
  rw [hg]
  refine SN_seq ?_
  refine SC_seq ?_
  refine SC_region ?_
  refine SR_pu (RD_move rfl) rfl ?_
  refine SR_pu (RD_move rfl) rfl ?_
  refine SR_pu (RD_muli rfl rfl (by omega) (by omega)) rfl ?_
  refine SR_pu (RD_addi rfl rfl (by omega) (by omega)) rfl ?_
  refine SR_pu (RD_build (.cons rfl (.cons rfl (.nil))) built24_0_1) rfl ?_
  refine SR_ox (OX_alloc Try.zeroValue24 rfl) rfl ?_
  rintro _ _ ⟨b7, rfl, rfl⟩
  refine SR_ox0 (OX_stA Try.sizeOf24 rfl rfl rfl rfl) ?_
  rintro _ _ rfl
  refine SR_nil ?_
  refine SN.le (l := [(0, _), (1, _), (2, _), (7, _)]) ?_ (.cons rfl (.cons rfl (.cons rfl (.cons rfl (.nil)))))
  refine SN_seq ?_
  refine SC_seq ?_
  refine SC_region ?_
  refine SR_pu (RD_move rfl) rfl ?_
  refine SR_pu (RD_mask 24 rfl rfl rfl (by decide) 16777216 rfl) rfl ?_
  refine SR_pu (RD_assign rfl) rfl ?_
  refine SR_nil ?_
  refine SN.le (l := [(0, _), (1, _), (2, _), (7, _)]) ?_ (.cons rfl (.cons rfl (.cons rfl (.cons rfl (.nil)))))
  rw [hv]
  refine SN_seq ?_
  refine SC_seq ?_
  refine SC_region ?_
  refine SR_ox (OX_mk intK) rfl ?_
  rintro _ _ ⟨b24, rfl, rfl⟩
  refine SR_pu (RD_assign rfl) rfl ?_
  refine SR_nil ?_
  refine SN.le (l := [(0, _), (1, _), (2, _), (7, _), (8, _)]) ?_ (.cons rfl (.cons rfl (.cons rfl (.cons rfl (.cons rfl (.nil))))))
  refine SN_seq ?_
  refine SC_seq ?_
  refine SC_seq ?_
  refine SC_region ?_
  refine SR_pu (RD_assign rfl) rfl ?_
  refine SR_nil ?_
  refine SN.le (l := [(0, _), (1, _), (2, _), (7, _), (8, _), (9, _)]) ?_ (.cons rfl (.cons rfl (.cons rfl (.cons rfl (.cons rfl (.cons rfl (.nil)))))))
  refine SN_seq ?_
  refine SC_block ?_
  refine SC_ind (X := Nat) (fun i => i ≤ 3 * g + 1) (fun i => 3 * g + 1 - i) (fun i => [(0, .int .i64 (g : Int)), (1, .int .i64 (v : Int)), (2, .slice a1 n1 c1), (7, .pointer (some ⟨b7, 0, none⟩)), (8, .map (some b24)), (9, .int .i64 (i : Nat))]) (fun i => mapP intK b24 (wsM (KK g v i)) :: pt b7 (.cells [.int .i64 (g : Int), .int .i64 (3 * (g : Int) + 1), .int .i64 0, .int .i64 0, .int .i64 0, .int .i64 0, .int .i64 0, .int .i64 0].toArray 24) :: F) (0) (by omega) (.cons rfl (.cons rfl (.cons rfl (.cons rfl (.cons rfl (.cons rfl (.nil))))))) ((show Lands _ (mapP intK b24 [] :: pt b7 (.cells [.int .i64 (g : Int), .int .i64 (3 * (g : Int) + 1), .int .i64 0, .int .i64 0, .int .i64 0, .int .i64 0, .int .i64 0, .int .i64 0].toArray 24) :: F) from .fin)) ?_
  intro i hi ih
  refine SC_seq ?_
  refine SC_seq ?_
  refine SC_region ?_
  refine SR_pu (RD_move rfl) rfl ?_
  first
    | refine SR_pu (RD_fieldAddr 1 Try.runUnderlying24 rfl rfl Try.sizeOf3 rfl) rfl ?_
    | refine SR_rd (RD_fieldAddrO 1 Try.runUnderlying24 rfl rfl Try.sizeOf3 rfl (by simp <;> omega)) Has.ro rfl ?_
  refine SR_rd (RD_load Try.isAgg3 rfl) (Has.ce rfl) rfl ?_
  refine SR_pu (RD_lss rfl rfl) rfl ?_
  refine SR_nil ?_
  refine SN.le (l := [(0, _), (1, _), (2, _), (7, _), (8, _), (9, _), (28, _)]) ?_ (.cons rfl (.cons rfl (.cons rfl (.cons rfl (.cons rfl (.cons rfl (.cons rfl (.nil))))))))
  refine SN_seq ?_
  refine SC_cond rfl (fun hc28 => ?_) (fun hc28 => ?_)
  · have hin : i < 3 * g + 1 := by simp at hc28; omega
    have hno := KK_no (v := v) hin
    have hlt := rr_lt g v i
    have hms := wsM_KK (v := v) hin
    refine SC_skip ?_
    refine SN_seq ?_
    refine SC_seq ?_
    refine SC_block ?_
    refine SC_seq ?_
    refine SC_region ?_
    refine SR_rd (RD_loadA Try.isAgg24 Try.sizeOf24 rfl rfl) Has.wh rfl ?_
    refine SR_pu (RD_move rfl) rfl ?_
    refine SR_pu (RD_move rfl) rfl ?_
    refine SR_pu (RD_addi rfl rfl (by omega) (by omega)) rfl ?_
    refine SR_call Try.call13 (.cons rfl (.cons rfl (.nil))) (blok_Lead ⟨(g : Int), 3 * (g : Int) + 1, 0, 0, 0, 0, 0, 0⟩ _) (lts rfl) ?_
    rintro _ L1 ⟨rfl, hL1⟩
    rw [lead_rr g v i (by omega)]
    refine SR.lands hL1 ?_
    refine SR_pu (RD_assign rfl) rfl ?_
    refine SR_nil ?_
    refine SN.le (l := [(0, _), (1, _), (2, _), (7, _), (8, _), (9, _), (10, _)]) ?_ (.cons rfl (.cons rfl (.cons rfl (.cons rfl (.cons rfl (.cons rfl (.cons rfl (.nil))))))))
    refine SN_seq ?_
    refine SC_seq ?_
    refine SC_seq ?_
    refine SC_region ?_
    refine SR_pu (RD_move rfl) rfl ?_
    refine SR_pu (RD_lss rfl rfl) rfl ?_
    refine SR_pu (RD_move rfl) rfl ?_
    refine SR_yes rfl rfl (by first | rfl | (simp; done) | (simp; omega)) ?_
    refine SR_pu (RD_move rfl) rfl ?_
    refine SR_yes rfl rfl (by first | rfl | (simp; done) | (simp; omega)) ?_
    first
      | refine SR_pu (RD_fieldAddr 1 Try.runUnderlying24 rfl rfl Try.sizeOf3 rfl) rfl ?_
      | refine SR_rd (RD_fieldAddrO 1 Try.runUnderlying24 rfl rfl Try.sizeOf3 rfl (by simp <;> omega)) Has.ro rfl ?_
    refine SR_yes rfl rfl (by first | rfl | (simp; done) | (simp; omega)) ?_
    refine SR_rd (RD_load Try.isAgg3 rfl) (Has.ce rfl) rfl ?_
    refine SR_yes rfl rfl (by first | rfl | (simp; done) | (simp; omega)) ?_
    refine SR_pu (RD_geq rfl rfl) rfl ?_
    refine SR_pu (RD_pick_f rfl (by first | rfl | (simp; done) | (simp; omega)) rfl) rfl ?_
    refine SR_pu (RD_move rfl) rfl ?_
    refine SR_yes rfl rfl (by first | rfl | (simp; done) | (simp; omega)) ?_
    refine SR_pu (RD_move rfl) rfl ?_
    refine SR_yes rfl rfl (by first | rfl | (simp; done) | (simp; omega)) ?_
    refine SR_pu (RD_move rfl) rfl ?_
    refine SR_yes rfl rfl (by first | rfl | (simp; done) | (simp; omega)) ?_
    refine SR_rd (RD_lookNo (K := intK) (m := wsM (KK g v i)) Try.underlying25 Try.underlying3 Try.zeroValue3 rfl rfl (by unfold wsM; rw [mget_ws, if_neg hno])) (Has.ma (K := intK)) rfl ?_
    refine SR_yes rfl rfl (by first | rfl | (simp; done) | (simp; omega)) ?_
    refine SR_pu (RD_gtr rfl rfl) rfl ?_
    refine SR_pu (RD_pick_f rfl (by first | rfl | (simp; done) | (simp; omega)) rfl) rfl ?_
    refine SR_pu (RD_move rfl) rfl ?_
    refine SR_yes rfl rfl (by first | rfl | (simp; done) | (simp; omega)) ?_
    refine SR_rd (RD_loadA Try.isAgg24 Try.sizeOf24 rfl rfl) Has.wh rfl ?_
    refine SR_yes rfl rfl (by first | rfl | (simp; done) | (simp; omega)) ?_
    refine SR_pu (RD_move rfl) rfl ?_
    refine SR_yes rfl rfl (by first | rfl | (simp; done) | (simp; omega)) ?_
    refine SR_pu (RD_move rfl) rfl ?_
    refine SR_yes rfl rfl (by first | rfl | (simp; done) | (simp; omega)) ?_
    refine SR_pu (RD_addi rfl rfl (by omega) (by omega)) rfl ?_
    refine SR_yes rfl rfl (by first | rfl | (simp; done) | (simp; omega)) ?_
    first
      | refine SR_pu (RD_fieldAddr 1 Try.runUnderlying24 rfl rfl Try.sizeOf3 rfl) rfl ?_
      | refine SR_rd (RD_fieldAddrO 1 Try.runUnderlying24 rfl rfl Try.sizeOf3 rfl (by simp <;> omega)) Has.ro rfl ?_
    refine SR_yes rfl rfl (by first | rfl | (simp; done) | (simp; omega)) ?_
    refine SR_rd (RD_load Try.isAgg3 rfl) (Has.ce rfl) rfl ?_
    refine SR_yes rfl rfl (by first | rfl | (simp; done) | (simp; omega)) ?_
    refine SR_pu (RD_addi rfl rfl (by omega) (by omega)) rfl ?_
    refine SR_yes rfl rfl (by first | rfl | (simp; done) | (simp; omega)) ?_
    refine SR_call Try.call13 (.cons rfl (.cons rfl (.nil))) (blok_Lead ⟨(g : Int), 3 * (g : Int) + 1, 0, 0, 0, 0, 0, 0⟩ _) (lts rfl) ?_
    rintro _ L2 ⟨rfl, hL2⟩
    rw [lead_rr g v (i + (3 * g + 1)) (by omega)]
    rw [rr_N]
    refine SR.lands hL2 ?_
    refine SR_yes rfl rfl (by first | rfl | (simp; done) | (simp; omega)) ?_
    refine SR_pu (RD_move rfl) rfl ?_
    refine SR_yes rfl rfl (by first | rfl | (simp; done) | (simp; omega)) ?_
    refine SR_pu (RD_neq rfl rfl) rfl ?_
    refine SR_pu (RD_pick_f rfl (by first | rfl | (simp; done) | (simp; omega)) rfl) rfl ?_
    refine SR_nil ?_
    refine SN.le (l := [(0, _), (1, _), (2, _), (7, _), (8, _), (9, _), (10, _), (61, _)]) ?_ (.cons rfl (.cons rfl (.cons rfl (.cons rfl (.cons rfl (.cons rfl (.cons rfl (.cons rfl (.nil)))))))))
    refine SN_seq ?_
    refine SC_cond_false rfl (by simp) ?_
    refine SC_skip ?_
    refine SN_seq ?_
    refine SC_region ?_
    refine SR_pu (RD_move rfl) rfl ?_
    refine SR_pu (RD_move rfl) rfl ?_
    refine SR_ox0 (OX_mu (K := intK) Try.underlying25 Try.underlying3 rfl rfl rfl) ?_
    rintro _ _ rfl
    refine SR_nil ?_
    refine SN.le (l := [(0, _), (1, _), (2, _), (7, _), (8, _), (9, _)]) ?_ (.cons rfl (.cons rfl (.cons rfl (.cons rfl (.cons rfl (.cons rfl (.nil)))))))
    refine SN_block ?_
    refine SN_seq ?_
    refine SC_region ?_
    refine SR_pu (RD_move rfl) rfl ?_
    refine SR_pu (RD_addi rfl rfl (by omega) (by omega)) rfl ?_
    refine SR_pu (RD_assign rfl) rfl ?_
    refine SR_nil ?_
    refine SN.le (l := [(0, _), (1, _), (2, _), (7, _), (8, _), (9, _)]) ?_ (.cons rfl (.cons rfl (.cons rfl (.cons rfl (.cons rfl (.cons rfl (.nil)))))))
    refine SC_again (ih (i + 1) (by omega) (by omega)) (by rw [← hms]; exact .fin) (.cons rfl (.cons rfl (.cons rfl (.cons rfl (.cons rfl (.cons' rfl (ie (by omega)) (.nil)))))))
  · clear ih
    refine SC_exit rfl ?_
    refine SN_seq ?_
    refine SC_seq ?_
    refine SC_region ?_
    refine SR_ox (OX_mk intK) rfl ?_
    rintro _ _ ⟨b64, rfl, rfl⟩
    refine SR_pu (RD_assign rfl) rfl ?_
    refine SR_nil ?_
    refine SN.le (l := [(0, _), (1, _), (2, _), (7, _), (11, _)]) ?_ (.cons rfl (.cons rfl (.cons rfl (.cons rfl (.cons rfl (.nil))))))
    refine SN_seq ?_
    refine SC_seq ?_
    refine SC_seq ?_
    refine SC_region ?_
    refine SR_pu (RD_assign rfl) rfl ?_
    refine SR_nil ?_
    refine SN.le (l := [(0, _), (1, _), (2, _), (7, _), (11, _), (12, _)]) ?_ (.cons rfl (.cons rfl (.cons rfl (.cons rfl (.cons rfl (.cons rfl (.nil)))))))
    refine SN_seq ?_
    refine SC_block ?_
    refine SC_ind (X := Nat × List Int) (fun x => (x.1 ≤ n1 ∧ x.1 ≤ 20) ∧ x.2.length ≤ g) (fun x => n1 - x.1) (fun x => [(0, .int .i64 (g : Int)), (1, .int .i64 (v : Int)), (2, .slice a1 n1 c1), (7, .pointer (some ⟨b7, 0, none⟩)), (11, .map (some b64)), (12, .int .i64 (x.1 : Nat))]) (fun x => mapP intK b64 (wsM x.2) :: pt b7 (.cells [.int .i64 (g : Int), .int .i64 (3 * (g : Int) + 1), .int .i64 0, .int .i64 0, .int .i64 0, .int .i64 0, .int .i64 0, .int .i64 0].toArray 24) :: F) ((0, [])) (⟨by simp, by simp⟩) (.cons rfl (.cons rfl (.cons rfl (.cons rfl (.cons rfl (.cons rfl (.nil))))))) ((show Lands _ (mapP intK b64 [] :: pt b7 (.cells [.int .i64 (g : Int), .int .i64 (3 * (g : Int) + 1), .int .i64 0, .int .i64 0, .int .i64 0, .int .i64 0, .int .i64 0, .int .i64 0].toArray 24) :: F) from .fin)) ?_
    intro ⟨i, T⟩ hi ih1
    obtain ⟨hi1, hi2⟩ := hi
    dsimp only at hi1 hi2 ih1 ⊢
    refine SC_seq ?_
    refine SC_seq ?_
    refine SC_region ?_
    refine SR_pu (RD_move rfl) rfl ?_
    refine SR_pu (RD_move rfl) rfl ?_
    refine SR_pu (RD_len Try.runUnderlying22 rfl) rfl ?_
    refine SR_pu (RD_lss rfl rfl) rfl ?_
    refine SR_pu (RD_move rfl) rfl ?_
    refine SR_guard rfl rfl (fun hg14_4 => ?_) (fun hg14_4 => ?_)
    · refine SR_yes rfl rfl (hg14_4) ?_
      refine SR_pu (RD_move rfl) rfl ?_
      refine SR_yes rfl rfl (hg14_4) ?_
      refine SR_rd (RD_lenM (K := intK) Try.underlying25 rfl) (Has.ma (K := intK)) rfl ?_
      refine SR_yes rfl rfl (hg14_4) ?_
      refine SR_pu (RD_move rfl) rfl ?_
      refine SR_yes rfl rfl (hg14_4) ?_
      refine SR_pu (RD_lss rfl rfl) rfl ?_
      refine SR_pu (RD_pick_t rfl (hg14_4) rfl) rfl ?_
      refine SR_pu (RD_move rfl) rfl ?_
      refine SR_guard rfl rfl (fun hg14_10 => ?_) (fun hg14_10 => ?_)
      · refine SR_yes rfl rfl (hg14_10) ?_
        refine SR_pu (RD_move rfl) rfl ?_
        refine SR_yes rfl rfl (hg14_10) ?_
        refine SR_pu (RD_lss rfl rfl) rfl ?_
        refine SR_pu (RD_pick_t rfl (hg14_10) rfl) rfl ?_
        refine SR_nil ?_
        refine SN.le (l := [(0, _), (1, _), (2, _), (7, _), (11, _), (12, _), (78, _)]) ?_ (.cons rfl (.cons rfl (.cons rfl (.cons rfl (.cons rfl (.cons rfl (.cons rfl (.nil))))))))
        refine SN_seq ?_
        refine SC_cond rfl (fun hc78 => ?_) (fun hc78 => ?_)
        · have hin : i < n1 := by simp at hg14_4; omega
          have hi20 : i < 20 := by simp at hc78; omega
          have hTg : T.length < g := by simp [wsM] at hg14_10; omega
          obtain ⟨z, hz⟩ : ∃ z, l1[i]? = some z := ⟨_, List.getElem?_eq_getElem (by omega)⟩
          refine SC_skip ?_
          refine SN_seq ?_
          refine SC_seq ?_
          refine SC_block ?_
          refine SC_drawn (.cons 0 true (.cons 1 true (.cons 2 true (.cons 3 true (.cons 4 true (.cons 5 true (.cons 6 true (.cons 7 true (.cons 8 true (.cons 9 false (.nil))))))))))) (by kernel_rfl) (by kernel_rfl) ?_
          refine SQ_pu rfl (RD_move rfl) rfl ?_
          refine SQ_pu rfl (RD_move rfl) rfl ?_
          refine SQ_pu rfl (RD_move rfl) rfl ?_
          refine SQ_rd rfl (RD_ixO Try.runUnderlying22 Try.sizeOf3 rfl rfl (by first | assumption | (simp; done) | (simp; omega)) (by omega) (by omega)) Has.ro rfl ?_
          refine SQ_rd rfl (RD_loadO (v := intV z) (cs := l1.map intV) Try.isAgg3 rfl (by simp [hz])) Has.ro rfl ?_
          refine SQ_pu rfl (RD_mask 8 rfl rfl rfl (by decide) 256 rfl) rfl ?_
          first
            | refine SQ_pu rfl (RD_fieldAddr 1 Try.runUnderlying24 rfl rfl Try.sizeOf3 rfl) rfl ?_
            | refine SQ_rd rfl (RD_fieldAddrO 1 Try.runUnderlying24 rfl rfl Try.sizeOf3 rfl (by simp <;> omega)) Has.ro rfl ?_
          refine SQ_rd rfl (RD_load Try.isAgg3 rfl) (Has.ce rfl) rfl ?_
          refine SQ_pu rfl (RD_remi rfl rfl (by omega) (by omega)) rfl ?_
          refine SQ_ox0 rfl (OX_mu (K := intK) Try.underlying25 Try.underlying3 rfl rfl rfl) ?_
          rintro _ _ rfl
          refine ⟨.w rfl (.w rfl (.w rfl (.nil))), ?_⟩
          refine SQ_nil ?_
          refine SN.le (l := [(0, _), (1, _), (2, _), (7, _), (11, _), (12, _)]) ?_ (.cons rfl (.cons rfl (.cons rfl (.cons rfl (.cons rfl (.cons rfl (.nil)))))))
          refine SN_block ?_
          refine SN_seq ?_
          refine SC_region ?_
          refine SR_pu (RD_move rfl) rfl ?_
          refine SR_pu (RD_addi rfl rfl (by omega) (by omega)) rfl ?_
          refine SR_pu (RD_assign rfl) rfl ?_
          refine SR_nil ?_
          refine SN.le (l := [(0, _), (1, _), (2, _), (7, _), (11, _), (12, _)]) ?_ (.cons rfl (.cons rfl (.cons rfl (.cons rfl (.cons rfl (.cons rfl (.nil)))))))
          refine SC_again (ih1 ((i + 1, putW T (z % 256 % (3 * (g : Int) + 1)))) (⟨⟨by dsimp only; omega, by dsimp only; omega⟩, by have := putW_len T (z % 256 % (3 * (g : Int) + 1)); dsimp only; omega⟩) (by dsimp only; omega)) (by dsimp only; rw [show wsM (putW T (z % 256 % (3 * (g : Int) + 1))) = mset (wsM T) (z % 256 % (3 * (g : Int) + 1)) (.int .i64 1) from (mset_ws _ _).symm]; exact .fin) (.cons rfl (.cons rfl (.cons rfl (.cons rfl (.cons rfl (.cons' rfl (ie (by dsimp only; omega)) (.nil)))))))
        · clear ih1
          refine SC_exit rfl ?_
          refine SN_seq ?_
          refine SC_seq ?_
          refine SC_region ?_
          refine SR_pu (RD_assign rfl) rfl ?_
          refine SR_nil ?_
          refine SN.le (l := [(1, _), (7, _), (11, _), (13, _)]) ?_ (.cons rfl (.cons rfl (.cons rfl (.cons rfl (.nil)))))
          refine SN_seq ?_
          refine SC_seq ?_
          refine SC_seq ?_
          refine SC_region ?_
          refine SR_pu (RD_assign rfl) rfl ?_
          refine SR_nil ?_
          refine SN.le (l := [(1, _), (7, _), (11, _), (13, _), (14, _)]) ?_ (.cons rfl (.cons rfl (.cons rfl (.cons rfl (.cons rfl (.nil))))))
          refine SN_seq ?_
          refine SC_block ?_
          refine SC_ind (X := Nat) (fun i => i ≤ 3 * g + 1) (fun i => 3 * g + 1 - i) (fun i => [(1, .int .i64 (v : Int)), (7, .pointer (some ⟨b7, 0, none⟩)), (11, .map (some b64)), (13, .bool (runB T g v i)), (14, .int .i64 (i : Nat))]) (fun i => mapP intK b64 (wsM T) :: pt b7 (.cells [.int .i64 (g : Int), .int .i64 (3 * (g : Int) + 1), .int .i64 0, .int .i64 0, .int .i64 0, .int .i64 0, .int .i64 0, .int .i64 0].toArray 24) :: F) (0) (by omega) (.cons rfl (.cons rfl (.cons rfl (.cons rfl (.cons rfl (.nil)))))) (.fin) ?_
          intro k hi ih2
          refine SC_seq ?_
          refine SC_seq ?_
          refine SC_region ?_
          refine SR_pu (RD_move rfl) rfl ?_
          first
            | refine SR_pu (RD_fieldAddr 1 Try.runUnderlying24 rfl rfl Try.sizeOf3 rfl) rfl ?_
            | refine SR_rd (RD_fieldAddrO 1 Try.runUnderlying24 rfl rfl Try.sizeOf3 rfl (by simp <;> omega)) Has.ro rfl ?_
          refine SR_rd (RD_load Try.isAgg3 rfl) (Has.ce rfl) rfl ?_
          refine SR_pu (RD_lss rfl rfl) rfl ?_
          refine SR_nil ?_
          refine SN.le (l := [(1, _), (7, _), (11, _), (13, _), (14, _), (93, _)]) ?_ (.cons rfl (.cons rfl (.cons rfl (.cons rfl (.cons rfl (.cons rfl (.nil)))))))
          refine SN_seq ?_
          refine SC_cond rfl (fun hc93 => ?_) (fun hc93 => ?_)
          · have hin : k < 3 * g + 1 := by simp at hc93; omega
            have q0 := iget01 T (rr g v k)
            have q1 := iget01 T (rr g v (k + 1))
            have q2 := iget01 T (rr g v (k + 2))
            refine SC_skip ?_
            refine SN_seq ?_
            refine SC_seq ?_
            refine SC_block ?_
            refine SC_drawn (.cons 0 true (.cons 1 true (.cons 2 true (.cons 3 true (.cons 4 true (.cons 5 true (.cons 6 true (.cons 9 true (.cons 10 true (.cons 11 true (.cons 12 true (.cons 13 true (.cons 14 true (.cons 18 true (.cons 19 true (.cons 20 true (.cons 21 true (.cons 22 true (.cons 23 true (.cons 7 false (.cons 8 true (.cons 15 false (.cons 16 true (.cons 17 true (.cons 24 false (.cons 25 true (.cons 26 true (.cons 27 true (.cons 28 true (.cons 29 true (.nil))))))))))))))))))))))))))))))) (by kernel_rfl) (by kernel_rfl) ?_
            refine SQ_pu rfl (RD_move rfl) rfl ?_
            refine SQ_pu rfl (RD_move rfl) rfl ?_
            refine SQ_guard (i := 2) rfl rfl rfl (fun hg21_1 => ?_) (fun hg21_1 => ?_)
            · refine SQ_pyes rfl rfl rfl (hg21_1) (RD_move rfl) rfl ?_
              refine SQ_yes rfl rfl rfl (hg21_1) (RD_loadA Try.isAgg24 Try.sizeOf24 rfl rfl) Has.wh rfl ?_
              refine SQ_pyes rfl rfl rfl (hg21_1) (RD_move rfl) rfl ?_
              refine SQ_pyes rfl rfl rfl (hg21_1) (RD_move rfl) rfl ?_
              refine SQ_pyes rfl rfl rfl (hg21_1) (RD_addi rfl rfl (by omega) (by omega)) rfl ?_
              refine SQ_pyes rfl rfl rfl (hg21_1) (RD_move rfl) rfl ?_
              refine SQ_yes rfl rfl rfl (hg21_1) (RD_loadA Try.isAgg24 Try.sizeOf24 rfl rfl) Has.wh rfl ?_
              refine SQ_pyes rfl rfl rfl (hg21_1) (RD_move rfl) rfl ?_
              refine SQ_pyes rfl rfl rfl (hg21_1) (RD_move rfl) rfl ?_
              refine SQ_pyes rfl rfl rfl (hg21_1) (RD_addi rfl rfl (by omega) (by omega)) rfl ?_
              refine SQ_pyes rfl rfl rfl (hg21_1) (RD_addi rfl rfl (by omega) (by omega)) rfl ?_
              refine SQ_pyes rfl rfl rfl (hg21_1) (RD_move rfl) rfl ?_
              refine SQ_yes rfl rfl rfl (hg21_1) (RD_loadA Try.isAgg24 Try.sizeOf24 rfl rfl) Has.wh rfl ?_
              refine SQ_pyes rfl rfl rfl (hg21_1) (RD_move rfl) rfl ?_
              refine SQ_pyes rfl rfl rfl (hg21_1) (RD_move rfl) rfl ?_
              refine SQ_pyes rfl rfl rfl (hg21_1) (RD_addi rfl rfl (by omega) (by omega)) rfl ?_
              refine SQ_pyes rfl rfl rfl (hg21_1) (RD_addi rfl rfl (by omega) (by omega)) rfl ?_
              refine SQ_one (SA_call rfl (.mk rfl rfl (hg21_1)) Try.call13 (.cons rfl (.cons rfl (.nil))) (blok_Lead ⟨(g : Int), 3 * (g : Int) + 1, 0, 0, 0, 0, 0, 0⟩ _) (lts rfl) ?_)
              rintro _ L3 ⟨rfl, hL3⟩
              refine ⟨.lands hL3 (.h Has.wh (.h Has.wh (.w rfl (.nil)))), ?_⟩
              rw [lead_rr g v k (by omega)]
              refine SQ.lands hL3 ?_
              refine SQ_yes rfl rfl rfl (hg21_1) (RD_lookI (m := wsM T) Try.underlying25 Try.underlying3 Try.zeroValue3 rfl rfl (or_ws T _)) (Has.ma (K := intK)) rfl ?_
              refine SQ_one (SA_call rfl (.mk rfl rfl (hg21_1)) Try.call13 (.cons rfl (.cons rfl (.nil))) (blok_Lead ⟨(g : Int), 3 * (g : Int) + 1, 0, 0, 0, 0, 0, 0⟩ _) (lts rfl) ?_)
              rintro _ L4 ⟨rfl, hL4⟩
              refine ⟨.lands hL4 (.h (Has.ma (K := intK)) (.h Has.wh (.w rfl (.h Has.wh (.nil))))), ?_⟩
              rw [lead_rr g v (k + 1) (by omega)]
              refine SQ.lands hL4 ?_
              refine SQ_yes rfl rfl rfl (hg21_1) (RD_lookI (m := wsM T) Try.underlying25 Try.underlying3 Try.zeroValue3 rfl rfl (or_ws T _)) (Has.ma (K := intK)) rfl ?_
              refine SQ_pyes rfl rfl rfl (hg21_1) (RD_addi rfl rfl (by omega) (by omega)) rfl ?_
              refine SQ_one (SA_call rfl (.mk rfl rfl (hg21_1)) Try.call13 (.cons rfl (.cons rfl (.nil))) (blok_Lead ⟨(g : Int), 3 * (g : Int) + 1, 0, 0, 0, 0, 0, 0⟩ _) (lts rfl) ?_)
              rintro _ L5 ⟨rfl, hL5⟩
              refine ⟨.lands hL5 (.h (Has.ma (K := intK)) (.h (Has.ma (K := intK)) (.w rfl (.h Has.wh (.h Has.wh (.nil)))))), ?_⟩
              rw [lead_rr g v (k + 2) (by omega)]
              refine SQ.lands hL5 ?_
              refine SQ_yes rfl rfl rfl (hg21_1) (RD_lookI (m := wsM T) Try.underlying25 Try.underlying3 Try.zeroValue3 rfl rfl (or_ws T _)) (Has.ma (K := intK)) rfl ?_
              refine SQ_pyes rfl rfl rfl (hg21_1) (RD_addi rfl rfl (by omega) (by omega)) rfl ?_
              refine SQ_pyes rfl rfl rfl (hg21_1) (RD_eql rfl rfl) rfl ?_
              refine SQ_pu rfl (RD_pick_f rfl (hg21_1) rfl) rfl ?_
              refine SQ_pu rfl (RD_assign rfl) rfl ?_
              refine SQ_nil ?_
              refine SN.le (l := [(1, _), (7, _), (11, _), (13, _), (14, _)]) ?_ (.cons rfl (.cons rfl (.cons rfl (.cons rfl (.cons rfl (.nil))))))
              refine SN_block ?_
              refine SN_seq ?_
              refine SC_region ?_
              refine SR_pu (RD_move rfl) rfl ?_
              refine SR_pu (RD_addi rfl rfl (by omega) (by omega)) rfl ?_
              refine SR_pu (RD_assign rfl) rfl ?_
              refine SR_nil ?_
              refine SN.le (l := [(1, _), (7, _), (11, _), (13, _), (14, _)]) ?_ (.cons rfl (.cons rfl (.cons rfl (.cons rfl (.cons rfl (.nil))))))
              refine SC_again (ih2 (k + 1) (by omega) (by omega)) (.fin) (.cons rfl (.cons rfl (.cons rfl (.cons' rfl (congrArg Value.bool (by rw [runB_succ]; first | (rw [show runB T g v k = true from hg21_1, Bool.true_or]) | (rw [show runB T g v k = false from hg21_1, Bool.false_or]; rfl))) (.cons' rfl (ie (by omega)) (.nil))))))
            · refine SQ_no rfl rfl rfl (hg21_1) (lts rfl) ?_
              refine SQ_no rfl rfl rfl (hg21_1) (lts rfl) ?_
              refine SQ_no rfl rfl rfl (hg21_1) (lts rfl) ?_
              refine SQ_no rfl rfl rfl (hg21_1) (lts rfl) ?_
              refine SQ_no rfl rfl rfl (hg21_1) (lts rfl) ?_
              refine SQ_no rfl rfl rfl (hg21_1) (lts rfl) ?_
              refine SQ_no rfl rfl rfl (hg21_1) (lts rfl) ?_
              refine SQ_no rfl rfl rfl (hg21_1) (lts rfl) ?_
              refine SQ_no rfl rfl rfl (hg21_1) (lts rfl) ?_
              refine SQ_no rfl rfl rfl (hg21_1) (lts rfl) ?_
              refine SQ_no rfl rfl rfl (hg21_1) (lts rfl) ?_
              refine SQ_no rfl rfl rfl (hg21_1) (lts rfl) ?_
              refine SQ_no rfl rfl rfl (hg21_1) (lts rfl) ?_
              refine SQ_no rfl rfl rfl (hg21_1) (lts rfl) ?_
              refine SQ_no rfl rfl rfl (hg21_1) (lts rfl) ?_
              refine SQ_no rfl rfl rfl (hg21_1) (lts rfl) ?_
              refine SQ_no rfl rfl rfl (hg21_1) (lts rfl) ?_
              refine SQ_no1 rfl rfl rfl (hg21_1) (lts rfl) ?_
              refine SQ_no rfl rfl rfl (hg21_1) (lts rfl) ?_
              refine SQ_no1 rfl rfl rfl (hg21_1) (lts rfl) ?_
              refine SQ_no rfl rfl rfl (hg21_1) (lts rfl) ?_
              refine SQ_no rfl rfl rfl (hg21_1) (lts rfl) ?_
              refine SQ_no1 rfl rfl rfl (hg21_1) (lts rfl) ?_
              refine SQ_no rfl rfl rfl (hg21_1) (lts rfl) ?_
              refine SQ_no rfl rfl rfl (hg21_1) (lts rfl) ?_
              refine SQ_no rfl rfl rfl (hg21_1) (lts rfl) ?_
              refine SQ_pu rfl (RD_pick_t rfl (hg21_1) rfl) rfl ?_
              refine SQ_pu rfl (RD_assign rfl) rfl ?_
              refine SQ_nil ?_
              refine SN.le (l := [(1, _), (7, _), (11, _), (13, _), (14, _)]) ?_ (.cons rfl (.cons rfl (.cons rfl (.cons rfl (.cons rfl (.nil))))))
              refine SN_block ?_
              refine SN_seq ?_
              refine SC_region ?_
              refine SR_pu (RD_move rfl) rfl ?_
              refine SR_pu (RD_addi rfl rfl (by omega) (by omega)) rfl ?_
              refine SR_pu (RD_assign rfl) rfl ?_
              refine SR_nil ?_
              refine SN.le (l := [(1, _), (7, _), (11, _), (13, _), (14, _)]) ?_ (.cons rfl (.cons rfl (.cons rfl (.cons rfl (.cons rfl (.nil))))))
              refine SC_again (ih2 (k + 1) (by omega) (by omega)) (.fin) (.cons rfl (.cons rfl (.cons rfl (.cons' rfl (congrArg Value.bool (by rw [runB_succ]; first | (rw [show runB T g v k = true from hg21_1, Bool.true_or]) | (rw [show runB T g v k = false from hg21_1, Bool.false_or]; rfl))) (.cons' rfl (ie (by omega)) (.nil))))))
          · have hin : k = 3 * g + 1 := by simp at hc93; omega
            subst hin
            clear ih2
            refine SC_exit rfl ?_
            refine SN_seq ?_
            refine SC_seq ?_
            refine SC_region ?_
            refine SR_pu (RD_move rfl) rfl ?_
            refine SR_pu (RD_move rfl) rfl ?_
            refine SR_yes rfl rfl (run_all hi2) ?_
            refine SR_call Try.call14 (.nil) (blok_awake) (lts rfl) ?_
            rintro _ L9 ⟨rfl, hL9⟩
            refine SR.lands hL9 ?_
            refine SR_pu (RD_pick_t rfl (run_all hi2) rfl) rfl ?_
            refine SR_pu (RD_assign rfl) rfl ?_
            refine SR_nil ?_
            refine SN.le (l := [(6, _)]) ?_ (.cons rfl (.nil))
            refine SN_seq ?_
            refine SC_ret1 rfl rfl ?_
            exact ⟨rfl, .fin⟩
      · refine SR_no rfl rfl (hg14_10) (lts rfl) ?_
        refine SR_no rfl rfl (hg14_10) (lts rfl) ?_
        refine SR_pu (RD_pick_f rfl (hg14_10) rfl) rfl ?_
        refine SR_nil ?_
        refine SN.le (l := [(0, _), (1, _), (2, _), (7, _), (11, _), (12, _), (78, _)]) ?_ (.cons rfl (.cons rfl (.cons rfl (.cons rfl (.cons rfl (.cons rfl (.cons rfl (.nil))))))))
        refine SN_seq ?_
        clear ih1
        refine SC_cond_false rfl (rfl) ?_
        refine SC_exit rfl ?_
        refine SN_seq ?_
        refine SC_seq ?_
        refine SC_region ?_
        refine SR_pu (RD_assign rfl) rfl ?_
        refine SR_nil ?_
        refine SN.le (l := [(1, _), (7, _), (11, _), (13, _)]) ?_ (.cons rfl (.cons rfl (.cons rfl (.cons rfl (.nil)))))
        refine SN_seq ?_
        refine SC_seq ?_
        refine SC_seq ?_
        refine SC_region ?_
        refine SR_pu (RD_assign rfl) rfl ?_
        refine SR_nil ?_
        refine SN.le (l := [(1, _), (7, _), (11, _), (13, _), (14, _)]) ?_ (.cons rfl (.cons rfl (.cons rfl (.cons rfl (.cons rfl (.nil))))))
        refine SN_seq ?_
        refine SC_block ?_
        refine SC_ind (X := Nat) (fun i => i ≤ 3 * g + 1) (fun i => 3 * g + 1 - i) (fun i => [(1, .int .i64 (v : Int)), (7, .pointer (some ⟨b7, 0, none⟩)), (11, .map (some b64)), (13, .bool (runB T g v i)), (14, .int .i64 (i : Nat))]) (fun i => mapP intK b64 (wsM T) :: pt b7 (.cells [.int .i64 (g : Int), .int .i64 (3 * (g : Int) + 1), .int .i64 0, .int .i64 0, .int .i64 0, .int .i64 0, .int .i64 0, .int .i64 0].toArray 24) :: F) (0) (by omega) (.cons rfl (.cons rfl (.cons rfl (.cons rfl (.cons rfl (.nil)))))) (.fin) ?_
        intro k hi ih2
        refine SC_seq ?_
        refine SC_seq ?_
        refine SC_region ?_
        refine SR_pu (RD_move rfl) rfl ?_
        first
          | refine SR_pu (RD_fieldAddr 1 Try.runUnderlying24 rfl rfl Try.sizeOf3 rfl) rfl ?_
          | refine SR_rd (RD_fieldAddrO 1 Try.runUnderlying24 rfl rfl Try.sizeOf3 rfl (by simp <;> omega)) Has.ro rfl ?_
        refine SR_rd (RD_load Try.isAgg3 rfl) (Has.ce rfl) rfl ?_
        refine SR_pu (RD_lss rfl rfl) rfl ?_
        refine SR_nil ?_
        refine SN.le (l := [(1, _), (7, _), (11, _), (13, _), (14, _), (93, _)]) ?_ (.cons rfl (.cons rfl (.cons rfl (.cons rfl (.cons rfl (.cons rfl (.nil)))))))
        refine SN_seq ?_
        refine SC_cond rfl (fun hc93 => ?_) (fun hc93 => ?_)
        · have hin : k < 3 * g + 1 := by simp at hc93; omega
          have q0 := iget01 T (rr g v k)
          have q1 := iget01 T (rr g v (k + 1))
          have q2 := iget01 T (rr g v (k + 2))
          refine SC_skip ?_
          refine SN_seq ?_
          refine SC_seq ?_
          refine SC_block ?_
          refine SC_drawn (.cons 0 true (.cons 1 true (.cons 2 true (.cons 3 true (.cons 4 true (.cons 5 true (.cons 6 true (.cons 9 true (.cons 10 true (.cons 11 true (.cons 12 true (.cons 13 true (.cons 14 true (.cons 18 true (.cons 19 true (.cons 20 true (.cons 21 true (.cons 22 true (.cons 23 true (.cons 7 false (.cons 8 true (.cons 15 false (.cons 16 true (.cons 17 true (.cons 24 false (.cons 25 true (.cons 26 true (.cons 27 true (.cons 28 true (.cons 29 true (.nil))))))))))))))))))))))))))))))) (by kernel_rfl) (by kernel_rfl) ?_
          refine SQ_pu rfl (RD_move rfl) rfl ?_
          refine SQ_pu rfl (RD_move rfl) rfl ?_
          refine SQ_guard (i := 2) rfl rfl rfl (fun hg21_1 => ?_) (fun hg21_1 => ?_)
          · refine SQ_pyes rfl rfl rfl (hg21_1) (RD_move rfl) rfl ?_
            refine SQ_yes rfl rfl rfl (hg21_1) (RD_loadA Try.isAgg24 Try.sizeOf24 rfl rfl) Has.wh rfl ?_
            refine SQ_pyes rfl rfl rfl (hg21_1) (RD_move rfl) rfl ?_
            refine SQ_pyes rfl rfl rfl (hg21_1) (RD_move rfl) rfl ?_
            refine SQ_pyes rfl rfl rfl (hg21_1) (RD_addi rfl rfl (by omega) (by omega)) rfl ?_
            refine SQ_pyes rfl rfl rfl (hg21_1) (RD_move rfl) rfl ?_
            refine SQ_yes rfl rfl rfl (hg21_1) (RD_loadA Try.isAgg24 Try.sizeOf24 rfl rfl) Has.wh rfl ?_
            refine SQ_pyes rfl rfl rfl (hg21_1) (RD_move rfl) rfl ?_
            refine SQ_pyes rfl rfl rfl (hg21_1) (RD_move rfl) rfl ?_
            refine SQ_pyes rfl rfl rfl (hg21_1) (RD_addi rfl rfl (by omega) (by omega)) rfl ?_
            refine SQ_pyes rfl rfl rfl (hg21_1) (RD_addi rfl rfl (by omega) (by omega)) rfl ?_
            refine SQ_pyes rfl rfl rfl (hg21_1) (RD_move rfl) rfl ?_
            refine SQ_yes rfl rfl rfl (hg21_1) (RD_loadA Try.isAgg24 Try.sizeOf24 rfl rfl) Has.wh rfl ?_
            refine SQ_pyes rfl rfl rfl (hg21_1) (RD_move rfl) rfl ?_
            refine SQ_pyes rfl rfl rfl (hg21_1) (RD_move rfl) rfl ?_
            refine SQ_pyes rfl rfl rfl (hg21_1) (RD_addi rfl rfl (by omega) (by omega)) rfl ?_
            refine SQ_pyes rfl rfl rfl (hg21_1) (RD_addi rfl rfl (by omega) (by omega)) rfl ?_
            refine SQ_one (SA_call rfl (.mk rfl rfl (hg21_1)) Try.call13 (.cons rfl (.cons rfl (.nil))) (blok_Lead ⟨(g : Int), 3 * (g : Int) + 1, 0, 0, 0, 0, 0, 0⟩ _) (lts rfl) ?_)
            rintro _ L3 ⟨rfl, hL3⟩
            refine ⟨.lands hL3 (.h Has.wh (.h Has.wh (.w rfl (.nil)))), ?_⟩
            rw [lead_rr g v k (by omega)]
            refine SQ.lands hL3 ?_
            refine SQ_yes rfl rfl rfl (hg21_1) (RD_lookI (m := wsM T) Try.underlying25 Try.underlying3 Try.zeroValue3 rfl rfl (or_ws T _)) (Has.ma (K := intK)) rfl ?_
            refine SQ_one (SA_call rfl (.mk rfl rfl (hg21_1)) Try.call13 (.cons rfl (.cons rfl (.nil))) (blok_Lead ⟨(g : Int), 3 * (g : Int) + 1, 0, 0, 0, 0, 0, 0⟩ _) (lts rfl) ?_)
            rintro _ L4 ⟨rfl, hL4⟩
            refine ⟨.lands hL4 (.h (Has.ma (K := intK)) (.h Has.wh (.w rfl (.h Has.wh (.nil))))), ?_⟩
            rw [lead_rr g v (k + 1) (by omega)]
            refine SQ.lands hL4 ?_
            refine SQ_yes rfl rfl rfl (hg21_1) (RD_lookI (m := wsM T) Try.underlying25 Try.underlying3 Try.zeroValue3 rfl rfl (or_ws T _)) (Has.ma (K := intK)) rfl ?_
            refine SQ_pyes rfl rfl rfl (hg21_1) (RD_addi rfl rfl (by omega) (by omega)) rfl ?_
            refine SQ_one (SA_call rfl (.mk rfl rfl (hg21_1)) Try.call13 (.cons rfl (.cons rfl (.nil))) (blok_Lead ⟨(g : Int), 3 * (g : Int) + 1, 0, 0, 0, 0, 0, 0⟩ _) (lts rfl) ?_)
            rintro _ L5 ⟨rfl, hL5⟩
            refine ⟨.lands hL5 (.h (Has.ma (K := intK)) (.h (Has.ma (K := intK)) (.w rfl (.h Has.wh (.h Has.wh (.nil)))))), ?_⟩
            rw [lead_rr g v (k + 2) (by omega)]
            refine SQ.lands hL5 ?_
            refine SQ_yes rfl rfl rfl (hg21_1) (RD_lookI (m := wsM T) Try.underlying25 Try.underlying3 Try.zeroValue3 rfl rfl (or_ws T _)) (Has.ma (K := intK)) rfl ?_
            refine SQ_pyes rfl rfl rfl (hg21_1) (RD_addi rfl rfl (by omega) (by omega)) rfl ?_
            refine SQ_pyes rfl rfl rfl (hg21_1) (RD_eql rfl rfl) rfl ?_
            refine SQ_pu rfl (RD_pick_f rfl (hg21_1) rfl) rfl ?_
            refine SQ_pu rfl (RD_assign rfl) rfl ?_
            refine SQ_nil ?_
            refine SN.le (l := [(1, _), (7, _), (11, _), (13, _), (14, _)]) ?_ (.cons rfl (.cons rfl (.cons rfl (.cons rfl (.cons rfl (.nil))))))
            refine SN_block ?_
            refine SN_seq ?_
            refine SC_region ?_
            refine SR_pu (RD_move rfl) rfl ?_
            refine SR_pu (RD_addi rfl rfl (by omega) (by omega)) rfl ?_
            refine SR_pu (RD_assign rfl) rfl ?_
            refine SR_nil ?_
            refine SN.le (l := [(1, _), (7, _), (11, _), (13, _), (14, _)]) ?_ (.cons rfl (.cons rfl (.cons rfl (.cons rfl (.cons rfl (.nil))))))
            refine SC_again (ih2 (k + 1) (by omega) (by omega)) (.fin) (.cons rfl (.cons rfl (.cons rfl (.cons' rfl (congrArg Value.bool (by rw [runB_succ]; first | (rw [show runB T g v k = true from hg21_1, Bool.true_or]) | (rw [show runB T g v k = false from hg21_1, Bool.false_or]; rfl))) (.cons' rfl (ie (by omega)) (.nil))))))
          · refine SQ_no rfl rfl rfl (hg21_1) (lts rfl) ?_
            refine SQ_no rfl rfl rfl (hg21_1) (lts rfl) ?_
            refine SQ_no rfl rfl rfl (hg21_1) (lts rfl) ?_
            refine SQ_no rfl rfl rfl (hg21_1) (lts rfl) ?_
            refine SQ_no rfl rfl rfl (hg21_1) (lts rfl) ?_
            refine SQ_no rfl rfl rfl (hg21_1) (lts rfl) ?_
            refine SQ_no rfl rfl rfl (hg21_1) (lts rfl) ?_
            refine SQ_no rfl rfl rfl (hg21_1) (lts rfl) ?_
            refine SQ_no rfl rfl rfl (hg21_1) (lts rfl) ?_
            refine SQ_no rfl rfl rfl (hg21_1) (lts rfl) ?_
            refine SQ_no rfl rfl rfl (hg21_1) (lts rfl) ?_
            refine SQ_no rfl rfl rfl (hg21_1) (lts rfl) ?_
            refine SQ_no rfl rfl rfl (hg21_1) (lts rfl) ?_
            refine SQ_no rfl rfl rfl (hg21_1) (lts rfl) ?_
            refine SQ_no rfl rfl rfl (hg21_1) (lts rfl) ?_
            refine SQ_no rfl rfl rfl (hg21_1) (lts rfl) ?_
            refine SQ_no rfl rfl rfl (hg21_1) (lts rfl) ?_
            refine SQ_no1 rfl rfl rfl (hg21_1) (lts rfl) ?_
            refine SQ_no rfl rfl rfl (hg21_1) (lts rfl) ?_
            refine SQ_no1 rfl rfl rfl (hg21_1) (lts rfl) ?_
            refine SQ_no rfl rfl rfl (hg21_1) (lts rfl) ?_
            refine SQ_no rfl rfl rfl (hg21_1) (lts rfl) ?_
            refine SQ_no1 rfl rfl rfl (hg21_1) (lts rfl) ?_
            refine SQ_no rfl rfl rfl (hg21_1) (lts rfl) ?_
            refine SQ_no rfl rfl rfl (hg21_1) (lts rfl) ?_
            refine SQ_no rfl rfl rfl (hg21_1) (lts rfl) ?_
            refine SQ_pu rfl (RD_pick_t rfl (hg21_1) rfl) rfl ?_
            refine SQ_pu rfl (RD_assign rfl) rfl ?_
            refine SQ_nil ?_
            refine SN.le (l := [(1, _), (7, _), (11, _), (13, _), (14, _)]) ?_ (.cons rfl (.cons rfl (.cons rfl (.cons rfl (.cons rfl (.nil))))))
            refine SN_block ?_
            refine SN_seq ?_
            refine SC_region ?_
            refine SR_pu (RD_move rfl) rfl ?_
            refine SR_pu (RD_addi rfl rfl (by omega) (by omega)) rfl ?_
            refine SR_pu (RD_assign rfl) rfl ?_
            refine SR_nil ?_
            refine SN.le (l := [(1, _), (7, _), (11, _), (13, _), (14, _)]) ?_ (.cons rfl (.cons rfl (.cons rfl (.cons rfl (.cons rfl (.nil))))))
            refine SC_again (ih2 (k + 1) (by omega) (by omega)) (.fin) (.cons rfl (.cons rfl (.cons rfl (.cons' rfl (congrArg Value.bool (by rw [runB_succ]; first | (rw [show runB T g v k = true from hg21_1, Bool.true_or]) | (rw [show runB T g v k = false from hg21_1, Bool.false_or]; rfl))) (.cons' rfl (ie (by omega)) (.nil))))))
        · have hin : k = 3 * g + 1 := by simp at hc93; omega
          subst hin
          clear ih2
          refine SC_exit rfl ?_
          refine SN_seq ?_
          refine SC_seq ?_
          refine SC_region ?_
          refine SR_pu (RD_move rfl) rfl ?_
          refine SR_pu (RD_move rfl) rfl ?_
          refine SR_yes rfl rfl (run_all hi2) ?_
          refine SR_call Try.call14 (.nil) (blok_awake) (lts rfl) ?_
          rintro _ L9 ⟨rfl, hL9⟩
          refine SR.lands hL9 ?_
          refine SR_pu (RD_pick_t rfl (run_all hi2) rfl) rfl ?_
          refine SR_pu (RD_assign rfl) rfl ?_
          refine SR_nil ?_
          refine SN.le (l := [(6, _)]) ?_ (.cons rfl (.nil))
          refine SN_seq ?_
          refine SC_ret1 rfl rfl ?_
          exact ⟨rfl, .fin⟩
    · refine SR_no rfl rfl (hg14_4) (lts rfl) ?_
      refine SR_no rfl rfl (hg14_4) (lts rfl) ?_
      refine SR_no rfl rfl (hg14_4) (lts rfl) ?_
      refine SR_no rfl rfl (hg14_4) (lts rfl) ?_
      refine SR_pu (RD_pick_f rfl (hg14_4) rfl) rfl ?_
      refine SR_pu (RD_move rfl) rfl ?_
      refine SR_no rfl rfl (rfl) (lts rfl) ?_
      refine SR_no rfl rfl (rfl) (lts rfl) ?_
      refine SR_pu (RD_pick_f rfl (rfl) rfl) rfl ?_
      refine SR_nil ?_
      refine SN.le (l := [(0, _), (1, _), (2, _), (7, _), (11, _), (12, _), (78, _)]) ?_ (.cons rfl (.cons rfl (.cons rfl (.cons rfl (.cons rfl (.cons rfl (.cons rfl (.nil))))))))
      refine SN_seq ?_
      clear ih1
      refine SC_cond_false rfl (rfl) ?_
      refine SC_exit rfl ?_
      refine SN_seq ?_
      refine SC_seq ?_
      refine SC_region ?_
      refine SR_pu (RD_assign rfl) rfl ?_
      refine SR_nil ?_
      refine SN.le (l := [(1, _), (7, _), (11, _), (13, _)]) ?_ (.cons rfl (.cons rfl (.cons rfl (.cons rfl (.nil)))))
      refine SN_seq ?_
      refine SC_seq ?_
      refine SC_seq ?_
      refine SC_region ?_
      refine SR_pu (RD_assign rfl) rfl ?_
      refine SR_nil ?_
      refine SN.le (l := [(1, _), (7, _), (11, _), (13, _), (14, _)]) ?_ (.cons rfl (.cons rfl (.cons rfl (.cons rfl (.cons rfl (.nil))))))
      refine SN_seq ?_
      refine SC_block ?_
      refine SC_ind (X := Nat) (fun i => i ≤ 3 * g + 1) (fun i => 3 * g + 1 - i) (fun i => [(1, .int .i64 (v : Int)), (7, .pointer (some ⟨b7, 0, none⟩)), (11, .map (some b64)), (13, .bool (runB T g v i)), (14, .int .i64 (i : Nat))]) (fun i => mapP intK b64 (wsM T) :: pt b7 (.cells [.int .i64 (g : Int), .int .i64 (3 * (g : Int) + 1), .int .i64 0, .int .i64 0, .int .i64 0, .int .i64 0, .int .i64 0, .int .i64 0].toArray 24) :: F) (0) (by omega) (.cons rfl (.cons rfl (.cons rfl (.cons rfl (.cons rfl (.nil)))))) (.fin) ?_
      intro k hi ih2
      refine SC_seq ?_
      refine SC_seq ?_
      refine SC_region ?_
      refine SR_pu (RD_move rfl) rfl ?_
      first
        | refine SR_pu (RD_fieldAddr 1 Try.runUnderlying24 rfl rfl Try.sizeOf3 rfl) rfl ?_
        | refine SR_rd (RD_fieldAddrO 1 Try.runUnderlying24 rfl rfl Try.sizeOf3 rfl (by simp <;> omega)) Has.ro rfl ?_
      refine SR_rd (RD_load Try.isAgg3 rfl) (Has.ce rfl) rfl ?_
      refine SR_pu (RD_lss rfl rfl) rfl ?_
      refine SR_nil ?_
      refine SN.le (l := [(1, _), (7, _), (11, _), (13, _), (14, _), (93, _)]) ?_ (.cons rfl (.cons rfl (.cons rfl (.cons rfl (.cons rfl (.cons rfl (.nil)))))))
      refine SN_seq ?_
      refine SC_cond rfl (fun hc93 => ?_) (fun hc93 => ?_)
      · have hin : k < 3 * g + 1 := by simp at hc93; omega
        have q0 := iget01 T (rr g v k)
        have q1 := iget01 T (rr g v (k + 1))
        have q2 := iget01 T (rr g v (k + 2))
        refine SC_skip ?_
        refine SN_seq ?_
        refine SC_seq ?_
        refine SC_block ?_
        refine SC_drawn (.cons 0 true (.cons 1 true (.cons 2 true (.cons 3 true (.cons 4 true (.cons 5 true (.cons 6 true (.cons 9 true (.cons 10 true (.cons 11 true (.cons 12 true (.cons 13 true (.cons 14 true (.cons 18 true (.cons 19 true (.cons 20 true (.cons 21 true (.cons 22 true (.cons 23 true (.cons 7 false (.cons 8 true (.cons 15 false (.cons 16 true (.cons 17 true (.cons 24 false (.cons 25 true (.cons 26 true (.cons 27 true (.cons 28 true (.cons 29 true (.nil))))))))))))))))))))))))))))))) (by kernel_rfl) (by kernel_rfl) ?_
        refine SQ_pu rfl (RD_move rfl) rfl ?_
        refine SQ_pu rfl (RD_move rfl) rfl ?_
        refine SQ_guard (i := 2) rfl rfl rfl (fun hg21_1 => ?_) (fun hg21_1 => ?_)
        · refine SQ_pyes rfl rfl rfl (hg21_1) (RD_move rfl) rfl ?_
          refine SQ_yes rfl rfl rfl (hg21_1) (RD_loadA Try.isAgg24 Try.sizeOf24 rfl rfl) Has.wh rfl ?_
          refine SQ_pyes rfl rfl rfl (hg21_1) (RD_move rfl) rfl ?_
          refine SQ_pyes rfl rfl rfl (hg21_1) (RD_move rfl) rfl ?_
          refine SQ_pyes rfl rfl rfl (hg21_1) (RD_addi rfl rfl (by omega) (by omega)) rfl ?_
          refine SQ_pyes rfl rfl rfl (hg21_1) (RD_move rfl) rfl ?_
          refine SQ_yes rfl rfl rfl (hg21_1) (RD_loadA Try.isAgg24 Try.sizeOf24 rfl rfl) Has.wh rfl ?_
          refine SQ_pyes rfl rfl rfl (hg21_1) (RD_move rfl) rfl ?_
          refine SQ_pyes rfl rfl rfl (hg21_1) (RD_move rfl) rfl ?_
          refine SQ_pyes rfl rfl rfl (hg21_1) (RD_addi rfl rfl (by omega) (by omega)) rfl ?_
          refine SQ_pyes rfl rfl rfl (hg21_1) (RD_addi rfl rfl (by omega) (by omega)) rfl ?_
          refine SQ_pyes rfl rfl rfl (hg21_1) (RD_move rfl) rfl ?_
          refine SQ_yes rfl rfl rfl (hg21_1) (RD_loadA Try.isAgg24 Try.sizeOf24 rfl rfl) Has.wh rfl ?_
          refine SQ_pyes rfl rfl rfl (hg21_1) (RD_move rfl) rfl ?_
          refine SQ_pyes rfl rfl rfl (hg21_1) (RD_move rfl) rfl ?_
          refine SQ_pyes rfl rfl rfl (hg21_1) (RD_addi rfl rfl (by omega) (by omega)) rfl ?_
          refine SQ_pyes rfl rfl rfl (hg21_1) (RD_addi rfl rfl (by omega) (by omega)) rfl ?_
          refine SQ_one (SA_call rfl (.mk rfl rfl (hg21_1)) Try.call13 (.cons rfl (.cons rfl (.nil))) (blok_Lead ⟨(g : Int), 3 * (g : Int) + 1, 0, 0, 0, 0, 0, 0⟩ _) (lts rfl) ?_)
          rintro _ L3 ⟨rfl, hL3⟩
          refine ⟨.lands hL3 (.h Has.wh (.h Has.wh (.w rfl (.nil)))), ?_⟩
          rw [lead_rr g v k (by omega)]
          refine SQ.lands hL3 ?_
          refine SQ_yes rfl rfl rfl (hg21_1) (RD_lookI (m := wsM T) Try.underlying25 Try.underlying3 Try.zeroValue3 rfl rfl (or_ws T _)) (Has.ma (K := intK)) rfl ?_
          refine SQ_one (SA_call rfl (.mk rfl rfl (hg21_1)) Try.call13 (.cons rfl (.cons rfl (.nil))) (blok_Lead ⟨(g : Int), 3 * (g : Int) + 1, 0, 0, 0, 0, 0, 0⟩ _) (lts rfl) ?_)
          rintro _ L4 ⟨rfl, hL4⟩
          refine ⟨.lands hL4 (.h (Has.ma (K := intK)) (.h Has.wh (.w rfl (.h Has.wh (.nil))))), ?_⟩
          rw [lead_rr g v (k + 1) (by omega)]
          refine SQ.lands hL4 ?_
          refine SQ_yes rfl rfl rfl (hg21_1) (RD_lookI (m := wsM T) Try.underlying25 Try.underlying3 Try.zeroValue3 rfl rfl (or_ws T _)) (Has.ma (K := intK)) rfl ?_
          refine SQ_pyes rfl rfl rfl (hg21_1) (RD_addi rfl rfl (by omega) (by omega)) rfl ?_
          refine SQ_one (SA_call rfl (.mk rfl rfl (hg21_1)) Try.call13 (.cons rfl (.cons rfl (.nil))) (blok_Lead ⟨(g : Int), 3 * (g : Int) + 1, 0, 0, 0, 0, 0, 0⟩ _) (lts rfl) ?_)
          rintro _ L5 ⟨rfl, hL5⟩
          refine ⟨.lands hL5 (.h (Has.ma (K := intK)) (.h (Has.ma (K := intK)) (.w rfl (.h Has.wh (.h Has.wh (.nil)))))), ?_⟩
          rw [lead_rr g v (k + 2) (by omega)]
          refine SQ.lands hL5 ?_
          refine SQ_yes rfl rfl rfl (hg21_1) (RD_lookI (m := wsM T) Try.underlying25 Try.underlying3 Try.zeroValue3 rfl rfl (or_ws T _)) (Has.ma (K := intK)) rfl ?_
          refine SQ_pyes rfl rfl rfl (hg21_1) (RD_addi rfl rfl (by omega) (by omega)) rfl ?_
          refine SQ_pyes rfl rfl rfl (hg21_1) (RD_eql rfl rfl) rfl ?_
          refine SQ_pu rfl (RD_pick_f rfl (hg21_1) rfl) rfl ?_
          refine SQ_pu rfl (RD_assign rfl) rfl ?_
          refine SQ_nil ?_
          refine SN.le (l := [(1, _), (7, _), (11, _), (13, _), (14, _)]) ?_ (.cons rfl (.cons rfl (.cons rfl (.cons rfl (.cons rfl (.nil))))))
          refine SN_block ?_
          refine SN_seq ?_
          refine SC_region ?_
          refine SR_pu (RD_move rfl) rfl ?_
          refine SR_pu (RD_addi rfl rfl (by omega) (by omega)) rfl ?_
          refine SR_pu (RD_assign rfl) rfl ?_
          refine SR_nil ?_
          refine SN.le (l := [(1, _), (7, _), (11, _), (13, _), (14, _)]) ?_ (.cons rfl (.cons rfl (.cons rfl (.cons rfl (.cons rfl (.nil))))))
          refine SC_again (ih2 (k + 1) (by omega) (by omega)) (.fin) (.cons rfl (.cons rfl (.cons rfl (.cons' rfl (congrArg Value.bool (by rw [runB_succ]; first | (rw [show runB T g v k = true from hg21_1, Bool.true_or]) | (rw [show runB T g v k = false from hg21_1, Bool.false_or]; rfl))) (.cons' rfl (ie (by omega)) (.nil))))))
        · refine SQ_no rfl rfl rfl (hg21_1) (lts rfl) ?_
          refine SQ_no rfl rfl rfl (hg21_1) (lts rfl) ?_
          refine SQ_no rfl rfl rfl (hg21_1) (lts rfl) ?_
          refine SQ_no rfl rfl rfl (hg21_1) (lts rfl) ?_
          refine SQ_no rfl rfl rfl (hg21_1) (lts rfl) ?_
          refine SQ_no rfl rfl rfl (hg21_1) (lts rfl) ?_
          refine SQ_no rfl rfl rfl (hg21_1) (lts rfl) ?_
          refine SQ_no rfl rfl rfl (hg21_1) (lts rfl) ?_
          refine SQ_no rfl rfl rfl (hg21_1) (lts rfl) ?_
          refine SQ_no rfl rfl rfl (hg21_1) (lts rfl) ?_
          refine SQ_no rfl rfl rfl (hg21_1) (lts rfl) ?_
          refine SQ_no rfl rfl rfl (hg21_1) (lts rfl) ?_
          refine SQ_no rfl rfl rfl (hg21_1) (lts rfl) ?_
          refine SQ_no rfl rfl rfl (hg21_1) (lts rfl) ?_
          refine SQ_no rfl rfl rfl (hg21_1) (lts rfl) ?_
          refine SQ_no rfl rfl rfl (hg21_1) (lts rfl) ?_
          refine SQ_no rfl rfl rfl (hg21_1) (lts rfl) ?_
          refine SQ_no1 rfl rfl rfl (hg21_1) (lts rfl) ?_
          refine SQ_no rfl rfl rfl (hg21_1) (lts rfl) ?_
          refine SQ_no1 rfl rfl rfl (hg21_1) (lts rfl) ?_
          refine SQ_no rfl rfl rfl (hg21_1) (lts rfl) ?_
          refine SQ_no rfl rfl rfl (hg21_1) (lts rfl) ?_
          refine SQ_no1 rfl rfl rfl (hg21_1) (lts rfl) ?_
          refine SQ_no rfl rfl rfl (hg21_1) (lts rfl) ?_
          refine SQ_no rfl rfl rfl (hg21_1) (lts rfl) ?_
          refine SQ_no rfl rfl rfl (hg21_1) (lts rfl) ?_
          refine SQ_pu rfl (RD_pick_t rfl (hg21_1) rfl) rfl ?_
          refine SQ_pu rfl (RD_assign rfl) rfl ?_
          refine SQ_nil ?_
          refine SN.le (l := [(1, _), (7, _), (11, _), (13, _), (14, _)]) ?_ (.cons rfl (.cons rfl (.cons rfl (.cons rfl (.cons rfl (.nil))))))
          refine SN_block ?_
          refine SN_seq ?_
          refine SC_region ?_
          refine SR_pu (RD_move rfl) rfl ?_
          refine SR_pu (RD_addi rfl rfl (by omega) (by omega)) rfl ?_
          refine SR_pu (RD_assign rfl) rfl ?_
          refine SR_nil ?_
          refine SN.le (l := [(1, _), (7, _), (11, _), (13, _), (14, _)]) ?_ (.cons rfl (.cons rfl (.cons rfl (.cons rfl (.cons rfl (.nil))))))
          refine SC_again (ih2 (k + 1) (by omega) (by omega)) (.fin) (.cons rfl (.cons rfl (.cons rfl (.cons' rfl (congrArg Value.bool (by rw [runB_succ]; first | (rw [show runB T g v k = true from hg21_1, Bool.true_or]) | (rw [show runB T g v k = false from hg21_1, Bool.false_or]; rfl))) (.cons' rfl (ie (by omega)) (.nil))))))
      · have hin : k = 3 * g + 1 := by simp at hc93; omega
        subst hin
        clear ih2
        refine SC_exit rfl ?_
        refine SN_seq ?_
        refine SC_seq ?_
        refine SC_region ?_
        refine SR_pu (RD_move rfl) rfl ?_
        refine SR_pu (RD_move rfl) rfl ?_
        refine SR_yes rfl rfl (run_all hi2) ?_
        refine SR_call Try.call14 (.nil) (blok_awake) (lts rfl) ?_
        rintro _ L9 ⟨rfl, hL9⟩
        refine SR.lands hL9 ?_
        refine SR_pu (RD_pick_t rfl (run_all hi2) rfl) rfl ?_
        refine SR_pu (RD_assign rfl) rfl ?_
        refine SR_nil ?_
        refine SN.le (l := [(6, _)]) ?_ (.cons rfl (.nil))
        refine SN_seq ?_
        refine SC_ret1 rfl rfl ?_
        exact ⟨rfl, .fin⟩

end Go.Proofs.Ytnifaajdiolbjaa
