/- The statement TopWindow: whatever the window and however many are submitted, the law answers true and its arguments read as they did. No condition. -/
import Derived.Test.YtdhpjdhloaoepaaGreatPw15
import Derived.Test.YtdhpjdhloaoepaaGreatRows
import Derived.Test.YtdhpjdhloaoepaaGreatZKw0
import Derived.Test.YtdhpjdhloaoepaaGreatZKw1
import Derived.Test.YtdhpjdhloaoepaaGreatZKw2
import Derived.Test.YtdhpjdhloaoepaaGreatZKw3
import Derived.Test.YtdhpjdhloaoepaaGreatZKw4
import Derived.Test.YtdhpjdhloaoepaaGreatZRc
import Derived.WalkKit
import Derived.ProofKit
import Derived.OpenShut
import Derived.ShutString
import Derived.ChangeOld
import Derived.Below
namespace Go.Proofs.YtdhpjdhloaoepaaGreat.topWindow
open Go.ChangeShapes Go.WideShapes Go.ChangeAt Go.RowKit
open Go.Proofs.YtdhpjdhloaoepaaGreat
set_option linter.unusedVariables false

theorem own : ownKnob Tryz.prog.godebug = none := by kernel_rfl
theorem laidOut : laidOutB Tryz.prog = true := by kernel_rfl


theorem runs : ∀ w n : Nat, 1 ≤ w → w ≤ 4 → 1 ≤ n → n ≤ 8 → winB w n = true := by
  intro w n h1 h2 h3 h4
  obtain h | h | h | h : w = 1 ∨ w = 2 ∨ w = 3 ∨ w = 4 := by omega
  all_goals subst h
  all_goals obtain h | h | h | h | h | h | h | h : n = 1 ∨ n = 2 ∨ n = 3 ∨ n = 4 ∨ n = 5 ∨ n = 6 ∨ n = 7 ∨ n = 8 := by omega
  all_goals subst h
  · exact win_1_1
  · exact win_1_2
  · exact win_1_3
  · exact win_1_4
  · exact win_1_5
  · exact win_1_6
  · exact win_1_7
  · exact win_1_8
  · exact win_2_1
  · exact win_2_2
  · exact win_2_3
  · exact win_2_4
  · exact win_2_5
  · exact win_2_6
  · exact win_2_7
  · exact win_2_8
  · exact win_3_1
  · exact win_3_2
  · exact win_3_3
  · exact win_3_4
  · exact win_3_5
  · exact win_3_6
  · exact win_3_7
  · exact win_3_8
  · exact win_4_1
  · exact win_4_2
  · exact win_4_3
  · exact win_4_4
  · exact win_4_5
  · exact win_4_6
  · exact win_4_7
  · exact win_4_8

set_option maxRecDepth 100000 in
/-- The walk from the arguments as they came. -/
theorem walk {H : Type} {enc : TypeId × Value → H} {base : Nat} (W : World) (v0 v1 : Value) {d0 d1 : DataW H} {p0 p1 : List MemPlace}
    (o0 : Value.okWide Tryz.prog W .any base 3 v0) (k0 : DataW.Trod enc Tryz.prog W 0 (fun _ => true) true 3 v0 d0 p0)
    (o1 : Value.okWide Tryz.prog W .any base 3 v1) (k1 : DataW.Trod enc Tryz.prog W 0 (fun _ => true) true 3 v1 d1 p1)
    : Calls Tryz.prog 3 #[v0, v1] W fun e w' => e = .returned (.bool true) ∧ Below W.heap.size W w' := by
  obtain ⟨a0, rfl, w0⟩ := arg_int Tryz.underlying3 o0 k0
  obtain ⟨a1, rfl, w1⟩ := arg_int Tryz.underlying3 o1 k1
  exact law_calls W (law_TopWindow wak_1 runs a0 a1)

set_option maxRecDepth 100000 in
theorem lifted (os : Os) (started : os.Started) (H : Type) (enc : TypeId × Value → H) :
    ReturnsInHanded {} Tryz.checked os 3 .any (Rows.topWindowSpec.pre6 enc Tryz.prog Tryz.f3 Rows.topWindowRow.domain false) (Rows.topWindowSpec.post enc Tryz.prog Tryz.f3 false true false false) := by
  refine returnsInHanded_of_change (C := Tryz.checked) own started (by kernel_rfl) Tryz.func3
    (ChangeSpec.witness6 (enc := enc) (C := Tryz.checked) false ⟨#[], #[.int .i64 0, .int .i64 0], []⟩ 3 (by kernel_rfl) (by kernel_rfl) (by kernel_rfl) (by kernel_rfl)) ?_
  intro W base args ds gs before hval0 hW hcnd _
  have hval : ∀ (j : Nat) t v, Tryz.f3.params[j]? = some t → args[j]? = some v → Value.okWide Tryz.prog W .any base t v := hval0
  have hW' := hW
  obtain ⟨p, q, hA0, hV, rfl, hfz, hnd⟩ := hW
  have hA : DataW.TrodAll enc Tryz.prog W 0 (fun _ => true) true Tryz.f3.params.toList args.toList ds p := hA0
  rw [Tryz.params3] at hA hval
  obtain ⟨v0, vs0, d0, ds0, p0, q0, hargs, rfl, rfl, h0, r0⟩ := trodAll_cons hA
  obtain ⟨v1, vs1, d1, ds1, p1, q1, rfl, rfl, rfl, h1, r1⟩ := trodAll_cons r0
  obtain ⟨rfl, rfl, rfl⟩ := trodAll_nil r1
  obtain rfl : args = #[v0, v1] := by cases args; simp_all
  obtain ⟨rfl, rfl⟩ := trodVars_none hV
  have k0 := h0
  have lt0 : ∀ x ∈ p0, x.block < W.heap.size := by obtain ⟨m, hm⟩ := k0; exact DataW.trod_lt m _ _ _ hm
  have k1 := h1
  have lt1 : ∀ x ∈ p1, x.block < W.heap.size := by obtain ⟨m, hm⟩ := k1; exact DataW.trod_lt m _ _ _ hm
  refine (walk W v0 v1 (hval 0 3 v0 rfl rfl) k0 (hval 1 3 v1 rfl rfl) k1).mono fun e W' ⟨he, bel⟩ => ?_
  subst he
  exact ⟨_, rfl, _, _, _, [], _, [], hW', trodAll_mk1 (shut_bool Tryz.underlying4 _), (trodAll_cons_mk (Below.trod laidOut (by kernel_rfl) (of_decide_eq_true (by kernel_rfl)) k0 bel lt0) (trodAll_cons_mk (Below.trod laidOut (by kernel_rfl) (of_decide_eq_true (by kernel_rfl)) k1 bel lt1) (trodAll_mk0))), rfl, bel.frame _, fun h => by cases h⟩

theorem over : Rows.topWindowRow.holds Tryz.pinned (OpenSpec.ofChange Rows.topWindowSpec) :=
  OpenClaim.holds_of_wide 3 Tryz.f3 rfl rfl rfl rfl rfl rfl rfl ⟨rfl, rfl, rfl, rfl, rfl⟩ rfl rfl rfl rfl rfl (by kernel_rfl) Tryz.func3 closed
    (of_decide_eq_true (by kernel_rfl)) (by unfold Func.isWrapper; first | (rw [if_pos (by decide +kernel)]; kernel_rfl) | (rw [if_neg (by decide +kernel)]; exact ⟨rfl, rfl⟩))
    (fun os started H enc _ => lifted os started H enc)

/-- The statement. -/
theorem proved : Rows.TopWindowSaid := over
#print axioms proved
end Go.Proofs.YtdhpjdhloaoepaaGreat.topWindow
