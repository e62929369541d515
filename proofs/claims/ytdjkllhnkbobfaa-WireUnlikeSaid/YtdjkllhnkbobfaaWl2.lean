/- The statement on the writer: unlike rows give unlike bytes. -/
import Derived.Test.YtdjkllhnkbobfaaWl1
namespace Go.Proofs.Ytdjkllhnkbobfaa
open Go Go.Proofs
set_option maxRecDepth 100000
def encU (x : Int) (l : List BSl) : List UInt8 := l.flatMap fun s => bei (s.n : Int) ++ s.bs ++ bei x
theorem encU_take {x : Int} {l : List BSl} {j : Nat} {s : BSl} (h : l[j]? = some s) : encU x (l.take (j + 1)) = encU x (l.take j) ++ (bei (s.n : Int) ++ s.bs) ++ bei x := by
  rw [List.take_add_one, h]
  simp [encU]
theorem encU_len (x : Int) : ∀ l : List BSl, (∀ s ∈ l, s.n ≤ 100 ∧ s.bs.length = s.n) → (encU x l).length ≤ 116 * l.length
  | [], _ => by simp [encU]
  | s :: l, h => by
    have h1 := encU_len x l fun y hy => h y (by simp [hy])
    have h2 := h s (by simp)
    have e : encU x (s :: l) = bei (s.n : Int) ++ s.bs ++ bei x ++ encU x l := by simp [encU]
    rw [e]
    simp [bei_length]
    omega
theorem bei_app {a b : Int} {r r' : List UInt8} : bei a ++ r = bei b ++ r' ↔ a % 18446744073709551616 = b % 18446744073709551616 ∧ r = r' := by
  constructor
  · intro h
    have h1 := List.append_inj h rfl
    refine ⟨?_, h1.2⟩
    have h2 := congrArg unbe h1.1
    rw [unbe_bei, unbe_bei] at h2
    have := Int.emod_nonneg a (show (18446744073709551616 : Int) ≠ 0 by decide)
    have := Int.emod_nonneg b (show (18446744073709551616 : Int) ≠ 0 by decide)
    omega
  · rintro ⟨h, rfl⟩
    unfold bei; rw [h]
theorem encU_inj {x y : Int} (hx : 0 ≤ x ∧ x < 18446744073709551616) (hy : 0 ≤ y ∧ y < 18446744073709551616) : ∀ (l m : List BSl), (∀ s ∈ l, s.n ≤ 100 ∧ s.bs.length = s.n) → (∀ s ∈ m, s.n ≤ 100 ∧ s.bs.length = s.n) → l.length = m.length →
    (encU x l = encU y m ↔ (x = y ∨ l.length = 0) ∧ l.map BSl.bs = m.map BSl.bs)
  | [], [], _, _, _ => by simp [encU]
  | [], _ :: _, _, _, h => by simp at h
  | _ :: _, [], _, _, h => by simp at h
  | s :: l, t :: m, hl, hm, h => by
    have ih := encU_inj hx hy l m (fun z hz => hl z (by simp [hz])) (fun z hz => hm z (by simp [hz])) (by simpa using h)
    have hs := hl s (by simp)
    have ht := hm t (by simp)
    have e1 : encU x (s :: l) = bei (s.n : Int) ++ (s.bs ++ (bei x ++ encU x l)) := by simp [encU]
    have e2 : encU y (t :: m) = bei (t.n : Int) ++ (t.bs ++ (bei y ++ encU y m)) := by simp [encU]
    rw [e1, e2, bei_app]
    simp only [List.map_cons, List.cons.injEq, List.length_cons]
    constructor
    · rintro ⟨h1, h2⟩
      have hn : s.n = t.n := by omega
      have h3 := List.append_inj h2 (by omega)
      have h4 := bei_app.1 h3.2
      have h5 : x = y := by omega
      exact ⟨.inl h5, h3.1, (ih.1 h4.2).2⟩
    · rintro ⟨h1, h2, h3⟩
      have h5 : x = y := h1.resolve_right (by omega)
      refine ⟨by have := congrArg List.length h2; omega, ?_⟩
      rw [h2, ih.2 ⟨.inl h5, h3⟩, h5]
/-- What the law calls the same. -/
def alike (x y : Int) (l m : List BSl) (i : Nat) : Prop := l.length = m.length ∧ (x = y ∨ l.length = 0) ∧ (l.take i).map BSl.bs = (m.take i).map BSl.bs
instance (x y : Int) (l m : List BSl) (i : Nat) : Decidable (alike x y l m i) := by unfold alike; infer_instance
theorem alike_step {x y : Int} {l m : List BSl} {i : Nat} {s t : BSl} (hs : l[i]? = some s) (ht : m[i]? = some t) : alike x y l m (i + 1) ↔ alike x y l m i ∧ s.bs = t.bs := by
  have hl : i < l.length := (List.getElem?_eq_some_iff.1 hs).1
  have hm : i < m.length := (List.getElem?_eq_some_iff.1 ht).1
  unfold alike
  rw [List.take_add_one, List.take_add_one, hs, ht]
  simp only [Option.toList_some, List.map_append, List.map_cons, List.map_nil]
  constructor
  · rintro ⟨h1, h2, h3⟩
    have := List.append_inj' h3 rfl
    exact ⟨⟨h1, h2, this.1⟩, by simpa using this.2⟩
  · rintro ⟨⟨h1, h2, h3⟩, h4⟩
    exact ⟨h1, h2, by rw [h3, h4]⟩
theorem alike_all {x y : Int} {l m : List BSl} {i : Nat} (hx : 0 ≤ x ∧ x < 18446744073709551616) (hy : 0 ≤ y ∧ y < 18446744073709551616) (hl : ∀ s ∈ l, s.n ≤ 100 ∧ s.bs.length = s.n) (hm : ∀ s ∈ m, s.n ≤ 100 ∧ s.bs.length = s.n)
    (h12 : l.length ≤ 12) (h12' : m.length ≤ 12) (hi : l.length ≤ i ∨ m.length ≤ i) : bei (l.length : Nat) ++ encU x l = bei (m.length : Nat) ++ encU y m ↔ alike x y l m i := by
  rw [bei_app]
  unfold alike
  constructor
  · rintro ⟨h1, h2⟩
    have hn : l.length = m.length := by omega
    have h3 := (encU_inj hx hy l m hl hm hn).1 h2
    refine ⟨hn, h3.1, ?_⟩
    rw [List.take_of_length_le (by omega), List.take_of_length_le (by omega)]
    exact h3.2
  · rintro ⟨hn, h1, h2⟩
    rw [List.take_of_length_le (by omega), List.take_of_length_le (by omega)] at h2
    exact ⟨by omega, (encU_inj hx hy l m hl hm hn).2 ⟨h1, h2⟩⟩

theorem law_WireUnlike_long {W : World} {F : List HProp} [Abs F] (a0 : Option Addr) (n0 c0 : Nat) (l0 : List BSl) [HasRow F a0 (l0.map BSl.val)] (hn0 : l0.length = n0) (hl0 : ∀ s ∈ l0, s.Ok F) (a1 : Option Addr) (n1 c1 : Nat) (l1 : List BSl) [HasRow F a1 (l1.map BSl.val)] (hn1 : l1.length = n1) (hl1 : ∀ s ∈ l1, s.Ok F) (x0 x1 : Int) (hx0 : 0 ≤ x0 ∧ x0 < 18446744073709551616) (hx1 : 0 ≤ x1 ∧ x1 < 18446744073709551616) (h : 12 < n0 ∨ 12 < n1) :
    CallsK W Try.prog 3 #[.slice a0 n0 c0, .slice a1 n1 c1, .int .u64 x0, .int .u64 x1] (F) (fun v L => v = .bool true ∧ Lands L F) := by
  refine CallsK_enter (n := 126) Try.func3 rfl rfl rfl ?_
  refine SC_seq ?_
  refine SC_region ?_
  refine SR_pu (RD_assign rfl) rfl ?_
  refine SR_nil ?_
  refine SN.le (l := [(0, _), (1, _), (2, _), (3, _)]) ?_ (.cons rfl (.cons rfl (.cons rfl (.cons rfl (.nil)))))
  refine SN_seq ?_
  refine SC_seq ?_
  refine SC_seq ?_
  refine SC_region ?_
  refine SR_pu (RD_move rfl) rfl ?_
  refine SR_pu (RD_len Try.runUnderlying22 rfl) rfl ?_
  refine SR_pu (RD_gtr rfl rfl) rfl ?_
  refine SR_pu (RD_move rfl) rfl ?_
  refine SR_guard rfl rfl (fun hg1_3 => ?_) (fun hg1_3 => ?_)
  · refine SR_yes rfl rfl (hg1_3) ?_
    refine SR_pu (RD_move rfl) rfl ?_
    refine SR_yes rfl rfl (hg1_3) ?_
    refine SR_pu (RD_len Try.runUnderlying22 rfl) rfl ?_
    refine SR_yes rfl rfl (hg1_3) ?_
    refine SR_pu (RD_gtr rfl rfl) rfl ?_
    refine SR_pu (RD_pick_f rfl (hg1_3) rfl) rfl ?_
    refine SR_nil ?_
    refine SN.le (l := [(0, _), (1, _), (2, _), (3, _), (24, _)]) ?_ (.cons rfl (.cons rfl (.cons rfl (.cons rfl (.cons rfl (.nil))))))
    refine SN_seq ?_
    refine SC_cond_true rfl (by first | rfl | (simp at *; omega)) ?_
    refine SC_seq ?_
    refine SC_region ?_
    refine SR_call Try.call15 (.nil) (wire_awake) (lts rfl) ?_
    rintro _ L9 ⟨rfl, hL9⟩
    refine SR.lands hL9 ?_
    refine SR_pu (RD_assign rfl) rfl ?_
    refine SR_nil ?_
    refine SN.le (l := [(8, _)]) ?_ (.cons rfl (.nil))
    refine SN_seq ?_
    refine SC_ret1 rfl rfl ?_
    exact ⟨rfl, .fin⟩
  · refine SR_no rfl rfl (hg1_3) (lts rfl) ?_
    refine SR_no rfl rfl (hg1_3) (lts rfl) ?_
    refine SR_no rfl rfl (hg1_3) (lts rfl) ?_
    refine SR_pu (RD_pick_t rfl (hg1_3) rfl) rfl ?_
    refine SR_nil ?_
    refine SN.le (l := [(0, _), (1, _), (2, _), (3, _), (24, _)]) ?_ (.cons rfl (.cons rfl (.cons rfl (.cons rfl (.cons rfl (.nil))))))
    refine SN_seq ?_
    refine SC_cond_true rfl (by first | rfl | (simp at *; omega)) ?_
    refine SC_seq ?_
    refine SC_region ?_
    refine SR_call Try.call15 (.nil) (wire_awake) (lts rfl) ?_
    rintro _ L9 ⟨rfl, hL9⟩
    refine SR.lands hL9 ?_
    refine SR_pu (RD_assign rfl) rfl ?_
    refine SR_nil ?_
    refine SN.le (l := [(8, _)]) ?_ (.cons rfl (.nil))
    refine SN_seq ?_
    refine SC_ret1 rfl rfl ?_
    exact ⟨rfl, .fin⟩

theorem law_WireUnlike_short {W : World} {F : List HProp} [Abs F] (a0 : Option Addr) (n0 c0 : Nat) (l0 : List BSl) [HasRow F a0 (l0.map BSl.val)] (hn0 : l0.length = n0) (hl0 : ∀ s ∈ l0, s.Ok F) (a1 : Option Addr) (n1 c1 : Nat) (l1 : List BSl) [HasRow F a1 (l1.map BSl.val)] (hn1 : l1.length = n1) (hl1 : ∀ s ∈ l1, s.Ok F) (x0 x1 : Int) (hx0 : 0 ≤ x0 ∧ x0 < 18446744073709551616) (hx1 : 0 ≤ x1 ∧ x1 < 18446744073709551616) (h0 : n0 ≤ 12) (h1 : n1 ≤ 12) :
    CallsK W Try.prog 3 #[.slice a0 n0 c0, .slice a1 n1 c1, .int .u64 x0, .int .u64 x1] (F) (fun v L => v = .bool true ∧ Lands L F) := by
  refine CallsK_enter (n := 126) Try.func3 rfl rfl rfl ?_
  refine SC_seq ?_
  refine SC_region ?_
  refine SR_pu (RD_assign rfl) rfl ?_
  refine SR_nil ?_
  refine SN.le (l := [(0, _), (1, _), (2, _), (3, _)]) ?_ (.cons rfl (.cons rfl (.cons rfl (.cons rfl (.nil)))))
  refine SN_seq ?_
  refine SC_seq ?_
  refine SC_seq ?_
  refine SC_region ?_
  refine SR_pu (RD_move rfl) rfl ?_
  refine SR_pu (RD_len Try.runUnderlying22 rfl) rfl ?_
  refine SR_pu (RD_gtr rfl rfl) rfl ?_
  refine SR_pu (RD_move rfl) rfl ?_
  refine SR_yes rfl rfl (by first | rfl | exact decide_eq_true (by omega) | exact decide_eq_false (by omega) | decide | (simp; done) | (simp; omega)) ?_
  refine SR_pu (RD_move rfl) rfl ?_
  refine SR_yes rfl rfl (by first | rfl | exact decide_eq_true (by omega) | exact decide_eq_false (by omega) | decide | (simp; done) | (simp; omega)) ?_
  refine SR_pu (RD_len Try.runUnderlying22 rfl) rfl ?_
  refine SR_yes rfl rfl (by first | rfl | exact decide_eq_true (by omega) | exact decide_eq_false (by omega) | decide | (simp; done) | (simp; omega)) ?_
  refine SR_pu (RD_gtr rfl rfl) rfl ?_
  refine SR_pu (RD_pick_f rfl (by first | rfl | exact decide_eq_true (by omega) | exact decide_eq_false (by omega) | decide | (simp; done) | (simp; omega)) rfl) rfl ?_
  refine SR_nil ?_
  refine SN.le (l := [(0, _), (1, _), (2, _), (3, _), (24, _)]) ?_ (.cons rfl (.cons rfl (.cons rfl (.cons rfl (.cons rfl (.nil))))))
  refine SN_seq ?_
  refine SC_cond_false rfl (by first | rfl | exact decide_eq_true (by omega) | exact decide_eq_false (by omega) | decide | (simp; done) | (simp; omega)) ?_
  refine SC_skip ?_
  refine SN_seq ?_
  refine SC_seq ?_
  refine SC_region ?_
  refine SR_ox (OX_alloc Try.zeroValue26 rfl) rfl ?_
  rintro _ _ ⟨b9, rfl, rfl⟩
  refine SR_nil ?_
  refine SN.le (l := [(0, _), (1, _), (2, _), (3, _), (9, _)]) ?_ (.cons rfl (.cons rfl (.cons rfl (.cons rfl (.cons rfl (.nil))))))
  refine SN_seq ?_
  refine SC_seq ?_
  refine SC_seq ?_
  refine SC_region ?_
  refine SR_pu (RD_assign rfl) rfl ?_
  refine SR_nil ?_
  refine SN.le (l := [(0, _), (1, _), (2, _), (3, _), (9, _), (10, _)]) ?_ (.cons rfl (.cons rfl (.cons rfl (.cons rfl (.cons rfl (.cons rfl (.nil)))))))
  refine SN_seq ?_
  refine SC_block ?_
  refine SC_loop ?_
  refine SC_seq ?_
  refine SC_seq ?_
  refine SC_region ?_
  refine SR_pu (RD_move rfl) rfl ?_
  refine SR_pu (RD_lss rfl rfl) rfl ?_
  refine SR_nil ?_
  refine SN.le (l := [(0, _), (1, _), (2, _), (3, _), (9, _), (10, _), (27, _)]) ?_ (.cons rfl (.cons rfl (.cons rfl (.cons rfl (.cons rfl (.cons rfl (.cons rfl (.nil))))))))
  refine SN_seq ?_
  refine SC_cond_true rfl (rfl) ?_
  refine SC_skip ?_
  refine SN_seq ?_
  refine SC_seq ?_
  refine SC_block ?_
  refine SC_seq ?_
  refine SC_region ?_
  refine SR_call Try.call16 (.nil) (wire_New) (lts rfl) ?_
  rintro _ L0 ⟨p0, rfl, hL0⟩
  refine SR.lands hL0 ?_
  refine SR_pu (RD_assign rfl) rfl ?_
  refine SR_nil ?_
  refine SN.le (l := [(0, _), (1, _), (2, _), (3, _), (9, _), (10, _), (11, _)]) ?_ (.cons rfl (.cons rfl (.cons rfl (.cons rfl (.cons rfl (.cons rfl (.cons rfl (.nil))))))))
  refine SN_seq ?_
  refine SC_seq ?_
  refine SC_seq ?_
  refine SC_region ?_
  refine SR_pu (RD_move rfl) rfl ?_
  refine SR_pu (RD_eqlP Try.underlying27 rfl rfl) rfl ?_
  refine SR_nil ?_
  refine SN.le (l := [(0, _), (1, _), (2, _), (3, _), (9, _), (10, _), (11, _), (32, _)]) ?_ (.cons rfl (.cons rfl (.cons rfl (.cons rfl (.cons rfl (.cons rfl (.cons rfl (.cons rfl (.nil)))))))))
  refine SN_seq ?_
  refine SC_cond_false rfl (rfl) ?_
  refine SC_skip ?_
  refine SN_seq ?_
  refine SC_seq ?_
  refine SC_drawn (.cons 0 true (.cons 1 true (.cons 3 true (.cons 6 true (.cons 7 true (.cons 9 true (.alts [2, 8] (fun i => bif Nat.beq i 2 then (.cons 4 true (.cons 5 true (.cons 12 true (.cons 8 false (.cons 10 true (.cons 11 true (.cons 13 true (.goto [true, true, true, true, true, true, true, true, true, true, true, true, true, true] 0)))))))) else (.cons 10 true (.cons 11 true (.cons 2 false (.cons 4 true (.cons 5 true (.cons 12 true (.cons 13 true (.goto [true, true, true, true, true, true, true, true, true, true, true, true, true, true] 0)))))))))))))))) (by kernel_rfl) (by kernel_rfl) ?_
  refine SQ_pu rfl (RD_move rfl) rfl ?_
  refine SQ_pu rfl (RD_move rfl) rfl ?_
  refine SQ_pu rfl (RD_move rfl) rfl ?_
  refine SQ_pu rfl (RD_move rfl) rfl ?_
  refine SQ_pu rfl (RD_move rfl) rfl ?_
  refine SQ_pu rfl (RD_move rfl) rfl ?_
  refine SQ.le (l := [(0, _), (1, _), (2, _), (3, _), (9, _), (10, _), (11, _), (33, _), (34, _), (36, _), (39, _), (40, _), (42, _)]) ?_ (.cons rfl (.cons rfl (.cons rfl (.cons rfl (.cons rfl (.cons rfl (.cons rfl (.cons rfl (.cons rfl (.cons rfl (.cons rfl (.cons rfl (.cons rfl (.nil))))))))))))))
  refine SQ_join (X := Nat × Nat) (.nil) [true, true, true, true, true, true, true, true, true, true, true, true, true, true] 0 (by kernel_rfl) (fun x => [(12, .slice a0 n0 c0), (13, .int .u64 x0)]) (fun x => pt x.1 (.cells [.slice a0 n0 c0, .slice a1 n1 c1].toArray 22) :: pt x.2 (.cells [.int .u64 x0, .int .u64 x1].toArray 23) :: At writerI p0 [] :: pt b9 (.cells [.slice none 0 0, .slice none 0 0].toArray 26) :: F) (fun x => pt x.1 (.cells [.slice a0 n0 c0, .slice a1 n1 c1].toArray 22) :: pt x.2 (.cells [.int .u64 x0, .int .u64 x1].toArray 23) :: At writerI p0 [] :: pt b9 (.cells [.slice none 0 0, .slice none 0 0].toArray 26) :: F) (fun ⟨b35, b41⟩ T10 hT10 => ?_) (fun K10 => ?_)
  · refine SQ.le (l := [(12, _), (13, _), (0, _), (1, _), (2, _), (3, _), (9, _), (10, _), (11, _), (33, _), (34, _), (36, _), (39, _), (40, _), (42, _)]) ?_ (.cons rfl (.cons rfl (.cons rfl (.cons rfl (.cons rfl (.cons rfl (.cons rfl (.cons rfl (.cons rfl (.cons rfl (.cons rfl (.cons rfl (.cons rfl (.cons rfl (.cons rfl (.nil))))))))))))))))
    refine SQ_nil ?_
    refine SN.le (l := [(0, _), (1, _), (2, _), (3, _), (9, _), (10, _), (11, _), (12, _), (13, _)]) ?_ (.cons rfl (.cons rfl (.cons rfl (.cons rfl (.cons rfl (.cons rfl (.cons rfl (.cons rfl (.cons rfl (.nil))))))))))
    refine SN_seq ?_
    refine SC_seq ?_
    refine SC_region ?_
    refine SR_pu (RD_move rfl) rfl ?_
    refine SR_pu (RD_move rfl) rfl ?_
    refine SR_pu (RD_len Try.runUnderlying22 rfl) rfl ?_
    refine SR_call Try.call17 (.cons rfl (.cons rfl (.nil))) (CallsK.at (wire_Int p0 [] n0 (by decide))) (lts rfl) ?_
    rintro _ L1 ⟨rfl, hL1⟩
    refine SR.lands hL1 ?_
    refine SR_nil ?_
    refine SN.le (l := [(0, _), (1, _), (2, _), (3, _), (9, _), (10, _), (11, _), (12, _), (13, _)]) ?_ (.cons rfl (.cons rfl (.cons rfl (.cons rfl (.cons rfl (.cons rfl (.cons rfl (.cons rfl (.cons rfl (.nil))))))))))
    refine SN_seq ?_
    refine SC_seq ?_
    refine SC_seq ?_
    refine SC_region ?_
    refine SR_pu (RD_move rfl) rfl ?_
    refine SR_pu (RD_len Try.runUnderlying22 rfl) rfl ?_
    refine SR_pu (RD_move rfl) rfl ?_
    refine SR_nil ?_
    refine SN.le (l := [(0, _), (1, _), (2, _), (3, _), (9, _), (10, _), (11, _), (12, _), (13, _), (50, _), (51, _)]) ?_ (.cons rfl (.cons rfl (.cons rfl (.cons rfl (.cons rfl (.cons rfl (.cons rfl (.cons rfl (.cons rfl (.cons rfl (.cons rfl (.nil))))))))))))
    refine SN_seq ?_
    refine SC_block ?_
    refine SC_ind (X := Nat) (fun j => j ≤ n0 ∧ ∀ s ∈ l0.take j, s.n ≤ 100 ∧ s.bs.length = s.n) (fun j => n0 - j) (fun j => [(0, .slice a0 n0 c0), (1, .slice a1 n1 c1), (2, .int .u64 x0), (3, .int .u64 x1), (9, .pointer (some ⟨b9, 0, none⟩)), (10, .int .i64 0), (11, .pointer (some ⟨p0, 0, none⟩)), (12, .slice a0 n0 c0), (13, .int .u64 x0), (50, .int .i64 n0), (51, .int .i64 (j : Nat))]) (fun j => At writerI p0 (bei n0 ++ encU x0 (l0.take j)) :: pt b9 (.cells [.slice none 0 0, .slice none 0 0].toArray 26) :: F) (0) (⟨by omega, by simp⟩) (.cons rfl (.cons rfl (.cons rfl (.cons rfl (.cons rfl (.cons rfl (.cons rfl (.cons rfl (.cons rfl (.cons rfl (.cons rfl (.nil)))))))))))) (by dsimp only; rw [show bei (n0 : Int) ++ encU x0 (l0.take 0) = [] ++ bei n0 by simp [encU]]; exact .fin) ?_
    intro j hi ih
    obtain ⟨hj, hsm⟩ := hi
    have hel := encU_len x0 (l0.take j) hsm
    have htl : (l0.take j).length ≤ 12 := by simp; omega
    refine SC_seq ?_
    refine SC_region ?_
    refine SR_pu (RD_lss rfl rfl) rfl ?_
    refine SR_nil ?_
    refine SN.le (l := [(0, _), (1, _), (2, _), (3, _), (9, _), (10, _), (11, _), (12, _), (13, _), (50, _), (51, _), (52, _)]) ?_ (.cons rfl (.cons rfl (.cons rfl (.cons rfl (.cons rfl (.cons rfl (.cons rfl (.cons rfl (.cons rfl (.cons rfl (.cons rfl (.cons rfl (.nil)))))))))))))
    refine SN_seq ?_
    refine SC_seq ?_
    refine SC_cond rfl (fun hc52 => ?_) (fun hc52 => ?_)
    · have hjl : j < n0 := by simp at hc52; omega
      obtain ⟨s, hs⟩ : ∃ s, l0[j]? = some s := ⟨_, List.getElem?_eq_getElem (by omega)⟩
      have hok := hl0 s (List.mem_of_getElem? hs)
      haveI := hok.r
      refine SC_skip ?_
      refine SN_seq ?_
      refine SC_seq ?_
      refine SC_block ?_
      refine SC_seq ?_
      refine SC_region ?_
      refine SR_pu (RD_move rfl) rfl ?_
      refine SR_pu (RD_assign rfl) rfl ?_
      refine SR_nil ?_
      refine SN.le (l := [(0, _), (1, _), (2, _), (3, _), (9, _), (10, _), (11, _), (12, _), (13, _), (14, _), (50, _), (51, _)]) ?_ (.cons rfl (.cons rfl (.cons rfl (.cons rfl (.cons rfl (.cons rfl (.cons rfl (.cons rfl (.cons rfl (.cons rfl (.cons rfl (.cons rfl (.nil)))))))))))))
      refine SN_seq ?_
      refine SC_seq ?_
      refine SC_seq ?_
      refine SC_region ?_
      refine SR_pu (RD_move rfl) rfl ?_
      refine SR_pu (RD_move rfl) rfl ?_
      refine SR_rd (RD_ixO (cs := l0.map BSl.val) Try.runUnderlying22 Try.sizeOf25 rfl rfl (by simpa using hn0) (by omega) (by omega)) Has.ro rfl ?_
      refine SR_rd (RD_loadO (v := s.val) (cs := l0.map BSl.val) Try.isAgg25 rfl (by simp [hs])) Has.ro rfl ?_
      refine SR_pu (RD_len Try.runUnderlying25 rfl) rfl ?_
      refine SR_pu (RD_gtr rfl rfl) rfl ?_
      refine SR_nil ?_
      refine SN.le (l := [(0, _), (1, _), (2, _), (3, _), (9, _), (10, _), (11, _), (12, _), (13, _), (14, _), (50, _), (51, _), (59, _)]) ?_ (.cons rfl (.cons rfl (.cons rfl (.cons rfl (.cons rfl (.cons rfl (.cons rfl (.cons rfl (.cons rfl (.cons rfl (.cons rfl (.cons rfl (.cons rfl (.nil))))))))))))))
      refine SN_seq ?_
      refine SC_cond rfl (fun hc59 => ?_) (fun hc59 => ?_)
      · refine SC_seq ?_
        refine SC_region ?_
        refine SR_call Try.call15 (.nil) (wire_awake) (lts rfl) ?_
        rintro _ L9 ⟨rfl, hL9⟩
        refine SR.lands hL9 ?_
        refine SR_pu (RD_assign rfl) rfl ?_
        refine SR_nil ?_
        refine SN.le (l := [(8, _)]) ?_ (.cons rfl (.nil))
        refine SN_seq ?_
        refine SC_ret1 rfl rfl ?_
        exact ⟨rfl, .fin⟩
      · have hs100 : s.n ≤ 100 := by simp at hc59; omega
        refine SC_skip ?_
        refine SN_seq ?_
        refine SC_seq ?_
        refine SC_region ?_
        refine SR_pu (RD_move rfl) rfl ?_
        refine SR_pu (RD_move rfl) rfl ?_
        refine SR_pu (RD_move rfl) rfl ?_
        refine SR_rd (RD_ixO (cs := l0.map BSl.val) Try.runUnderlying22 Try.sizeOf25 rfl rfl (by simpa using hn0) (by omega) (by omega)) Has.ro rfl ?_
        refine SR_rd (RD_loadO (v := s.val) (cs := l0.map BSl.val) Try.isAgg25 rfl (by simp [hs])) Has.ro rfl ?_
        refine SR_call Try.call18 (.cons rfl (.cons rfl (.nil))) (CallsK.at (wire_Text p0 (bei n0 ++ encU x0 (l0.take j)) s.bs s.a s.n s.c rfl hok.hn (by simp [bei_length]; omega))) (lts rfl) ?_
        rintro _ L2 ⟨rfl, hL2⟩
        refine SR.lands hL2 ?_
        refine SR_nil ?_
        refine SN.le (l := [(0, _), (1, _), (2, _), (3, _), (9, _), (10, _), (11, _), (12, _), (13, _), (50, _), (51, _)]) ?_ (.cons rfl (.cons rfl (.cons rfl (.cons rfl (.cons rfl (.cons rfl (.cons rfl (.cons rfl (.cons rfl (.cons rfl (.cons rfl (.nil))))))))))))
        refine SN_seq ?_
        refine SC_region ?_
        refine SR_pu (RD_move rfl) rfl ?_
        refine SR_pu (RD_move rfl) rfl ?_
        refine SR_call Try.call19 (.cons rfl (.cons rfl (.nil))) (CallsK.at (wire_Num p0 (bei n0 ++ encU x0 (l0.take j) ++ (bei s.n ++ s.bs)) x0 hx0 (by simp [bei_length]; have := hok.hn; omega))) (lts rfl) ?_
        rintro _ L3 ⟨rfl, hL3⟩
        refine SR.lands hL3 ?_
        refine SR_nil ?_
        refine SN.le (l := [(0, _), (1, _), (2, _), (3, _), (9, _), (10, _), (11, _), (12, _), (13, _), (50, _), (51, _)]) ?_ (.cons rfl (.cons rfl (.cons rfl (.cons rfl (.cons rfl (.cons rfl (.cons rfl (.cons rfl (.cons rfl (.cons rfl (.cons rfl (.nil))))))))))))
        refine SN_block ?_
        refine SN_seq ?_
        refine SC_region ?_
        refine SR_pu (RD_addi rfl rfl (by omega) (by omega)) rfl ?_
        refine SR_pu (RD_move rfl) rfl ?_
        refine SR_nil ?_
        refine SN.le (l := [(0, _), (1, _), (2, _), (3, _), (9, _), (10, _), (11, _), (12, _), (13, _), (50, _), (51, _)]) ?_ (.cons rfl (.cons rfl (.cons rfl (.cons rfl (.cons rfl (.cons rfl (.cons rfl (.cons rfl (.cons rfl (.cons rfl (.cons rfl (.nil))))))))))))
        refine SC_again (ih (j + 1) (⟨by omega, fun z hz => by rw [List.take_add_one, hs] at hz; rcases List.mem_append.1 hz with hz | hz; exact hsm z hz; simp at hz; subst hz; exact ⟨hs100, hok.hn⟩⟩) (by omega)) (by simp only [encU_take hs, List.append_assoc]; exact .fin) (.cons rfl (.cons rfl (.cons rfl (.cons rfl (.cons rfl (.cons rfl (.cons rfl (.cons rfl (.cons rfl (.cons rfl (.cons' rfl (ie (by omega)) (.nil))))))))))))
    · have hjn : j = n0 := by simp at hc52; omega
      rw [show l0.take j = l0 from by rw [hjn, ← hn0]; exact List.take_length] at hsm hel ⊢
      obtain ⟨o0, ho0⟩ : ∃ o, bei n0 ++ encU x0 l0 = o := ⟨_, rfl⟩
      have hol0 : o0.length ≤ 10000 := by rw [← ho0]; simp [bei_length]; omega
      rw [ho0]
      have hsm0 := hsm
      refine SC_exit rfl ?_
      refine SN_seq ?_
      refine SC_region ?_
      refine SR_pu (RD_move rfl) rfl ?_
      refine SR_pu (RD_move rfl) rfl ?_
      refine SR_call Try.call20 (.cons rfl (.nil)) (CallsK.at (wire_Bytes p0 o0 (by omega))) (lts rfl) ?_
      rintro _ L4 ⟨aO0, cO0, rfl, hL4⟩
      refine SR.lands hL4 ?_
      refine SR_pu (RD_ixAk 0 Try.runUnderlying26 Try.sizeOf25 rfl rfl (by omega) (by omega) rfl) rfl ?_
      refine SR_ox0 (OX_st Try.sizeOf25 rfl rfl) ?_
      rintro _ _ rfl
      refine SR_nil ?_
      refine SN.le (l := [(0, _), (1, _), (2, _), (3, _), (9, _), (10, _)]) ?_ (.cons rfl (.cons rfl (.cons rfl (.cons rfl (.cons rfl (.cons rfl (.nil)))))))
      refine SN_block ?_
      refine SN_seq ?_
      refine SC_region ?_
      refine SR_pu (RD_move rfl) rfl ?_
      refine SR_pu (RD_addi rfl rfl (by omega) (by omega)) rfl ?_
      refine SR_pu (RD_assign rfl) rfl ?_
      refine SR_nil ?_
      refine SN.le (l := [(0, _), (1, _), (2, _), (3, _), (9, _), (10, _)]) ?_ (.cons rfl (.cons rfl (.cons rfl (.cons rfl (.cons rfl (.cons rfl (.nil)))))))
      refine SN_loop ?_
      refine SC_seq ?_
      refine SC_seq ?_
      refine SC_region ?_
      refine SR_pu (RD_move rfl) rfl ?_
      refine SR_pu (RD_lss rfl rfl) rfl ?_
      refine SR_nil ?_
      refine SN.le (l := [(0, _), (1, _), (2, _), (3, _), (9, _), (10, _), (27, _)]) ?_ (.cons rfl (.cons rfl (.cons rfl (.cons rfl (.cons rfl (.cons rfl (.cons rfl (.nil))))))))
      refine SN_seq ?_
      refine SC_cond_true rfl (rfl) ?_
      refine SC_skip ?_
      refine SN_seq ?_
      refine SC_seq ?_
      refine SC_block ?_
      refine SC_seq ?_
      refine SC_region ?_
      refine SR_call Try.call16 (.nil) (wire_New) (lts rfl) ?_
      rintro _ L0 ⟨p1, rfl, hL0⟩
      refine SR.lands hL0 ?_
      refine SR_pu (RD_assign rfl) rfl ?_
      refine SR_nil ?_
      refine SN.le (l := [(0, _), (1, _), (2, _), (3, _), (9, _), (10, _), (11, _)]) ?_ (.cons rfl (.cons rfl (.cons rfl (.cons rfl (.cons rfl (.cons rfl (.cons rfl (.nil))))))))
      refine SN_seq ?_
      refine SC_seq ?_
      refine SC_seq ?_
      refine SC_region ?_
      refine SR_pu (RD_move rfl) rfl ?_
      refine SR_pu (RD_eqlP Try.underlying27 rfl rfl) rfl ?_
      refine SR_nil ?_
      refine SN.le (l := [(0, _), (1, _), (2, _), (3, _), (9, _), (10, _), (11, _), (32, _)]) ?_ (.cons rfl (.cons rfl (.cons rfl (.cons rfl (.cons rfl (.cons rfl (.cons rfl (.cons rfl (.nil)))))))))
      refine SN_seq ?_
      refine SC_cond_false rfl (rfl) ?_
      refine SC_skip ?_
      refine SN_seq ?_
      refine SC_seq ?_
      refine SC_drawn (.cons 0 true (.cons 1 true (.cons 3 true (.cons 6 true (.cons 7 true (.cons 9 true (.alts [2, 8] (fun i => bif Nat.beq i 2 then (.cons 4 true (.cons 5 true (.cons 12 true (.cons 8 false (.cons 10 true (.cons 11 true (.cons 13 true (.goto [true, true, true, true, true, true, true, true, true, true, true, true, true, true] 0)))))))) else (.cons 10 true (.cons 11 true (.cons 2 false (.cons 4 true (.cons 5 true (.cons 12 true (.cons 13 true (.goto [true, true, true, true, true, true, true, true, true, true, true, true, true, true] 0)))))))))))))))) (by kernel_rfl) (by kernel_rfl) ?_
      refine SQ_pu rfl (RD_move rfl) rfl ?_
      refine SQ_pu rfl (RD_move rfl) rfl ?_
      refine SQ_pu rfl (RD_move rfl) rfl ?_
      refine SQ_pu rfl (RD_move rfl) rfl ?_
      refine SQ_pu rfl (RD_move rfl) rfl ?_
      refine SQ_pu rfl (RD_move rfl) rfl ?_
      refine SQ.le (l := [(0, _), (1, _), (2, _), (3, _), (9, _), (10, _), (11, _), (33, _), (34, _), (36, _), (39, _), (40, _), (42, _)]) ?_ (.cons rfl (.cons rfl (.cons rfl (.cons rfl (.cons rfl (.cons rfl (.cons rfl (.cons rfl (.cons rfl (.cons rfl (.cons rfl (.cons rfl (.cons rfl (.nil))))))))))))))
      refine SQ_join (X := Nat × Nat) (.nil) [true, true, true, true, true, true, true, true, true, true, true, true, true, true] 0 (by kernel_rfl) (fun x => [(12, .slice a1 n1 c1), (13, .int .u64 x1)]) (fun x => pt x.1 (.cells [.slice a0 n0 c0, .slice a1 n1 c1].toArray 22) :: pt x.2 (.cells [.int .u64 x0, .int .u64 x1].toArray 23) :: At writerI p1 [] :: pt b9 (.cells [.slice aO0 o0.length cO0, .slice none 0 0].toArray 26) :: rowP 5 1 aO0 o0.length cO0 (o0.map byteV) :: F) (fun x => pt x.1 (.cells [.slice a0 n0 c0, .slice a1 n1 c1].toArray 22) :: pt x.2 (.cells [.int .u64 x0, .int .u64 x1].toArray 23) :: At writerI p1 [] :: pt b9 (.cells [.slice aO0 o0.length cO0, .slice none 0 0].toArray 26) :: rowP 5 1 aO0 o0.length cO0 (o0.map byteV) :: F) (fun ⟨b35, b41⟩ T10 hT10 => ?_) (fun K10 => ?_)
      · refine SQ.le (l := [(12, _), (13, _), (0, _), (1, _), (2, _), (3, _), (9, _), (10, _), (11, _), (33, _), (34, _), (36, _), (39, _), (40, _), (42, _)]) ?_ (.cons rfl (.cons rfl (.cons rfl (.cons rfl (.cons rfl (.cons rfl (.cons rfl (.cons rfl (.cons rfl (.cons rfl (.cons rfl (.cons rfl (.cons rfl (.cons rfl (.cons rfl (.nil))))))))))))))))
        refine SQ_nil ?_
        refine SN.le (l := [(0, _), (1, _), (2, _), (3, _), (9, _), (10, _), (11, _), (12, _), (13, _)]) ?_ (.cons rfl (.cons rfl (.cons rfl (.cons rfl (.cons rfl (.cons rfl (.cons rfl (.cons rfl (.cons rfl (.nil))))))))))
        refine SN_seq ?_
        refine SC_seq ?_
        refine SC_region ?_
        refine SR_pu (RD_move rfl) rfl ?_
        refine SR_pu (RD_move rfl) rfl ?_
        refine SR_pu (RD_len Try.runUnderlying22 rfl) rfl ?_
        refine SR_call Try.call17 (.cons rfl (.cons rfl (.nil))) (CallsK.at (wire_Int p1 [] n1 (by decide))) (lts rfl) ?_
        rintro _ L1 ⟨rfl, hL1⟩
        refine SR.lands hL1 ?_
        refine SR_nil ?_
        refine SN.le (l := [(0, _), (1, _), (2, _), (3, _), (9, _), (10, _), (11, _), (12, _), (13, _)]) ?_ (.cons rfl (.cons rfl (.cons rfl (.cons rfl (.cons rfl (.cons rfl (.cons rfl (.cons rfl (.cons rfl (.nil))))))))))
        refine SN_seq ?_
        refine SC_seq ?_
        refine SC_seq ?_
        refine SC_region ?_
        refine SR_pu (RD_move rfl) rfl ?_
        refine SR_pu (RD_len Try.runUnderlying22 rfl) rfl ?_
        refine SR_pu (RD_move rfl) rfl ?_
        refine SR_nil ?_
        refine SN.le (l := [(0, _), (1, _), (2, _), (3, _), (9, _), (10, _), (11, _), (12, _), (13, _), (50, _), (51, _)]) ?_ (.cons rfl (.cons rfl (.cons rfl (.cons rfl (.cons rfl (.cons rfl (.cons rfl (.cons rfl (.cons rfl (.cons rfl (.cons rfl (.nil))))))))))))
        refine SN_seq ?_
        refine SC_block ?_
        refine SC_ind (X := Nat) (fun j => j ≤ n1 ∧ ∀ s ∈ l1.take j, s.n ≤ 100 ∧ s.bs.length = s.n) (fun j => n1 - j) (fun j => [(0, .slice a0 n0 c0), (1, .slice a1 n1 c1), (2, .int .u64 x0), (3, .int .u64 x1), (9, .pointer (some ⟨b9, 0, none⟩)), (10, .int .i64 1), (11, .pointer (some ⟨p1, 0, none⟩)), (12, .slice a1 n1 c1), (13, .int .u64 x1), (50, .int .i64 n1), (51, .int .i64 (j : Nat))]) (fun j => At writerI p1 (bei n1 ++ encU x1 (l1.take j)) :: pt b9 (.cells [.slice aO0 o0.length cO0, .slice none 0 0].toArray 26) :: rowP 5 1 aO0 o0.length cO0 (o0.map byteV) :: F) (0) (⟨by omega, by simp⟩) (.cons rfl (.cons rfl (.cons rfl (.cons rfl (.cons rfl (.cons rfl (.cons rfl (.cons rfl (.cons rfl (.cons rfl (.cons rfl (.nil)))))))))))) (by dsimp only; rw [show bei (n1 : Int) ++ encU x1 (l1.take 0) = [] ++ bei n1 by simp [encU]]; exact .fin) ?_
        intro j hi ih
        obtain ⟨hj, hsm⟩ := hi
        have hel := encU_len x1 (l1.take j) hsm
        have htl : (l1.take j).length ≤ 12 := by simp; omega
        refine SC_seq ?_
        refine SC_region ?_
        refine SR_pu (RD_lss rfl rfl) rfl ?_
        refine SR_nil ?_
        refine SN.le (l := [(0, _), (1, _), (2, _), (3, _), (9, _), (10, _), (11, _), (12, _), (13, _), (50, _), (51, _), (52, _)]) ?_ (.cons rfl (.cons rfl (.cons rfl (.cons rfl (.cons rfl (.cons rfl (.cons rfl (.cons rfl (.cons rfl (.cons rfl (.cons rfl (.cons rfl (.nil)))))))))))))
        refine SN_seq ?_
        refine SC_seq ?_
        refine SC_cond rfl (fun hc52 => ?_) (fun hc52 => ?_)
        · have hjl : j < n1 := by simp at hc52; omega
          obtain ⟨s, hs⟩ : ∃ s, l1[j]? = some s := ⟨_, List.getElem?_eq_getElem (by omega)⟩
          have hok := hl1 s (List.mem_of_getElem? hs)
          haveI := hok.r
          refine SC_skip ?_
          refine SN_seq ?_
          refine SC_seq ?_
          refine SC_block ?_
          refine SC_seq ?_
          refine SC_region ?_
          refine SR_pu (RD_move rfl) rfl ?_
          refine SR_pu (RD_assign rfl) rfl ?_
          refine SR_nil ?_
          refine SN.le (l := [(0, _), (1, _), (2, _), (3, _), (9, _), (10, _), (11, _), (12, _), (13, _), (14, _), (50, _), (51, _)]) ?_ (.cons rfl (.cons rfl (.cons rfl (.cons rfl (.cons rfl (.cons rfl (.cons rfl (.cons rfl (.cons rfl (.cons rfl (.cons rfl (.cons rfl (.nil)))))))))))))
          refine SN_seq ?_
          refine SC_seq ?_
          refine SC_seq ?_
          refine SC_region ?_
          refine SR_pu (RD_move rfl) rfl ?_
          refine SR_pu (RD_move rfl) rfl ?_
          refine SR_rd (RD_ixO (cs := l1.map BSl.val) Try.runUnderlying22 Try.sizeOf25 rfl rfl (by simpa using hn1) (by omega) (by omega)) Has.ro rfl ?_
          refine SR_rd (RD_loadO (v := s.val) (cs := l1.map BSl.val) Try.isAgg25 rfl (by simp [hs])) Has.ro rfl ?_
          refine SR_pu (RD_len Try.runUnderlying25 rfl) rfl ?_
          refine SR_pu (RD_gtr rfl rfl) rfl ?_
          refine SR_nil ?_
          refine SN.le (l := [(0, _), (1, _), (2, _), (3, _), (9, _), (10, _), (11, _), (12, _), (13, _), (14, _), (50, _), (51, _), (59, _)]) ?_ (.cons rfl (.cons rfl (.cons rfl (.cons rfl (.cons rfl (.cons rfl (.cons rfl (.cons rfl (.cons rfl (.cons rfl (.cons rfl (.cons rfl (.cons rfl (.nil))))))))))))))
          refine SN_seq ?_
          refine SC_cond rfl (fun hc59 => ?_) (fun hc59 => ?_)
          · refine SC_seq ?_
            refine SC_region ?_
            refine SR_call Try.call15 (.nil) (wire_awake) (lts rfl) ?_
            rintro _ L9 ⟨rfl, hL9⟩
            refine SR.lands hL9 ?_
            refine SR_pu (RD_assign rfl) rfl ?_
            refine SR_nil ?_
            refine SN.le (l := [(8, _)]) ?_ (.cons rfl (.nil))
            refine SN_seq ?_
            refine SC_ret1 rfl rfl ?_
            exact ⟨rfl, .fin⟩
          · have hs100 : s.n ≤ 100 := by simp at hc59; omega
            refine SC_skip ?_
            refine SN_seq ?_
            refine SC_seq ?_
            refine SC_region ?_
            refine SR_pu (RD_move rfl) rfl ?_
            refine SR_pu (RD_move rfl) rfl ?_
            refine SR_pu (RD_move rfl) rfl ?_
            refine SR_rd (RD_ixO (cs := l1.map BSl.val) Try.runUnderlying22 Try.sizeOf25 rfl rfl (by simpa using hn1) (by omega) (by omega)) Has.ro rfl ?_
            refine SR_rd (RD_loadO (v := s.val) (cs := l1.map BSl.val) Try.isAgg25 rfl (by simp [hs])) Has.ro rfl ?_
            refine SR_call Try.call18 (.cons rfl (.cons rfl (.nil))) (CallsK.at (wire_Text p1 (bei n1 ++ encU x1 (l1.take j)) s.bs s.a s.n s.c rfl hok.hn (by simp [bei_length]; omega))) (lts rfl) ?_
            rintro _ L2 ⟨rfl, hL2⟩
            refine SR.lands hL2 ?_
            refine SR_nil ?_
            refine SN.le (l := [(0, _), (1, _), (2, _), (3, _), (9, _), (10, _), (11, _), (12, _), (13, _), (50, _), (51, _)]) ?_ (.cons rfl (.cons rfl (.cons rfl (.cons rfl (.cons rfl (.cons rfl (.cons rfl (.cons rfl (.cons rfl (.cons rfl (.cons rfl (.nil))))))))))))
            refine SN_seq ?_
            refine SC_region ?_
            refine SR_pu (RD_move rfl) rfl ?_
            refine SR_pu (RD_move rfl) rfl ?_
            refine SR_call Try.call19 (.cons rfl (.cons rfl (.nil))) (CallsK.at (wire_Num p1 (bei n1 ++ encU x1 (l1.take j) ++ (bei s.n ++ s.bs)) x1 hx1 (by simp [bei_length]; have := hok.hn; omega))) (lts rfl) ?_
            rintro _ L3 ⟨rfl, hL3⟩
            refine SR.lands hL3 ?_
            refine SR_nil ?_
            refine SN.le (l := [(0, _), (1, _), (2, _), (3, _), (9, _), (10, _), (11, _), (12, _), (13, _), (50, _), (51, _)]) ?_ (.cons rfl (.cons rfl (.cons rfl (.cons rfl (.cons rfl (.cons rfl (.cons rfl (.cons rfl (.cons rfl (.cons rfl (.cons rfl (.nil))))))))))))
            refine SN_block ?_
            refine SN_seq ?_
            refine SC_region ?_
            refine SR_pu (RD_addi rfl rfl (by omega) (by omega)) rfl ?_
            refine SR_pu (RD_move rfl) rfl ?_
            refine SR_nil ?_
            refine SN.le (l := [(0, _), (1, _), (2, _), (3, _), (9, _), (10, _), (11, _), (12, _), (13, _), (50, _), (51, _)]) ?_ (.cons rfl (.cons rfl (.cons rfl (.cons rfl (.cons rfl (.cons rfl (.cons rfl (.cons rfl (.cons rfl (.cons rfl (.cons rfl (.nil))))))))))))
            refine SC_again (ih (j + 1) (⟨by omega, fun z hz => by rw [List.take_add_one, hs] at hz; rcases List.mem_append.1 hz with hz | hz; exact hsm z hz; simp at hz; subst hz; exact ⟨hs100, hok.hn⟩⟩) (by omega)) (by simp only [encU_take hs, List.append_assoc]; exact .fin) (.cons rfl (.cons rfl (.cons rfl (.cons rfl (.cons rfl (.cons rfl (.cons rfl (.cons rfl (.cons rfl (.cons rfl (.cons' rfl (ie (by omega)) (.nil))))))))))))
        · have hjn : j = n1 := by simp at hc52; omega
          rw [show l1.take j = l1 from by rw [hjn, ← hn1]; exact List.take_length] at hsm hel ⊢
          obtain ⟨o1, ho1⟩ : ∃ o, bei n1 ++ encU x1 l1 = o := ⟨_, rfl⟩
          have hol1 : o1.length ≤ 10000 := by rw [← ho1]; simp [bei_length]; omega
          rw [ho1]
          have hsm1 := hsm
          refine SC_exit rfl ?_
          refine SN_seq ?_
          refine SC_region ?_
          refine SR_pu (RD_move rfl) rfl ?_
          refine SR_pu (RD_move rfl) rfl ?_
          refine SR_call Try.call20 (.cons rfl (.nil)) (CallsK.at (wire_Bytes p1 o1 (by omega))) (lts rfl) ?_
          rintro _ L4 ⟨aO1, cO1, rfl, hL4⟩
          refine SR.lands hL4 ?_
          refine SR_pu (RD_ixAk 1 Try.runUnderlying26 Try.sizeOf25 rfl rfl (by omega) (by omega) rfl) rfl ?_
          refine SR_ox0 (OX_st Try.sizeOf25 rfl rfl) ?_
          rintro _ _ rfl
          refine SR_nil ?_
          refine SN.le (l := [(0, _), (1, _), (2, _), (3, _), (9, _), (10, _)]) ?_ (.cons rfl (.cons rfl (.cons rfl (.cons rfl (.cons rfl (.cons rfl (.nil)))))))
          refine SN_block ?_
          refine SN_seq ?_
          refine SC_region ?_
          refine SR_pu (RD_move rfl) rfl ?_
          refine SR_pu (RD_addi rfl rfl (by omega) (by omega)) rfl ?_
          refine SR_pu (RD_assign rfl) rfl ?_
          refine SR_nil ?_
          refine SN.le (l := [(0, _), (1, _), (2, _), (3, _), (9, _), (10, _)]) ?_ (.cons rfl (.cons rfl (.cons rfl (.cons rfl (.cons rfl (.cons rfl (.nil)))))))
          refine SN_loop ?_
          refine SC_seq ?_
          refine SC_seq ?_
          refine SC_region ?_
          refine SR_pu (RD_move rfl) rfl ?_
          refine SR_pu (RD_lss rfl rfl) rfl ?_
          refine SR_nil ?_
          refine SN.le (l := [(0, _), (1, _), (2, _), (3, _), (9, _), (10, _), (27, _)]) ?_ (.cons rfl (.cons rfl (.cons rfl (.cons rfl (.cons rfl (.cons rfl (.cons rfl (.nil))))))))
          refine SN_seq ?_
          refine SC_cond_false rfl (rfl) ?_
          refine SC_exit rfl ?_
          refine SN_seq ?_
          refine SC_seq ?_
          have hal : alike x0 x1 l0 l1 0 ↔ (n0 = n1 ∧ (x0 = x1 ∨ n0 = 0)) := by unfold alike; rw [hn0, hn1]; simp
          refine SC_join (X := Unit) (fun x => [(0, .slice a0 n0 c0), (1, .slice a1 n1 c1), (9, .pointer (some ⟨b9, 0, none⟩)), (15, .bool (decide (alike x0 x1 l0 l1 0)))]) (fun x => pt b9 (.cells [.slice aO0 o0.length cO0, .slice aO1 o1.length cO1].toArray 26) :: rowP 5 1 aO0 o0.length cO0 (o0.map byteV) :: rowP 5 1 aO1 o1.length cO1 (o1.map byteV) :: F) (fun x => ?_) (fun J0 => ?_)
          · refine SN_seq ?_
            refine SC_seq ?_
            refine SC_seq ?_
            refine SC_region ?_
            refine SR_pu (RD_assign rfl) rfl ?_
            refine SR_nil ?_
            refine SN.le (l := [(0, _), (1, _), (9, _), (15, _), (16, _)]) ?_ (.cons rfl (.cons rfl (.cons rfl (.cons rfl (.cons rfl (.nil))))))
            refine SN_seq ?_
            refine SC_block ?_
            refine SC_ind (X := Nat) (fun i => i ≤ 12) (fun i => 12 - i) (fun i => [(0, .slice a0 n0 c0), (1, .slice a1 n1 c1), (9, .pointer (some ⟨b9, 0, none⟩)), (15, .bool (decide (alike x0 x1 l0 l1 i))), (16, .int .i64 (i : Nat))]) (fun i => pt b9 (.cells [.slice aO0 o0.length cO0, .slice aO1 o1.length cO1].toArray 26) :: rowP 5 1 aO0 o0.length cO0 (o0.map byteV) :: rowP 5 1 aO1 o1.length cO1 (o1.map byteV) :: F) (0) (by omega) (.cons rfl (.cons rfl (.cons rfl (.cons rfl (.cons rfl (.nil)))))) (.fin) ?_
            intro i hi ih
            refine SC_seq ?_
            refine SC_seq ?_
            refine SC_region ?_
            refine SR_pu (RD_move rfl) rfl ?_
            refine SR_pu (RD_move rfl) rfl ?_
            refine SR_pu (RD_len Try.runUnderlying22 rfl) rfl ?_
            refine SR_pu (RD_lss rfl rfl) rfl ?_
            refine SR_pu (RD_move rfl) rfl ?_
            refine SR_guard rfl rfl (fun hg23_4 => ?_) (fun hg23_4 => ?_)
            · refine SR_yes rfl rfl (hg23_4) ?_
              refine SR_pu (RD_move rfl) rfl ?_
              refine SR_yes rfl rfl (hg23_4) ?_
              refine SR_pu (RD_move rfl) rfl ?_
              refine SR_yes rfl rfl (hg23_4) ?_
              refine SR_pu (RD_len Try.runUnderlying22 rfl) rfl ?_
              refine SR_yes rfl rfl (hg23_4) ?_
              refine SR_pu (RD_lss rfl rfl) rfl ?_
              refine SR_pu (RD_pick_t rfl (hg23_4) rfl) rfl ?_
              refine SR_nil ?_
              refine SN.le (l := [(0, _), (1, _), (9, _), (15, _), (16, _), (99, _)]) ?_ (.cons rfl (.cons rfl (.cons rfl (.cons rfl (.cons rfl (.cons rfl (.nil)))))))
              refine SN_seq ?_
              refine SC_cond rfl (fun hc99 => ?_) (fun hc99 => ?_)
              · have hi0 : i < l0.length := by simp at hg23_4; omega
                have hi1 : i < l1.length := by simp at hc99; omega
                obtain ⟨s, hs⟩ : ∃ s, l0[i]? = some s := ⟨_, List.getElem?_eq_getElem hi0⟩
                obtain ⟨t, ht⟩ : ∃ t, l1[i]? = some t := ⟨_, List.getElem?_eq_getElem hi1⟩
                have hok0 := hl0 s (List.mem_of_getElem? hs)
                have hok1 := hl1 t (List.mem_of_getElem? ht)
                haveI := hok0.r
                haveI := hok1.r
                have hst := alike_step (x := x0) (y := x1) hs ht
                refine SC_skip ?_
                refine SN_seq ?_
                refine SC_seq ?_
                refine SC_block ?_
                refine SC_drawn (.cons 0 true (.cons 1 true (.cons 2 true (.cons 3 true (.cons 4 true (.cons 5 true (.cons 6 true (.cons 7 true (.cons 8 true (.cons 9 true (.cons 10 false (.cons 11 true (.cons 12 true (.nil)))))))))))))) (by kernel_rfl) (by kernel_rfl) ?_
                refine SQ_pu rfl (RD_move rfl) rfl ?_
                refine SQ_pu rfl (RD_move rfl) rfl ?_
                refine SQ_guard (i := 2) rfl rfl rfl (fun hg25_1 => ?_) (fun hg25_1 => ?_)
                · refine SQ_pyes rfl rfl rfl (hg25_1) (RD_move rfl) rfl ?_
                  refine SQ_pyes rfl rfl rfl (hg25_1) (RD_move rfl) rfl ?_
                  refine SQ_yes rfl rfl rfl (hg25_1) (RD_ixO (cs := l0.map BSl.val) Try.runUnderlying22 Try.sizeOf25 rfl rfl (by simpa using hn0) (by omega) (by omega)) Has.ro rfl ?_
                  refine SQ_yes rfl rfl rfl (hg25_1) (RD_loadO (v := s.val) (cs := l0.map BSl.val) Try.isAgg25 rfl (by simp [hs])) Has.ro rfl ?_
                  refine SQ_pyes rfl rfl rfl (hg25_1) (RD_move rfl) rfl ?_
                  refine SQ_pyes rfl rfl rfl (hg25_1) (RD_move rfl) rfl ?_
                  refine SQ_yes rfl rfl rfl (hg25_1) (RD_ixO (cs := l1.map BSl.val) Try.runUnderlying22 Try.sizeOf25 rfl rfl (by simpa using hn1) (by omega) (by omega)) Has.ro rfl ?_
                  refine SQ_yes rfl rfl rfl (hg25_1) (RD_loadO (v := t.val) (cs := l1.map BSl.val) Try.isAgg25 rfl (by simp [ht])) Has.ro rfl ?_
                  refine SQ_one (SA_call rfl (.mk rfl rfl (hg25_1)) Try.call21 (.cons rfl (.cons rfl (.nil))) (ref_Same s.a s.n s.c s.bs rfl hok0.hn t.a t.n t.c t.bs rfl hok1.hn) (lts rfl) ?_)
                  rintro _ L6 ⟨rfl, hL6⟩
                  refine ⟨.lands hL6 (.w rfl (.h Has.ro (.w rfl (.h Has.ro (.nil))))), ?_⟩
                  refine SQ.lands hL6 ?_
                  refine SQ_pu rfl (RD_pick_t rfl (hg25_1) rfl) rfl ?_
                  refine SQ_pu rfl (RD_assign rfl) rfl ?_
                  refine SQ_nil ?_
                  refine SN.le (l := [(0, _), (1, _), (9, _), (15, _), (16, _)]) ?_ (.cons rfl (.cons rfl (.cons rfl (.cons rfl (.cons rfl (.nil))))))
                  refine SN_block ?_
                  refine SN_seq ?_
                  refine SC_region ?_
                  refine SR_pu (RD_move rfl) rfl ?_
                  refine SR_pu (RD_addi rfl rfl (by omega) (by omega)) rfl ?_
                  refine SR_pu (RD_assign rfl) rfl ?_
                  refine SR_nil ?_
                  refine SN.le (l := [(0, _), (1, _), (9, _), (15, _), (16, _)]) ?_ (.cons rfl (.cons rfl (.cons rfl (.cons rfl (.cons rfl (.nil))))))
                  refine SC_again (ih (i + 1) (by omega) (by omega)) (.fin) (.cons rfl (.cons rfl (.cons rfl (.cons' rfl (congrArg Value.bool (by rw [dec_iff hst]; simp at hg25_1 ⊢; simp [hg25_1])) (.cons' rfl (ie (by omega)) (.nil))))))
                · refine SQ_no rfl rfl rfl (hg25_1) (lts rfl) ?_
                  refine SQ_no rfl rfl rfl (hg25_1) (lts rfl) ?_
                  refine SQ_no rfl rfl rfl (hg25_1) (lts rfl) ?_
                  refine SQ_no rfl rfl rfl (hg25_1) (lts rfl) ?_
                  refine SQ_no rfl rfl rfl (hg25_1) (lts rfl) ?_
                  refine SQ_no rfl rfl rfl (hg25_1) (lts rfl) ?_
                  refine SQ_no rfl rfl rfl (hg25_1) (lts rfl) ?_
                  refine SQ_no rfl rfl rfl (hg25_1) (lts rfl) ?_
                  refine SQ_no1 rfl rfl rfl (hg25_1) (lts rfl) ?_
                  refine SQ_pu rfl (RD_pick_f rfl (hg25_1) rfl) rfl ?_
                  refine SQ_pu rfl (RD_assign rfl) rfl ?_
                  refine SQ_nil ?_
                  refine SN.le (l := [(0, _), (1, _), (9, _), (15, _), (16, _)]) ?_ (.cons rfl (.cons rfl (.cons rfl (.cons rfl (.cons rfl (.nil))))))
                  refine SN_block ?_
                  refine SN_seq ?_
                  refine SC_region ?_
                  refine SR_pu (RD_move rfl) rfl ?_
                  refine SR_pu (RD_addi rfl rfl (by omega) (by omega)) rfl ?_
                  refine SR_pu (RD_assign rfl) rfl ?_
                  refine SR_nil ?_
                  refine SN.le (l := [(0, _), (1, _), (9, _), (15, _), (16, _)]) ?_ (.cons rfl (.cons rfl (.cons rfl (.cons rfl (.cons rfl (.nil))))))
                  refine SC_again (ih (i + 1) (by omega) (by omega)) (.fin) (.cons rfl (.cons rfl (.cons rfl (.cons' rfl (congrArg Value.bool (by rw [dec_iff hst]; simp at hg25_1 ⊢; simp [hg25_1])) (.cons' rfl (ie (by omega)) (.nil))))))
              · have hall := alike_all (i := i) hx0 hx1 hsm0 hsm1 (by omega) (by omega) (.inr (by simp at hc99; omega))
                rw [hn0, hn1, ho0, ho1] at hall
                refine SC_exit rfl ?_
                refine SN_seq ?_
                refine SC_seq ?_
                refine SC_region ?_
                refine SR_pu (RD_ixAk 0 Try.runUnderlying26 Try.sizeOf25 rfl rfl (by omega) (by omega) rfl) rfl ?_
                refine SR_rd (RD_load Try.isAgg25 rfl) (Has.ce rfl) rfl ?_
                refine SR_rd (RD_b2s (bs := o0) Try.underlying25 Try.underlying9 Try.underlying5 rfl rfl) Has.ro rfl ?_
                refine SR_pu (RD_ixAk 1 Try.runUnderlying26 Try.sizeOf25 rfl rfl (by omega) (by omega) rfl) rfl ?_
                refine SR_rd (RD_load Try.isAgg25 rfl) (Has.ce rfl) rfl ?_
                refine SR_rd (RD_b2s (bs := o1) Try.underlying25 Try.underlying9 Try.underlying5 rfl rfl) Has.ro rfl ?_
                refine SR_pu (RD_eqlS rfl rfl) rfl ?_
                refine SR_pu (RD_move rfl) rfl ?_
                refine SR_pu (RD_eqlB Try.underlying4 rfl rfl) rfl ?_
                refine SR_pu (RD_move rfl) rfl ?_
                refine SR_yes rfl rfl (by rw [dec_iff (bstr_inj.trans hall)]; simp) ?_
                refine SR_call Try.call15 (.nil) (wire_awake) (lts rfl) ?_
                rintro _ L9 ⟨rfl, hL9⟩
                refine SR.lands hL9 ?_
                refine SR_pu (RD_pick_t rfl (by rw [dec_iff (bstr_inj.trans hall)]; simp) rfl) rfl ?_
                refine SR_pu (RD_assign rfl) rfl ?_
                refine SR_nil ?_
                refine SN.le (l := [(8, _)]) ?_ (.cons rfl (.nil))
                refine SN_seq ?_
                refine SC_ret1 rfl rfl ?_
                exact ⟨rfl, .fin⟩
            · refine SR_no rfl rfl (hg23_4) (lts rfl) ?_
              refine SR_no rfl rfl (hg23_4) (lts rfl) ?_
              refine SR_no rfl rfl (hg23_4) (lts rfl) ?_
              refine SR_no rfl rfl (hg23_4) (lts rfl) ?_
              refine SR_pu (RD_pick_f rfl (hg23_4) rfl) rfl ?_
              refine SR_nil ?_
              refine SN.le (l := [(0, _), (1, _), (9, _), (15, _), (16, _), (99, _)]) ?_ (.cons rfl (.cons rfl (.cons rfl (.cons rfl (.cons rfl (.cons rfl (.nil)))))))
              refine SN_seq ?_
              have hall := alike_all (i := i) hx0 hx1 hsm0 hsm1 (by omega) (by omega) (.inl (by simp at hg23_4; omega))
              rw [hn0, hn1, ho0, ho1] at hall
              refine SC_cond_false rfl (rfl) ?_
              refine SC_exit rfl ?_
              refine SN_seq ?_
              refine SC_seq ?_
              refine SC_region ?_
              refine SR_pu (RD_ixAk 0 Try.runUnderlying26 Try.sizeOf25 rfl rfl (by omega) (by omega) rfl) rfl ?_
              refine SR_rd (RD_load Try.isAgg25 rfl) (Has.ce rfl) rfl ?_
              refine SR_rd (RD_b2s (bs := o0) Try.underlying25 Try.underlying9 Try.underlying5 rfl rfl) Has.ro rfl ?_
              refine SR_pu (RD_ixAk 1 Try.runUnderlying26 Try.sizeOf25 rfl rfl (by omega) (by omega) rfl) rfl ?_
              refine SR_rd (RD_load Try.isAgg25 rfl) (Has.ce rfl) rfl ?_
              refine SR_rd (RD_b2s (bs := o1) Try.underlying25 Try.underlying9 Try.underlying5 rfl rfl) Has.ro rfl ?_
              refine SR_pu (RD_eqlS rfl rfl) rfl ?_
              refine SR_pu (RD_move rfl) rfl ?_
              refine SR_pu (RD_eqlB Try.underlying4 rfl rfl) rfl ?_
              refine SR_pu (RD_move rfl) rfl ?_
              refine SR_yes rfl rfl (by rw [dec_iff (bstr_inj.trans hall)]; simp) ?_
              refine SR_call Try.call15 (.nil) (wire_awake) (lts rfl) ?_
              rintro _ L9 ⟨rfl, hL9⟩
              refine SR.lands hL9 ?_
              refine SR_pu (RD_pick_t rfl (by rw [dec_iff (bstr_inj.trans hall)]; simp) rfl) rfl ?_
              refine SR_pu (RD_assign rfl) rfl ?_
              refine SR_nil ?_
              refine SN.le (l := [(8, _)]) ?_ (.cons rfl (.nil))
              refine SN_seq ?_
              refine SC_ret1 rfl rfl ?_
              exact ⟨rfl, .fin⟩
          · refine SC_region ?_
            refine SR_pu (RD_move rfl) rfl ?_
            refine SR_pu (RD_len Try.runUnderlying22 rfl) rfl ?_
            refine SR_pu (RD_move rfl) rfl ?_
            refine SR_pu (RD_len Try.runUnderlying22 rfl) rfl ?_
            refine SR_pu (RD_eql rfl rfl) rfl ?_
            refine SR_pu (RD_move rfl) rfl ?_
            refine SR_guard rfl rfl (fun hg21_5 => ?_) (fun hg21_5 => ?_)
            · refine SR_yes rfl rfl (hg21_5) ?_
              refine SR_pu (RD_move rfl) rfl ?_
              refine SR_yes rfl rfl (hg21_5) ?_
              refine SR_pu (RD_move rfl) rfl ?_
              refine SR_yes rfl rfl (hg21_5) ?_
              refine SR_pu (RD_eql rfl rfl) rfl ?_
              refine SR_yes rfl rfl (hg21_5) ?_
              refine SR_pu (RD_move rfl) rfl ?_
              refine SR_guard rfl rfl (fun hg21_9 => ?_) (fun hg21_9 => ?_)
              · refine SR_yes rfl rfl (hg21_9) ?_
                refine SR_pu (RD_move rfl) rfl ?_
                refine SR_yes rfl rfl (hg21_9) ?_
                refine SR_pu (RD_len Try.runUnderlying22 rfl) rfl ?_
                refine SR_yes rfl rfl (hg21_9) ?_
                refine SR_pu (RD_eql rfl rfl) rfl ?_
                refine SR_yes rfl rfl (hg21_5) ?_
                refine SR_pu (RD_pick_f rfl (hg21_9) rfl) rfl ?_
                refine SR_pu (RD_pick_t rfl (hg21_5) rfl) rfl ?_
                refine SR_pu (RD_assign rfl) rfl ?_
                refine SR_nil ?_
                refine SN.le (l := [(0, _), (1, _), (9, _), (15, _)]) ?_ (.cons rfl (.cons rfl (.cons rfl (.cons rfl (.nil)))))
                exact J0 (()) _ _ (.cons rfl (.cons rfl (.cons rfl (.cons' rfl (congrArg Value.bool (by rw [dec_iff hal]; first | (have e5 : ¬ n0 = n1 := (by simp at hg21_5; omega); simp [e5]; done) | (have e5 : n0 = n1 := (by simp at hg21_5; omega); have e9 : ¬ x0 = x1 := (by simpa using hg21_9); simp [e5, e9]; done) | (have e5 : n0 = n1 := (by simp at hg21_5; omega); have e9 : x0 = x1 := (by simpa using hg21_9); simp [e5, e9]; done))) (.nil))))) (.fin)
              · refine SR_no rfl rfl (hg21_9) (lts rfl) ?_
                refine SR_no rfl rfl (hg21_9) (lts rfl) ?_
                refine SR_no rfl rfl (hg21_9) (lts rfl) ?_
                refine SR_yes rfl rfl (hg21_5) ?_
                refine SR_pu (RD_pick_t rfl (hg21_9) rfl) rfl ?_
                refine SR_pu (RD_pick_t rfl (hg21_5) rfl) rfl ?_
                refine SR_pu (RD_assign rfl) rfl ?_
                refine SR_nil ?_
                refine SN.le (l := [(0, _), (1, _), (9, _), (15, _)]) ?_ (.cons rfl (.cons rfl (.cons rfl (.cons rfl (.nil)))))
                exact J0 (()) _ _ (.cons rfl (.cons rfl (.cons rfl (.cons' rfl (congrArg Value.bool (by rw [dec_iff hal]; first | (have e5 : ¬ n0 = n1 := (by simp at hg21_5; omega); simp [e5]; done) | (have e5 : n0 = n1 := (by simp at hg21_5; omega); have e9 : ¬ x0 = x1 := (by simpa using hg21_9); simp [e5, e9]; done) | (have e5 : n0 = n1 := (by simp at hg21_5; omega); have e9 : x0 = x1 := (by simpa using hg21_9); simp [e5, e9]; done))) (.nil))))) (.fin)
            · refine SR_no rfl rfl (hg21_5) (lts rfl) ?_
              refine SR_no rfl rfl (hg21_5) (lts rfl) ?_
              refine SR_no rfl rfl (hg21_5) (lts rfl) ?_
              refine SR_no rfl rfl (hg21_5) (lts rfl) ?_
              refine SR_nou  rfl rfl (lts rfl) ?_
              refine SR_nou  rfl rfl (lts rfl) ?_
              refine SR_nou  rfl rfl (lts rfl) ?_
              refine SR_no rfl rfl (hg21_5) (lts rfl) ?_
              refine SR_pu (RD_pick_f rfl (hg21_5) rfl) rfl ?_
              refine SR_pu (RD_assign rfl) rfl ?_
              refine SR_nil ?_
              refine SN.le (l := [(0, _), (1, _), (9, _), (15, _)]) ?_ (.cons rfl (.cons rfl (.cons rfl (.cons rfl (.nil)))))
              exact J0 (()) _ _ (.cons rfl (.cons rfl (.cons rfl (.cons' rfl (congrArg Value.bool (by rw [dec_iff hal]; first | (have e5 : ¬ n0 = n1 := (by simp at hg21_5; omega); simp [e5]; done) | (have e5 : n0 = n1 := (by simp at hg21_5; omega); have e9 : ¬ x0 = x1 := (by simpa using hg21_9); simp [e5, e9]; done) | (have e5 : n0 = n1 := (by simp at hg21_5; omega); have e9 : x0 = x1 := (by simpa using hg21_9); simp [e5, e9]; done))) (.nil))))) (.fin)
      · refine SQ_two ?_ ?_
        · refine SA_ox rfl .free (OX_lit1 Try.underlying29 Try.type22 rfl rfl rfl rfl (.cons rfl (.cons rfl .nil)) (.cons rfl (.cons rfl .nil))) rfl ?_
          rintro _ _ ⟨b35, rfl, rfl⟩
          refine ⟨.nil, ?_⟩
          refine SQ_rd rfl (RD_ixO (cs := [.slice a0 n0 c0, .slice a1 n1 c1]) Try.runUnderlying29 Try.sizeOf22 rfl rfl rfl (by omega) (by omega)) Has.ro rfl ?_
          refine SQ_rd rfl (RD_load Try.isAgg22 rfl) (Has.ce rfl) rfl ?_
          refine SQ_pu rfl (RD_assign rfl) rfl ?_
          refine SQ_ox rfl (OX_lit1 Try.underlying30 Try.type23 rfl rfl rfl rfl (.cons rfl (.cons rfl .nil)) (.cons rfl (.cons rfl .nil))) rfl ?_
          rintro _ _ ⟨b41, rfl, rfl⟩
          refine ⟨.h (Has.ce rfl) (.h Has.ro (.nil)), ?_⟩
          refine SQ_rd rfl (RD_ixO (cs := [.int .u64 x0, .int .u64 x1]) Try.runUnderlying30 Try.sizeOf23 rfl rfl rfl (by omega) (by omega)) Has.ro rfl ?_
          refine SQ_rd rfl (RD_load Try.isAgg23 rfl) (Has.ce rfl) rfl ?_
          refine SQ_pu rfl (RD_assign rfl) rfl ?_
          exact K10 (⟨b35, b41⟩) _ _ _ (.cons rfl (.cons rfl (.cons rfl (.cons rfl (.cons rfl (.cons rfl (.cons rfl (.cons rfl (.cons rfl (.cons rfl (.cons rfl (.cons rfl (.cons rfl (.cons rfl (.cons rfl (.nil)))))))))))))))) (by dsimp only; exact .fin) (.cons (Has.ce rfl) (.cons Has.ro (.cons (Has.ce rfl) (.cons Has.ro (.nil)))))
        · refine SA_ox rfl .free (OX_lit1 Try.underlying30 Try.type23 rfl rfl rfl rfl (.cons rfl (.cons rfl .nil)) (.cons rfl (.cons rfl .nil))) rfl ?_
          rintro _ _ ⟨b41, rfl, rfl⟩
          refine ⟨.nil, ?_⟩
          refine SQ_rd rfl (RD_ixO (cs := [.int .u64 x0, .int .u64 x1]) Try.runUnderlying30 Try.sizeOf23 rfl rfl rfl (by omega) (by omega)) Has.ro rfl ?_
          refine SQ_rd rfl (RD_load Try.isAgg23 rfl) (Has.ce rfl) rfl ?_
          refine SQ_ox rfl (OX_lit1 Try.underlying29 Try.type22 rfl rfl rfl rfl (.cons rfl (.cons rfl .nil)) (.cons rfl (.cons rfl .nil))) rfl ?_
          rintro _ _ ⟨b35, rfl, rfl⟩
          refine ⟨.h (Has.ce rfl) (.h Has.ro (.nil)), ?_⟩
          refine SQ_rd rfl (RD_ixO (cs := [.slice a0 n0 c0, .slice a1 n1 c1]) Try.runUnderlying29 Try.sizeOf22 rfl rfl rfl (by omega) (by omega)) Has.ro rfl ?_
          refine SQ_rd rfl (RD_load Try.isAgg22 rfl) (Has.ce rfl) rfl ?_
          refine SQ_pu rfl (RD_assign rfl) rfl ?_
          refine SQ_pu rfl (RD_assign rfl) rfl ?_
          exact K10 (⟨b35, b41⟩) _ _ _ (.cons rfl (.cons rfl (.cons rfl (.cons rfl (.cons rfl (.cons rfl (.cons rfl (.cons rfl (.cons rfl (.cons rfl (.cons rfl (.cons rfl (.cons rfl (.cons rfl (.cons rfl (.nil)))))))))))))))) (by dsimp only; exact .fin) (.cons (Has.ce rfl) (.cons Has.ro (.cons (Has.ce rfl) (.cons Has.ro (.nil)))))
  · refine SQ_two ?_ ?_
    · refine SA_ox rfl .free (OX_lit1 Try.underlying29 Try.type22 rfl rfl rfl rfl (.cons rfl (.cons rfl .nil)) (.cons rfl (.cons rfl .nil))) rfl ?_
      rintro _ _ ⟨b35, rfl, rfl⟩
      refine ⟨.nil, ?_⟩
      refine SQ_rd rfl (RD_ixO (cs := [.slice a0 n0 c0, .slice a1 n1 c1]) Try.runUnderlying29 Try.sizeOf22 rfl rfl rfl (by omega) (by omega)) Has.ro rfl ?_
      refine SQ_rd rfl (RD_load Try.isAgg22 rfl) (Has.ce rfl) rfl ?_
      refine SQ_pu rfl (RD_assign rfl) rfl ?_
      refine SQ_ox rfl (OX_lit1 Try.underlying30 Try.type23 rfl rfl rfl rfl (.cons rfl (.cons rfl .nil)) (.cons rfl (.cons rfl .nil))) rfl ?_
      rintro _ _ ⟨b41, rfl, rfl⟩
      refine ⟨.h (Has.ce rfl) (.h Has.ro (.nil)), ?_⟩
      refine SQ_rd rfl (RD_ixO (cs := [.int .u64 x0, .int .u64 x1]) Try.runUnderlying30 Try.sizeOf23 rfl rfl rfl (by omega) (by omega)) Has.ro rfl ?_
      refine SQ_rd rfl (RD_load Try.isAgg23 rfl) (Has.ce rfl) rfl ?_
      refine SQ_pu rfl (RD_assign rfl) rfl ?_
      exact K10 (⟨b35, b41⟩) _ _ _ (.cons rfl (.cons rfl (.cons rfl (.cons rfl (.cons rfl (.cons rfl (.cons rfl (.cons rfl (.cons rfl (.cons rfl (.cons rfl (.cons rfl (.cons rfl (.cons rfl (.cons rfl (.nil)))))))))))))))) (by dsimp only; exact .fin) (.cons (Has.ce rfl) (.cons Has.ro (.cons (Has.ce rfl) (.cons Has.ro (.nil)))))
    · refine SA_ox rfl .free (OX_lit1 Try.underlying30 Try.type23 rfl rfl rfl rfl (.cons rfl (.cons rfl .nil)) (.cons rfl (.cons rfl .nil))) rfl ?_
      rintro _ _ ⟨b41, rfl, rfl⟩
      refine ⟨.nil, ?_⟩
      refine SQ_rd rfl (RD_ixO (cs := [.int .u64 x0, .int .u64 x1]) Try.runUnderlying30 Try.sizeOf23 rfl rfl rfl (by omega) (by omega)) Has.ro rfl ?_
      refine SQ_rd rfl (RD_load Try.isAgg23 rfl) (Has.ce rfl) rfl ?_
      refine SQ_ox rfl (OX_lit1 Try.underlying29 Try.type22 rfl rfl rfl rfl (.cons rfl (.cons rfl .nil)) (.cons rfl (.cons rfl .nil))) rfl ?_
      rintro _ _ ⟨b35, rfl, rfl⟩
      refine ⟨.h (Has.ce rfl) (.h Has.ro (.nil)), ?_⟩
      refine SQ_rd rfl (RD_ixO (cs := [.slice a0 n0 c0, .slice a1 n1 c1]) Try.runUnderlying29 Try.sizeOf22 rfl rfl rfl (by omega) (by omega)) Has.ro rfl ?_
      refine SQ_rd rfl (RD_load Try.isAgg22 rfl) (Has.ce rfl) rfl ?_
      refine SQ_pu rfl (RD_assign rfl) rfl ?_
      refine SQ_pu rfl (RD_assign rfl) rfl ?_
      exact K10 (⟨b35, b41⟩) _ _ _ (.cons rfl (.cons rfl (.cons rfl (.cons rfl (.cons rfl (.cons rfl (.cons rfl (.cons rfl (.cons rfl (.cons rfl (.cons rfl (.cons rfl (.cons rfl (.cons rfl (.cons rfl (.nil)))))))))))))))) (by dsimp only; exact .fin) (.cons (Has.ce rfl) (.cons Has.ro (.cons (Has.ce rfl) (.cons Has.ro (.nil)))))

theorem law_WireUnlike {W : World} {F : List HProp} [Abs F] (a0 : Option Addr) (n0 c0 : Nat) (l0 : List BSl) [HasRow F a0 (l0.map BSl.val)] (hn0 : l0.length = n0) (hl0 : ∀ s ∈ l0, s.Ok F) (a1 : Option Addr) (n1 c1 : Nat) (l1 : List BSl) [HasRow F a1 (l1.map BSl.val)] (hn1 : l1.length = n1) (hl1 : ∀ s ∈ l1, s.Ok F) (x0 x1 : Int) (hx0 : 0 ≤ x0 ∧ x0 < 18446744073709551616) (hx1 : 0 ≤ x1 ∧ x1 < 18446744073709551616) :
    CallsK W Try.prog 3 #[.slice a0 n0 c0, .slice a1 n1 c1, .int .u64 x0, .int .u64 x1] (F) (fun v L => v = .bool true ∧ Lands L F) := by
  by_cases h : 12 < n0 ∨ 12 < n1
  · exact law_WireUnlike_long a0 n0 c0 l0 hn0 hl0 a1 n1 c1 l1 hn1 hl1 x0 x1 hx0 hx1 h
  · exact law_WireUnlike_short a0 n0 c0 l0 hn0 hl0 a1 n1 c1 l1 hn1 hl1 x0 x1 hx0 hx1 (by omega) (by omega)
end Go.Proofs.Ytdjkllhnkbobfaa
