/- Part 7 of the proof: lemmas that the walk of TopWindow needs. -/
import Derived.Test.YtdhpjdhloaoepaaGreatPw6
set_option linter.unusedSimpArgs false
set_option linter.unusedVariables false
/- Checked numbers; accounts. -/
namespace Go.Proofs.YtdhpjdhloaoepaaGreat
open Go Go.Proofs
attribute [local irreducible] SC SN SR SQ SA SO
set_option maxRecDepth 100000
def U64 (n : Int) : Prop := 0 ≤ n ∧ n < 18446744073709551616
abbrev Acs := List (Int × Int)
def acC (x : Int × Int) : List Value := [.int .u64 x.1, .int .u64 x.2]
instance (x : Int × Int) : Ones (acC x) := by unfold acC; infer_instance
theorem ac_get {l : Acs} {i : Nat} {e : Int × Int} (h : l[i]? = some e) (o : Nat) (ho : o < 2) : (l.flatMap acC)[i * 2 + o]? = (acC e)[o]? := by
  induction l generalizing i with
  | nil => simp at h
  | cons x l ih =>
    cases i with
    | zero => simp at h; subst h; rw [List.flatMap_cons, Nat.zero_mul, Nat.zero_add, List.getElem?_append_left (by show o < 2; exact ho)]
    | succ i =>
      rw [List.flatMap_cons, List.getElem?_append_right (by show 2 ≤ _; omega), show (acC x).length = 2 from rfl, show (i + 1) * 2 + o - 2 = i * 2 + o by omega]
      exact ih (by simpa using h)
theorem ac_len (l : Acs) : (l.flatMap acC).length = l.length * 2 := by
  induction l with
  | nil => rfl
  | cons x l ih => rw [List.flatMap_cons, List.length_append, ih, List.length_cons, show (acC x).length = 2 from rfl]; omega
def acP (x : Int × Int) (a : Nat) : Int := if a = 0 then x.1 else x.2
def acQ (x : Int × Int) (a : Nat) (v : Int) : Int × Int := if a = 0 then (v, x.2) else (x.1, v)
theorem ac_set {l : Acs} {i : Nat} {e : Int × Int} (h : l[i]? = some e) (a : Nat) (ha : a < 2) (v : Int) : (l.flatMap acC).set (i * 2 + a) (.int .u64 v) = (l.set i (acQ e a v)).flatMap acC := by
  induction l generalizing i with
  | nil => simp at h
  | cons x l ih =>
    cases i with
    | zero =>
      simp at h; subst h
      have : a = 0 ∨ a = 1 := by omega
      rcases this with rfl | rfl <;> simp [acC, acQ]
    | succ i =>
      rw [List.flatMap_cons, List.set_append_right _ _ (by show 2 ≤ _; omega), show (acC x).length = 2 from rfl, show (i + 1) * 2 + a - 2 = i * 2 + a by omega, ih (by simpa using h)]
      simp
def AcOk (l : Acs) : Prop := l.length ≤ 1000 ∧ ∀ x ∈ l, U64 x.1 ∧ U64 x.2
def acHas (l : Acs) (c : Int) : Bool := decide (0 ≤ c ∧ c < l.length)
def acAs (a : Int) : Bool := decide (0 ≤ a ∧ a < 2)
def acAt (l : Acs) (c : Int) : Int × Int := (l[c.toNat]?).getD (0, 0)
def acFree (l : Acs) (c a : Int) : Int := if acHas l c && acAs a then acP (acAt l c) a.toNat else 0
def acWrong (l : Acs) (c a : Int) : Int := if acHas l c then (if acAs a then 0 else 3) else 2
def acPut (l : Acs) (c a n : Int) : Int × Acs :=
  if acWrong l c a = 0 then (if acP (acAt l c) a.toNat + n < 18446744073709551616 then (0, l.set c.toNat (acQ (acAt l c) a.toNat (acP (acAt l c) a.toNat + n))) else (5, l)) else (acWrong l c a, l)
def acTake (l : Acs) (c a n : Int) : Int × Acs :=
  if acWrong l c a = 0 then (if n ≤ acP (acAt l c) a.toNat then (0, l.set c.toNat (acQ (acAt l c) a.toNat (acP (acAt l c) a.toNat - n))) else (4, l)) else (acWrong l c a, l)
theorem acW0 {l : Acs} {c a : Int} : acWrong l c a = 0 ↔ acHas l c = true ∧ acAs a = true := by
  unfold acWrong
  split
  · split <;> simp_all
  · simp_all
theorem acAt_some {l : Acs} {c : Int} (h : acHas l c = true) : l[c.toNat]? = some (acAt l c) := by
  have := of_decide_eq_true h
  unfold acAt
  rw [List.getElem?_eq_getElem (by omega)]; rfl
theorem acP_ok {l : Acs} (h : AcOk l) {c : Int} (hc : acHas l c = true) (a : Nat) : U64 (acP (acAt l c) a) := by
  have := h.2 _ (List.mem_of_getElem? (acAt_some hc))
  unfold acP; split; exact this.1; exact this.2
theorem acSet_ok {l : Acs} (h : AcOk l) {c : Int} (hc : acHas l c = true) (a : Nat) {v : Int} (hv : U64 v) : AcOk (l.set c.toNat (acQ (acAt l c) a v)) := by
  refine ⟨by rw [List.length_set]; exact h.1, fun x hx => ?_⟩
  rcases List.mem_or_eq_of_mem_set hx with hx | rfl
  · exact h.2 x hx
  · have := h.2 _ (List.mem_of_getElem? (acAt_some hc))
    unfold acQ; split
    · exact ⟨hv, this.2⟩
    · exact ⟨this.1, hv⟩

def actI (p : Nat) (s : Acs) : HProp := fun h => ∃ (a : Option Addr) (c : Nat), AcOk s ∧ Den [pt p (.cells [.slice a s.length c].toArray 183), rowP 135 2 a s.length c (s.flatMap acC)] h
theorem open_act {p : Nat} {s : Acs} : Opens actI p s (fun x : (Option Addr) × (Nat) => (AcOk s)) (fun x R => (pt p (.cells [.slice x.1 s.length x.2].toArray 183)) :: (rowP 135 2 x.1 s.length x.2 (s.flatMap acC)) :: R) := by
  rintro R m_ ⟨m1, m2, d, e, ⟨a, c, f0_, h_⟩, r⟩
  exact ⟨(a, c), f0_, Den_app d e h_ r⟩
theorem close_act {L R R1_ : List HProp} (p : Nat) (s : Acs) {a : Option Addr} {c : Nat} {y1_ : Nat} {y2_ : Nat} {y3_ : List Value} [t0_ : TakePt L p (.cells [.slice a y1_ c].toArray 183) R1_] [t1_ : TakeRow R1_ a 135 2 y2_ c y3_ R] (f0_ : AcOk s) (e0_ : s.length = y1_ := by rfl) (e1_ : s.length = y2_ := by rfl) (e2_ : s.flatMap acC = y3_ := by rfl) : Lands L (At actI p s :: R) := fun q_ H_ => by
  subst e0_; subst e1_; subst e2_;
  obtain ⟨a0_, b0_, d0_, i0_, p0_, r0_⟩ := Den_perm t0_.perm q_ H_
  obtain ⟨a1_, b1_, d1_, i1_, p1_, r1_⟩ := Den_perm t1_.perm b0_ r0_
  have H2_ : Den ([pt p (.cells [.slice a s.length c].toArray 183), rowP 135 2 a s.length c (s.flatMap acC)] ++ R) q_ := ⟨a0_, b0_, d0_, i0_, p0_, ⟨a1_, b1_, d1_, i1_, p1_, r1_⟩⟩
  exact Lands.wrap (A := At actI p s) (fun z_ hz_ => ⟨a, c, f0_, hz_⟩) q_ H2_
theorem chk_Add {W : World} {F : List HProp} [Abs F] (x y : Int) (hx : U64 x) (hy : U64 y) :
    CallsK W Tryz.prog 138 #[.int .u64 x, .int .u64 y] (F) (fun u L => u = .tuple #[.int .u64 (if x + y < 18446744073709551616 then x + y else 0), .bool (decide (x + y < 18446744073709551616))] ∧ Lands L F) := by
  refine CallsK_enter (n := 17) Tryz.func138 rfl rfl rfl ?_
  iterate 10 refine Ws ?_
  refine SR_pu (RD_ext (call_add64 x y hx.1 hy.1) (.cons rfl (.cons rfl (.cons rfl .nil)))) rfl ?_
  iterate 14 refine Ws ?_
  refine SC_cond rfl (fun hc15 => ?_) (fun hc15 => ?_)
  · iterate 6 refine Ws ?_
    refine SC_ret2 rfl rfl rfl ?_
    unfold U64 at hx hy
    have h := of_decide_eq_true hc15
    have hn : ¬ x + y < 18446744073709551616 := by omega
    refine ⟨?_, .fin⟩
    rw [if_neg hn, decide_eq_false hn]
  · iterate 9 refine Ws ?_
    refine SC_ret2 rfl rfl rfl ?_
    unfold U64 at hx hy
    have h := of_decide_eq_false hc15
    have hn : x + y < 18446744073709551616 := by omega
    refine ⟨?_, .fin⟩
    rw [if_pos hn, decide_eq_true hn, show (x + y) % 18446744073709551616 = x + y by omega]

theorem chk_Sub {W : World} {F : List HProp} [Abs F] (x y : Int) (hx : U64 x) (hy : U64 y) :
    CallsK W Tryz.prog 257 #[.int .u64 x, .int .u64 y] (F) (fun u L => u = .tuple #[.int .u64 (if y ≤ x then x - y else 0), .bool (decide (y ≤ x))] ∧ Lands L F) := by
  refine CallsK_enter (n := 12) Tryz.func257 rfl rfl rfl ?_
  iterate 14 refine Ws ?_
  refine SC_cond rfl (fun hc8 => ?_) (fun hc8 => ?_)
  · have hlt : ¬ y ≤ x := by simpa using hc8
    iterate 6 refine Ws ?_
    refine SC_ret2 rfl rfl rfl ?_
    refine ⟨?_, .fin⟩
    rw [if_neg hlt, decide_eq_false hlt]
  · have hlt : y ≤ x := by simpa using hc8
    iterate 6 refine Ws ?_
    refine SR_pu (RD_sub rfl rfl) rfl ?_
    iterate 4 refine Ws ?_
    refine SC_ret2 rfl rfl rfl ?_
    refine ⟨?_, .fin⟩
    unfold U64 at hx hy
    rw [if_pos hlt, decide_eq_true hlt, IntKind.wrap_u64, show (x - y) % 18446744073709551616 = x - y by omega]

theorem act_Asset {W : World} {F : List HProp} [Abs F] (a : Int) :
    CallsK W Tryz.prog 88 #[.int .i64 a] (F) (fun u L => u = .bool (acAs a) ∧ Lands L F) := by
  refine CallsK_enter (n := 9) Tryz.func88 rfl rfl rfl ?_
  iterate 10 refine Ws ?_
  refine SR_guard rfl rfl (fun hg1_2 => ?_) (fun hg1_2 => ?_)
  · refine SR_yes rfl rfl (hg1_2) ?_
    refine Ws ?_
    refine SR_yes rfl rfl (hg1_2) ?_
    refine Ws ?_
    refine SR_pu (RD_pick_t rfl (hg1_2) rfl) rfl ?_
    iterate 3 refine Ws ?_
    refine SC_ret1 rfl rfl ?_
    refine ⟨congrArg Value.bool ?_, .fin⟩
    have h := of_decide_eq_true hg1_2
    exact decide_eq_decide.2 (by omega)
  · refine SR_no rfl rfl (hg1_2) (lts rfl) ?_
    refine SR_no rfl rfl (hg1_2) (lts rfl) ?_
    refine SR_pu (RD_pick_f rfl (hg1_2) rfl) rfl ?_
    iterate 3 refine Ws ?_
    refine SC_ret1 rfl rfl ?_
    refine ⟨congrArg Value.bool ?_, .fin⟩
    have h := of_decide_eq_false hg1_2
    exact (decide_eq_false (by omega)).symm

theorem act_Has {W : World} {F : List HProp} [Abs F] (p : Nat) (s : Acs) (c : Int) :
    CallsK W Tryz.prog 73 #[.pointer (some ⟨p, 0, none⟩), .int .i64 c] (At actI p s :: F) (fun u L => u = .bool (acHas s c) ∧ Lands L (At actI p s :: F)) := by
  refine CallsK_enter (n := 16) Tryz.func73 rfl rfl rfl ?_
  iterate 6 refine Ws ?_
  refine SC.opn (open_act (p := p)) fun ⟨a_, c_⟩ hok => ?_
  dsimp only at hok ⊢
  iterate 4 refine Ws ?_
  refine SR_guard rfl rfl (fun hg1_2 => ?_) (fun hg1_2 => ?_)
  · refine SR_yes rfl rfl (hg1_2) ?_
    refine Ws ?_
    refine SR_yes rfl rfl (hg1_2) ?_
    refine Ws ?_
    refine SR_yes rfl rfl (hg1_2) ?_
    refine Ws ?_
    refine SR_yes rfl rfl (hg1_2) ?_
    refine Ws ?_
    refine SR_yes rfl rfl (hg1_2) ?_
    refine Ws ?_
    refine SR_yes rfl rfl (hg1_2) ?_
    refine Ws ?_
    refine SR_yes rfl rfl (hg1_2) ?_
    refine Ws ?_
    refine SR_pu (RD_pick_t rfl (hg1_2) rfl) rfl ?_
    iterate 3 refine Ws ?_
    refine SC_ret1 rfl rfl ?_
    refine ⟨congrArg Value.bool ?_, ((close_act p s hok).trans .fin)⟩
    have h := of_decide_eq_true hg1_2
    exact decide_eq_decide.2 (by omega)
  · refine SR_no rfl rfl (hg1_2) (lts rfl) ?_
    refine SR_no rfl rfl (hg1_2) (lts rfl) ?_
    refine SR_no rfl rfl (hg1_2) (lts rfl) ?_
    refine SR_no rfl rfl (hg1_2) (lts rfl) ?_
    refine SR_no rfl rfl (hg1_2) (lts rfl) ?_
    refine SR_no rfl rfl (hg1_2) (lts rfl) ?_
    refine SR_no rfl rfl (hg1_2) (lts rfl) ?_
    refine SR_pu (RD_pick_f rfl (hg1_2) rfl) rfl ?_
    iterate 3 refine Ws ?_
    refine SC_ret1 rfl rfl ?_
    refine ⟨congrArg Value.bool ?_, ((close_act p s hok).trans .fin)⟩
    have h := of_decide_eq_false hg1_2
    exact (decide_eq_false (by omega)).symm

theorem act_wrong {W : World} {F : List HProp} [Abs F] (p : Nat) (s : Acs) (c a : Int) :
    CallsK W Tryz.prog 137 #[.pointer (some ⟨p, 0, none⟩), .int .i64 c, .int .i64 a] (At actI p s :: F) (fun u L => u = .int .i64 (acWrong s c a) ∧ Lands L (At actI p s :: F)) := by
  refine CallsK_enter (n := 16) Tryz.func137 rfl rfl rfl ?_
  iterate 11 refine Ws ?_
  refine Wc (CallsK.at (act_Has p s c)) ?_
  iterate 4 refine Ws ?_
  refine SC_cond rfl (fun hc7 => ?_) (fun hc7 => ?_)
  · iterate 5 refine Ws ?_
    refine SC_ret1 rfl rfl ?_
    refine ⟨?_, .fin⟩
    unfold acWrong
    simp_all
  · iterate 3 refine Ws ?_
    refine Wc (act_Asset a) ?_
    iterate 4 refine Ws ?_
    refine SC_cond rfl (fun hc12 => ?_) (fun hc12 => ?_)
    · iterate 5 refine Ws ?_
      refine SC_ret1 rfl rfl ?_
      refine ⟨?_, .fin⟩
      unfold acWrong
      simp_all
    · iterate 8 refine Ws ?_
      refine SC_ret1 rfl rfl ?_
      refine ⟨?_, .fin⟩
      unfold acWrong
      simp_all

theorem act_Free {W : World} {F : List HProp} [Abs F] (p : Nat) (s : Acs) (c a : Int) :
    CallsK W Tryz.prog 63 #[.pointer (some ⟨p, 0, none⟩), .int .i64 c, .int .i64 a] (At actI p s :: F) (fun u L => u = .int .u64 (acFree s c a) ∧ Lands L (At actI p s :: F)) := by
  refine CallsK_enter (n := 25) Tryz.func63 rfl rfl rfl ?_
  iterate 10 refine Ws ?_
  refine Wc (CallsK.at (act_Has p s c)) ?_
  iterate 2 refine Ws ?_
  refine SR_guard rfl rfl (fun hg1_4 => ?_) (fun hg1_4 => ?_)
  · refine SR_yes rfl rfl (hg1_4) ?_
    refine Ws ?_
    refine SR_yes rfl rfl (hg1_4) ?_
    refine Wc (act_Asset a) ?_
    refine SR_yes rfl rfl (hg1_4) ?_
    refine Ws ?_
    refine SR_pu (RD_pick_f rfl (hg1_4) rfl) rfl ?_
    iterate 2 refine Ws ?_
    refine SC_cond rfl (fun hc15 => ?_) (fun hc15 => ?_)
    · have hno : (acHas s c && acAs a) = false := by simp_all
      iterate 5 refine Ws ?_
      refine SC_ret1 rfl rfl ?_
      refine ⟨?_, .fin⟩
      unfold acFree
      rw [hno]
      rfl
    · have hhh : acHas s c = true ∧ acAs a = true := by simp_all
      iterate 3 refine Ws ?_
      have hhas : acHas s c = true := hhh.1
      have hi := of_decide_eq_true hhh.1
      have hj := of_decide_eq_true hhh.2
      have hx := acAt_some hhh.1
      have hai : a.toNat < 2 := by omega
      refine SC.opn (open_act (p := p)) fun ⟨a_, c_⟩ hok => ?_
      dsimp only at hok ⊢
      iterate 7 refine Ws ?_
      refine SR_rd (RD_ixO (cs := s.flatMap acC) Tryz.runUnderlying181 Tryz.sizeOf135 rfl rfl (by rw [ac_len]) (by omega) (by omega)) Has.ro rfl ?_
      refine SR_rd (RD_ixAO (cs := s.flatMap acC) Tryz.runUnderlying135 Tryz.sizeOf35 rfl rfl (by omega) (by omega) (by rw [ac_len]; omega)) Has.ro rfl ?_
      refine SR_rd (RD_loadO (v := .int .u64 (acP (acAt s c) a.toNat)) (cs := s.flatMap acC) Tryz.isAgg35 rfl ((fun q hq => by rw [hq, ac_get hx a.toNat hai]; rcases (by omega : a.toNat = 0 ∨ a.toNat = 1) with h | h <;> simp [h, acC, acP] : ∀ q : Nat, q = c.toNat * 2 + a.toNat → (s.flatMap acC)[q]? = some (.int .u64 (acP (acAt s c) a.toNat))) _ (by omega))) Has.ro rfl ?_
      iterate 3 refine Ws ?_
      refine SC_ret1 rfl rfl ?_
      refine ⟨?_, ((close_act p s hok).trans .fin)⟩
      unfold acFree
      rw [hhh.1, hhh.2]
      rfl
  · refine SR_no rfl rfl (hg1_4) (lts rfl) ?_
    refine SR_no rfl rfl (hg1_4) (lts rfl) ?_
    refine SR_no rfl rfl (hg1_4) (lts rfl) ?_
    refine SR_pu (RD_pick_t rfl (hg1_4) rfl) rfl ?_
    iterate 2 refine Ws ?_
    have hno : (acHas s c && acAs a) = false := by simp_all
    refine SC_cond_true rfl (rfl) ?_
    iterate 5 refine Ws ?_
    refine SC_ret1 rfl rfl ?_
    refine ⟨?_, .fin⟩
    unfold acFree
    rw [hno]
    rfl

theorem act_Put {W : World} {F : List HProp} [Abs F] (p : Nat) (s : Acs) (c a n : Int) (hn : U64 n) :
    CallsK W Tryz.prog 106 #[.pointer (some ⟨p, 0, none⟩), .int .i64 c, .int .i64 a, .int .u64 n] (At actI p s :: F) (fun u L => u = .int .i64 (acPut s c a n).1 ∧ Lands L (At actI p (acPut s c a n).2 :: F)) := by
  refine CallsK_enter (n := 44) Tryz.func106 rfl rfl rfl ?_
  iterate 11 refine Ws ?_
  refine Wc (CallsK.at (act_wrong p s c a)) ?_
  iterate 9 refine Ws ?_
  refine SC_cond rfl (fun hc17 => ?_) (fun hc17 => ?_)
  · have hw : ¬ acWrong s c a = 0 := by simpa using hc17
    iterate 6 refine Ws ?_
    refine SC_ret1 rfl rfl ?_
    unfold acPut
    rw [if_neg hw]
    exact ⟨rfl, .fin⟩
  · have hw : acWrong s c a = 0 := by simpa using hc17
    have hhh := acW0.1 hw
    iterate 3 refine Ws ?_
    have hhas : acHas s c = true := hhh.1
    have hi := of_decide_eq_true hhh.1
    have hj := of_decide_eq_true hhh.2
    have hx := acAt_some hhh.1
    have hai : a.toNat < 2 := by omega
    refine SC.opn (open_act (p := p)) fun ⟨a_, c_⟩ hok => ?_
    dsimp only at hok ⊢
    have hv := acP_ok hok hhh.1 a.toNat
    iterate 7 refine Ws ?_
    refine SR_rd (RD_ixO (cs := s.flatMap acC) Tryz.runUnderlying181 Tryz.sizeOf135 rfl rfl (by rw [ac_len]) (by omega) (by omega)) Has.ro rfl ?_
    refine SR_rd (RD_ixAO (cs := s.flatMap acC) Tryz.runUnderlying135 Tryz.sizeOf35 rfl rfl (by omega) (by omega) (by rw [ac_len]; omega)) Has.ro rfl ?_
    refine SR_rd (RD_loadO (v := .int .u64 (acP (acAt s c) a.toNat)) (cs := s.flatMap acC) Tryz.isAgg35 rfl ((fun q hq => by rw [hq, ac_get hx a.toNat hai]; rcases (by omega : a.toNat = 0 ∨ a.toNat = 1) with h | h <;> simp [h, acC, acP] : ∀ q : Nat, q = c.toNat * 2 + a.toNat → (s.flatMap acC)[q]? = some (.int .u64 (acP (acAt s c) a.toNat))) _ (by omega))) Has.ro rfl ?_
    refine Ws ?_
    refine Wc (chk_Add (acP (acAt s c) a.toNat) n hv hn) ?_
    iterate 14 refine Ws ?_
    refine SC_cond rfl (fun hc34 => ?_) (fun hc34 => ?_)
    · have hov : ¬ (acP (acAt s c) a.toNat) + n < 18446744073709551616 := by simpa using hc34
      iterate 5 refine Ws ?_
      refine SC_ret1 rfl rfl ?_
      unfold acPut
      rw [if_pos hw, if_neg hov]
      exact ⟨rfl, ((close_act p s hok).trans .fin)⟩
    · have hov : (acP (acAt s c) a.toNat) + n < 18446744073709551616 := by simpa using hc34
      rw [if_pos hov]
      iterate 11 refine Ws ?_
      refine SR_rd (RD_ixO (cs := s.flatMap acC) Tryz.runUnderlying181 Tryz.sizeOf135 rfl rfl (by rw [ac_len]) (by omega) (by omega)) Has.ro rfl ?_
      refine SR_rd (RD_ixAO (cs := s.flatMap acC) Tryz.runUnderlying135 Tryz.sizeOf35 rfl rfl (by omega) (by omega) (by rw [ac_len]; omega)) Has.ro rfl ?_
      refine SR_ox0 (OX_stRow Tryz.sizeOf35 rfl rfl (by rw [ac_len]; omega)) ?_
      rintro _ _ rfl
      iterate 7 refine Ws ?_
      refine SC_ret1 rfl rfl ?_
      unfold acPut
      rw [if_pos hw, if_pos hov]
      have hset : (s.flatMap acC).set (c.toNat * (1 + 1) + a.toNat * 1) (.int .u64 ((acP (acAt s c) a.toNat) + n)) = (s.set c.toNat (acQ (acAt s c) a.toNat ((acP (acAt s c) a.toNat) + n))).flatMap acC := by rw [show c.toNat * (1 + 1) + a.toNat * 1 = c.toNat * 2 + a.toNat by omega]; exact ac_set hx _ hai _
      have hok2 := acSet_ok hok hhh.1 a.toNat (v := (acP (acAt s c) a.toNat) + n) (by unfold U64 at *; omega)
      exact ⟨rfl, ((close_act p _ hok2 (e0_ := by rw [List.length_set]) (e1_ := by rw [List.length_set]) (e2_ := hset.symm)).trans .fin)⟩

theorem act_Take {W : World} {F : List HProp} [Abs F] (p : Nat) (s : Acs) (c a n : Int) (hn : U64 n) :
    CallsK W Tryz.prog 250 #[.pointer (some ⟨p, 0, none⟩), .int .i64 c, .int .i64 a, .int .u64 n] (At actI p s :: F) (fun u L => u = .int .i64 (acTake s c a n).1 ∧ Lands L (At actI p (acTake s c a n).2 :: F)) := by
  refine CallsK_enter (n := 44) Tryz.func250 rfl rfl rfl ?_
  iterate 11 refine Ws ?_
  refine Wc (CallsK.at (act_wrong p s c a)) ?_
  iterate 9 refine Ws ?_
  refine SC_cond rfl (fun hc17 => ?_) (fun hc17 => ?_)
  · have hw : ¬ acWrong s c a = 0 := by simpa using hc17
    iterate 6 refine Ws ?_
    refine SC_ret1 rfl rfl ?_
    unfold acTake
    rw [if_neg hw]
    exact ⟨rfl, .fin⟩
  · have hw : acWrong s c a = 0 := by simpa using hc17
    have hhh := acW0.1 hw
    iterate 3 refine Ws ?_
    have hhas : acHas s c = true := hhh.1
    have hi := of_decide_eq_true hhh.1
    have hj := of_decide_eq_true hhh.2
    have hx := acAt_some hhh.1
    have hai : a.toNat < 2 := by omega
    refine SC.opn (open_act (p := p)) fun ⟨a_, c_⟩ hok => ?_
    dsimp only at hok ⊢
    have hv := acP_ok hok hhh.1 a.toNat
    iterate 7 refine Ws ?_
    refine SR_rd (RD_ixO (cs := s.flatMap acC) Tryz.runUnderlying181 Tryz.sizeOf135 rfl rfl (by rw [ac_len]) (by omega) (by omega)) Has.ro rfl ?_
    refine SR_rd (RD_ixAO (cs := s.flatMap acC) Tryz.runUnderlying135 Tryz.sizeOf35 rfl rfl (by omega) (by omega) (by rw [ac_len]; omega)) Has.ro rfl ?_
    refine SR_rd (RD_loadO (v := .int .u64 (acP (acAt s c) a.toNat)) (cs := s.flatMap acC) Tryz.isAgg35 rfl ((fun q hq => by rw [hq, ac_get hx a.toNat hai]; rcases (by omega : a.toNat = 0 ∨ a.toNat = 1) with h | h <;> simp [h, acC, acP] : ∀ q : Nat, q = c.toNat * 2 + a.toNat → (s.flatMap acC)[q]? = some (.int .u64 (acP (acAt s c) a.toNat))) _ (by omega))) Has.ro rfl ?_
    refine Ws ?_
    refine Wc (chk_Sub (acP (acAt s c) a.toNat) n hv hn) ?_
    iterate 14 refine Ws ?_
    refine SC_cond rfl (fun hc34 => ?_) (fun hc34 => ?_)
    · have hov : ¬ n ≤ (acP (acAt s c) a.toNat) := by simpa using hc34
      iterate 5 refine Ws ?_
      refine SC_ret1 rfl rfl ?_
      unfold acTake
      rw [if_pos hw, if_neg hov]
      exact ⟨rfl, ((close_act p s hok).trans .fin)⟩
    · have hov : n ≤ (acP (acAt s c) a.toNat) := by simpa using hc34
      rw [if_pos hov]
      iterate 11 refine Ws ?_
      refine SR_rd (RD_ixO (cs := s.flatMap acC) Tryz.runUnderlying181 Tryz.sizeOf135 rfl rfl (by rw [ac_len]) (by omega) (by omega)) Has.ro rfl ?_
      refine SR_rd (RD_ixAO (cs := s.flatMap acC) Tryz.runUnderlying135 Tryz.sizeOf35 rfl rfl (by omega) (by omega) (by rw [ac_len]; omega)) Has.ro rfl ?_
      refine SR_ox0 (OX_stRow Tryz.sizeOf35 rfl rfl (by rw [ac_len]; omega)) ?_
      rintro _ _ rfl
      iterate 7 refine Ws ?_
      refine SC_ret1 rfl rfl ?_
      unfold acTake
      rw [if_pos hw, if_pos hov]
      have hset : (s.flatMap acC).set (c.toNat * (1 + 1) + a.toNat * 1) (.int .u64 ((acP (acAt s c) a.toNat) - n)) = (s.set c.toNat (acQ (acAt s c) a.toNat ((acP (acAt s c) a.toNat) - n))).flatMap acC := by rw [show c.toNat * (1 + 1) + a.toNat * 1 = c.toNat * 2 + a.toNat by omega]; exact ac_set hx _ hai _
      have hok2 := acSet_ok hok hhh.1 a.toNat (v := (acP (acAt s c) a.toNat) - n) (by unfold U64 at *; omega)
      exact ⟨rfl, ((close_act p _ hok2 (e0_ := by rw [List.length_set]) (e1_ := by rw [List.length_set]) (e2_ := hset.symm)).trans .fin)⟩

end Go.Proofs.YtdhpjdhloaoepaaGreat

/- Envelopes are made: the vault by its count. -/
namespace Go.Proofs.YtdhpjdhloaoepaaGreat
open Go Go.Proofs
attribute [local irreducible] SC SN SR SQ SA SO
set_option maxRecDepth 100000
end Go.Proofs.YtdhpjdhloaoepaaGreat

/- Certificates: is one Ok. -/
namespace Go.Proofs.YtdhpjdhloaoepaaGreat
open Go Go.Proofs
attribute [local irreducible] SC SN SR SQ SA SO
set_option maxRecDepth 100000
theorem CallsK.ppat {κ σ : Type} {W : World} {P : Program} {f : FuncId} {args : Array Value} {L R1 R2 R : List HProp} {KK : Value → List HProp → Prop} {b b' : Nat} {o o' : Obj} {I : κ → σ → HProp} {key : κ} {s : σ} [t : TakePt L b o R1] [u : TakePt R1 b' o' R2] [w : TakeAt R2 I key s R] (g : CallsK W P f args (pt b o :: pt b' o' :: At I key s :: R) KK) : CallsK W P f args L KK :=
  g.pre fun m H => Den_tail (fun m2 h2 => Den_tail (fun m3 h3 => Den_perm w.perm m3 h3) (Den_perm u.perm m2 h2)) (Den_perm t.perm m H)

theorem qc_clo {W : World} {F : List HProp} [Abs F] (k : WK) (s : WS) (w : Int) (x y : Nat) (d : Int) :
    CallsK W Tryz.prog 241 #[.int .i64 w, .pointer (some ⟨x, 0, none⟩), .pointer (some ⟨y, 0, none⟩)] (pt x (.cells [.pointer (some ⟨k.p, 0, none⟩)].toArray 31) :: pt y (.cells [.int .i64 d].toArray 3) :: At worldI k s :: F) (fun v L => v = .bool (!decide (w ∈ signers s.S d)) ∧ Lands L (pt x (.cells [.pointer (some ⟨k.p, 0, none⟩)].toArray 31) :: pt y (.cells [.int .i64 d].toArray 3) :: At worldI k s :: F)) := by
  refine CallsK_enter (n := 11) Tryz.func241 rfl rfl rfl ?_
  iterate 6 refine Ws ?_
  refine Wd [.r 0, .r 2, .r 3, .e 1, .e 4, .r 5, .r 6] ?_
  iterate 3 refine Wq ?_
  refine SQ_call rfl Tryz.call122 (.cons rfl (.nil)) (CallsK.at (w_Signs k s)) (lts rfl) ?_
  rintro _ L1 ⟨rfl, hL1⟩
  refine ⟨.lands hL1 (.h (Has.ce rfl) (.w rfl (.nil))), ?_⟩
  refine SQ.lands hL1 ?_
  refine SQ_call rfl Tryz.call208 (.cons rfl (.cons rfl (.cons rfl (.nil)))) (CallsK.at (w_Has k s w d)) (lts rfl) ?_
  rintro _ L2 ⟨rfl, hL2⟩
  refine ⟨.lands hL2 (.w rfl (.h (Has.ce rfl) (.nil))), ?_⟩
  refine SQ.lands hL2 ?_
  iterate 2 refine Wq ?_
  iterate 2 refine Ws ?_
  refine SC_ret1 rfl rfl ?_
  exact ⟨rfl, .fin⟩

theorem qc_Index {W : World} {F : List HProp} [Abs F] (k : WK) (s : WS) (x y : Nat) (d : Int) (a : Option Addr) (n c : Nat) (by_ : List Int) {cs : List Value} [HasRow F a cs] (hcs : cs = by_.map intV) (hn : by_.length = n) (hb : n ≤ 100000000) :
    CallsK W Tryz.prog 254 #[.slice a n c, .func (.func 241) #[] [.pointer (some ⟨x, 0, none⟩), .pointer (some ⟨y, 0, none⟩)].toArray] (pt x (.cells [.pointer (some ⟨k.p, 0, none⟩)].toArray 31) :: pt y (.cells [.int .i64 d].toArray 3) :: At worldI k s :: F) (fun v L => (∃ z : Int, v = .int .i64 z ∧ (0 ≤ z ↔ ∃ w ∈ by_, w ∉ signers s.S d)) ∧ Lands L (pt x (.cells [.pointer (some ⟨k.p, 0, none⟩)].toArray 31) :: pt y (.cells [.int .i64 d].toArray 3) :: At worldI k s :: F)) := by
  refine CallsK_enter (n := 19) Tryz.func254 rfl rfl rfl ?_
  subst hcs
  iterate 14 refine Ws ?_
  refine SC_ind (X := Nat) (fun i => i ≤ by_.length ∧ ∀ j z, j < i → by_[j]? = some z → z ∈ signers s.S d) (fun i => by_.length - i) (fun i => [(0, .slice a n c), (1, .func (.func 241) #[] [.pointer (some ⟨x, 0, none⟩), .pointer (some ⟨y, 0, none⟩)].toArray), (7, .int .i64 (n : Nat)), (8, .int .i64 (i : Nat))]) (fun i => pt x (.cells [.pointer (some ⟨k.p, 0, none⟩)].toArray 31) :: pt y (.cells [.int .i64 d].toArray 3) :: At worldI k s :: F) (0) (⟨by omega, fun j z hj => by omega⟩) (.cons rfl (.cons rfl (.cons rfl (.cons rfl (.nil))))) (.fin) ?_
  intro i hi ih
  obtain ⟨hi1, hi2⟩ := hi
  iterate 6 refine Ws ?_
  refine SC_cond rfl (fun hc9 => ?_) (fun hc9 => ?_)
  · have hin : i < by_.length := by simp at hc9; omega
    obtain ⟨z, hz⟩ : ∃ z, by_[i]? = some z := ⟨_, List.getElem?_eq_getElem hin⟩
    iterate 16 refine Ws ?_
    refine SR_rd (RD_loadO (v := intV z) (cs := by_.map intV) Tryz.isAgg3 rfl (by simp [hz])) Has.ro rfl ?_
    refine SR_callv rfl Tryz.call241 (.cons rfl (.nil)) (CallsK.ppat (qc_clo k s z x y d)) (lts rfl) ?_
    rintro _ L1 ⟨rfl, hL1⟩
    refine SR.lands hL1 ?_
    iterate 2 refine Ws ?_
    refine SC_cond rfl (fun hc16 => ?_) (fun hc16 => ?_)
    · have hnz : z ∉ signers s.S d := by simpa using hc16
      iterate 6 refine Ws ?_
      refine SC_ret1 rfl rfl ?_
      exact ⟨⟨(i : Nat), rfl, ⟨fun _ => ⟨z, List.mem_of_getElem? hz, hnz⟩, fun _ => by omega⟩⟩, .fin⟩
    · have hzz : z ∈ signers s.S d := by simpa using hc16
      iterate 7 refine Ws ?_
      refine SC_again (ih (i + 1) (⟨by omega, fun j u hj hu => by
        rcases Nat.lt_succ_iff_lt_or_eq.1 hj with h | h
        · exact hi2 j u h hu
        · subst h; rw [hz] at hu; cases hu; exact hzz⟩) (by omega)) (.fin) (.cons rfl (.cons rfl (.cons rfl (.cons' rfl (ie (by omega)) (.nil)))))
  · have hin : i = by_.length := by simp at hc9; omega
    have hall : ∀ z ∈ by_, z ∈ signers s.S d := fun z hz => by
      obtain ⟨j, hj, e⟩ := List.getElem_of_mem hz
      exact hi2 j z (by omega) (by rw [List.getElem?_eq_getElem hj, e])
    iterate 7 refine Ws ?_
    refine SC_ret1 rfl rfl ?_
    exact ⟨⟨-1, rfl, ⟨fun h => by omega, fun ⟨w, h1, h2⟩ => absurd (hall w h1) h2⟩⟩, .fin⟩

theorem qc_Contains {W : World} {F : List HProp} [Abs F] (k : WK) (s : WS) (x y : Nat) (d : Int) (a : Option Addr) (n c : Nat) (by_ : List Int) {cs : List Value} [HasRow F a cs] (hcs : cs = by_.map intV) (hn : by_.length = n) (hb : n ≤ 100000000) :
    CallsK W Tryz.prog 240 #[.slice a n c, .func (.func 241) #[] [.pointer (some ⟨x, 0, none⟩), .pointer (some ⟨y, 0, none⟩)].toArray] (pt x (.cells [.pointer (some ⟨k.p, 0, none⟩)].toArray 31) :: pt y (.cells [.int .i64 d].toArray 3) :: At worldI k s :: F) (fun v L => v = .bool (!(by_.all fun w => decide (w ∈ signers s.S d))) ∧ Lands L (pt x (.cells [.pointer (some ⟨k.p, 0, none⟩)].toArray 31) :: pt y (.cells [.int .i64 d].toArray 3) :: At worldI k s :: F)) := by
  refine CallsK_enter (n := 9) Tryz.func240 rfl rfl rfl ?_
  iterate 9 refine Ws ?_
  refine We (CallsK.ppat (qc_Index k s x y d a n c by_ hcs hn hb)) ?_
  rintro _ L1 ⟨⟨z, rfl, hz⟩, hL1⟩
  refine SR.lands hL1 ?_
  iterate 4 refine Ws ?_
  refine SC_ret1 rfl rfl ?_
  refine ⟨?_, .fin⟩
  congr 1
  by_cases h : 0 ≤ z
  · have h2 := hz.1 h
    obtain ⟨w, h3, h4⟩ := h2
    have : (by_.all fun w => decide (w ∈ signers s.S d)) = false := by
      rw [List.all_eq_false]; exact ⟨w, h3, by simpa using h4⟩
    rw [this]; simp [h]
  · have h2 : ¬ ∃ w ∈ by_, w ∉ signers s.S d := fun e => h (hz.2 e)
    have : (by_.all fun w => decide (w ∈ signers s.S d)) = true := by
      rw [List.all_eq_true]; intro w hw; exact decide_eq_true (Classical.byContradiction fun e => h2 ⟨w, hw, e⟩)
    rw [this]; simp [h]

theorem cert_QcOk {W : World} {F : List HProp} [Abs F] (k : WK) (s : WS) (c : CfgD) (q : QcD) {cs : List Value} [HasRow F q.by_.a cs] (hcs : cs = q.by_.l.map intV) (hn : q.by_.l.length = q.by_.n) (hb : q.by_.n ≤ 100000000) (hl : s.l.length ≤ 1000000000) (hw : c.n < 9223372036854775808) :
    CallsK W Tryz.prog 209 #[.pointer (some ⟨k.p, 0, none⟩), c.val, q.val] (At worldI k s :: F) (fun v L => v = .bool (c.qcOk (c.qcL s.l q.view q.block) s.S q.view q.block q.by_.l) ∧ Lands L (At worldI k ⟨c.qcL s.l q.view q.block, s.S⟩ :: F)) := by
  refine CallsK_enter (n := 48) Tryz.func209 rfl rfl rfl ?_
  subst hcs
  iterate 2 refine Ws ?_
  refine Wb fun b3 => ?_
  refine Wb fun b4 => ?_
  refine Wb fun b5 => ?_
  iterate 11 refine Ws ?_
  refine SC_cond rfl (fun hc10 => ?_) (fun hc10 => ?_)
  · have hv : q.view < 1 := by simpa using hc10
    refine Ws ?_
    refine Wd [.r 0, .e 1, .r 2, .r 3, .r 4, .r 5, .r 6, .r 7, .r 8, .r 9, .r 10, .e 11, .r 12, .r 13, .r 14, .r 15, .r 16, .r 17, .r 18, .r 19, .r 20] ?_
    refine Wq ?_
    refine SQ_call rfl Tryz.call239 (.cons rfl (.nil)) (cert_Fits c hw) (lts rfl) ?_
    rintro _ L1 ⟨rfl, hL1⟩
    refine ⟨.lands hL1 (.w rfl (.nil)), ?_⟩
    refine SQ.lands hL1 ?_
    refine Wq ?_
    refine SQ_guard (i := 3) rfl rfl rfl (fun hg2_2 => ?_) (fun hg2_2 => ?_)
    · first
        | refine SQ_pyes rfl rfl rfl (hg2_2) (RD_fieldAddr0 Tryz.runUnderlying39 rfl rfl Tryz.sizeOf3 rfl) rfl ?_
        | refine SQ_yes rfl rfl rfl (hg2_2) (RD_fieldAddrO 0 Tryz.runUnderlying39 rfl rfl Tryz.sizeOf3 rfl (by simp <;> omega)) Has.ro rfl ?_
      refine SQ_yes rfl rfl rfl (hg2_2) (RD_load Tryz.isAgg3 rfl) (Has.ce rfl) rfl ?_
      refine SQ_pyes rfl rfl rfl (hg2_2) (RD_eql rfl rfl) rfl ?_
      refine SQ_pu rfl (RD_pick_t rfl (hg2_2) rfl) rfl ?_
      refine Wq ?_
      refine SQ_guard (i := 8) rfl rfl rfl (fun hg2_7 => ?_) (fun hg2_7 => ?_)
      · first
          | refine SQ_pyes rfl rfl rfl (hg2_7) (RD_fieldAddr 1 Tryz.runUnderlying39 rfl rfl Tryz.sizeOf3 rfl) rfl ?_
          | refine SQ_yes rfl rfl rfl (hg2_7) (RD_fieldAddrO 1 Tryz.runUnderlying39 rfl rfl Tryz.sizeOf3 rfl (by simp <;> omega)) Has.ro rfl ?_
        refine SQ_yes rfl rfl rfl (hg2_7) (RD_load Tryz.isAgg3 rfl) (Has.ce rfl) rfl ?_
        refine SQ_yes rfl rfl rfl (hg2_7) (RD_load Tryz.isAgg31 rfl) (Has.ce rfl) rfl ?_
        refine SQ_one (SA_call rfl (.mk rfl rfl (hg2_7)) Tryz.call81 (.cons rfl (.nil)) (CallsK.at (cert_Root k s hl _ _ rfl rfl)) (lts rfl) ?_)
        rintro _ L2 ⟨rfl, hL2⟩
        refine ⟨.lands hL2 (.w rfl (.h (Has.ce rfl) (.h (Has.ce rfl) (.h Has.wh (.nil))))), ?_⟩
        refine SQ.lands hL2 ?_
        refine SQ_pyes rfl rfl rfl (hg2_7) (RD_eql rfl rfl) rfl ?_
        refine SQ_pu rfl (RD_pick_t rfl (hg2_7) rfl) rfl ?_
        refine Wq ?_
        refine SQ_guard (i := 15) rfl rfl rfl (fun hg2_14 => ?_) (fun hg2_14 => ?_)
        · first
            | refine SQ_pyes rfl rfl rfl (hg2_14) (RD_fieldAddr 2 Tryz.runUnderlying39 rfl rfl Tryz.sizeOf37 rfl) rfl ?_
            | refine SQ_yes rfl rfl rfl (hg2_14) (RD_fieldAddrO 2 Tryz.runUnderlying39 rfl rfl Tryz.sizeOf37 rfl (by simp <;> omega)) Has.ro rfl ?_
          refine SQ_yes rfl rfl rfl (hg2_14) (RD_load Tryz.isAgg37 rfl) (Has.ce rfl) rfl ?_
          refine SQ_pyes rfl rfl rfl (hg2_14) (RD_len Tryz.runUnderlying37 rfl) rfl ?_
          refine SQ_pyes rfl rfl rfl (hg2_14) (RD_eql rfl rfl) rfl ?_
          refine SQ_pu rfl (RD_pick_t rfl (hg2_14) rfl) rfl ?_
          refine Wq ?_
          iterate 2 refine Ws ?_
          refine SC_ret1 rfl rfl ?_
          rw [show c.qcL s.l q.view q.block = (if c.fits && decide (q.view = 0) then dput s.l rootB else s.l) from if_pos hv]
          unfold CfgD.qcOk
          rw [if_pos hv]
          first
            | (rw [hg2_2, hg2_7]; simp only [Bool.not_true, Bool.and_true, Bool.true_and, Bool.and_false, Bool.false_and, if_true, if_false, Bool.false_eq_true, Bool.and_self]; exact ⟨by rw [hg2_14]; simp [hn], .fin⟩)
            | (rw [hg2_2, hg2_7]; simp only [Bool.not_true, Bool.and_true, Bool.true_and, Bool.and_false, Bool.false_and, if_true, if_false, Bool.false_eq_true, Bool.and_self]; exact ⟨by first | rfl | simp, .fin⟩)
            | (rw [hg2_2]; simp only [Bool.not_true, Bool.and_true, Bool.true_and, Bool.and_false, Bool.false_and, if_true, if_false, Bool.false_eq_true, Bool.and_self]; exact ⟨by first | rfl | simp, .fin⟩)
        · refine SQ_no rfl rfl rfl (hg2_14) (lts rfl) ?_
          refine SQ_no rfl rfl rfl (hg2_14) (lts rfl) ?_
          refine SQ_no rfl rfl rfl (hg2_14) (lts rfl) ?_
          refine SQ_no rfl rfl rfl (hg2_14) (lts rfl) ?_
          refine SQ_pu rfl (RD_pick_f rfl (hg2_14) rfl) rfl ?_
          refine Wq ?_
          iterate 2 refine Ws ?_
          refine SC_ret1 rfl rfl ?_
          rw [show c.qcL s.l q.view q.block = (if c.fits && decide (q.view = 0) then dput s.l rootB else s.l) from if_pos hv]
          unfold CfgD.qcOk
          rw [if_pos hv]
          first
            | (rw [hg2_2, hg2_7]; simp only [Bool.not_true, Bool.and_true, Bool.true_and, Bool.and_false, Bool.false_and, if_true, if_false, Bool.false_eq_true, Bool.and_self]; exact ⟨by rw [hg2_14]; simp [hn], .fin⟩)
            | (rw [hg2_2, hg2_7]; simp only [Bool.not_true, Bool.and_true, Bool.true_and, Bool.and_false, Bool.false_and, if_true, if_false, Bool.false_eq_true, Bool.and_self]; exact ⟨by first | rfl | simp, .fin⟩)
            | (rw [hg2_2]; simp only [Bool.not_true, Bool.and_true, Bool.true_and, Bool.and_false, Bool.false_and, if_true, if_false, Bool.false_eq_true, Bool.and_self]; exact ⟨by first | rfl | simp, .fin⟩)
      · refine SQ_no rfl rfl rfl (hg2_7) (lts rfl) ?_
        refine SQ_no rfl rfl rfl (hg2_7) (lts rfl) ?_
        refine SQ_no rfl rfl rfl (hg2_7) (lts rfl) ?_
        refine SQ_no1 rfl rfl rfl (hg2_7) (lts rfl) ?_
        refine SQ_no rfl rfl rfl (hg2_7) (lts rfl) ?_
        refine SQ_pu rfl (RD_pick_f rfl (hg2_7) rfl) rfl ?_
        refine Wq ?_
        refine SQ_no rfl rfl rfl (rfl) (lts rfl) ?_
        refine SQ_no rfl rfl rfl (rfl) (lts rfl) ?_
        refine SQ_no rfl rfl rfl (rfl) (lts rfl) ?_
        refine SQ_no rfl rfl rfl (rfl) (lts rfl) ?_
        refine SQ_pu rfl (RD_pick_f rfl (rfl) rfl) rfl ?_
        refine Wq ?_
        iterate 2 refine Ws ?_
        refine SC_ret1 rfl rfl ?_
        rw [show c.qcL s.l q.view q.block = (if c.fits && decide (q.view = 0) then dput s.l rootB else s.l) from if_pos hv]
        unfold CfgD.qcOk
        rw [if_pos hv]
        first
          | (rw [hg2_2, hg2_7]; simp only [Bool.not_true, Bool.and_true, Bool.true_and, Bool.and_false, Bool.false_and, if_true, if_false, Bool.false_eq_true, Bool.and_self]; exact ⟨by rw [hg2_14]; simp [hn], .fin⟩)
          | (rw [hg2_2, hg2_7]; simp only [Bool.not_true, Bool.and_true, Bool.true_and, Bool.and_false, Bool.false_and, if_true, if_false, Bool.false_eq_true, Bool.and_self]; exact ⟨by first | rfl | simp, .fin⟩)
          | (rw [hg2_2]; simp only [Bool.not_true, Bool.and_true, Bool.true_and, Bool.and_false, Bool.false_and, if_true, if_false, Bool.false_eq_true, Bool.and_self]; exact ⟨by first | rfl | simp, .fin⟩)
    · refine SQ_no rfl rfl rfl (hg2_2) (lts rfl) ?_
      refine SQ_no rfl rfl rfl (hg2_2) (lts rfl) ?_
      refine SQ_no rfl rfl rfl (hg2_2) (lts rfl) ?_
      refine SQ_pu rfl (RD_pick_f rfl (hg2_2) rfl) rfl ?_
      refine Wq ?_
      refine SQ_no rfl rfl rfl (rfl) (lts rfl) ?_
      refine SQ_no rfl rfl rfl (rfl) (lts rfl) ?_
      refine SQ_no rfl rfl rfl (rfl) (lts rfl) ?_
      refine SQ_no1 rfl rfl rfl (rfl) (lts rfl) ?_
      refine SQ_no rfl rfl rfl (rfl) (lts rfl) ?_
      refine SQ_pu rfl (RD_pick_f rfl (rfl) rfl) rfl ?_
      refine Wq ?_
      refine SQ_no rfl rfl rfl (rfl) (lts rfl) ?_
      refine SQ_no rfl rfl rfl (rfl) (lts rfl) ?_
      refine SQ_no rfl rfl rfl (rfl) (lts rfl) ?_
      refine SQ_no rfl rfl rfl (rfl) (lts rfl) ?_
      refine SQ_pu rfl (RD_pick_f rfl (rfl) rfl) rfl ?_
      refine Wq ?_
      iterate 2 refine Ws ?_
      refine SC_ret1 rfl rfl ?_
      rw [show c.qcL s.l q.view q.block = (if c.fits && decide (q.view = 0) then dput s.l rootB else s.l) from if_pos hv]
      unfold CfgD.qcOk
      rw [if_pos hv]
      first
        | (rw [hg2_2, hg2_7]; simp only [Bool.not_true, Bool.and_true, Bool.true_and, Bool.and_false, Bool.false_and, if_true, if_false, Bool.false_eq_true, Bool.and_self]; exact ⟨by rw [hg2_14]; simp [hn], .fin⟩)
        | (rw [hg2_2, hg2_7]; simp only [Bool.not_true, Bool.and_true, Bool.true_and, Bool.and_false, Bool.false_and, if_true, if_false, Bool.false_eq_true, Bool.and_self]; exact ⟨by first | rfl | simp, .fin⟩)
        | (rw [hg2_2]; simp only [Bool.not_true, Bool.and_true, Bool.true_and, Bool.and_false, Bool.false_and, if_true, if_false, Bool.false_eq_true, Bool.and_self]; exact ⟨by first | rfl | simp, .fin⟩)
  · have hv : ¬ q.view < 1 := by simpa using hc10
    iterate 9 refine Ws ?_
    refine Wc (CallsK.at (cert_Vote k s q.view q.block hl _ _ rfl rfl)) ?_
    refine Wa fun b7 => ?_
    iterate 8 refine Ws ?_
    refine Wc (cert_many c q.by_.a q.by_.n q.by_.c q.by_.l rfl hn hb hw) ?_
    refine Ws ?_
    refine SR_guard rfl rfl (fun hg4_4 => ?_) (fun hg4_4 => ?_)
    · refine SR_yes rfl rfl (hg4_4) ?_
      refine Ws ?_
      refine SR_yes rfl rfl (hg4_4) ?_
      refine Ws ?_
      refine SR_yes rfl rfl (hg4_4) ?_
      refine SR_pu (RD_makeFunc (.cons rfl (.cons rfl (.nil)))) rfl ?_
      refine SR_yes rfl rfl (hg4_4) ?_
      refine Wc (CallsK.ppat (qc_Contains k _ _ _ _ q.by_.a q.by_.n q.by_.c q.by_.l rfl hn hb)) ?_
      refine SR_yes rfl rfl (hg4_4) ?_
      refine Ws ?_
      refine SR_pu (RD_pick_t rfl (hg4_4) rfl) rfl ?_
      iterate 3 refine Ws ?_
      refine SC_ret1 rfl rfl ?_
      rw [show c.qcL s.l q.view q.block = dput s.l (voteB q.view q.block) from if_neg hv]
      unfold CfgD.qcOk
      rw [if_neg hv, hg4_4]
      refine ⟨?_, .fin⟩
      first | (simp; done) | (rw [Bool.not_not, Bool.true_and]; exact congrArg Value.bool (congrArg (List.all q.by_.l) (funext fun w => decide_eq_decide.2 Iff.rfl)))
    · refine SR_no rfl rfl (hg4_4) (lts rfl) ?_
      refine SR_no rfl rfl (hg4_4) (lts rfl) ?_
      refine SR_no rfl rfl (hg4_4) (lts rfl) ?_
      refine SR_no rfl rfl (hg4_4) (lts rfl) ?_
      refine SR_no rfl rfl (hg4_4) (lts rfl) ?_
      refine SR_pu (RD_pick_f rfl (hg4_4) rfl) rfl ?_
      iterate 3 refine Ws ?_
      refine SC_ret1 rfl rfl ?_
      rw [show c.qcL s.l q.view q.block = dput s.l (voteB q.view q.block) from if_neg hv]
      unfold CfgD.qcOk
      rw [if_neg hv, hg4_4]
      refine ⟨?_, .fin⟩
      first | (simp; done) | (rw [Bool.not_not, Bool.true_and]; exact congrArg Value.bool (congrArg (List.all q.by_.l) (funext fun w => decide_eq_decide.2 Iff.rfl)))

end Go.Proofs.YtdhpjdhloaoepaaGreat

/- Certificates: is a view given up; what the document fixes. -/
namespace Go.Proofs.YtdhpjdhloaoepaaGreat
open Go Go.Proofs
attribute [local irreducible] SC SN SR SQ SA SO
set_option maxRecDepth 100000
/-- The greatest of a row. -/
def most (l : List Int) : Int := l.tail.foldl max (l.headD 0)
def tOk (l : List (List UInt8)) (S : List (Int × List Int)) (view : Int) (by_ hs : List Int) (j : Nat) : Prop := 0 ≤ hs.getD j 0 ∧ hs.getD j 0 < view ∧ by_.getD j 0 ∈ sg l S (outB view (hs.getD j 0))
instance decTOk (l : List (List UInt8)) (S : List (Int × List Int)) (view : Int) (by_ hs : List Int) (j : Nat) : Decidable (tOk l S view by_ hs j) := by unfold tOk; infer_instance
def CfgD.tcA (c : CfgD) (l : List (List UInt8)) (S : List (Int × List Int)) (view : Int) (by_ hs : List Int) (hv : Int) : Prop := 1 ≤ view ∧ c.many by_ = true ∧ hs.length = by_.length ∧ (∀ j, j < hs.length → tOk l S view by_ hs j) ∧ most hs = hv
instance decTcA (c : CfgD) (l : List (List UInt8)) (S : List (Int × List Int)) (view : Int) (by_ hs : List Int) (hv : Int) : Decidable (c.tcA l S view by_ hs hv) := by unfold CfgD.tcA; infer_instance
end Go.Proofs.YtdhpjdhloaoepaaGreat

/- Certificates: what the document fixes. -/
namespace Go.Proofs.YtdhpjdhloaoepaaGreat
open Go Go.Proofs
attribute [local irreducible] SC SN SR SQ SA SO
set_option maxRecDepth 100000
end Go.Proofs.YtdhpjdhloaoepaaGreat

/- Blocks: who leads, who signed, may one be. -/
namespace Go.Proofs.YtdhpjdhloaoepaaGreat
open Go Go.Proofs
attribute [local irreducible] SC SN SR SQ SA SO
set_option maxRecDepth 100000
def CfgD.lead (c : CfgD) (v : Int) : Int := if c.n < 1 ∨ v < 0 then 0 else v % c.n
def leadB (x : Int) : List UInt8 := tagB [108, 101, 97, 100] [x]
def Blk.leadL (l : List (List UInt8)) (b : Blk) : List (List UInt8) := dput (blkL l b) (leadB (blkD l b : Nat))
def Blk.leadD (l : List (List UInt8)) (b : Blk) : Nat := dnum (b.leadL l) (leadB (blkD l b : Nat))
theorem leadL_len (l : List (List UInt8)) (b : Blk) : (b.leadL l).length ≤ l.length + b.envs.length + 2 := by
  have := blkL_len l b
  have := dput_len (blkL l b) (leadB (blkD l b : Nat))
  unfold Blk.leadL; omega
theorem leadL_envs {l : List (List UInt8)} {b : Blk} {e : EnvD} (h : e ∈ b.envs) : envB e ∈ b.leadL l := (Ext.put _ _).mem ((Ext.put _ _).mem (digsL_mem h))
def okE (l : List (List UInt8)) (S : List (Int × List Int)) (e : EnvD) : Prop := 0 ≤ e.client ∧ e.client ≤ 999 ∧ 1000 + e.client ∈ signers S (dnum l (envB e) : Nat)
instance decOkE (l : List (List UInt8)) (S : List (Int × List Int)) (e : EnvD) : Decidable (okE l S e) := by unfold okE; infer_instance
def okL (l : List (List UInt8)) (e : EnvD) : List (List UInt8) := if 0 ≤ e.client ∧ e.client ≤ 999 then dput l (envB e) else l
def unl (l : List (List UInt8)) (S : List (Int × List Int)) (es : List EnvD) : Bool := decide ((numsE l es).Nodup) && es.all (fun e => decide (okE l S e))
theorem unl_dup {l : List (List UInt8)} {S : List (Int × List Int)} {es : List EnvD} {i : Nat} {e : EnvD} (h : es[i]? = some e) (hd : ((dnum l (envB e) : Nat) : Int) ∈ numsE l (es.take i)) : unl l S es = false := by
  unfold unl
  have : ¬ (numsE l es).Nodup := fun hn => by
    have he : es = es.take i ++ e :: es.drop (i + 1) := by
      obtain ⟨hi, rfl⟩ := List.getElem?_eq_some_iff.1 h
      rw [List.getElem_cons_drop, List.take_append_drop]
    rw [he] at hn
    unfold numsE at hn hd
    rw [List.map_append, List.map_cons] at hn
    exact (List.nodup_append.1 hn).2.2 _ hd _ (List.mem_cons_self) rfl
  rw [decide_eq_false this]; rfl
theorem unl_bad {l : List (List UInt8)} {S : List (Int × List Int)} {es : List EnvD} {i : Nat} {e : EnvD} (h : es[i]? = some e) (hd : ¬ okE l S e) : unl l S es = false := by
  unfold unl
  have : (es.all fun e => decide (okE l S e)) = false := by
    rw [List.all_eq_false]; exact ⟨e, List.mem_of_getElem? h, by simpa using hd⟩
  rw [this, Bool.and_false]
theorem unl_all {l : List (List UInt8)} {S : List (Int × List Int)} {es : List EnvD} (h : (numsE l es).Nodup) (hd : ∀ e ∈ es, okE l S e) : unl l S es = true := by
  unfold unl
  rw [decide_eq_true h, Bool.true_and, List.all_eq_true]
  exact fun e he => decide_eq_true (hd e he)
/-- May a block be? What is in the arena then. -/
def Blk.ok (c : CfgD) (l : List (List UInt8)) (S : List (Int × List Int)) (b : Blk) : Bool × List (List UInt8) :=
  if b.view < 1 ∨ b.author ≠ c.lead b.view then (false, l)
  else if b.author ∉ signers S (b.leadD l : Nat) then (false, b.leadL l)
  else (c.qcOk (c.qcL (b.leadL l) b.jv b.jb) S b.jv b.jb b.by_ && (decide (b.jv < b.view) && (decide ((b.envs.length : Int) ≤ c.bt) && unl (c.qcL (b.leadL l) b.jv b.jb) S b.envs)), c.qcL (b.leadL l) b.jv b.jb)

theorem blok_Lead {W : World} {F : List HProp} [Abs F] (c : CfgD) (v : Int) :
    CallsK W Tryz.prog 78 #[c.val, .int .i64 v] (F) (fun u L => u = .int .i64 (c.lead v) ∧ Lands L F) := by
  refine CallsK_enter (n := 16) Tryz.func78 rfl rfl rfl ?_
  iterate 2 refine Ws ?_
  refine Wb fun b2 => ?_
  iterate 10 refine Ws ?_
  refine SR_guard rfl rfl (fun hg1_3 => ?_) (fun hg1_3 => ?_)
  · refine SR_yes rfl rfl (hg1_3) ?_
    refine Ws ?_
    refine SR_yes rfl rfl (hg1_3) ?_
    refine Ws ?_
    refine SR_pu (RD_pick_f rfl (hg1_3) rfl) rfl ?_
    iterate 2 refine Ws ?_
    refine SC_cond rfl (fun hc11 => ?_) (fun hc11 => ?_)
    · have hv : c.n < 1 ∨ v < 0 := .inr (by simpa using hc11)
      iterate 5 refine Ws ?_
      refine SC_ret1 rfl rfl ?_
      unfold CfgD.lead
      rw [if_pos hv]
      exact ⟨rfl, .fin⟩
    · have hv : ¬ (c.n < 1 ∨ v < 0) := by simp at hg1_3 hc11; omega
      iterate 11 refine Ws ?_
      refine SC_ret1 rfl rfl ?_
      unfold CfgD.lead
      rw [if_neg hv]
      exact ⟨rfl, .fin⟩
  · refine SR_no rfl rfl (hg1_3) (lts rfl) ?_
    refine SR_no rfl rfl (hg1_3) (lts rfl) ?_
    refine SR_pu (RD_pick_t rfl (hg1_3) rfl) rfl ?_
    iterate 2 refine Ws ?_
    have hv : c.n < 1 ∨ v < 0 := .inl (of_decide_eq_true hg1_3)
    refine SC_cond_true rfl (rfl) ?_
    iterate 5 refine Ws ?_
    refine SC_ret1 rfl rfl ?_
    unfold CfgD.lead
    rw [if_pos hv]
    exact ⟨rfl, .fin⟩

theorem w_Ok {W : World} {F : List HProp} [Abs F] (k : WK) (s : WS) (e : EnvD) (he : e.Ok) (hl : s.l.length ≤ 1000000000) :
    CallsK W Tryz.prog 204 #[.pointer (some ⟨k.p, 0, none⟩), e.val] (At worldI k s :: F) (fun u L => u = .bool (decide (okE (okL s.l e) s.S e)) ∧ Lands L (At worldI k ⟨okL s.l e, s.S⟩ :: F)) := by
  refine CallsK_enter (n := 26) Tryz.func204 rfl rfl rfl ?_
  iterate 2 refine Ws ?_
  refine Wb fun b3 => ?_
  iterate 4 refine Ws ?_
  refine SC.lands (Lands.op_world (k := k) (s := s)) ?_
  refine Wd [.r 0, .r 1, .r 2, .r 3, .r 4, .r 5, .r 6, .r 7, .r 8, .r 9, .r 10, .r 11, .r 12, .r 13, .r 14, .r 15, .r 16, .r 17, .e 18, .e 19, .r 20, .r 21] ?_
  iterate 4 refine Wq ?_
  refine SQ_guard (i := 4) rfl rfl rfl (fun hg1_3 => ?_) (fun hg1_3 => ?_)
  · first
      | refine SQ_pyes rfl rfl rfl (hg1_3) (RD_fieldAddr0 Tryz.runUnderlying43 rfl rfl Tryz.sizeOf3 rfl) rfl ?_
      | refine SQ_yes rfl rfl rfl (hg1_3) (RD_fieldAddrO 0 Tryz.runUnderlying43 rfl rfl Tryz.sizeOf3 rfl (by simp <;> omega)) Has.ro rfl ?_
    refine SQ_yes rfl rfl rfl (hg1_3) (RD_load Tryz.isAgg3 rfl) (Has.ce rfl) rfl ?_
    refine SQ_pyes rfl rfl rfl (hg1_3) (RD_leq rfl rfl) rfl ?_
    refine SQ_pu rfl (RD_pick_t rfl (hg1_3) rfl) rfl ?_
    refine Wq ?_
    refine SQ_guard (i := 9) rfl rfl rfl (fun hg1_8 => ?_) (fun hg1_8 => ?_)
    · have hr : 0 ≤ e.client ∧ e.client ≤ 999 := by simp at hg1_3 hg1_8; exact ⟨hg1_3, hg1_8⟩
      refine SQ_pyes rfl rfl rfl (hg1_8) (RD_move rfl) rfl ?_
      first
        | refine SQ_pyes rfl rfl rfl (hg1_8) (RD_nilCheck rfl) rfl ?_
        | refine SQ_pyes rfl rfl rfl (hg1_8) (RD_nilCheckF rfl) rfl ?_
      first
        | refine SQ_pyes rfl rfl rfl (hg1_8) (RD_fieldAddr 1 Tryz.runUnderlying95 rfl rfl Tryz.sizeOf93 rfl) rfl ?_
        | refine SQ_yes rfl rfl rfl (hg1_8) (RD_fieldAddrO 1 Tryz.runUnderlying95 rfl rfl Tryz.sizeOf93 rfl (by simp <;> omega)) Has.ro rfl ?_
      refine SQ_yes rfl rfl rfl (hg1_8) (RD_load Tryz.isAgg93 rfl) (Has.ce rfl) rfl ?_
      first
        | refine SQ_pyes rfl rfl rfl (hg1_8) (RD_fieldAddr0 Tryz.runUnderlying43 rfl rfl Tryz.sizeOf3 rfl) rfl ?_
        | refine SQ_yes rfl rfl rfl (hg1_8) (RD_fieldAddrO 0 Tryz.runUnderlying43 rfl rfl Tryz.sizeOf3 rfl (by simp <;> omega)) Has.ro rfl ?_
      refine SQ_yes rfl rfl rfl (hg1_8) (RD_load Tryz.isAgg3 rfl) (Has.ce rfl) rfl ?_
      refine SQ_pyes rfl rfl rfl (hg1_8) (RD_addi rfl rfl (by omega) (by omega)) rfl ?_
      refine SQ_pyes rfl rfl rfl (hg1_8) (RD_move rfl) rfl ?_
      refine SQ_yes rfl rfl rfl (hg1_8) (RD_loadA Tryz.isAgg43 Tryz.sizeOf43 rfl rfl) Has.wh rfl ?_
      refine SQ_one (SA_call rfl (.mk rfl rfl (hg1_8)) Tryz.call127 (.cons rfl (.cons rfl (.nil))) (CallsK.lands ((close_world (k := k) (l := s.l) (S := s.S)).trans .fin : Lands _ (At worldI k s :: pt b3 (.cells (EnvD.cells e).toArray 43) :: F)) (w_EnvDigest k s e he hl _ _ rfl rfl)) (lts rfl) ?_)
      rintro _ L2 ⟨rfl, hL2⟩
      have hL2b := hL2.trans open_world
      dsimp only at hL2b
      refine ⟨.lands hL2b (.w rfl (.h (Has.ce rfl) (.h (Has.ce rfl) (.h (Has.ce rfl) (.h (Has.ce rfl) (.nil)))))), ?_⟩
      refine SQ.lands hL2b ?_
      refine SQ_one (SA_call rfl (.mk rfl rfl (hg1_8)) Tryz.call208 (.cons rfl (.cons rfl (.cons rfl (.nil)))) (CallsK.at (book_Has k.b s.S (1000 + e.client) _)) (lts rfl) ?_)
      rintro _ L3 ⟨rfl, hL3⟩
      refine ⟨.lands hL3 (.h Has.wh (.h (Has.ce rfl) (.w rfl (.h (Has.ce rfl) (.h (Has.ce rfl) (.nil)))))), ?_⟩
      refine SQ.lands hL3 ?_
      refine SQ_pu rfl (RD_pick_t rfl (hg1_8) rfl) rfl ?_
      refine Wq ?_
      iterate 2 refine Ws ?_
      refine SC_ret1 rfl rfl ?_
      rw [show okL s.l e = dput s.l (envB e) from if_pos hr]
      refine ⟨?_, (close_world (k := k) (l := dput s.l (envB e)) (S := s.S)).trans .fin⟩
      have : decide (okE (dput s.l (envB e)) s.S e) = decide (1000 + e.client ∈ signers s.S (dnum (dput s.l (envB e)) (envB e) : Nat)) := decide_eq_decide.2 ⟨fun h => h.2.2, fun h => ⟨hr.1, hr.2, h⟩⟩
      rw [this]
    · refine SQ_no rfl rfl rfl (hg1_8) (lts rfl) ?_
      refine SQ_no rfl rfl rfl (hg1_8) (lts rfl) ?_
      refine SQ_no rfl rfl rfl (hg1_8) (lts rfl) ?_
      refine SQ_no rfl rfl rfl (hg1_8) (lts rfl) ?_
      refine SQ_no rfl rfl rfl (hg1_8) (lts rfl) ?_
      refine SQ_no rfl rfl rfl (hg1_8) (lts rfl) ?_
      refine SQ_no rfl rfl rfl (hg1_8) (lts rfl) ?_
      refine SQ_no rfl rfl rfl (hg1_8) (lts rfl) ?_
      refine SQ_no rfl rfl rfl (hg1_8) (lts rfl) ?_
      refine SQ_no1 rfl rfl rfl (hg1_8) (lts rfl) ?_
      refine SQ_no1 rfl rfl rfl (hg1_8) (lts rfl) ?_
      refine SQ_pu rfl (RD_pick_f rfl (hg1_8) rfl) rfl ?_
      refine Wq ?_
      iterate 2 refine Ws ?_
      refine SC_ret1 rfl rfl ?_
      have hr : ¬ (0 ≤ e.client ∧ e.client ≤ 999) := fun h => by simp at hg1_3 hg1_8; omega
      rw [show okL s.l e = s.l from if_neg hr]
      have hz : ¬ okE s.l s.S e := fun h => hr ⟨h.1, h.2.1⟩
      rw [decide_eq_false hz]
      exact ⟨rfl, (close_world (k := k) (l := s.l) (S := s.S)).trans .fin⟩
  · refine SQ_no rfl rfl rfl (hg1_3) (lts rfl) ?_
    refine SQ_no rfl rfl rfl (hg1_3) (lts rfl) ?_
    refine SQ_no rfl rfl rfl (hg1_3) (lts rfl) ?_
    refine SQ_pu rfl (RD_pick_f rfl (hg1_3) rfl) rfl ?_
    refine Wq ?_
    refine SQ_no rfl rfl rfl (rfl) (lts rfl) ?_
    refine SQ_no rfl rfl rfl (rfl) (lts rfl) ?_
    refine SQ_no rfl rfl rfl (rfl) (lts rfl) ?_
    refine SQ_no rfl rfl rfl (rfl) (lts rfl) ?_
    refine SQ_no rfl rfl rfl (rfl) (lts rfl) ?_
    refine SQ_no rfl rfl rfl (rfl) (lts rfl) ?_
    refine SQ_no rfl rfl rfl (rfl) (lts rfl) ?_
    refine SQ_no rfl rfl rfl (rfl) (lts rfl) ?_
    refine SQ_no rfl rfl rfl (rfl) (lts rfl) ?_
    refine SQ_no1 rfl rfl rfl (rfl) (lts rfl) ?_
    refine SQ_no1 rfl rfl rfl (rfl) (lts rfl) ?_
    refine SQ_pu rfl (RD_pick_f rfl (rfl) rfl) rfl ?_
    refine Wq ?_
    iterate 2 refine Ws ?_
    refine SC_ret1 rfl rfl ?_
    have hr : ¬ (0 ≤ e.client ∧ e.client ≤ 999) := fun h => by simp at hg1_3; omega
    rw [show okL s.l e = s.l from if_neg hr]
    have hz : ¬ okE s.l s.S e := fun h => hr ⟨h.1, h.2.1⟩
    rw [decide_eq_false hz]
    exact ⟨rfl, (close_world (k := k) (l := s.l) (S := s.S)).trans .fin⟩

theorem w_Ok' {W : World} {F : List HProp} [Abs F] (k : WK) (s : WS) (e : EnvD) (he : e.Ok) (hl : s.l.length ≤ 1000000000) (hm : envB e ∈ s.l) :
    CallsK W Tryz.prog 204 #[.pointer (some ⟨k.p, 0, none⟩), e.val] (At worldI k s :: F) (fun u L => u = .bool (decide (okE s.l s.S e)) ∧ Lands L (At worldI k s :: F)) := by
  have h := w_Ok (W := W) (F := F) k s e he hl
  have : okL s.l e = s.l := by unfold okL; split; exact dput_idem hm; rfl
  rw [this] at h
  exact h

theorem blok_lead {W : World} {F : List HProp} [Abs F] (k : WK) (s : WS) (b : BlkD) {cs ds : List Value} [HasRow F b.by_.a cs] [HasRow F b.envs.a ds] (hcs : cs = b.by_.l.map intV) (hds : ds = b.envs.l.flatMap EnvD.cells) (hf : b.Fit) (hl : s.l.length ≤ 800000000) :
    CallsK W Tryz.prog 153 #[.pointer (some ⟨k.p, 0, none⟩), b.val] (At worldI k s :: F) (fun v L => v = .int .i64 (b.pure.leadD s.l : Nat) ∧ Lands L (At worldI k ⟨b.pure.leadL s.l, s.S⟩ :: F)) := by
  refine CallsK_enter (n := 11) Tryz.func153 rfl rfl rfl ?_
  subst hcs
  subst hds
  obtain ⟨hf1, hf2, hf3, hf4, hf5⟩ := hf
  have hbl := blkL_len s.l b.pure
  have hbe : b.pure.envs.length = b.envs.n := hf2
  iterate 2 refine Ws ?_
  refine Wb fun b3 => ?_
  iterate 8 refine Ws ?_
  refine Wc (CallsK.at (blok_Digest k s b rfl rfl hf1 hf2 hf5 (by omega) (by omega) (by omega))) ?_
  refine SR_ox (OX_lit1 Tryz.underlying37 Tryz.type3 rfl rfl rfl rfl (.cons rfl (.nil)) (.cons rfl (.nil))) rfl ?_
  rintro _ _ ⟨b9, rfl, rfl⟩
  refine Wc (CallsK.lands (lit_row (E := 3) (z := 1) (cs := [.int .i64 (blkD s.l b.pure : Nat)]) 1 rfl) (CallsK.at (w_Tagged k ⟨blkL s.l b.pure, s.S⟩ [108, 101, 97, 100] [(blkD s.l b.pure : Nat)] _ 1 1 rfl rfl (by simp) (by omega) (by dsimp only; omega) _ _ rfl rfl))) ?_
  iterate 3 refine Ws ?_
  refine SC_ret1 rfl rfl ?_
  refine ⟨rfl, ?_⟩
  rw [show b.pure.leadL s.l = dput (blkL s.l b.pure) (tagB [108, 101, 97, 100] [((blkD s.l b.pure : Nat) : Int)]) from rfl]
  exact .fin

theorem blok_Sign {W : World} {F : List HProp} [Abs F] (k : WK) (s : WS) (b : BlkD) {cs ds : List Value} [HasRow F b.by_.a cs] [HasRow F b.envs.a ds] (hcs : cs = b.by_.l.map intV) (hds : ds = b.envs.l.flatMap EnvD.cells) (hf : b.Fit) (hl : s.l.length ≤ 800000000) :
    CallsK W Tryz.prog 114 #[.pointer (some ⟨k.p, 0, none⟩), b.val] (At worldI k s :: F) (fun v L => v = .tuple #[] ∧ Lands L (At worldI k ⟨b.pure.leadL s.l, addTo s.S b.author (b.pure.leadD s.l : Nat)⟩ :: F)) := by
  refine CallsK_enter (n := 12) Tryz.func114 rfl rfl rfl ?_
  iterate 2 refine Ws ?_
  refine Wb fun b3 => ?_
  iterate 2 refine Ws ?_
  refine Wd [.r 0, .r 2, .r 3, .r 4, .r 5, .e 1, .e 6, .e 7] ?_
  iterate 5 refine Wq ?_
  refine SQ_call rfl Tryz.call122 (.cons rfl (.nil)) (CallsK.at (w_Signs k s)) (lts rfl) ?_
  rintro _ L1 ⟨rfl, hL1⟩
  refine ⟨.lands hL1 (.h Has.wh (.h (Has.ce rfl) (.nil))), ?_⟩
  refine SQ.lands hL1 ?_
  refine SQ_call rfl Tryz.call153 (.cons rfl (.cons rfl (.nil))) (CallsK.at (blok_lead k s b hcs hds hf hl)) (lts rfl) ?_
  rintro _ L2 ⟨rfl, hL2⟩
  refine ⟨.lands hL2 (.w rfl (.h (Has.ce rfl) (.nil))), ?_⟩
  refine SQ.lands hL2 ?_
  refine SQ_call rfl Tryz.call123 (.cons rfl (.cons rfl (.cons rfl (.nil)))) (CallsK.at (w_Sign k _ b.author _)) (lts rfl) ?_
  rintro _ L3 ⟨rfl, hL3⟩
  refine ⟨.lands hL3 (.h Has.wh (.w rfl (.nil))), ?_⟩
  refine SQ.lands hL3 ?_
  refine Ws ?_
  refine SN_stop0 rfl ?_
  exact ⟨rfl, .fin⟩

theorem blok_unlike {W : World} {F : List HProp} [Abs F] (k : WK) (s : WS) (a : Option Addr) (n c : Nat) (es : List EnvD) {cs : List Value} [HasRow F a cs] (hcs : cs = es.flatMap EnvD.cells) (hn : es.length = n) (hb : n ≤ 10000) (hok : ∀ e ∈ es, e.Ok) (hm : ∀ e ∈ es, envB e ∈ s.l) (hl : s.l.length ≤ 900000000) :
    CallsK W Tryz.prog 210 #[.pointer (some ⟨k.p, 0, none⟩), .slice a n c] (At worldI k s :: F) (fun v L => v = .bool (unl s.l s.S es) ∧ Lands L (At worldI k s :: F)) := by
  refine CallsK_enter (n := 34) Tryz.func210 rfl rfl rfl ?_
  subst hcs
  iterate 7 refine Ws ?_
  refine SR_ox (OX_mk intK) rfl ?_
  rintro _ _ ⟨b9, rfl, rfl⟩
  iterate 12 refine Ws ?_
  refine SC_ind (X := Nat) (fun i => i ≤ n ∧ (numsE s.l (es.take i)).Nodup ∧ ∀ e ∈ es.take i, okE s.l s.S e) (fun i => n - i) (fun i => [(0, .pointer (some ⟨k.p, 0, none⟩)), (5, .map (some b9)), (10, .slice a n c), (11, .int .i64 (n : Nat)), (12, .int .i64 (i : Nat))]) (fun i => mapP intK b9 ((numsE s.l (es.take i)).map fun w => (w, Value.int .i64 1)) :: At worldI k s :: F) (0) (⟨by omega, by simp [numsE], fun e he => by simp at he⟩) (.cons rfl (.cons rfl (.cons rfl (.cons rfl (.cons rfl (.nil)))))) (by simp only [List.take_zero, numsE, List.map_nil]; exact .fin) ?_
  intro i hi ih
  obtain ⟨hi1, hi2, hi3⟩ := hi
  iterate 6 refine Ws ?_
  refine SC_cond rfl (fun hc13 => ?_) (fun hc13 => ?_)
  · have hin : i < n := by simp at hc13; omega
    obtain ⟨e, hx⟩ : ∃ e, es[i]? = some e := ⟨_, List.getElem?_eq_getElem (by omega)⟩
    have hmem := List.mem_of_getElem? hx
    have hmm := hm e hmem
    have htk : es.take (i + 1) = es.take i ++ [e] := by rw [List.take_add_one, hx]; rfl
    have hne : numsE s.l (es.take (i + 1)) = numsE s.l (es.take i) ++ [((dnum s.l (envB e) : Nat) : Int)] := by rw [htk]; simp [numsE]
    by_cases hd : ((dnum s.l (envB e) : Nat) : Int) ∈ (numsE s.l (es.take i))
    · iterate 6 refine Ws ?_
      refine SR_rd (RD_ixO (cs := es.flatMap EnvD.cells) Tryz.runUnderlying53 Tryz.sizeOf43 rfl rfl (by rw [env_len, hn]) (by omega) (by omega)) Has.ro rfl ?_
      refine SR_rd (RD_loadAO (vs := e.cells) (cs := es.flatMap EnvD.cells) Tryz.isAgg43 Tryz.sizeOf43 rfl rfl (by decide) (fun o v h => by have ho : o < 4 := (List.getElem?_eq_some_iff.1 h).1; rw [show ((i : Nat) : Int).toNat * (3 + 1) + o = i * 4 + o by omega, env_get hx o ho]; exact h)) Has.ro rfl ?_
      refine Wa fun b7 => ?_
      refine SR_ox0 (OX_stA Tryz.sizeOf43 rfl rfl rfl rfl) ?_
      rintro _ _ rfl
      iterate 6 refine Ws ?_
      refine Wc (CallsK.at (w_EnvDigest k s e (hok e hmem) (by omega) s.l (dnum s.l (envB e)) (dput_idem hmm) rfl)) ?_
      iterate 7 refine Ws ?_
      refine SR_rd (RD_lookS (K := intK) (m := ((numsE s.l (es.take i)).map fun w => (w, Value.int .i64 1))) Tryz.underlying96 Tryz.underlying3 Tryz.zeroValue3 rfl rfl (by rw [mget_ws, if_pos hd])) (Has.ma (K := intK)) rfl ?_
      refine Ws ?_
      refine SR_ox0 (OX_mu (K := intK) Tryz.underlying96 Tryz.underlying3 rfl rfl rfl) ?_
      rintro _ _ rfl
      iterate 6 refine Ws ?_
      refine SR_rd (RD_lookS (K := intK) (u := .int .i64 2) (m := mset ((numsE s.l (es.take i)).map fun w => (w, Value.int .i64 1)) ((dnum s.l (envB e) : Nat) : Int) (.int .i64 2)) Tryz.underlying96 Tryz.underlying3 Tryz.zeroValue3 rfl rfl (by rw [mget_mset, if_pos rfl])) (Has.ma (K := intK)) rfl ?_
      iterate 2 refine Ws ?_
      refine SR_no rfl rfl (rfl) (lts rfl) ?_
      refine SR_no rfl rfl (rfl) (lts rfl) ?_
      refine SR_no rfl rfl (rfl) (lts rfl) ?_
      refine SR_no rfl rfl (rfl) (lts rfl) ?_
      refine SR_pu (RD_pick_t rfl (rfl) rfl) rfl ?_
      iterate 2 refine Ws ?_
      refine SC_cond_true rfl (rfl) ?_
      iterate 5 refine Ws ?_
      refine SC_ret1 rfl rfl ?_
      rw [unl_dup hx hd]
      exact ⟨rfl, .fin⟩
    · iterate 6 refine Ws ?_
      refine SR_rd (RD_ixO (cs := es.flatMap EnvD.cells) Tryz.runUnderlying53 Tryz.sizeOf43 rfl rfl (by rw [env_len, hn]) (by omega) (by omega)) Has.ro rfl ?_
      refine SR_rd (RD_loadAO (vs := e.cells) (cs := es.flatMap EnvD.cells) Tryz.isAgg43 Tryz.sizeOf43 rfl rfl (by decide) (fun o v h => by have ho : o < 4 := (List.getElem?_eq_some_iff.1 h).1; rw [show ((i : Nat) : Int).toNat * (3 + 1) + o = i * 4 + o by omega, env_get hx o ho]; exact h)) Has.ro rfl ?_
      refine Wa fun b7 => ?_
      refine SR_ox0 (OX_stA Tryz.sizeOf43 rfl rfl rfl rfl) ?_
      rintro _ _ rfl
      iterate 6 refine Ws ?_
      refine Wc (CallsK.at (w_EnvDigest k s e (hok e hmem) (by omega) s.l (dnum s.l (envB e)) (dput_idem hmm) rfl)) ?_
      iterate 7 refine Ws ?_
      refine SR_rd (RD_lookNo (K := intK) (m := ((numsE s.l (es.take i)).map fun w => (w, Value.int .i64 1))) Tryz.underlying96 Tryz.underlying3 Tryz.zeroValue3 rfl rfl (by rw [mget_ws, if_neg hd])) (Has.ma (K := intK)) rfl ?_
      refine Ws ?_
      refine SR_ox0 (OX_mu (K := intK) Tryz.underlying96 Tryz.underlying3 rfl rfl rfl) ?_
      rintro _ _ rfl
      iterate 6 refine Ws ?_
      refine SR_rd (RD_lookS (K := intK) (u := .int .i64 1) (m := mset ((numsE s.l (es.take i)).map fun w => (w, Value.int .i64 1)) ((dnum s.l (envB e) : Nat) : Int) (.int .i64 1)) Tryz.underlying96 Tryz.underlying3 Tryz.zeroValue3 rfl rfl (by rw [mget_mset, if_pos rfl])) (Has.ma (K := intK)) rfl ?_
      iterate 2 refine Ws ?_
      refine SR_yes rfl rfl (rfl) ?_
      refine Ws ?_
      refine SR_yes rfl rfl (rfl) ?_
      refine Ws ?_
      refine SR_yes rfl rfl (rfl) ?_
      refine Wc (CallsK.at (w_Ok' k s e (hok e hmem) (by omega) hmm)) ?_
      refine SR_yes rfl rfl (rfl) ?_
      refine Ws ?_
      refine SR_pu (RD_pick_f rfl (rfl) rfl) rfl ?_
      iterate 2 refine Ws ?_
      refine SC_cond rfl (fun hc32 => ?_) (fun hc32 => ?_)
      · have hno : ¬ okE s.l s.S e := by simpa using hc32
        iterate 5 refine Ws ?_
        refine SC_ret1 rfl rfl ?_
        rw [unl_bad hx hno]
        exact ⟨rfl, .fin⟩
      · have hyes : okE s.l s.S e := by simpa using hc32
        have hms : mset ((numsE s.l (es.take i)).map fun w => (w, Value.int .i64 1)) ((dnum s.l (envB e) : Nat) : Int) (.int .i64 (0 + 1)) = ((numsE s.l (es.take (i + 1))).map fun w => (w, Value.int .i64 1)) := by rw [Int.zero_add, mset_ws, hne]; unfold putW; rw [if_neg hd]
        iterate 7 refine Ws ?_
        refine SC_again (ih (i + 1) (⟨by omega, by rw [hne]; exact List.nodup_append.2 ⟨hi2, by simp, fun x hx y hy e2 => by simp at hy; subst hy; subst e2; exact hd hx⟩, fun x hx => by rw [htk] at hx; rcases List.mem_append.1 hx with h | h; exact hi3 x h; simp at h; subst h; exact hyes⟩) (by omega)) (by rw [← hms]; exact .fin) (.cons rfl (.cons rfl (.cons rfl (.cons rfl (.cons' rfl (ie (by omega)) (.nil))))))
  · have hin : i = n := by simp at hc13; omega
    subst hin
    have htk : es.take i = es := by rw [← hn, List.take_length]
    rw [htk] at hi2 hi3
    have hun := unl_all hi2 hi3
    iterate 7 refine Ws ?_
    refine SC_ret1 rfl rfl ?_
    rw [hun]
    exact ⟨rfl, .fin⟩

theorem blok_Ok {W : World} {F : List HProp} [Abs F] (k : WK) (s : WS) (c : CfgD) (hw : c.n < 9223372036854775808) (b : BlkD) {cs ds : List Value} [HasRow F b.by_.a cs] [HasRow F b.envs.a ds] (hcs : cs = b.by_.l.map intV) (hds : ds = b.envs.l.flatMap EnvD.cells) (hf : b.Fit) (hl : s.l.length ≤ 800000000) :
    CallsK W Tryz.prog 178 #[.pointer (some ⟨k.p, 0, none⟩), c.val, b.val] (At worldI k s :: F) (fun v L => v = .bool (b.pure.ok c s.l s.S).1 ∧ Lands L (At worldI k ⟨(b.pure.ok c s.l s.S).2, s.S⟩ :: F)) := by
  refine CallsK_enter (n := 57) Tryz.func178 rfl rfl rfl ?_
  subst hcs
  subst hds
  obtain ⟨hf1, hf2, hf3, hf4, hf5⟩ := id hf
  have hbl := leadL_len s.l b.pure
  have hbe : b.pure.envs.length = b.envs.n := hf2
  iterate 2 refine Ws ?_
  refine Wb fun b4 => ?_
  refine Wb fun b5 => ?_
  iterate 5 refine Ws ?_
  refine Wd [.r 0, .r 1, .r 2, .r 3, .r 4, .r 5, .r 6, .r 7, .r 8, .e 9, .r 10, .r 11, .r 12, .r 13, .r 15, .r 16, .r 17, .r 18, .e 14, .e 19, .e 20, .r 21, .r 22] ?_
  iterate 4 refine Wq ?_
  refine SQ_guard (i := 4) rfl rfl rfl (fun hg1_3 => ?_) (fun hg1_3 => ?_)
  · first
      | refine SQ_pyes rfl rfl rfl (hg1_3) (RD_fieldAddr 1 Tryz.runUnderlying146 rfl rfl Tryz.sizeOf3 rfl) rfl ?_
      | refine SQ_yes rfl rfl rfl (hg1_3) (RD_fieldAddrO 1 Tryz.runUnderlying146 rfl rfl Tryz.sizeOf3 rfl (by simp <;> omega)) Has.ro rfl ?_
    refine SQ_yes rfl rfl rfl (hg1_3) (RD_load Tryz.isAgg3 rfl) (Has.ce rfl) rfl ?_
    refine SQ_yes rfl rfl rfl (hg1_3) (RD_loadA Tryz.isAgg23 Tryz.sizeOf23 rfl rfl) Has.wh rfl ?_
    first
      | refine SQ_pyes rfl rfl rfl (hg1_3) (RD_fieldAddr0 Tryz.runUnderlying146 rfl rfl Tryz.sizeOf3 rfl) rfl ?_
      | refine SQ_yes rfl rfl rfl (hg1_3) (RD_fieldAddrO 0 Tryz.runUnderlying146 rfl rfl Tryz.sizeOf3 rfl (by simp <;> omega)) Has.ro rfl ?_
    refine SQ_yes rfl rfl rfl (hg1_3) (RD_load Tryz.isAgg3 rfl) (Has.ce rfl) rfl ?_
    refine SQ_one (SA_call rfl (.mk rfl rfl (hg1_3)) Tryz.call78 (.cons rfl (.cons rfl (.nil))) (blok_Lead c b.view) (lts rfl) ?_)
    rintro _ L1 ⟨rfl, hL1⟩
    refine ⟨.lands hL1 (.w rfl (.w rfl (.h (Has.ce rfl) (.h (Has.ce rfl) (.nil))))), ?_⟩
    refine SQ.lands hL1 ?_
    refine SQ_pyes rfl rfl rfl (hg1_3) (RD_neq rfl rfl) rfl ?_
    refine SQ_pu rfl (RD_pick_f rfl (hg1_3) rfl) rfl ?_
    refine Wq ?_
    refine SQ_guard (i := 13) rfl rfl rfl (fun hg1_12 => ?_) (fun hg1_12 => ?_)
    · refine SQ_pyes rfl rfl rfl (hg1_12) (RD_move rfl) rfl ?_
      first
        | refine SQ_pyes rfl rfl rfl (hg1_12) (RD_fieldAddr 1 Tryz.runUnderlying146 rfl rfl Tryz.sizeOf3 rfl) rfl ?_
        | refine SQ_yes rfl rfl rfl (hg1_12) (RD_fieldAddrO 1 Tryz.runUnderlying146 rfl rfl Tryz.sizeOf3 rfl (by simp <;> omega)) Has.ro rfl ?_
      refine SQ_yes rfl rfl rfl (hg1_12) (RD_load Tryz.isAgg3 rfl) (Has.ce rfl) rfl ?_
      refine SQ_pyes rfl rfl rfl (hg1_12) (RD_move rfl) rfl ?_
      refine SQ_yes rfl rfl rfl (hg1_12) (RD_loadA Tryz.isAgg146 Tryz.sizeOf146 rfl rfl) Has.wh rfl ?_
      refine SQ_one (SA_call rfl (.mk rfl rfl (hg1_12)) Tryz.call122 (.cons rfl (.nil)) (CallsK.at (w_Signs k s)) (lts rfl) ?_)
      rintro _ L2 ⟨rfl, hL2⟩
      refine ⟨.lands hL2 (.h Has.wh (.h (Has.ce rfl) (.h (Has.ce rfl) (.h Has.wh (.h (Has.ce rfl) (.h (Has.ce rfl) (.nil))))))), ?_⟩
      refine SQ.lands hL2 ?_
      refine SQ_one (SA_call rfl (.mk rfl rfl (hg1_12)) Tryz.call153 (.cons rfl (.cons rfl (.nil))) (CallsK.at (blok_lead k s b rfl rfl hf hl)) (lts rfl) ?_)
      rintro _ L3 ⟨rfl, hL3⟩
      refine ⟨.lands hL3 (.w rfl (.h (Has.ce rfl) (.h (Has.ce rfl) (.h Has.wh (.h (Has.ce rfl) (.h (Has.ce rfl) (.nil))))))), ?_⟩
      refine SQ.lands hL3 ?_
      refine SQ_one (SA_call rfl (.mk rfl rfl (hg1_12)) Tryz.call208 (.cons rfl (.cons rfl (.cons rfl (.nil)))) (CallsK.at (w_Has k _ b.author _)) (lts rfl) ?_)
      rintro _ L4 ⟨rfl, hL4⟩
      refine ⟨.lands hL4 (.h Has.wh (.w rfl (.h (Has.ce rfl) (.h Has.wh (.h (Has.ce rfl) (.h (Has.ce rfl) (.nil))))))), ?_⟩
      refine SQ.lands hL4 ?_
      refine SQ_pyes rfl rfl rfl (hg1_12) (RD_not rfl) rfl ?_
      refine SQ_pu rfl (RD_pick_f rfl (hg1_12) rfl) rfl ?_
      iterate 2 refine Ws ?_
      have h1 : ¬ (b.pure.view < 1 ∨ b.pure.author ≠ c.lead b.pure.view) := fun h => by
        rcases h with h | h
        · exact of_decide_eq_false hg1_3 h
        · simp at hg1_12; exact h hg1_12
      refine SC_cond rfl (fun hc29 => ?_) (fun hc29 => ?_)
      · have h2 : b.pure.author ∉ signers s.S (b.pure.leadD s.l : Nat) := by simp at hc29; exact hc29
        iterate 5 refine Ws ?_
        refine SC_ret1 rfl rfl ?_
        unfold Blk.ok
        first
          | (rw [if_pos h1]; exact ⟨rfl, .fin⟩)
          | (rw [if_neg h1, if_pos h2]; exact ⟨rfl, .fin⟩)
      · have h2 : ¬ b.pure.author ∉ signers s.S (b.pure.leadD s.l : Nat) := by simp at hc29; exact fun h => h hc29
        have hqe := c.qcL_ext (b.pure.leadL s.l) b.jv b.jb
        have hql := c.qcL_len (b.pure.leadL s.l) b.jv b.jb
        iterate 7 refine Ws ?_
        refine SR_rd (RD_loadA (vs := QcD.cells ⟨b.jv, b.jb, b.by_⟩) Tryz.isAgg39 Tryz.sizeOf39 rfl rfl) (Has.ces (cs := b.cells) fun j v h => by rcases j with _ | _ | _ | j <;> simp [QcD.cells, BlkD.cells] at h ⊢ <;> exact h) rfl ?_
        refine We (CallsK.at (cert_QcOk k ⟨b.pure.leadL s.l, s.S⟩ c ⟨b.jv, b.jb, b.by_⟩ rfl hf1 (by dsimp only; omega) (by dsimp only; omega) hw)) ?_
        rintro _ L5 ⟨rfl, hL5⟩
        try dsimp only at hL5
        refine SR.lands hL5 ?_
        refine Ws ?_
        refine SR_guard rfl rfl (fun hg3_5 => ?_) (fun hg3_5 => ?_)
        · refine SR_yes rfl rfl (hg3_5) ?_
          refine Ws ?_
          refine SR_yes rfl rfl (hg3_5) ?_
          refine Ws ?_
          refine SR_yes rfl rfl (hg3_5) ?_
          refine Ws ?_
          refine SR_yes rfl rfl (hg3_5) ?_
          refine Ws ?_
          refine SR_yes rfl rfl (hg3_5) ?_
          refine Ws ?_
          refine SR_yes rfl rfl (hg3_5) ?_
          refine Ws ?_
          refine SR_pu (RD_pick_t rfl (hg3_5) rfl) rfl ?_
          refine Ws ?_
          refine SR_guard rfl rfl (fun hg3_13 => ?_) (fun hg3_13 => ?_)
          · refine SR_yes rfl rfl (hg3_13) ?_
            refine Ws ?_
            refine SR_yes rfl rfl (hg3_13) ?_
            refine Ws ?_
            refine SR_yes rfl rfl (hg3_13) ?_
            refine Ws ?_
            refine SR_yes rfl rfl (hg3_13) ?_
            refine Ws ?_
            refine SR_yes rfl rfl (hg3_13) ?_
            refine Ws ?_
            refine SR_yes rfl rfl (hg3_13) ?_
            refine Ws ?_
            refine SR_pu (RD_pick_t rfl (hg3_13) rfl) rfl ?_
            refine Ws ?_
            refine SR_guard rfl rfl (fun hg3_21 => ?_) (fun hg3_21 => ?_)
            · refine SR_yes rfl rfl (hg3_21) ?_
              refine Ws ?_
              refine SR_yes rfl rfl (hg3_21) ?_
              refine Ws ?_
              refine SR_yes rfl rfl (hg3_21) ?_
              refine Ws ?_
              refine SR_yes rfl rfl (hg3_21) ?_
              refine Wc (CallsK.at (blok_unlike k ⟨c.qcL (b.pure.leadL s.l) b.jv b.jb, s.S⟩ b.envs.a b.envs.n b.envs.c b.envs.l rfl hf2 (by omega) hf5 (fun e he => hqe.mem (leadL_envs he)) (by dsimp only; omega))) ?_
              refine SR_pu (RD_pick_t rfl (hg3_21) rfl) rfl ?_
              iterate 3 refine Ws ?_
              refine SC_ret1 rfl rfl ?_
              unfold Blk.ok
              rw [if_neg h1, if_neg h2]
              refine ⟨congrArg Value.bool ?_, (show Lands _ (At worldI k ⟨c.qcL (b.pure.leadL s.l) b.jv b.jb, s.S⟩ :: F) from .fin)⟩
              dsimp only
              rw [show c.qcOk (c.qcL (b.pure.leadL s.l) b.pure.jv b.pure.jb) s.S b.pure.jv b.pure.jb b.pure.by_ = true from hg3_5, show decide (b.pure.jv < b.pure.view) = true from hg3_13, show decide ((b.pure.envs.length : Int) ≤ c.bt) = true by rw [hbe]; exact hg3_21]
              rfl
            · refine SR_no rfl rfl (hg3_21) (lts rfl) ?_
              refine SR_no rfl rfl (hg3_21) (lts rfl) ?_
              refine SR_no rfl rfl (hg3_21) (lts rfl) ?_
              refine SR_no rfl rfl (hg3_21) (lts rfl) ?_
              refine SR_pu (RD_pick_f rfl (hg3_21) rfl) rfl ?_
              iterate 3 refine Ws ?_
              refine SC_ret1 rfl rfl ?_
              unfold Blk.ok
              rw [if_neg h1, if_neg h2]
              refine ⟨congrArg Value.bool ?_, (show Lands _ (At worldI k ⟨c.qcL (b.pure.leadL s.l) b.jv b.jb, s.S⟩ :: F) from .fin)⟩
              dsimp only
              rw [show c.qcOk (c.qcL (b.pure.leadL s.l) b.pure.jv b.pure.jb) s.S b.pure.jv b.pure.jb b.pure.by_ = true from hg3_5, show decide (b.pure.jv < b.pure.view) = true from hg3_13, show decide ((b.pure.envs.length : Int) ≤ c.bt) = false by rw [hbe]; exact hg3_21]
              rfl
          · refine SR_no rfl rfl (hg3_13) (lts rfl) ?_
            refine SR_no rfl rfl (hg3_13) (lts rfl) ?_
            refine SR_no rfl rfl (hg3_13) (lts rfl) ?_
            refine SR_no rfl rfl (hg3_13) (lts rfl) ?_
            refine SR_no rfl rfl (hg3_13) (lts rfl) ?_
            refine SR_no rfl rfl (hg3_13) (lts rfl) ?_
            refine SR_pu (RD_pick_f rfl (hg3_13) rfl) rfl ?_
            refine Ws ?_
            refine SR_no rfl rfl (rfl) (lts rfl) ?_
            refine SR_no rfl rfl (rfl) (lts rfl) ?_
            refine SR_no rfl rfl (rfl) (lts rfl) ?_
            refine SR_no rfl rfl (rfl) (lts rfl) ?_
            refine SR_pu (RD_pick_f rfl (rfl) rfl) rfl ?_
            iterate 3 refine Ws ?_
            refine SC_ret1 rfl rfl ?_
            unfold Blk.ok
            rw [if_neg h1, if_neg h2]
            refine ⟨congrArg Value.bool ?_, (show Lands _ (At worldI k ⟨c.qcL (b.pure.leadL s.l) b.jv b.jb, s.S⟩ :: F) from .fin)⟩
            dsimp only
            rw [show c.qcOk (c.qcL (b.pure.leadL s.l) b.pure.jv b.pure.jb) s.S b.pure.jv b.pure.jb b.pure.by_ = true from hg3_5, show decide (b.pure.jv < b.pure.view) = false from hg3_13]
            rfl
        · refine SR_no rfl rfl (hg3_5) (lts rfl) ?_
          refine SR_no rfl rfl (hg3_5) (lts rfl) ?_
          refine SR_no rfl rfl (hg3_5) (lts rfl) ?_
          refine SR_no rfl rfl (hg3_5) (lts rfl) ?_
          refine SR_no rfl rfl (hg3_5) (lts rfl) ?_
          refine SR_no rfl rfl (hg3_5) (lts rfl) ?_
          refine SR_pu (RD_pick_f rfl (hg3_5) rfl) rfl ?_
          refine Ws ?_
          refine SR_no rfl rfl (rfl) (lts rfl) ?_
          refine SR_no rfl rfl (rfl) (lts rfl) ?_
          refine SR_no rfl rfl (rfl) (lts rfl) ?_
          refine SR_no rfl rfl (rfl) (lts rfl) ?_
          refine SR_no rfl rfl (rfl) (lts rfl) ?_
          refine SR_no rfl rfl (rfl) (lts rfl) ?_
          refine SR_pu (RD_pick_f rfl (rfl) rfl) rfl ?_
          refine Ws ?_
          refine SR_no rfl rfl (rfl) (lts rfl) ?_
          refine SR_no rfl rfl (rfl) (lts rfl) ?_
          refine SR_no rfl rfl (rfl) (lts rfl) ?_
          refine SR_no rfl rfl (rfl) (lts rfl) ?_
          refine SR_pu (RD_pick_f rfl (rfl) rfl) rfl ?_
          iterate 3 refine Ws ?_
          refine SC_ret1 rfl rfl ?_
          unfold Blk.ok
          rw [if_neg h1, if_neg h2]
          refine ⟨congrArg Value.bool ?_, (show Lands _ (At worldI k ⟨c.qcL (b.pure.leadL s.l) b.jv b.jb, s.S⟩ :: F) from .fin)⟩
          dsimp only
          rw [show c.qcOk (c.qcL (b.pure.leadL s.l) b.pure.jv b.pure.jb) s.S b.pure.jv b.pure.jb b.pure.by_ = false from hg3_5]
          rfl
    · refine SQ_no rfl rfl rfl (hg1_12) (lts rfl) ?_
      refine SQ_no rfl rfl rfl (hg1_12) (lts rfl) ?_
      refine SQ_no rfl rfl rfl (hg1_12) (lts rfl) ?_
      refine SQ_no rfl rfl rfl (hg1_12) (lts rfl) ?_
      refine SQ_no rfl rfl rfl (hg1_12) (lts rfl) ?_
      refine SQ_no1 rfl rfl rfl (hg1_12) (lts rfl) ?_
      refine SQ_no1 rfl rfl rfl (hg1_12) (lts rfl) ?_
      refine SQ_no1 rfl rfl rfl (hg1_12) (lts rfl) ?_
      refine SQ_no rfl rfl rfl (hg1_12) (lts rfl) ?_
      refine SQ_pu rfl (RD_pick_t rfl (hg1_12) rfl) rfl ?_
      iterate 2 refine Ws ?_
      have h1 : b.pure.view < 1 ∨ b.pure.author ≠ c.lead b.pure.view := .inr (fun h => by rw [show b.author = c.lead b.view from h] at hg1_12; simp at hg1_12)
      refine SC_cond_true rfl (rfl) ?_
      iterate 5 refine Ws ?_
      refine SC_ret1 rfl rfl ?_
      unfold Blk.ok
      first
        | (rw [if_pos h1]; exact ⟨rfl, .fin⟩)
        | (rw [if_neg h1, if_pos h2]; exact ⟨rfl, .fin⟩)
  · refine SQ_no rfl rfl rfl (hg1_3) (lts rfl) ?_
    refine SQ_no rfl rfl rfl (hg1_3) (lts rfl) ?_
    refine SQ_no rfl rfl rfl (hg1_3) (lts rfl) ?_
    refine SQ_no rfl rfl rfl (hg1_3) (lts rfl) ?_
    refine SQ_no rfl rfl rfl (hg1_3) (lts rfl) ?_
    refine SQ_no1 rfl rfl rfl (hg1_3) (lts rfl) ?_
    refine SQ_no rfl rfl rfl (hg1_3) (lts rfl) ?_
    refine SQ_pu rfl (RD_pick_t rfl (hg1_3) rfl) rfl ?_
    refine Wq ?_
    refine SQ_no rfl rfl rfl (rfl) (lts rfl) ?_
    refine SQ_no rfl rfl rfl (rfl) (lts rfl) ?_
    refine SQ_no rfl rfl rfl (rfl) (lts rfl) ?_
    refine SQ_no rfl rfl rfl (rfl) (lts rfl) ?_
    refine SQ_no rfl rfl rfl (rfl) (lts rfl) ?_
    refine SQ_no1 rfl rfl rfl (rfl) (lts rfl) ?_
    refine SQ_no1 rfl rfl rfl (rfl) (lts rfl) ?_
    refine SQ_no1 rfl rfl rfl (rfl) (lts rfl) ?_
    refine SQ_no rfl rfl rfl (rfl) (lts rfl) ?_
    refine SQ_pu rfl (RD_pick_t rfl (rfl) rfl) rfl ?_
    iterate 2 refine Ws ?_
    have h1 : b.pure.view < 1 ∨ b.pure.author ≠ c.lead b.pure.view := .inl (of_decide_eq_true hg1_3)
    refine SC_cond_true rfl (rfl) ?_
    iterate 5 refine Ws ?_
    refine SC_ret1 rfl rfl ?_
    unfold Blk.ok
    first
      | (rw [if_pos h1]; exact ⟨rfl, .fin⟩)
      | (rw [if_neg h1, if_pos h2]; exact ⟨rfl, .fin⟩)

end Go.Proofs.YtdhpjdhloaoepaaGreat

/- A vault of one cipher, and its functions. -/
namespace Go.Proofs.YtdhpjdhloaoepaaGreat
open Go Go.Proofs
attribute [local irreducible] SC SN SR SQ SA SO
set_option maxRecDepth 100000
/-- A vault that holds one cipher. -/
structure V1 where
  need : Int
  label : Int
  plain : List UInt8
  sh : List Int
def V1.enough (s : V1) (c : Int) : Bool := decide (c = 1) && decide (s.need ≤ s.sh.length)
theorem CallsK.atPt {W : World} {P : Program} {f : FuncId} {args : Array Value} {L R : List HProp} {KK : Value → List HProp → Prop} {b : Nat} {o : Obj} [t : TakePt L b o R] (g : CallsK W P f args (pt b o :: R) KK) : CallsK W P f args L KK := g.pre fun m => Den_perm t.perm m
theorem w_Vault {W : World} {F : List HProp} [Abs F] (k : WK) (s : WS) :
    CallsK W Tryz.prog 16 #[.pointer (some ⟨k.p, 0, none⟩)] (At worldI k s :: F) (fun v L => v = .pointer (some ⟨k.v, 0, none⟩) ∧ Lands L (At worldI k s :: F)) := by
  refine CallsK_enter (n := 7) Tryz.func16 rfl rfl rfl ?_
  iterate 6 refine Ws ?_
  refine SC.lands (Lands.op_world (k := k) (s := s)) ?_
  iterate 8 refine Ws ?_
  refine SC_ret1 rfl rfl ?_
  exact ⟨rfl, (close_world (k := k) (l := s.l) (S := s.S)).trans .fin⟩

end Go.Proofs.YtdhpjdhloaoepaaGreat

/- Entries: envelopes that are opened; the document's code of a trade. -/
namespace Go.Proofs.YtdhpjdhloaoepaaGreat
open Go Go.Proofs
attribute [local irreducible] SC SN SR SQ SA SO
set_option maxRecDepth 100000
/-- An entry. -/
structure EntD where
  client : Int
  nonce : Int
  fee : Int
  good : Bool
  tx : TxD
def EntD.cells (x : EntD) : List Value := .int .i64 x.client :: .int .u64 x.nonce :: .int .u64 x.fee :: .bool x.good :: x.tx.cells
def EntD.val (x : EntD) : Value := .agg x.cells.toArray
instance (x : EntD) : Ones x.cells := by unfold EntD.cells; infer_instance
theorem EntD.cells_len (x : EntD) : x.cells.length = 11 := rfl
theorem OX_stAt {W : World} {P : Program} {l : Env} {L R : List HProp} {ty : TypeId} {x y : Operand} {t b off m : Nat} {cs vs cs' : List Value} {T : TypeId} (hz : ∀ w, (sizeOf t).run P w = .ok m w) (hx : ev l x = some (.pointer (some ⟨b, off, none⟩))) (hy : ev l y = some (.agg vs.toArray)) [ho : Ones vs] [tp : TakePt L b (.cells cs.toArray T) R]
    (hm : vs.length = m) (hc : off + m ≤ cs.length) (he : setL cs off vs = cs') : OX W P l L (.store t x y) ty (fun _ L' => L' = pt b (.cells cs'.toArray T) :: R) :=
  (OX.lands (fun m => Den_perm tp.perm m) (OX_storeA hz hm hx hy (fun v hv => (ho.h v hv)) hc)).imp fun _ _ e => by rw [e, he]
def zEnt : EntD := ⟨0, 0, 0, false, txZero⟩
/-- What is in an envelope. -/
def openE (s : V1) (e : EnvD) : EntD := if s.label = e.client then ⟨e.client, e.nonce, e.fee, (parseTx s.plain).isSome, (parseTx s.plain).getD txZero⟩ else ⟨e.client, e.nonce, e.fee, false, txZero⟩
def openR (s : V1) (e : EnvD) : Value := if s.enough e.cipher then .tuple #[(openE s e).val, .bool true] else .tuple #[zEnt.val, .bool false]

end Go.Proofs.YtdhpjdhloaoepaaGreat

/- What each struct literal of the program comes to (printed by gen_be.py). -/
namespace Go.Proofs.YtdhpjdhloaoepaaGreat
open Go Go.Proofs

theorem built39  : Tryz.prog.built 39 [] = some #[.int .i64 0, .int .i64 0, .slice none 0 0] := by kernel_rfl
theorem built46_0_1_7 {x1 : Int} {x2 : Int} {x3 : Int} {x4 : Int} {x5 : Int} {x6 : Int} : Tryz.prog.built 46 [(0, .int .i64 x1), (1, .int .i64 x2), (7, .agg #[.int .i64 x3, .int .u64 x4, .int .u64 x5, .int .i64 x6])] = some #[.int .i64 x1, .int .i64 x2, .int .i64 0, .int .i64 0, .int .i64 0, .int .i64 0, .int .i64 0, .slice none 0 0, .int .i64 0, .slice none 0 0, .slice none 0 0, .int .i64 0, .int .i64 0, .slice none 0 0, .int .i64 x3, .int .u64 x4, .int .u64 x5, .int .i64 x6, .slice none 0 0] := by kernel_rfl
theorem built46_0_3_4 {x1 : Int} {x2 : Int} {x3 : Int} : Tryz.prog.built 46 [(0, .int .i64 x1), (3, .int .i64 x2), (4, .int .i64 x3)] = some #[.int .i64 x1, .int .i64 0, .int .i64 0, .int .i64 x2, .int .i64 x3, .int .i64 0, .int .i64 0, .slice none 0 0, .int .i64 0, .slice none 0 0, .slice none 0 0, .int .i64 0, .int .i64 0, .slice none 0 0, .int .i64 0, .int .u64 0, .int .u64 0, .int .i64 0, .slice none 0 0] := by kernel_rfl
theorem built46_0_3_5 {x1 : Int} {x2 : Int} {x3 : Int} {x4 : Int} {x5 : Option Addr} {x6 : Nat} {x7 : Nat} : Tryz.prog.built 46 [(0, .int .i64 x1), (3, .int .i64 x2), (5, .agg #[.int .i64 x3, .int .i64 x4, .slice x5 x6 x7])] = some #[.int .i64 x1, .int .i64 0, .int .i64 0, .int .i64 x2, .int .i64 0, .int .i64 x3, .int .i64 x4, .slice x5 x6 x7, .int .i64 0, .slice none 0 0, .slice none 0 0, .int .i64 0, .int .i64 0, .slice none 0 0, .int .i64 0, .int .u64 0, .int .u64 0, .int .i64 0, .slice none 0 0] := by kernel_rfl
theorem built46_0_4 {x1 : Int} {x2 : Int} : Tryz.prog.built 46 [(0, .int .i64 x1), (4, .int .i64 x2)] = some #[.int .i64 x1, .int .i64 0, .int .i64 0, .int .i64 0, .int .i64 x2, .int .i64 0, .int .i64 0, .slice none 0 0, .int .i64 0, .slice none 0 0, .slice none 0 0, .int .i64 0, .int .i64 0, .slice none 0 0, .int .i64 0, .int .u64 0, .int .u64 0, .int .i64 0, .slice none 0 0] := by kernel_rfl
theorem built46_0_5 {x1 : Int} {x2 : Int} {x3 : Int} {x4 : Option Addr} {x5 : Nat} {x6 : Nat} : Tryz.prog.built 46 [(0, .int .i64 x1), (5, .agg #[.int .i64 x2, .int .i64 x3, .slice x4 x5 x6])] = some #[.int .i64 x1, .int .i64 0, .int .i64 0, .int .i64 0, .int .i64 0, .int .i64 x2, .int .i64 x3, .slice x4 x5 x6, .int .i64 0, .slice none 0 0, .slice none 0 0, .int .i64 0, .int .i64 0, .slice none 0 0, .int .i64 0, .int .u64 0, .int .u64 0, .int .i64 0, .slice none 0 0] := by kernel_rfl
theorem built46_0_8 {x1 : Int} {x2 : Option Addr} {x3 : Nat} {x4 : Nat} : Tryz.prog.built 46 [(0, .int .i64 x1), (8, .slice x2 x3 x4)] = some #[.int .i64 x1, .int .i64 0, .int .i64 0, .int .i64 0, .int .i64 0, .int .i64 0, .int .i64 0, .slice none 0 0, .int .i64 0, .slice none 0 0, .slice none 0 0, .int .i64 0, .int .i64 0, .slice none 0 0, .int .i64 0, .int .u64 0, .int .u64 0, .int .i64 0, .slice x2 x3 x4] := by kernel_rfl
theorem built48_0 {x1 : Int} : Tryz.prog.built 48 [(0, .int .i64 x1)] = some #[.int .i64 x1, .int .i64 0, .int .u64 0, .int .u64 0, .slice none 0 0, .int .i64 0, .int .i64 0, .int .i64 0, .int .i64 0, .int .i64 0, .int .i64 0, .int .i64 0, .slice none 0 0, .int .i64 0, .slice none 0 0, .slice none 0 0, .int .i64 0, .int .i64 0, .slice none 0 0, .int .i64 0, .int .u64 0, .int .u64 0, .int .i64 0, .slice none 0 0] := by kernel_rfl
theorem built48_0_1 {x1 : Int} {x2 : Int} : Tryz.prog.built 48 [(0, .int .i64 x1), (1, .int .i64 x2)] = some #[.int .i64 x1, .int .i64 x2, .int .u64 0, .int .u64 0, .slice none 0 0, .int .i64 0, .int .i64 0, .int .i64 0, .int .i64 0, .int .i64 0, .int .i64 0, .int .i64 0, .slice none 0 0, .int .i64 0, .slice none 0 0, .slice none 0 0, .int .i64 0, .int .i64 0, .slice none 0 0, .int .i64 0, .int .u64 0, .int .u64 0, .int .i64 0, .slice none 0 0] := by kernel_rfl
theorem built48_0_1_2_3 {x1 : Int} {x2 : Int} {x3 : Int} {x4 : Int} : Tryz.prog.built 48 [(0, .int .i64 x1), (1, .int .i64 x2), (2, .int .u64 x3), (3, .int .u64 x4)] = some #[.int .i64 x1, .int .i64 x2, .int .u64 x3, .int .u64 x4, .slice none 0 0, .int .i64 0, .int .i64 0, .int .i64 0, .int .i64 0, .int .i64 0, .int .i64 0, .int .i64 0, .slice none 0 0, .int .i64 0, .slice none 0 0, .slice none 0 0, .int .i64 0, .int .i64 0, .slice none 0 0, .int .i64 0, .int .u64 0, .int .u64 0, .int .i64 0, .slice none 0 0] := by kernel_rfl
theorem built48_0_1_3_4 {x1 : Int} {x2 : Int} {x3 : Int} {x4 : Option Addr} {x5 : Nat} {x6 : Nat} : Tryz.prog.built 48 [(0, .int .i64 x1), (1, .int .i64 x2), (3, .int .u64 x3), (4, .slice x4 x5 x6)] = some #[.int .i64 x1, .int .i64 x2, .int .u64 0, .int .u64 x3, .slice x4 x5 x6, .int .i64 0, .int .i64 0, .int .i64 0, .int .i64 0, .int .i64 0, .int .i64 0, .int .i64 0, .slice none 0 0, .int .i64 0, .slice none 0 0, .slice none 0 0, .int .i64 0, .int .i64 0, .slice none 0 0, .int .i64 0, .int .u64 0, .int .u64 0, .int .i64 0, .slice none 0 0] := by kernel_rfl
theorem built72_0_1_3_4 {x1 : Int} {x2 : Int} {x3 : Int} {x4 : Int} {x5 : Int} {x6 : Int} {x7 : Int} {x8 : Int} {x9 : Option Addr} {x10 : Option Addr} {x11 : Option Addr} : Tryz.prog.built 72 [(0, .agg #[.int .i64 x1, .int .i64 x2, .int .i64 x3, .int .i64 x4, .int .i64 x5, .int .i64 x6, .int .i64 x7, .int .i64 x8]), (1, .pointer x9), (3, .pointer x10), (4, .pointer x11)] = some #[.int .i64 x1, .int .i64 x2, .int .i64 x3, .int .i64 x4, .int .i64 x5, .int .i64 x6, .int .i64 x7, .int .i64 x8, .pointer x9, .slice none 0 0, .pointer x10, .pointer x11] := by kernel_rfl
theorem built91_0_1_2_3_4_5_6_7_8_9 {x1 : Option Addr} {x2 : Int} {x3 : Int} {x4 : Int} {x5 : Int} {x6 : Int} {x7 : Int} {x8 : Int} {x9 : Int} {x10 : Int} {x11 : Option Addr} {x12 : Option Addr} {x13 : Option Addr} {x14 : Option Addr} {x15 : Option Addr} {x16 : Option Addr} {x17 : Option Addr} : Tryz.prog.built 91 [(0, .pointer x1), (1, .agg #[.int .i64 x2, .int .i64 x3, .int .i64 x4, .int .i64 x5, .int .i64 x6, .int .i64 x7, .int .i64 x8, .int .i64 x9]), (2, .int .i64 x10), (3, .pointer x11), (4, .pointer x12), (5, .pointer x13), (6, .pointer x14), (7, .pointer x15), (8, .pointer x16), (9, .pointer x17)] = some #[.pointer x1, .int .i64 x2, .int .i64 x3, .int .i64 x4, .int .i64 x5, .int .i64 x6, .int .i64 x7, .int .i64 x8, .int .i64 x9, .int .i64 x10, .pointer x11, .pointer x12, .pointer x13, .pointer x14, .pointer x15, .pointer x16, .pointer x17, .int .i64 0, .pointer none, .pointer none, .pointer none, .slice none 0 0] := by kernel_rfl
theorem built104_0_3 {x1 : Option Addr} {x2 : Option Addr} : Tryz.prog.built 104 [(0, .pointer x1), (3, .pointer x2)] = some #[.pointer x1, .slice none 0 0, .slice none 0 0, .pointer x2] := by kernel_rfl
theorem built118  : Tryz.prog.built 118 [] = some #[.slice none 0 0] := by kernel_rfl
theorem built121_0_3 {x1 : Option Addr} {x2 : Option Nat} : Tryz.prog.built 121 [(0, .pointer x1), (3, .map x2)] = some #[.pointer x1, .slice none 0 0, .slice none 0 0, .map x2] := by kernel_rfl
theorem built137_0_1_2_3 {x1 : Option Addr} {x2 : Option Addr} {x3 : Option Addr} {x4 : Option Addr} {x5 : Nat} {x6 : Nat} : Tryz.prog.built 137 [(0, .pointer x1), (1, .pointer x2), (2, .pointer x3), (3, .slice x4 x5 x6)] = some #[.pointer x1, .pointer x2, .pointer x3, .slice x4 x5 x6, .int .u64 0, .int .u64 0, .int .u64 0, .int .u64 0] := by kernel_rfl
theorem built141_0 {x1 : Option Addr} {x2 : Nat} {x3 : Nat} : Tryz.prog.built 141 [(0, .slice x1 x2 x3)] = some #[.slice x1 x2 x3, .int .i64 0, .slice none 0 0] := by kernel_rfl
theorem built141_1_2 {x1 : Int} {x2 : Option Addr} {x3 : Nat} {x4 : Nat} : Tryz.prog.built 141 [(1, .int .i64 x1), (2, .slice x2 x3 x4)] = some #[.slice none 0 0, .int .i64 x1, .slice x2 x3 x4] := by kernel_rfl
theorem built170_0_1_2_3 {x1 : Option Addr} {x2 : Int} {x3 : Int} {x4 : Int} {x5 : Int} {x6 : Int} {x7 : Int} {x8 : Int} {x9 : Int} {x10 : Option Nat} {x11 : Option Nat} : Tryz.prog.built 170 [(0, .pointer x1), (1, .agg #[.int .i64 x2, .int .i64 x3, .int .i64 x4, .int .i64 x5, .int .i64 x6, .int .i64 x7, .int .i64 x8, .int .i64 x9]), (2, .map x10), (3, .map x11)] = some #[.pointer x1, .int .i64 x2, .int .i64 x3, .int .i64 x4, .int .i64 x5, .int .i64 x6, .int .i64 x7, .int .i64 x8, .int .i64 x9, .map x10, .map x11] := by kernel_rfl
theorem built172_0_1_2_3 {x1 : Int} {x2 : Int} {x3 : Int} {x4 : Int} : Tryz.prog.built 172 [(0, .int .i64 x1), (1, .int .i64 x2), (2, .int .i64 x3), (3, .int .i64 x4)] = some #[.int .i64 x1, .int .i64 x2, .int .i64 x3, .int .i64 x4, .int .i64 0, .int .i64 0] := by kernel_rfl
theorem built174_0_1 {x1 : Option Addr} {x2 : Int} : Tryz.prog.built 174 [(0, .pointer x1), (1, .int .i64 x2)] = some #[.pointer x1, .int .i64 x2, .slice none 0 0] := by kernel_rfl
theorem built183_0 {x1 : Option Addr} {x2 : Nat} {x3 : Nat} : Tryz.prog.built 183 [(0, .slice x1 x2 x3)] = some #[.slice x1 x2 x3] := by kernel_rfl
theorem built222_0_1 {x1 : Option Addr} {x2 : Option Nat} : Tryz.prog.built 222 [(0, .pointer x1), (1, .map x2)] = some #[.pointer x1, .map x2, .int .u64 0] := by kernel_rfl
theorem built226_0_1 {x1 : Option Addr} {x2 : Option Addr} : Tryz.prog.built 226 [(0, .pointer x1), (1, .pointer x2)] = some #[.pointer x1, .pointer x2, .int .i64 0] := by kernel_rfl
theorem built251_0_1 {x1 : Option Addr} {x2 : Option Addr} : Tryz.prog.built 251 [(0, .pointer x1), (1, .pointer x2)] = some #[.pointer x1, .pointer x2] := by kernel_rfl
theorem built278_0 {x1 : Int} : Tryz.prog.built 278 [(0, .int .i64 x1)] = some #[.int .i64 x1, .int .u64 0, .int .i64 0, .slice none 0 0] := by kernel_rfl
theorem built283_1 {x1 : Bool} : Tryz.prog.built 283 [(1, .bool x1)] = some #[.slice none 0 0, .bool x1] := by kernel_rfl
theorem built285_0 {x1 : Option Addr} {x2 : Nat} {x3 : Nat} {x4 : Bool} : Tryz.prog.built 285 [(0, .agg #[.slice x1 x2 x3, .bool x4])] = some #[.slice x1 x2 x3, .bool x4] := by kernel_rfl
theorem built301_0_1 {x1 : Int} {x2 : Int} : Tryz.prog.built 301 [(0, .int .i64 x1), (1, .int .i64 x2)] = some #[.int .i64 x1, .int .i64 x2] := by kernel_rfl
end Go.Proofs.YtdhpjdhloaoepaaGreat

/- Fees that are held; the ledger, as far as entries are bad. -/
namespace Go.Proofs.YtdhpjdhloaoepaaGreat
open Go Go.Proofs
attribute [local irreducible] SC SN SR SQ SA SO
set_option maxRecDepth 100000
/-- Fees. -/
structure FeS where
  a : Nat
  held : List (Int × Int)
  got : Int
def uE (l : List (Int × Int)) : List (Int × Value) := l.map fun x => (x.1, Value.int .u64 x.2)
def hget (l : List (Int × Int)) (c : Int) : Int := (mget l c).getD 0
theorem uE_get (l : List (Int × Int)) (c : Int) : (mget (uE l) c).getD (.int .u64 0) = .int .u64 (hget l c) := by
  unfold hget
  induction l with
  | nil => rfl
  | cons x l ih =>
    simp only [uE, List.map_cons, mget] at ih ⊢
    split
    · rfl
    · exact ih
theorem uE_set (l : List (Int × Int)) (c v : Int) : mset (uE l) c (.int .u64 v) = uE (mset l c v) := by
  induction l with
  | nil => rfl
  | cons x l ih =>
    simp only [uE, List.map_cons, mset] at ih ⊢
    split
    · rfl
    · rw [List.map_cons, ih]
def HeldOk (l : List (Int × Int)) : Prop := ∀ c, U64 (hget l c)
theorem hget_set (l : List (Int × Int)) (c v d : Int) : hget (mset l c v) d = if d = c then v else hget l d := by
  unfold hget
  rw [mget_mset]
  split <;> rfl
theorem HeldOk.set {l : List (Int × Int)} (h : HeldOk l) {c v : Int} (hv : U64 v) : HeldOk (mset l c v) := fun d => by
  rw [hget_set]; split; exact hv; exact h d

def feeI (f : Nat) (s : FeS) : HProp := fun h => ∃ (m : Nat), HeldOk s.held ∧ U64 s.got ∧ Den [pt f (.cells [.pointer (some ⟨s.a, 0, none⟩), .map (some m), .int .u64 s.got].toArray 222), mapP intK m (uE s.held)] h
theorem open_fee {f : Nat} {s : FeS} : Opens feeI f s (fun x : Nat => (HeldOk s.held) ∧ (U64 s.got)) (fun x R => (pt f (.cells [.pointer (some ⟨s.a, 0, none⟩), .map (some x), .int .u64 s.got].toArray 222)) :: (mapP intK x (uE s.held)) :: R) := by
  rintro R m_ ⟨m1, m2, d, e, ⟨m, f0_, f1_, h_⟩, r⟩
  exact ⟨m, ⟨f0_, f1_⟩, Den_app d e h_ r⟩
theorem close_fee {L R R1_ : List HProp} (f : Nat) (s : FeS) {m : Nat} {y1_ : Nat} {y2_ : Int} {y3_ : List (Int × Value)} [t0_ : TakePt L f (.cells [.pointer (some ⟨y1_, 0, none⟩), .map (some m), .int .u64 y2_].toArray 222) R1_] [t1_ : TakeMap R1_ intK m y3_ R] (f0_ : HeldOk s.held) (f1_ : U64 s.got) (e0_ : s.a = y1_ := by rfl) (e1_ : s.got = y2_ := by rfl) (e2_ : uE s.held = y3_ := by rfl) : Lands L (At feeI f s :: R) := fun q_ H_ => by
  subst e0_; subst e1_; subst e2_;
  obtain ⟨a0_, b0_, d0_, i0_, p0_, r0_⟩ := Den_perm t0_.perm q_ H_
  obtain ⟨a1_, b1_, d1_, i1_, p1_, r1_⟩ := Den_perm t1_.perm b0_ r0_
  have H2_ : Den ([pt f (.cells [.pointer (some ⟨s.a, 0, none⟩), .map (some m), .int .u64 s.got].toArray 222), mapP intK m (uE s.held)] ++ R) q_ := ⟨a0_, b0_, d0_, i0_, p0_, ⟨a1_, b1_, d1_, i1_, p1_, r1_⟩⟩
  exact Lands.wrap (A := At feeI f s) (fun z_ hz_ => ⟨m, f0_, f1_, hz_⟩) q_ H2_
def feeMin (l : Acs) (c fee : Int) : Int := if acFree l c 1 < fee then acFree l c 1 else fee
def holds (s : FeS) (l : Acs) (c fee : Int) : Prop := hget s.held c + feeMin l c fee < 18446744073709551616 ∧ (acTake l c 1 (feeMin l c fee)).1 = 0
instance (s : FeS) (l : Acs) (c fee : Int) : Decidable (holds s l c fee) := by unfold holds; infer_instance
/-- A fee held: as much as there is. -/
def feeHold (s : FeS) (l : Acs) (c fee : Int) : FeS × Acs := if holds s l c fee then (⟨s.a, mset s.held c (hget s.held c + feeMin l c fee), s.got⟩, (acTake l c 1 (feeMin l c fee)).2) else (s, l)
def feeForf (s : FeS) (c : Int) : Int × FeS := if s.got + hget s.held c < 18446744073709551616 then (hget s.held c, ⟨s.a, mset s.held c 0, s.got + hget s.held c⟩) else (0, s)
theorem acFree_ok {l : Acs} (h : AcOk l) (c a : Int) : U64 (acFree l c a) := by
  unfold acFree
  split
  · rename_i hh
    simp at hh
    exact acP_ok h hh.1 _
  · exact ⟨by omega, by omega⟩
theorem acTake_same {l : Acs} {c a n : Int} (h : ¬ (acTake l c a n).1 = 0) : (acTake l c a n).2 = l := by
  unfold acTake at h ⊢
  split
  · rename_i hw
    rw [if_pos hw] at h
    split
    · rename_i h2; rw [if_pos h2] at h; exact absurd rfl h
    · rfl
  · rfl

theorem RD_lookv {l : Env} {ty : TypeId} {x y : Operand} {b : Nat} {q : List (Int × Int)} {c : Int} (hx : ev l x = some (.map (some b))) (hy : ev l y = some (.int .i64 c)) : RD Tryz.prog l (.lookup 220 x y false) ty (mapF intK b (uE q)) (.int .u64 (hget q c)) := by
  have h := RD_lookup (P := Tryz.prog) (l := l) (ty := ty) (K := intK) (m := uE q) (k := c) Tryz.underlying220 Tryz.underlying3 Tryz.zeroValue35 hx hy
  rw [uE_get] at h; exact h
theorem RD_minu {P : Program} {l' : Env} {ty : TypeId} {x y : Operand} {ts : Array TypeId} {l : Acs} {c fee : Int} (hx : ev l' x = some (.int .u64 fee)) (hy : ev l' y = some (.int .u64 (acFree l c 1))) : RD P l' (.call ⟨.builtin .min, #[x, y], ts⟩) ty RU (.int .u64 (feeMin l c fee)) := RD_min hx hy

theorem fee_Hold {W : World} {F : List HProp} [Abs F] (f : Nat) (s : FeS) (l : Acs) (c fee : Int) (hfee : U64 fee) (hl : AcOk l) :
    CallsK W Tryz.prog 226 #[.pointer (some ⟨f, 0, none⟩), .int .i64 c, .int .u64 fee] (At feeI f s :: At actI s.a l :: F) (fun u L => (∃ n, u = .int .u64 n) ∧ Lands L (At feeI f (feeHold s l c fee).1 :: At actI s.a (feeHold s l c fee).2 :: F)) := by
  refine CallsK_enter (n := 48) Tryz.func226 rfl rfl rfl ?_
  have hmin : U64 (feeMin l c fee) := by unfold feeMin; split; exact acFree_ok hl c 1; exact hfee
  iterate 6 refine Ws ?_
  refine SC.opn (open_fee (f := f)) fun m hok => ?_
  dsimp only at hok ⊢
  iterate 7 refine Ws ?_
  refine Wc (CallsK.at (act_Free s.a l c 1)) ?_
  refine SR_pu (RD_minu rfl rfl) rfl ?_
  iterate 10 refine Ws ?_
  refine SR_rd (RD_lookv (q := s.held) (c := c) rfl rfl) (Has.ma (K := intK)) rfl ?_
  refine Ws ?_
  refine Wc (chk_Add (hget s.held c) (feeMin l c fee) (hok.1 c) hmin) ?_
  iterate 13 refine Ws ?_
  refine SR_guard rfl rfl (fun hg3_2 => ?_) (fun hg3_2 => ?_)
  · refine SR_yes rfl rfl (hg3_2) ?_
    refine Ws ?_
    refine SR_yes rfl rfl (hg3_2) ?_
    refine Ws ?_
    refine SR_yes rfl rfl (hg3_2) ?_
    refine Ws ?_
    refine SR_yes rfl rfl (hg3_2) ?_
    refine Ws ?_
    refine SR_yes rfl rfl (hg3_2) ?_
    refine Ws ?_
    refine SR_yes rfl rfl (hg3_2) ?_
    refine Ws ?_
    refine SR_yes rfl rfl (hg3_2) ?_
    refine Wc (CallsK.at (act_Take s.a l c 1 (feeMin l c fee) hmin)) ?_
    refine SR_yes rfl rfl (hg3_2) ?_
    refine Ws ?_
    refine SR_pu (RD_pick_f rfl (hg3_2) rfl) rfl ?_
    iterate 2 refine Ws ?_
    refine SC_cond rfl (fun hc40 => ?_) (fun hc40 => ?_)
    · have hno : ¬ holds s l c fee := fun h => by have h2 := h.2; simp at hc40; exact hc40 h2
      rw [acTake_same (by simpa using hc40)]
      iterate 5 refine Ws ?_
      refine SC_ret1 rfl rfl ?_
      refine ⟨⟨_, rfl⟩, ?_⟩
      unfold feeHold
      rw [if_neg hno]
      exact (close_fee f s hok.1 hok.2).trans .fin
    · have hyes : holds s l c fee := ⟨by simpa using hg3_2, by simpa using hc40⟩
      iterate 10 refine Ws ?_
      refine SR_ox0 (OX_mu (K := intK) Tryz.underlying220 Tryz.underlying3 rfl rfl rfl) ?_
      rintro _ _ rfl
      iterate 8 refine Ws ?_
      refine SC_ret1 rfl rfl ?_
      refine ⟨⟨_, rfl⟩, ?_⟩
      unfold feeHold
      rw [if_pos hyes]
      have h1 := hyes.1
      have h2 : U64 (hget s.held c + feeMin l c fee) := by have := hok.1 c; unfold U64 at *; omega
      rw [if_pos h1]
      exact (close_fee f ⟨s.a, mset s.held c (hget s.held c + feeMin l c fee), s.got⟩ (hok.1.set h2) hok.2 (e2_ := (uE_set _ _ _).symm)).trans .fin
  · refine SR_no rfl rfl (hg3_2) (lts rfl) ?_
    refine SR_no rfl rfl (hg3_2) (lts rfl) ?_
    refine SR_no rfl rfl (hg3_2) (lts rfl) ?_
    refine SR_no rfl rfl (hg3_2) (lts rfl) ?_
    refine SR_no rfl rfl (hg3_2) (lts rfl) ?_
    refine SR_no rfl rfl (hg3_2) (lts rfl) ?_
    refine SR_no rfl rfl (hg3_2) (lts rfl) ?_
    refine SR_no rfl rfl (hg3_2) (lts rfl) ?_
    refine SR_pu (RD_pick_t rfl (hg3_2) rfl) rfl ?_
    iterate 2 refine Ws ?_
    have hno : ¬ holds s l c fee := fun h => by have h2 := h.1; simp at hg3_2; omega
    refine SC_cond_true rfl (rfl) ?_
    iterate 5 refine Ws ?_
    refine SC_ret1 rfl rfl ?_
    refine ⟨⟨_, rfl⟩, ?_⟩
    unfold feeHold
    rw [if_neg hno]
    exact (close_fee f s hok.1 hok.2).trans .fin

theorem fee_Forfeit {W : World} {F : List HProp} [Abs F] (f : Nat) (s : FeS) (c : Int) :
    CallsK W Tryz.prog 229 #[.pointer (some ⟨f, 0, none⟩), .int .i64 c] (At feeI f s :: F) (fun u L => u = .int .u64 (feeForf s c).1 ∧ Lands L (At feeI f (feeForf s c).2 :: F)) := by
  refine CallsK_enter (n := 35) Tryz.func229 rfl rfl rfl ?_
  iterate 6 refine Ws ?_
  refine SC.opn (open_fee (f := f)) fun m hok => ?_
  dsimp only at hok ⊢
  iterate 6 refine Ws ?_
  refine SR_rd (RD_lookv (q := s.held) (c := c) rfl rfl) (Has.ma (K := intK)) rfl ?_
  iterate 10 refine Ws ?_
  refine Wc (chk_Add s.got (hget s.held c) hok.2 (hok.1 c)) ?_
  iterate 14 refine Ws ?_
  refine SC_cond rfl (fun hc24 => ?_) (fun hc24 => ?_)
  · have hno : ¬ s.got + hget s.held c < 18446744073709551616 := by simpa using hc24
    iterate 5 refine Ws ?_
    refine SC_ret1 rfl rfl ?_
    unfold feeForf
    rw [if_neg hno]
    exact ⟨rfl, (close_fee f s hok.1 hok.2).trans .fin⟩
  · have hyes : s.got + hget s.held c < 18446744073709551616 := by simpa using hc24
    rw [if_pos hyes]
    iterate 18 refine Ws ?_
    refine SR_ox0 (OX_mu (K := intK) Tryz.underlying220 Tryz.underlying3 rfl rfl rfl) ?_
    rintro _ _ rfl
    iterate 8 refine Ws ?_
    refine SC_ret1 rfl rfl ?_
    unfold feeForf
    rw [if_pos hyes]
    have h2 : U64 (s.got + hget s.held c) := by have := hok.1 c; have := hok.2; unfold U64 at *; omega
    exact ⟨rfl, (close_fee f ⟨s.a, mset s.held c 0, s.got + hget s.held c⟩ (hok.1.set ⟨by omega, by omega⟩) h2 (e2_ := (uE_set _ _ _).symm)).trans .fin⟩

end Go.Proofs.YtdhpjdhloaoepaaGreat
