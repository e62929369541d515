/- A vault of one cipher, and its functions. -/
import Derived.Test.YtnifaajdiolbjaaMk
import Derived.Test.YtnifaajdiolbjaaCl1
import Derived.Test.YtnifaajdiolbjaaBk1
import Derived.Test.YtnifaajdiolbjaaTx2
namespace Go.Proofs.Ytnifaajdiolbjaa
open Go Go.Proofs
set_option maxRecDepth 100000
/-- A vault that holds one cipher. -/
structure V1 where
  need : Int
  label : Int
  plain : List UInt8
  sh : List Int
def voneI (q : Nat) (s : V1) : HProp := fun h => ∃ a c pa pc m, Den [pt q (.cells [.int .i64 s.need, .slice a 1 c].toArray 142), rowP 139 3 a 1 c [.int .i64 s.label, .slice pa s.plain.length pc, .map (some m)], rowP 5 1 pa s.plain.length pc (s.plain.map byteV), mapP intK m (wsC s.sh)] h

theorem open_vone {q : Nat} {s : V1} : Opens voneI q s (fun x : (Option Addr) × (Nat) × (Option Addr) × (Nat) × (Nat) => True) (fun x R => (pt q (.cells [.int .i64 s.need, .slice x.1 1 x.2.1].toArray 142)) :: (rowP 139 3 x.1 1 x.2.1 [.int .i64 s.label, .slice x.2.2.1 s.plain.length x.2.2.2.1, .map (some x.2.2.2.2)]) :: (rowP 5 1 x.2.2.1 s.plain.length x.2.2.2.1 (s.plain.map byteV)) :: (mapP intK x.2.2.2.2 (wsC s.sh)) :: R) := by
  rintro R m_ ⟨m1, m2, d, e, ⟨a, c, pa, pc, m, h⟩, r⟩
  exact ⟨(a, c, pa, pc, m), trivial, Den_app d e h r⟩
theorem SC.op_vone {W : World} {P : Program} {L R : List HProp} {n_ : Nat} {c_ : Code} {k_ : Kont} {l_ : Env} {q : Nat} {s : V1} [t_ : TakeAt L voneI q s R] (h_ : ∀ (a : Option Addr) (c : Nat) (pa : Option Addr) (pc : Nat) (m : Nat), SC W P n_ c_ k_ l_ ((pt q (.cells [.int .i64 s.need, .slice a 1 c].toArray 142)) :: (rowP 139 3 a 1 c [.int .i64 s.label, .slice pa s.plain.length pc, .map (some m)]) :: (rowP 5 1 pa s.plain.length pc (s.plain.map byteV)) :: (mapP intK m (wsC s.sh)) :: R)) : SC W P n_ c_ k_ l_ L := SC.opn (open_vone) fun x hx => h_ x.1 x.2.1 x.2.2.1 x.2.2.2.1 x.2.2.2.2 
theorem SN.op_vone {W : World} {P : Program} {L R : List HProp} {n_ : Nat} {k_ : Kont} {l_ : Env} {q : Nat} {s : V1} [t_ : TakeAt L voneI q s R] (h_ : ∀ (a : Option Addr) (c : Nat) (pa : Option Addr) (pc : Nat) (m : Nat), SN W P n_ k_ l_ ((pt q (.cells [.int .i64 s.need, .slice a 1 c].toArray 142)) :: (rowP 139 3 a 1 c [.int .i64 s.label, .slice pa s.plain.length pc, .map (some m)]) :: (rowP 5 1 pa s.plain.length pc (s.plain.map byteV)) :: (mapP intK m (wsC s.sh)) :: R)) : SN W P n_ k_ l_ L := SN.opn (open_vone) fun x hx => h_ x.1 x.2.1 x.2.2.1 x.2.2.2.1 x.2.2.2.2 
theorem SR.op_vone {W : World} {P : Program} {L R : List HProp} {n_ : Nat} {ops_ : Array Oper} {os_ : List Oper} {k_ : Kont} {l_ : Env} {q : Nat} {s : V1} [t_ : TakeAt L voneI q s R] (h_ : ∀ (a : Option Addr) (c : Nat) (pa : Option Addr) (pc : Nat) (m : Nat), SR W P n_ ops_ os_ k_ l_ ((pt q (.cells [.int .i64 s.need, .slice a 1 c].toArray 142)) :: (rowP 139 3 a 1 c [.int .i64 s.label, .slice pa s.plain.length pc, .map (some m)]) :: (rowP 5 1 pa s.plain.length pc (s.plain.map byteV)) :: (mapP intK m (wsC s.sh)) :: R)) : SR W P n_ ops_ os_ k_ l_ L := SR.opn (open_vone) fun x hx => h_ x.1 x.2.1 x.2.2.1 x.2.2.2.1 x.2.2.2.2 
theorem SQ.op_vone {W : World} {P : Program} {L R : List HProp} {n_ : Nat} {ops_ : Array Oper} {r_ : Ord} {Ts_ : Facts} {k_ : Kont} {l_ : Env} {q : Nat} {s : V1} [t_ : TakeAt L voneI q s R] (h_ : ∀ (a : Option Addr) (c : Nat) (pa : Option Addr) (pc : Nat) (m : Nat), SQ W P n_ ops_ r_ Ts_ k_ l_ ((pt q (.cells [.int .i64 s.need, .slice a 1 c].toArray 142)) :: (rowP 139 3 a 1 c [.int .i64 s.label, .slice pa s.plain.length pc, .map (some m)]) :: (rowP 5 1 pa s.plain.length pc (s.plain.map byteV)) :: (mapP intK m (wsC s.sh)) :: R)) : SQ W P n_ ops_ r_ Ts_ k_ l_ L := SQ.opn (open_vone) fun x hx => h_ x.1 x.2.1 x.2.2.1 x.2.2.2.1 x.2.2.2.2 
theorem CallsK.op_vone {W : World} {P : Program} {L R : List HProp} {f_ : FuncId} {args_ : Array Value} {K_ : Value → List HProp → Prop} {q : Nat} {s : V1} [t_ : TakeAt L voneI q s R] (h_ : ∀ (a : Option Addr) (c : Nat) (pa : Option Addr) (pc : Nat) (m : Nat), CallsK W P f_ args_ ((pt q (.cells [.int .i64 s.need, .slice a 1 c].toArray 142)) :: (rowP 139 3 a 1 c [.int .i64 s.label, .slice pa s.plain.length pc, .map (some m)]) :: (rowP 5 1 pa s.plain.length pc (s.plain.map byteV)) :: (mapP intK m (wsC s.sh)) :: R) K_) : CallsK W P f_ args_ L K_ := CallsK.opn (open_vone) fun x hx => h_ x.1 x.2.1 x.2.2.1 x.2.2.2.1 x.2.2.2.2 
theorem close_vone {L R R1 R2 R3 : List HProp} {q n c pn pc m : Nat} {need label : Int} {a pa : Option Addr} {cs : List Value} {mm : List (Int × Value)} {s : V1} [t_ : TakePt L q (.cells [.int .i64 need, .slice a n c].toArray 142) R1] [u : TakeRow R1 a 139 3 n c [.int .i64 label, .slice pa pn pc, .map (some m)] R2] [v : TakeRow R2 pa 5 1 pn pc cs R3] [w : TakeMap R3 intK m mm R]
    (h1 : s.need = need) (h2 : n = 1) (h3 : s.label = label) (h4 : s.plain.length = pn) (h5 : cs = s.plain.map byteV) (h6 : mm = wsC s.sh) : Lands L (At voneI q s :: R) := fun z H => by
  subst h1; subst h2; subst h3; subst h4; subst h5; subst h6
  obtain ⟨m1, m2, d, e, hq, hr⟩ := Den_perm t_.perm z H
  obtain ⟨m3, m4, d2, e2, hm, hs⟩ := Den_perm u.perm m2 hr
  obtain ⟨m5, m6, d3, e3, hm3, hs3⟩ := Den_perm v.perm m4 hs
  have H2 : Den ([pt q (.cells [.int .i64 s.need, .slice a 1 c].toArray 142), rowP 139 3 a 1 c [.int .i64 s.label, .slice pa s.plain.length pc, .map (some m)], rowP 5 1 pa s.plain.length pc (s.plain.map byteV), mapP intK m (wsC s.sh)] ++ R) z := ⟨m1, m2, d, e, hq, m3, m4, d2, e2, hm, m5, m6, d3, e3, hm3, Den_perm w.perm m6 hs3⟩
  exact Lands.wrap (A := At voneI q s) (fun y hy => ⟨a, c, pa, pc, m, hy⟩) z H2
def V1.enough (s : V1) (c : Int) : Bool := decide (c = 1) && decide (s.need ≤ s.sh.length)
theorem CallsK.atPt {W : World} {P : Program} {f : FuncId} {args : Array Value} {L R : List HProp} {KK : Value → List HProp → Prop} {b : Nat} {o : Obj} [t : TakePt L b o R] (g : CallsK W P f args (pt b o :: R) KK) : CallsK W P f args L KK := g.pre fun m => Den_perm t.perm m
theorem ev_i {l : Env} {x : Operand} {v w : Value} (h : ev l x = some v) (e : v = w) : ev l x = some w := e ▸ h

theorem seal_has {W : World} {F : List HProp} [Abs F] (q : Nat) (s : V1) (c : Int) :
    CallsK W Try.prog 85 #[.pointer (some ⟨q, 0, none⟩), .int .i64 c] (At voneI q s :: F) (fun v L => v = .bool (decide (c = 1)) ∧ Lands L (At voneI q s :: F)) := by
  refine CallsK_enter (n := 16) Try.func85 rfl rfl rfl ?_
  refine SC_seq ?_
  refine SC_region ?_
  refine SR_pu (RD_assign rfl) rfl ?_
  refine SR_nil ?_
  refine SN.le (l := [(0, _), (1, _)]) ?_ (.cons rfl (.cons rfl (.nil)))
  refine SN_seq ?_
  refine SC_seq ?_
  refine SC.op_vone (q := q) fun a c_ pa pc m => ?_
  refine SC_region ?_
  refine SR_pu (RD_move rfl) rfl ?_
  refine SR_pu (RD_geq rfl rfl) rfl ?_
  refine SR_pu (RD_move rfl) rfl ?_
  refine SR_guard rfl rfl (fun hg1_2 => ?_) (fun hg1_2 => ?_)
  · refine SR_yes rfl rfl (hg1_2) ?_
    refine SR_pu (RD_move rfl) rfl ?_
    refine SR_yes rfl rfl (hg1_2) ?_
    refine SR_pu (RD_move rfl) rfl ?_
    refine SR_yes rfl rfl (hg1_2) ?_
    first
      | refine SR_pu (RD_nilCheck rfl) rfl ?_
      | refine SR_pu (RD_nilCheckF rfl) rfl ?_
    refine SR_yes rfl rfl (hg1_2) ?_
    first
      | refine SR_pu (RD_fieldAddr 1 Try.runUnderlying142 rfl rfl Try.sizeOf140 rfl) rfl ?_
      | refine SR_rd (RD_fieldAddrO 1 Try.runUnderlying142 rfl rfl Try.sizeOf140 rfl (by simp <;> omega)) Has.ro rfl ?_
    refine SR_yes rfl rfl (hg1_2) ?_
    refine SR_rd (RD_load Try.isAgg140 rfl) (Has.ce rfl) rfl ?_
    refine SR_yes rfl rfl (hg1_2) ?_
    refine SR_pu (RD_len Try.runUnderlying140 rfl) rfl ?_
    refine SR_yes rfl rfl (hg1_2) ?_
    refine SR_pu (RD_leq rfl rfl) rfl ?_
    refine SR_pu (RD_pick_t rfl (hg1_2) rfl) rfl ?_
    refine SR_pu (RD_assign rfl) rfl ?_
    refine SR_nil ?_
    refine SN.le (l := [(4, _)]) ?_ (.cons rfl (.nil))
    refine SN_seq ?_
    refine SC_ret1 rfl rfl ?_
    refine ⟨congrArg Value.bool ?_, ((close_vone (q := q) (s := s) rfl rfl rfl rfl rfl rfl).trans .fin)⟩
    have h := of_decide_eq_true hg1_2
    exact decide_eq_decide.2 (by omega)
  · refine SR_no rfl rfl (hg1_2) (lts rfl) ?_
    refine SR_no rfl rfl (hg1_2) (lts rfl) ?_
    refine SR_no rfl rfl (hg1_2) (lts rfl) ?_
    refine SR_no rfl rfl (hg1_2) (lts rfl) ?_
    refine SR_no rfl rfl (hg1_2) (lts rfl) ?_
    refine SR_no rfl rfl (hg1_2) (lts rfl) ?_
    refine SR_no rfl rfl (hg1_2) (lts rfl) ?_
    refine SR_pu (RD_pick_f rfl (hg1_2) rfl) rfl ?_
    refine SR_pu (RD_assign rfl) rfl ?_
    refine SR_nil ?_
    refine SN.le (l := [(4, _)]) ?_ (.cons rfl (.nil))
    refine SN_seq ?_
    refine SC_ret1 rfl rfl ?_
    refine ⟨congrArg Value.bool ?_, ((close_vone (q := q) (s := s) rfl rfl rfl rfl rfl rfl).trans .fin)⟩
    have h := of_decide_eq_false hg1_2
    exact (decide_eq_false (by omega)).symm

theorem seal_Enough_no {W : World} {F : List HProp} [Abs F] (q : Nat) (s : V1) (c : Int) (hc : ¬ c = 1) :
    CallsK W Try.prog 86 #[.pointer (some ⟨q, 0, none⟩), .int .i64 c] (At voneI q s :: F) (fun v L => v = .bool false ∧ Lands L (At voneI q s :: F)) := by
  refine CallsK_enter (n := 25) Try.func86 rfl rfl rfl ?_
  refine SC_seq ?_
  refine SC_region ?_
  refine SR_pu (RD_assign rfl) rfl ?_
  refine SR_nil ?_
  refine SN.le (l := [(0, _), (1, _)]) ?_ (.cons rfl (.cons rfl (.nil)))
  refine SN_seq ?_
  refine SC_seq ?_
  refine SC_drawn (.cons 0 true (.cons 1 true (.cons 2 false (.cons 3 true (.cons 4 true (.cons 5 true (.cons 6 true (.cons 7 true (.cons 8 true (.cons 9 true (.cons 10 true (.cons 11 true (.cons 12 true (.cons 13 true (.cons 14 true (.cons 15 true (.cons 16 true (.cons 17 true (.cons 18 true (.cons 19 true (.cons 20 true (.nil)))))))))))))))))))))) (by kernel_rfl) (by kernel_rfl) ?_
  refine SQ_pu rfl (RD_move rfl) rfl ?_
  refine SQ_pu rfl (RD_move rfl) rfl ?_
  refine SQ_call rfl Try.call85 (.cons rfl (.cons rfl (.nil))) (CallsK.at (seal_has q s c)) (lts rfl) ?_
  rintro _ L1 ⟨rfl, hL1⟩
  refine ⟨.nil, ?_⟩
  refine SQ.lands hL1 ?_
  refine SQ_pu rfl (RD_move rfl) rfl ?_
  refine SQ_no rfl rfl rfl (decide_eq_false hc) (lts rfl) ?_
  refine SQ_no rfl rfl rfl (decide_eq_false hc) (lts rfl) ?_
  refine SQ_no rfl rfl rfl (decide_eq_false hc) (lts rfl) ?_
  refine SQ_no rfl rfl rfl (decide_eq_false hc) (lts rfl) ?_
  refine SQ_no rfl rfl rfl (decide_eq_false hc) (lts rfl) ?_
  refine SQ_no rfl rfl rfl (decide_eq_false hc) (lts rfl) ?_
  refine SQ_no rfl rfl rfl (decide_eq_false hc) (lts rfl) ?_
  refine SQ_no rfl rfl rfl (decide_eq_false hc) (lts rfl) ?_
  refine SQ_no rfl rfl rfl (decide_eq_false hc) (lts rfl) ?_
  refine SQ_no rfl rfl rfl (decide_eq_false hc) (lts rfl) ?_
  refine SQ_no rfl rfl rfl (decide_eq_false hc) (lts rfl) ?_
  refine SQ_no rfl rfl rfl (decide_eq_false hc) (lts rfl) ?_
  refine SQ_no rfl rfl rfl (decide_eq_false hc) (lts rfl) ?_
  refine SQ_no rfl rfl rfl (decide_eq_false hc) (lts rfl) ?_
  refine SQ_no rfl rfl rfl (decide_eq_false hc) (lts rfl) ?_
  refine SQ_pu rfl (RD_pick_f rfl (decide_eq_false hc) rfl) rfl ?_
  refine SQ_pu rfl (RD_assign rfl) rfl ?_
  refine SQ_nil ?_
  refine SN.le (l := [(4, _)]) ?_ (.cons rfl (.nil))
  refine SN_seq ?_
  refine SC_ret1 rfl rfl ?_
  exact ⟨rfl, .fin⟩

theorem seal_Enough_yes {W : World} {F : List HProp} [Abs F] (q : Nat) (s : V1) :
    CallsK W Try.prog 86 #[.pointer (some ⟨q, 0, none⟩), .int .i64 1] (At voneI q s :: F) (fun v L => v = .bool (decide (s.need ≤ s.sh.length)) ∧ Lands L (At voneI q s :: F)) := by
  refine CallsK_enter (n := 25) Try.func86 rfl rfl rfl ?_
  refine SC_seq ?_
  refine SC_region ?_
  refine SR_pu (RD_assign rfl) rfl ?_
  refine SR_nil ?_
  refine SN.le (l := [(0, _), (1, _)]) ?_ (.cons rfl (.cons rfl (.nil)))
  refine SN_seq ?_
  refine SC_seq ?_
  refine SC_drawn (.cons 0 true (.cons 1 true (.cons 2 false (.cons 3 true (.cons 4 true (.cons 5 true (.cons 6 true (.cons 7 true (.cons 8 true (.cons 9 true (.cons 10 true (.cons 11 true (.cons 12 true (.cons 13 true (.cons 14 true (.cons 15 true (.cons 16 true (.cons 17 true (.cons 18 true (.cons 19 true (.cons 20 true (.nil)))))))))))))))))))))) (by kernel_rfl) (by kernel_rfl) ?_
  refine SQ_pu rfl (RD_move rfl) rfl ?_
  refine SQ_pu rfl (RD_move rfl) rfl ?_
  refine SQ_call rfl Try.call85 (.cons rfl (.cons rfl (.nil))) (CallsK.at (seal_has q s 1)) (lts rfl) ?_
  rintro _ L1 ⟨rfl, hL1⟩
  refine ⟨.nil, ?_⟩
  refine SQ.lands hL1 ?_
  refine SQ.op_vone (q := q) fun a c_ pa pc m => ?_
  refine SQ_pu rfl (RD_move rfl) rfl ?_
  refine SQ_pyes rfl rfl rfl (decide_eq_true rfl) (RD_move rfl) rfl ?_
  first
    | refine SQ_pyes rfl rfl rfl (decide_eq_true rfl) (RD_nilCheck rfl) rfl ?_
    | refine SQ_pyes rfl rfl rfl (decide_eq_true rfl) (RD_nilCheckF rfl) rfl ?_
  first
    | refine SQ_pyes rfl rfl rfl (decide_eq_true rfl) (RD_fieldAddr 1 Try.runUnderlying142 rfl rfl Try.sizeOf140 rfl) rfl ?_
    | refine SQ_yes rfl rfl rfl (decide_eq_true rfl) (RD_fieldAddrO 1 Try.runUnderlying142 rfl rfl Try.sizeOf140 rfl (by simp <;> omega)) Has.ro rfl ?_
  refine SQ_yes rfl rfl rfl (decide_eq_true rfl) (RD_load Try.isAgg140 rfl) (Has.ce rfl) rfl ?_
  refine SQ_pyes rfl rfl rfl (decide_eq_true rfl) (RD_move rfl) rfl ?_
  refine SQ_pyes rfl rfl rfl (decide_eq_true rfl) (RD_subi rfl rfl (by omega) (by omega)) rfl ?_
  refine SQ_yes rfl rfl rfl (decide_eq_true rfl) (RD_ixO (i := ((0 : Nat) : Int)) (cs := [.int .i64 s.label, .slice pa s.plain.length pc, .map (some m)]) Try.runUnderlying140 Try.sizeOf139 rfl (ev_i rfl rfl) rfl (by omega) (by omega)) Has.ro rfl ?_
  refine SQ_yes rfl rfl rfl (decide_eq_true rfl) (RD_fieldAddrO (cs := [.int .i64 s.label, .slice pa s.plain.length pc, .map (some m)]) 2 Try.runUnderlying139 rfl rfl Try.sizeOf25 rfl (by simp)) Has.ro rfl ?_
  refine SQ_yes rfl rfl rfl (decide_eq_true rfl) (RD_loadO (v := .map (some m)) (cs := [.int .i64 s.label, .slice pa s.plain.length pc, .map (some m)]) Try.isAgg25 rfl rfl) Has.ro rfl ?_
  refine SQ_yes rfl rfl rfl (decide_eq_true rfl) (RD_lenM (K := intK) Try.underlying25 rfl) (Has.ma (K := intK)) rfl ?_
  refine SQ_pyes rfl rfl rfl (decide_eq_true rfl) (RD_move rfl) rfl ?_
  first
    | refine SQ_pyes rfl rfl rfl (decide_eq_true rfl) (RD_nilCheck rfl) rfl ?_
    | refine SQ_pyes rfl rfl rfl (decide_eq_true rfl) (RD_nilCheckF rfl) rfl ?_
  first
    | refine SQ_pyes rfl rfl rfl (decide_eq_true rfl) (RD_fieldAddr0 Try.runUnderlying142 rfl rfl Try.sizeOf3 rfl) rfl ?_
    | refine SQ_yes rfl rfl rfl (decide_eq_true rfl) (RD_fieldAddrO 0 Try.runUnderlying142 rfl rfl Try.sizeOf3 rfl (by simp <;> omega)) Has.ro rfl ?_
  refine SQ_yes rfl rfl rfl (decide_eq_true rfl) (RD_load Try.isAgg3 rfl) (Has.ce rfl) rfl ?_
  refine SQ_pyes rfl rfl rfl (decide_eq_true rfl) (RD_geq rfl rfl) rfl ?_
  refine SQ_pu rfl (RD_pick_t rfl (decide_eq_true rfl) rfl) rfl ?_
  refine SQ_pu rfl (RD_assign rfl) rfl ?_
  refine SQ_nil ?_
  refine SN.le (l := [(4, _)]) ?_ (.cons rfl (.nil))
  refine SN_seq ?_
  refine SC_ret1 rfl rfl ?_
  exact ⟨congrArg Value.bool (decide_eq_decide.2 (by simp [wsC])), ((close_vone (q := q) (s := s) rfl rfl rfl rfl rfl rfl).trans .fin)⟩

theorem seal_Enough {W : World} {F : List HProp} [Abs F] (q : Nat) (s : V1) (c : Int) : CallsK W Try.prog 86 #[.pointer (some ⟨q, 0, none⟩), .int .i64 c] (At voneI q s :: F) (fun v L => v = .bool (s.enough c) ∧ Lands L (At voneI q s :: F)) := by
  unfold V1.enough
  by_cases hc : c = 1
  · subst hc
    rw [decide_eq_true (show (1 : Int) = 1 from rfl), Bool.true_and]
    exact seal_Enough_yes q s
  · rw [decide_eq_false hc, Bool.false_and]
    exact seal_Enough_no q s c hc

theorem seal_Share {W : World} {F : List HProp} [Abs F] (q : Nat) (s : V1) (who : Int) :
    CallsK W Try.prog 52 #[.pointer (some ⟨q, 0, none⟩), .int .i64 who, .int .i64 1] (At voneI q s :: F) (fun v L => v = .bool true ∧ Lands L (At voneI q ⟨s.need, s.label, s.plain, putW s.sh who⟩ :: F)) := by
  refine CallsK_enter (n := 21) Try.func52 rfl rfl rfl ?_
  refine SC_seq ?_
  refine SC_region ?_
  refine SR_pu (RD_assign rfl) rfl ?_
  refine SR_nil ?_
  refine SN.le (l := [(0, _), (1, _), (2, _)]) ?_ (.cons rfl (.cons rfl (.cons rfl (.nil))))
  refine SN_seq ?_
  refine SC_seq ?_
  refine SC_seq ?_
  refine SC_region ?_
  refine SR_pu (RD_move rfl) rfl ?_
  refine SR_pu (RD_move rfl) rfl ?_
  refine SR_call Try.call85 (.cons rfl (.cons rfl (.nil))) (CallsK.at (seal_has q s 1)) (lts rfl) ?_
  rintro _ L1 ⟨rfl, hL1⟩
  refine SR.lands hL1 ?_
  refine SR.op_vone (q := q) fun a c_ pa pc m => ?_
  refine SR_pu (RD_not rfl) rfl ?_
  refine SR_nil ?_
  refine SN.le (l := [(0, _), (1, _), (2, _), (10, _)]) ?_ (.cons rfl (.cons rfl (.cons rfl (.cons rfl (.nil)))))
  refine SN_seq ?_
  refine SC_cond_false rfl (rfl) ?_
  refine SC_skip ?_
  refine SN_seq ?_
  refine SC_seq ?_
  refine SC_region ?_
  refine SR_pu (RD_move rfl) rfl ?_
  first
    | refine SR_pu (RD_nilCheck rfl) rfl ?_
    | refine SR_pu (RD_nilCheckF rfl) rfl ?_
  first
    | refine SR_pu (RD_fieldAddr 1 Try.runUnderlying142 rfl rfl Try.sizeOf140 rfl) rfl ?_
    | refine SR_rd (RD_fieldAddrO 1 Try.runUnderlying142 rfl rfl Try.sizeOf140 rfl (by simp <;> omega)) Has.ro rfl ?_
  refine SR_rd (RD_load Try.isAgg140 rfl) (Has.ce rfl) rfl ?_
  refine SR_pu (RD_move rfl) rfl ?_
  refine SR_pu (RD_subi rfl rfl (by omega) (by omega)) rfl ?_
  refine SR_rd (RD_ixO (i := ((0 : Nat) : Int)) (cs := [.int .i64 s.label, .slice pa s.plain.length pc, .map (some m)]) Try.runUnderlying140 Try.sizeOf139 rfl (ev_i rfl rfl) rfl (by omega) (by omega)) Has.ro rfl ?_
  refine SR_rd (RD_fieldAddrO (cs := [.int .i64 s.label, .slice pa s.plain.length pc, .map (some m)]) 2 Try.runUnderlying139 rfl rfl Try.sizeOf25 rfl (by simp)) Has.ro rfl ?_
  refine SR_rd (RD_loadO (v := .map (some m)) (cs := [.int .i64 s.label, .slice pa s.plain.length pc, .map (some m)]) Try.isAgg25 rfl rfl) Has.ro rfl ?_
  refine SR_pu (RD_move rfl) rfl ?_
  refine SR_ox0 (OX_mu (K := intK) Try.underlying25 Try.underlying3 rfl rfl rfl) ?_
  rintro _ _ rfl
  refine SR_nil ?_
  refine SN.le (l := []) ?_ (.nil)
  refine SN_seq ?_
  refine SC_seq ?_
  refine SC_region ?_
  refine SR_pu (RD_assign rfl) rfl ?_
  refine SR_nil ?_
  refine SN.le (l := [(6, _)]) ?_ (.cons rfl (.nil))
  refine SN_seq ?_
  refine SC_ret1 rfl rfl ?_
  exact ⟨rfl, (close_vone (q := q) (s := ⟨s.need, s.label, s.plain, putW s.sh who⟩) rfl rfl rfl rfl rfl (mset_ws _ _)).trans .fin⟩

theorem seal_Shared {W : World} {F : List HProp} [Abs F] (q : Nat) (s : V1) (who : Int) :
    CallsK W Try.prog 57 #[.pointer (some ⟨q, 0, none⟩), .int .i64 who, .int .i64 1] (At voneI q s :: F) (fun v L => v = .bool (decide (who ∈ s.sh)) ∧ Lands L (At voneI q s :: F)) := by
  refine CallsK_enter (n := 24) Try.func57 rfl rfl rfl ?_
  refine SC_seq ?_
  refine SC_region ?_
  refine SR_pu (RD_assign rfl) rfl ?_
  refine SR_nil ?_
  refine SN.le (l := [(0, _), (1, _), (2, _)]) ?_ (.cons rfl (.cons rfl (.cons rfl (.nil))))
  refine SN_seq ?_
  refine SC_seq ?_
  refine SC_region ?_
  refine SR_pu (RD_move rfl) rfl ?_
  refine SR_pu (RD_move rfl) rfl ?_
  refine SR_call Try.call85 (.cons rfl (.cons rfl (.nil))) (CallsK.at (seal_has q s 1)) (lts rfl) ?_
  rintro _ L1 ⟨rfl, hL1⟩
  refine SR.lands hL1 ?_
  refine SR.op_vone (q := q) fun a c_ pa pc m => ?_
  refine SR_pu (RD_move rfl) rfl ?_
  refine SR_yes rfl rfl (by first | rfl | exact decide_eq_true (by omega) | exact decide_eq_false (by omega) | decide | (simp; done) | (simp; omega)) ?_
  refine SR_pu (RD_move rfl) rfl ?_
  refine SR_yes rfl rfl (by first | rfl | exact decide_eq_true (by omega) | exact decide_eq_false (by omega) | decide | (simp; done) | (simp; omega)) ?_
  first
    | refine SR_pu (RD_nilCheck rfl) rfl ?_
    | refine SR_pu (RD_nilCheckF rfl) rfl ?_
  refine SR_yes rfl rfl (by first | rfl | exact decide_eq_true (by omega) | exact decide_eq_false (by omega) | decide | (simp; done) | (simp; omega)) ?_
  first
    | refine SR_pu (RD_fieldAddr 1 Try.runUnderlying142 rfl rfl Try.sizeOf140 rfl) rfl ?_
    | refine SR_rd (RD_fieldAddrO 1 Try.runUnderlying142 rfl rfl Try.sizeOf140 rfl (by simp <;> omega)) Has.ro rfl ?_
  refine SR_yes rfl rfl (by first | rfl | exact decide_eq_true (by omega) | exact decide_eq_false (by omega) | decide | (simp; done) | (simp; omega)) ?_
  refine SR_rd (RD_load Try.isAgg140 rfl) (Has.ce rfl) rfl ?_
  refine SR_yes rfl rfl (by first | rfl | exact decide_eq_true (by omega) | exact decide_eq_false (by omega) | decide | (simp; done) | (simp; omega)) ?_
  refine SR_pu (RD_move rfl) rfl ?_
  refine SR_yes rfl rfl (by first | rfl | exact decide_eq_true (by omega) | exact decide_eq_false (by omega) | decide | (simp; done) | (simp; omega)) ?_
  refine SR_pu (RD_subi rfl rfl (by omega) (by omega)) rfl ?_
  refine SR_yes rfl rfl (by first | rfl | exact decide_eq_true (by omega) | exact decide_eq_false (by omega) | decide | (simp; done) | (simp; omega)) ?_
  refine SR_rd (RD_ixO (i := ((0 : Nat) : Int)) (cs := [.int .i64 s.label, .slice pa s.plain.length pc, .map (some m)]) Try.runUnderlying140 Try.sizeOf139 rfl (ev_i rfl rfl) rfl (by omega) (by omega)) Has.ro rfl ?_
  refine SR_yes rfl rfl (by first | rfl | exact decide_eq_true (by omega) | exact decide_eq_false (by omega) | decide | (simp; done) | (simp; omega)) ?_
  refine SR_rd (RD_fieldAddrO (cs := [.int .i64 s.label, .slice pa s.plain.length pc, .map (some m)]) 2 Try.runUnderlying139 rfl rfl Try.sizeOf25 rfl (by simp)) Has.ro rfl ?_
  refine SR_yes rfl rfl (by first | rfl | exact decide_eq_true (by omega) | exact decide_eq_false (by omega) | decide | (simp; done) | (simp; omega)) ?_
  refine SR_rd (RD_loadO (v := .map (some m)) (cs := [.int .i64 s.label, .slice pa s.plain.length pc, .map (some m)]) Try.isAgg25 rfl rfl) Has.ro rfl ?_
  refine SR_yes rfl rfl (by first | rfl | exact decide_eq_true (by omega) | exact decide_eq_false (by omega) | decide | (simp; done) | (simp; omega)) ?_
  refine SR_pu (RD_move rfl) rfl ?_
  refine SR_yes rfl rfl (by first | rfl | exact decide_eq_true (by omega) | exact decide_eq_false (by omega) | decide | (simp; done) | (simp; omega)) ?_
  refine SR_rd (RD_lookI (m := wsC s.sh) Try.underlying25 Try.underlying3 Try.zeroValue3 rfl rfl (or_ws s.sh who)) (Has.ma (K := intK)) rfl ?_
  refine SR_yes rfl rfl (by first | rfl | exact decide_eq_true (by omega) | exact decide_eq_false (by omega) | decide | (simp; done) | (simp; omega)) ?_
  refine SR_pu (RD_gtr rfl rfl) rfl ?_
  refine SR_pu (RD_pick_t rfl (by first | rfl | exact decide_eq_true (by omega) | exact decide_eq_false (by omega) | decide | (simp; done) | (simp; omega)) rfl) rfl ?_
  refine SR_pu (RD_assign rfl) rfl ?_
  refine SR_nil ?_
  refine SN.le (l := [(6, _)]) ?_ (.cons rfl (.nil))
  refine SN_seq ?_
  refine SC_ret1 rfl rfl ?_
  refine ⟨congrArg Value.bool ?_, ((close_vone (q := q) (s := s) rfl rfl rfl rfl rfl rfl).trans .fin)⟩
  unfold wsC
  rw [iget_ws]
  by_cases h : who ∈ s.sh <;> simp [h]

theorem seal_Len1 {W : World} {F : List HProp} [Abs F] (q : Nat) (s : V1) :
    CallsK W Try.prog 55 #[.pointer (some ⟨q, 0, none⟩)] (At voneI q s :: F) (fun v L => v = .int .i64 1 ∧ Lands L (At voneI q s :: F)) := by
  refine CallsK_enter (n := 8) Try.func55 rfl rfl rfl ?_
  refine SC_seq ?_
  refine SC_region ?_
  refine SR_pu (RD_assign rfl) rfl ?_
  refine SR_nil ?_
  refine SN.le (l := [(0, _)]) ?_ (.cons rfl (.nil))
  refine SN_seq ?_
  refine SC_seq ?_
  refine SC.op_vone (q := q) fun a c_ pa pc m => ?_
  refine SC_region ?_
  refine SR_pu (RD_move rfl) rfl ?_
  first
    | refine SR_pu (RD_nilCheck rfl) rfl ?_
    | refine SR_pu (RD_nilCheckF rfl) rfl ?_
  first
    | refine SR_pu (RD_fieldAddr 1 Try.runUnderlying142 rfl rfl Try.sizeOf140 rfl) rfl ?_
    | refine SR_rd (RD_fieldAddrO 1 Try.runUnderlying142 rfl rfl Try.sizeOf140 rfl (by simp <;> omega)) Has.ro rfl ?_
  refine SR_rd (RD_load Try.isAgg140 rfl) (Has.ce rfl) rfl ?_
  refine SR_pu (RD_len Try.runUnderlying140 rfl) rfl ?_
  refine SR_pu (RD_assign rfl) rfl ?_
  refine SR_nil ?_
  refine SN.le (l := [(2, _)]) ?_ (.cons rfl (.nil))
  refine SN_seq ?_
  refine SC_ret1 rfl rfl ?_
  exact ⟨rfl, ((close_vone (q := q) (s := s) rfl rfl rfl rfl rfl rfl).trans .fin)⟩

theorem seal_Open_no {W : World} {F : List HProp} [Abs F] (q : Nat) (s : V1) (lb c : Int) (hc : s.enough c = true) (hlb : ¬ s.label = lb) :
    CallsK W Try.prog 87 #[.pointer (some ⟨q, 0, none⟩), .int .i64 lb, .int .i64 1] (At voneI q s :: F) (fun v L => v = .tuple #[.slice none 0 0, .bool false] ∧ Lands L (At voneI q s :: F)) := by
  refine CallsK_enter (n := 35) Try.func87 rfl rfl rfl ?_
  have hc1 : c = 1 := by unfold V1.enough at hc; simp at hc; exact hc.1
  subst hc1
  refine SC_seq ?_
  refine SC_region ?_
  refine SR_pu (RD_assign rfl) rfl ?_
  refine SR_pu (RD_assign rfl) rfl ?_
  refine SR_nil ?_
  refine SN.le (l := [(0, _), (1, _), (2, _)]) ?_ (.cons rfl (.cons rfl (.cons rfl (.nil))))
  refine SN_seq ?_
  refine SC_seq ?_
  refine SC_seq ?_
  refine SC_region ?_
  refine SR_pu (RD_move rfl) rfl ?_
  refine SR_pu (RD_move rfl) rfl ?_
  refine SR_call Try.call86 (.cons rfl (.cons rfl (.nil))) (CallsK.at (seal_Enough q s 1)) (lts rfl) ?_
  rintro _ L1 ⟨rfl, hL1⟩
  rw [hc]
  refine SR.lands hL1 ?_
  refine SR.op_vone (q := q) fun a c_ pa pc m => ?_
  refine SR_pu (RD_not rfl) rfl ?_
  refine SR_pu (RD_move rfl) rfl ?_
  refine SR_yes rfl rfl (rfl) ?_
  refine SR_pu (RD_move rfl) rfl ?_
  refine SR_yes rfl rfl (rfl) ?_
  first
    | refine SR_pu (RD_nilCheck rfl) rfl ?_
    | refine SR_pu (RD_nilCheckF rfl) rfl ?_
  refine SR_yes rfl rfl (rfl) ?_
  first
    | refine SR_pu (RD_fieldAddr 1 Try.runUnderlying142 rfl rfl Try.sizeOf140 rfl) rfl ?_
    | refine SR_rd (RD_fieldAddrO 1 Try.runUnderlying142 rfl rfl Try.sizeOf140 rfl (by simp <;> omega)) Has.ro rfl ?_
  refine SR_yes rfl rfl (rfl) ?_
  refine SR_rd (RD_load Try.isAgg140 rfl) (Has.ce rfl) rfl ?_
  refine SR_yes rfl rfl (rfl) ?_
  refine SR_pu (RD_move rfl) rfl ?_
  refine SR_yes rfl rfl (rfl) ?_
  refine SR_pu (RD_subi rfl rfl (by omega) (by omega)) rfl ?_
  refine SR_yes rfl rfl (rfl) ?_
  refine SR_rd (RD_ixO (i := ((0 : Nat) : Int)) (cs := [.int .i64 s.label, .slice pa s.plain.length pc, .map (some m)]) Try.runUnderlying140 Try.sizeOf139 rfl (ev_i rfl rfl) rfl (by omega) (by omega)) Has.ro rfl ?_
  refine SR_yes rfl rfl (rfl) ?_
  refine SR_rd (RD_fieldAddrO (cs := [.int .i64 s.label, .slice pa s.plain.length pc, .map (some m)]) 0 Try.runUnderlying139 rfl rfl Try.sizeOf3 rfl (by simp)) Has.ro rfl ?_
  refine SR_yes rfl rfl (rfl) ?_
  refine SR_rd (RD_loadO (v := .int .i64 s.label) (cs := [.int .i64 s.label, .slice pa s.plain.length pc, .map (some m)]) Try.isAgg3 rfl rfl) Has.ro rfl ?_
  refine SR_yes rfl rfl (rfl) ?_
  refine SR_pu (RD_move rfl) rfl ?_
  refine SR_yes rfl rfl (rfl) ?_
  refine SR_pu (RD_neq rfl rfl) rfl ?_
  refine SR_pu (RD_pick_f rfl (rfl) rfl) rfl ?_
  refine SR_nil ?_
  refine SN.le (l := [(0, _), (2, _), (24, _)]) ?_ (.cons rfl (.cons rfl (.cons rfl (.nil))))
  refine SN_seq ?_
  refine SC_cond_true rfl (by simp [hlb]) ?_
  refine SC_seq ?_
  refine SC_region ?_
  refine SR_pu (RD_assign rfl) rfl ?_
  refine SR_pu (RD_assign rfl) rfl ?_
  refine SR_nil ?_
  refine SN.le (l := [(6, _), (7, _)]) ?_ (.cons rfl (.cons rfl (.nil)))
  refine SN_seq ?_
  refine SC_ret2 rfl rfl rfl ?_
  exact ⟨rfl, ((close_vone (q := q) (s := s) rfl rfl rfl rfl rfl rfl).trans .fin)⟩

theorem seal_Open_yes {W : World} {F : List HProp} [Abs F] (q : Nat) (s : V1) (hb : s.plain.length ≤ 1000000) (hc : s.enough 1 = true) :
    CallsK W Try.prog 87 #[.pointer (some ⟨q, 0, none⟩), .int .i64 s.label, .int .i64 1] (At voneI q s :: F) (fun v L => ∃ a c, v = .tuple #[.slice a s.plain.length c, .bool true] ∧ Lands L (rowP 5 1 a s.plain.length c (s.plain.map byteV) :: At voneI q s :: F)) := by
  refine CallsK_enter (n := 35) Try.func87 rfl rfl rfl ?_
  refine SC_seq ?_
  refine SC_region ?_
  refine SR_pu (RD_assign rfl) rfl ?_
  refine SR_pu (RD_assign rfl) rfl ?_
  refine SR_nil ?_
  refine SN.le (l := [(0, _), (1, _), (2, _)]) ?_ (.cons rfl (.cons rfl (.cons rfl (.nil))))
  refine SN_seq ?_
  refine SC_seq ?_
  refine SC_seq ?_
  refine SC_region ?_
  refine SR_pu (RD_move rfl) rfl ?_
  refine SR_pu (RD_move rfl) rfl ?_
  refine SR_call Try.call86 (.cons rfl (.cons rfl (.nil))) (CallsK.at (seal_Enough q s 1)) (lts rfl) ?_
  rintro _ L1 ⟨rfl, hL1⟩
  rw [hc]
  refine SR.lands hL1 ?_
  refine SR.op_vone (q := q) fun a c_ pa pc m => ?_
  refine SR_pu (RD_not rfl) rfl ?_
  refine SR_pu (RD_move rfl) rfl ?_
  refine SR_yes rfl rfl (rfl) ?_
  refine SR_pu (RD_move rfl) rfl ?_
  refine SR_yes rfl rfl (rfl) ?_
  first
    | refine SR_pu (RD_nilCheck rfl) rfl ?_
    | refine SR_pu (RD_nilCheckF rfl) rfl ?_
  refine SR_yes rfl rfl (rfl) ?_
  first
    | refine SR_pu (RD_fieldAddr 1 Try.runUnderlying142 rfl rfl Try.sizeOf140 rfl) rfl ?_
    | refine SR_rd (RD_fieldAddrO 1 Try.runUnderlying142 rfl rfl Try.sizeOf140 rfl (by simp <;> omega)) Has.ro rfl ?_
  refine SR_yes rfl rfl (rfl) ?_
  refine SR_rd (RD_load Try.isAgg140 rfl) (Has.ce rfl) rfl ?_
  refine SR_yes rfl rfl (rfl) ?_
  refine SR_pu (RD_move rfl) rfl ?_
  refine SR_yes rfl rfl (rfl) ?_
  refine SR_pu (RD_subi rfl rfl (by omega) (by omega)) rfl ?_
  refine SR_yes rfl rfl (rfl) ?_
  refine SR_rd (RD_ixO (i := ((0 : Nat) : Int)) (cs := [.int .i64 s.label, .slice pa s.plain.length pc, .map (some m)]) Try.runUnderlying140 Try.sizeOf139 rfl (ev_i rfl rfl) rfl (by omega) (by omega)) Has.ro rfl ?_
  refine SR_yes rfl rfl (rfl) ?_
  refine SR_rd (RD_fieldAddrO (cs := [.int .i64 s.label, .slice pa s.plain.length pc, .map (some m)]) 0 Try.runUnderlying139 rfl rfl Try.sizeOf3 rfl (by simp)) Has.ro rfl ?_
  refine SR_yes rfl rfl (rfl) ?_
  refine SR_rd (RD_loadO (v := .int .i64 s.label) (cs := [.int .i64 s.label, .slice pa s.plain.length pc, .map (some m)]) Try.isAgg3 rfl rfl) Has.ro rfl ?_
  refine SR_yes rfl rfl (rfl) ?_
  refine SR_pu (RD_move rfl) rfl ?_
  refine SR_yes rfl rfl (rfl) ?_
  refine SR_pu (RD_neq rfl rfl) rfl ?_
  refine SR_pu (RD_pick_f rfl (rfl) rfl) rfl ?_
  refine SR_nil ?_
  refine SN.le (l := [(0, _), (2, _), (24, _)]) ?_ (.cons rfl (.cons rfl (.cons rfl (.nil))))
  refine SN_seq ?_
  refine SC_cond_false rfl (by simp) ?_
  refine SC_skip ?_
  refine SN_seq ?_
  refine SC_seq ?_
  refine SC_region ?_
  refine SR_pu (RD_move rfl) rfl ?_
  first
    | refine SR_pu (RD_nilCheck rfl) rfl ?_
    | refine SR_pu (RD_nilCheckF rfl) rfl ?_
  first
    | refine SR_pu (RD_fieldAddr 1 Try.runUnderlying142 rfl rfl Try.sizeOf140 rfl) rfl ?_
    | refine SR_rd (RD_fieldAddrO 1 Try.runUnderlying142 rfl rfl Try.sizeOf140 rfl (by simp <;> omega)) Has.ro rfl ?_
  refine SR_rd (RD_load Try.isAgg140 rfl) (Has.ce rfl) rfl ?_
  refine SR_pu (RD_move rfl) rfl ?_
  refine SR_pu (RD_subi rfl rfl (by omega) (by omega)) rfl ?_
  refine SR_rd (RD_ixO (i := ((0 : Nat) : Int)) (cs := [.int .i64 s.label, .slice pa s.plain.length pc, .map (some m)]) Try.runUnderlying140 Try.sizeOf139 rfl (ev_i rfl rfl) rfl (by omega) (by omega)) Has.ro rfl ?_
  refine SR_rd (RD_fieldAddrO (cs := [.int .i64 s.label, .slice pa s.plain.length pc, .map (some m)]) 1 Try.runUnderlying139 rfl rfl Try.sizeOf53 rfl (by simp)) Has.ro rfl ?_
  refine SR_rd (RD_loadO (v := .slice pa s.plain.length pc) (cs := [.int .i64 s.label, .slice pa s.plain.length pc, .map (some m)]) Try.isAgg53 rfl rfl) Has.ro rfl ?_
  refine SR_call Try.call93 (.cons rfl (.nil)) (clone_bytes (s.plain.map byteV) pa s.plain.length pc (by simp) (by omega)) (lts rfl) ?_
  rintro _ L2 ⟨oa, oc, rfl, hL2⟩
  refine SR.lands hL2 ?_
  refine SR_pu (RD_assign rfl) rfl ?_
  refine SR_pu (RD_assign rfl) rfl ?_
  refine SR_nil ?_
  refine SN.le (l := [(6, _), (7, _)]) ?_ (.cons rfl (.cons rfl (.nil)))
  refine SN_seq ?_
  refine SC_ret2 rfl rfl rfl ?_
  exact ⟨oa, oc, rfl, ((close_vone (q := q) (s := s) rfl rfl rfl rfl rfl rfl).trans .fin)⟩

theorem seal_Seal1 {W : World} {F : List HProp} [Abs F] (q : Nat) (need lb : Int) (a0 : Option Addr) (n0 c0 : Nat) (bs : List UInt8) [HasRow F a0 (bs.map byteV)] (h0 : bs.length = n0) (hb : n0 ≤ 1000000) :
    CallsK W Try.prog 76 #[.pointer (some ⟨q, 0, none⟩), .int .i64 lb, .slice a0 n0 c0] (pt q (.cells [.int .i64 need, .slice none 0 0].toArray 142) :: F) (fun v L => v = .int .i64 1 ∧ Lands L (At voneI q ⟨need, lb, bs, []⟩ :: F)) := by
  refine CallsK_enter (n := 26) Try.func76 rfl rfl rfl ?_
  refine SC_seq ?_
  refine SC_region ?_
  refine SR_pu (RD_assign rfl) rfl ?_
  refine SR_nil ?_
  refine SN.le (l := [(0, _), (1, _), (2, _)]) ?_ (.cons rfl (.cons rfl (.cons rfl (.nil))))
  refine SN_seq ?_
  refine SC_seq ?_
  refine SC.lands (row_new 139 3 none) ?_
  refine SC_drawn (.cons 0 true (.cons 1 true (.cons 2 true (.cons 3 true (.cons 4 true (.cons 5 true (.cons 6 true (.alts [7, 8] (fun i => bif Nat.beq i 7 then (.cons 8 false (.cons 9 true (.cons 10 false (.cons 11 false (.cons 12 true (.cons 13 true (.cons 14 false (.nil)))))))) else (.cons 7 false (.cons 9 true (.cons 10 false (.cons 11 false (.cons 12 true (.cons 13 true (.cons 14 false (.nil))))))))))))))))) (by kernel_rfl) (by kernel_rfl) ?_
  refine SQ_pu rfl (RD_move rfl) rfl ?_
  refine SQ_pu rfl (RD_move rfl) rfl ?_
  first
    | refine SQ_pu rfl (RD_nilCheck rfl) rfl ?_
    | refine SQ_pu rfl (RD_nilCheckF rfl) rfl ?_
  first
    | refine SQ_pu rfl (RD_fieldAddr 1 Try.runUnderlying142 rfl rfl Try.sizeOf140 rfl) rfl ?_
    | refine SQ_rd rfl (RD_fieldAddrO 1 Try.runUnderlying142 rfl rfl Try.sizeOf140 rfl (by simp <;> omega)) Has.ro rfl ?_
  refine SQ_rd rfl (RD_load Try.isAgg140 rfl) (Has.ce rfl) rfl ?_
  refine SQ_pu rfl (RD_move rfl) rfl ?_
  refine SQ_pu rfl (RD_move rfl) rfl ?_
  refine SQ_two ?_ ?_
  · refine SA_call rfl .free Try.call93 (.cons rfl (.nil)) (clone_bytes (bs.map byteV) a0 n0 c0 (by simpa using h0) (by omega)) (lts rfl) ?_
    rintro _ L1 ⟨a14, c14, rfl, hL1⟩
    refine ⟨.lands hL1 (.h (Has.ce rfl) (.nil)), ?_⟩
    refine SQ.lands hL1 ?_
    refine SQ_ox rfl (OX_mk intK) rfl ?_
    rintro _ _ ⟨b15, rfl, rfl⟩
    refine ⟨.h (Has.ce rfl) (.nil), ?_⟩
    refine SQ_pu rfl (RD_build (.cons rfl (.cons rfl (.cons rfl (.nil)))) built139_0_1_2) rfl ?_
    refine SQ_ox rfl (OX_lit Try.underlying140 Try.type139 rfl rfl rfl rfl (.cons rfl (.nil)) (.cons rfl rfl (.nil))) rfl ?_
    rintro _ _ ⟨b17, rfl, rfl⟩
    refine ⟨.h (Has.ce rfl) (.nil), ?_⟩
    refine SQ_ox rfl (OX_app 3 Try.underlying140 Try.underlying140 Try.type139 rfl rfl rfl rfl rfl (by first | rfl | simp; done | (simp; omega)) 40 rfl (by omega) (by omega)) rfl ?_
    rintro _ _ ⟨a18, c18, rfl, rfl⟩
    refine ⟨.w rfl (.nil), ?_⟩
    first
      | refine SQ_pu rfl (RD_nilCheck rfl) rfl ?_
      | refine SQ_pu rfl (RD_nilCheckF rfl) rfl ?_
    first
      | refine SQ_pu rfl (RD_fieldAddr 1 Try.runUnderlying142 rfl rfl Try.sizeOf140 rfl) rfl ?_
      | refine SQ_rd rfl (RD_fieldAddrO 1 Try.runUnderlying142 rfl rfl Try.sizeOf140 rfl (by simp <;> omega)) Has.ro rfl ?_
    refine SQ_ox0 rfl (OX_st Try.sizeOf140 rfl rfl) ?_
    rintro _ _ rfl
    refine ⟨.w rfl (.nil), ?_⟩
    refine SQ_nil ?_
    refine SN.le (l := [(0, _)]) ?_ (.cons rfl (.nil))
    refine SN_seq ?_
    refine SC_seq ?_
    refine SC_region ?_
    refine SR_pu (RD_move rfl) rfl ?_
    first
      | refine SR_pu (RD_nilCheck rfl) rfl ?_
      | refine SR_pu (RD_nilCheckF rfl) rfl ?_
    first
      | refine SR_pu (RD_fieldAddr 1 Try.runUnderlying142 rfl rfl Try.sizeOf140 rfl) rfl ?_
      | refine SR_rd (RD_fieldAddrO 1 Try.runUnderlying142 rfl rfl Try.sizeOf140 rfl (by simp <;> omega)) Has.ro rfl ?_
    refine SR_rd (RD_load Try.isAgg140 rfl) (Has.ce rfl) rfl ?_
    refine SR_pu (RD_len Try.runUnderlying140 rfl) rfl ?_
    refine SR_pu (RD_assign rfl) rfl ?_
    refine SR_nil ?_
    refine SN.le (l := [(6, _)]) ?_ (.cons rfl (.nil))
    refine SN_seq ?_
    refine SC_ret1 rfl rfl ?_
    exact ⟨rfl, (close_vone (q := q) (s := ⟨need, lb, bs, []⟩) rfl rfl rfl h0 rfl rfl).trans .fin⟩
  · refine SA_ox rfl .free (OX_mk intK) rfl ?_
    rintro _ _ ⟨b15, rfl, rfl⟩
    refine ⟨.h (Has.ce rfl) (.nil), ?_⟩
    refine SQ_call rfl Try.call93 (.cons rfl (.nil)) (clone_bytes (bs.map byteV) a0 n0 c0 (by simpa using h0) (by omega)) (lts rfl) ?_
    rintro _ L1 ⟨a14, c14, rfl, hL1⟩
    refine ⟨.lands hL1 (.h (Has.ce rfl) (.nil)), ?_⟩
    refine SQ.lands hL1 ?_
    refine SQ_pu rfl (RD_build (.cons rfl (.cons rfl (.cons rfl (.nil)))) built139_0_1_2) rfl ?_
    refine SQ_ox rfl (OX_lit Try.underlying140 Try.type139 rfl rfl rfl rfl (.cons rfl (.nil)) (.cons rfl rfl (.nil))) rfl ?_
    rintro _ _ ⟨b17, rfl, rfl⟩
    refine ⟨.h (Has.ce rfl) (.nil), ?_⟩
    refine SQ_ox rfl (OX_app 3 Try.underlying140 Try.underlying140 Try.type139 rfl rfl rfl rfl rfl (by first | rfl | simp; done | (simp; omega)) 40 rfl (by omega) (by omega)) rfl ?_
    rintro _ _ ⟨a18, c18, rfl, rfl⟩
    refine ⟨.w rfl (.nil), ?_⟩
    first
      | refine SQ_pu rfl (RD_nilCheck rfl) rfl ?_
      | refine SQ_pu rfl (RD_nilCheckF rfl) rfl ?_
    first
      | refine SQ_pu rfl (RD_fieldAddr 1 Try.runUnderlying142 rfl rfl Try.sizeOf140 rfl) rfl ?_
      | refine SQ_rd rfl (RD_fieldAddrO 1 Try.runUnderlying142 rfl rfl Try.sizeOf140 rfl (by simp <;> omega)) Has.ro rfl ?_
    refine SQ_ox0 rfl (OX_st Try.sizeOf140 rfl rfl) ?_
    rintro _ _ rfl
    refine ⟨.w rfl (.nil), ?_⟩
    refine SQ_nil ?_
    refine SN.le (l := [(0, _)]) ?_ (.cons rfl (.nil))
    refine SN_seq ?_
    refine SC_seq ?_
    refine SC_region ?_
    refine SR_pu (RD_move rfl) rfl ?_
    first
      | refine SR_pu (RD_nilCheck rfl) rfl ?_
      | refine SR_pu (RD_nilCheckF rfl) rfl ?_
    first
      | refine SR_pu (RD_fieldAddr 1 Try.runUnderlying142 rfl rfl Try.sizeOf140 rfl) rfl ?_
      | refine SR_rd (RD_fieldAddrO 1 Try.runUnderlying142 rfl rfl Try.sizeOf140 rfl (by simp <;> omega)) Has.ro rfl ?_
    refine SR_rd (RD_load Try.isAgg140 rfl) (Has.ce rfl) rfl ?_
    refine SR_pu (RD_len Try.runUnderlying140 rfl) rfl ?_
    refine SR_pu (RD_assign rfl) rfl ?_
    refine SR_nil ?_
    refine SN.le (l := [(6, _)]) ?_ (.cons rfl (.nil))
    refine SN_seq ?_
    refine SC_ret1 rfl rfl ?_
    exact ⟨rfl, (close_vone (q := q) (s := ⟨need, lb, bs, []⟩) rfl rfl rfl h0 rfl rfl).trans .fin⟩

theorem w_Make1 {W : World} {F : List HProp} [Abs F] (k : WK) (s : WS) (need : Int) (cl nc fe : Int) (hc : 0 ≤ cl ∧ cl ≤ 999) (h1 : 0 ≤ nc ∧ nc < 18446744073709551616) (h2 : 0 ≤ fe ∧ fe < 18446744073709551616) (a0 : Option Addr) (n0 c0 : Nat) (bs : List UInt8) {cs0 : List Value} [HasRow F a0 cs0] (hcs : cs0 = bs.map byteV) (h0 : bs.length = n0) (hb : n0 ≤ 1000000) (hl : s.l.length ≤ 1000000000) :
    CallsK W Try.prog 35 #[.pointer (some ⟨k.p, 0, none⟩), .int .i64 cl, .int .u64 nc, .int .u64 fe, .slice a0 n0 c0] (At worldI k s :: pt k.v (.cells [.int .i64 need, .slice none 0 0].toArray 142) :: F) (fun v L => v = (EnvD.mk cl nc fe 1).val ∧ Lands L (At worldI k ⟨dput s.l (envB ⟨cl, nc, fe, 1⟩), (addTo s.S (1000 + cl) (dnum (dput s.l (envB ⟨cl, nc, fe, 1⟩)) (envB ⟨cl, nc, fe, 1⟩) : Nat))⟩ :: At voneI k.v ⟨need, cl, bs, []⟩ :: F)) := by
  refine CallsK_enter (n := 41) Try.func35 rfl rfl rfl ?_
  subst hcs
  refine SC_seq ?_
  refine SC_region ?_
  refine SR_ox (OX_alloc Try.zeroValue39 rfl) rfl ?_
  rintro _ _ ⟨b10, rfl, rfl⟩
  refine SR_nil ?_
  refine SN.le (l := [(0, _), (1, _), (2, _), (3, _), (4, _), (10, _)]) ?_ (.cons rfl (.cons rfl (.cons rfl (.cons rfl (.cons rfl (.cons rfl (.nil)))))))
  refine SN_seq ?_
  refine SC_seq ?_
  refine SC_seq ?_
  refine SC_region ?_
  refine SR_pu (RD_move rfl) rfl ?_
  refine SR_pu (RD_lss rfl rfl) rfl ?_
  refine SR_pu (RD_move rfl) rfl ?_
  refine SR_yes rfl rfl (decide_eq_false (by omega)) ?_
  refine SR_pu (RD_move rfl) rfl ?_
  refine SR_yes rfl rfl (decide_eq_false (by omega)) ?_
  refine SR_pu (RD_gtr rfl rfl) rfl ?_
  refine SR_pu (RD_pick_f rfl (decide_eq_false (by omega)) rfl) rfl ?_
  refine SR_nil ?_
  refine SN.le (l := [(0, _), (1, _), (2, _), (3, _), (4, _), (10, _), (17, _)]) ?_ (.cons rfl (.cons rfl (.cons rfl (.cons rfl (.cons rfl (.cons rfl (.cons rfl (.nil))))))))
  refine SN_seq ?_
  refine SC_cond_false rfl (decide_eq_false (by omega)) ?_
  refine SC_skip ?_
  refine SN_seq ?_
  refine SC_seq ?_
  refine SC.lands (Lands.op_world (k := k) (s := s)) ?_
  refine SC_region ?_
  refine SR_pu (RD_move rfl) rfl ?_
  refine SR_pu (RD_move rfl) rfl ?_
  refine SR_pu (RD_move rfl) rfl ?_
  refine SR_pu (RD_move rfl) rfl ?_
  first
    | refine SR_pu (RD_nilCheck rfl) rfl ?_
    | refine SR_pu (RD_nilCheckF rfl) rfl ?_
  first
    | refine SR_pu (RD_fieldAddr 2 Try.runUnderlying102 rfl rfl Try.sizeOf83 rfl) rfl ?_
    | refine SR_rd (RD_fieldAddrO 2 Try.runUnderlying102 rfl rfl Try.sizeOf83 rfl (by simp <;> omega)) Has.ro rfl ?_
  refine SR_rd (RD_load Try.isAgg83 rfl) (Has.ce rfl) rfl ?_
  refine SR_pu (RD_move rfl) rfl ?_
  refine SR_pu (RD_move rfl) rfl ?_
  refine SR_call Try.call76 (.cons rfl (.cons rfl (.cons rfl (.nil)))) (CallsK.atPt (seal_Seal1 k.v need cl a0 n0 c0 bs h0 hb)) (lts rfl) ?_
  rintro _ L1 ⟨rfl, hL1⟩
  refine SR.lands hL1 ?_
  refine SR_pu (RD_build (.cons rfl (.cons rfl (.cons rfl (.cons rfl (.nil))))) built39_0_1_2_3) rfl ?_
  refine SR_ox (OX_alloc Try.zeroValue39 rfl) rfl ?_
  rintro _ _ ⟨b11, rfl, rfl⟩
  refine SR_ox0 (OX_stA (vs := EnvD.cells ⟨cl, nc, fe, 1⟩) Try.sizeOf39 rfl rfl rfl rfl) ?_
  rintro _ _ rfl
  refine SR_nil ?_
  refine SN.le (l := [(0, _), (1, _), (10, _), (11, _)]) ?_ (.cons rfl (.cons rfl (.cons rfl (.cons rfl (.nil)))))
  refine SN_seq ?_
  refine SC_seq ?_
  
  refine SC_drawn (.cons 0 true (.cons 1 true (.cons 2 true (.cons 3 true (.cons 4 true (.cons 5 true (.cons 6 true (.cons 7 true (.cons 8 false (.cons 9 false (.nil))))))))))) (by kernel_rfl) (by kernel_rfl) ?_
  refine SQ_pu rfl (RD_move rfl) rfl ?_
  first
    | refine SQ_pu rfl (RD_nilCheck rfl) rfl ?_
    | refine SQ_pu rfl (RD_nilCheckF rfl) rfl ?_
  first
    | refine SQ_pu rfl (RD_fieldAddr 1 Try.runUnderlying102 rfl rfl Try.sizeOf47 rfl) rfl ?_
    | refine SQ_rd rfl (RD_fieldAddrO 1 Try.runUnderlying102 rfl rfl Try.sizeOf47 rfl (by simp <;> omega)) Has.ro rfl ?_
  refine SQ_rd rfl (RD_load Try.isAgg47 rfl) (Has.ce rfl) rfl ?_
  refine SQ_pu rfl (RD_move rfl) rfl ?_
  refine SQ_pu rfl (RD_addi rfl rfl (by omega) (by omega)) rfl ?_
  refine SQ_pu rfl (RD_move rfl) rfl ?_
  refine SQ_rd rfl (RD_loadA Try.isAgg39 Try.sizeOf39 rfl rfl) Has.wh rfl ?_
  refine SQ_call rfl Try.call29 (.cons rfl (.cons rfl (.nil))) (CallsK.lands ((close_world (k := k) (l := s.l) (S := s.S)).trans .fin : Lands _ (At worldI k s :: pt b11 (.cells (EnvD.cells ⟨cl, nc, fe, 1⟩).toArray 39) :: pt b10 (.cells [.int .i64 0, .int .u64 0, .int .u64 0, .int .i64 0].toArray 39) :: At voneI k.v ⟨need, cl, bs, []⟩ :: F)) (w_EnvDigest k s ⟨cl, nc, fe, 1⟩ ⟨h1, h2⟩ hl _ _ rfl rfl)) (lts rfl) ?_
  rintro _ L2 ⟨rfl, hL2⟩
  have hL2b := hL2.trans open_world
  dsimp only at hL2b
  refine ⟨.lands hL2b (.w rfl (.h (Has.ce rfl) (.nil))), ?_⟩
  refine SQ.lands hL2b ?_
  refine SQ_call rfl Try.call51 (.cons rfl (.cons rfl (.cons rfl (.nil)))) (CallsK.at (book_Sign k.b s.S (1000 + cl) _)) (lts rfl) ?_
  rintro _ L3 ⟨rfl, hL3⟩
  refine ⟨.lands hL3 (.h Has.wh (.w rfl (.nil))), ?_⟩
  refine SQ.lands hL3 ?_
  refine SQ_nil ?_
  refine SN.le (l := [(10, _), (11, _)]) ?_ (.cons rfl (.cons rfl (.nil)))
  refine SN_seq ?_
  refine SC_seq ?_
  refine SC_region ?_
  refine SR_rd (RD_loadA Try.isAgg39 Try.sizeOf39 rfl rfl) Has.wh rfl ?_
  refine SR_ox0 (OX_stA (vs := EnvD.cells ⟨cl, nc, fe, 1⟩) Try.sizeOf39 rfl rfl rfl rfl) ?_
  rintro _ _ rfl
  refine SR_nil ?_
  refine SN.le (l := [(10, _)]) ?_ (.cons rfl (.nil))
  refine SN_seq ?_
  refine SC_retC rfl Try.isAgg39 Try.sizeOf39 rfl rfl Has.wh ?_
  exact ⟨rfl, (close_world (k := k)).trans .fin⟩

theorem w_Vault {W : World} {F : List HProp} [Abs F] (k : WK) (s : WS) :
    CallsK W Try.prog 49 #[.pointer (some ⟨k.p, 0, none⟩)] (At worldI k s :: F) (fun v L => v = .pointer (some ⟨k.v, 0, none⟩) ∧ Lands L (At worldI k s :: F)) := by
  refine CallsK_enter (n := 7) Try.func49 rfl rfl rfl ?_
  refine SC_seq ?_
  refine SC_region ?_
  refine SR_pu (RD_assign rfl) rfl ?_
  refine SR_nil ?_
  refine SN.le (l := [(0, _)]) ?_ (.cons rfl (.nil))
  refine SN_seq ?_
  refine SC_seq ?_
  refine SC.lands (Lands.op_world (k := k) (s := s)) ?_
  refine SC_region ?_
  refine SR_pu (RD_move rfl) rfl ?_
  first
    | refine SR_pu (RD_nilCheck rfl) rfl ?_
    | refine SR_pu (RD_nilCheckF rfl) rfl ?_
  first
    | refine SR_pu (RD_fieldAddr 2 Try.runUnderlying102 rfl rfl Try.sizeOf83 rfl) rfl ?_
    | refine SR_rd (RD_fieldAddrO 2 Try.runUnderlying102 rfl rfl Try.sizeOf83 rfl (by simp <;> omega)) Has.ro rfl ?_
  refine SR_rd (RD_load Try.isAgg83 rfl) (Has.ce rfl) rfl ?_
  refine SR_pu (RD_assign rfl) rfl ?_
  refine SR_nil ?_
  refine SN.le (l := [(2, _)]) ?_ (.cons rfl (.nil))
  refine SN_seq ?_
  refine SC_ret1 rfl rfl ?_
  exact ⟨rfl, (close_world (k := k) (l := s.l) (S := s.S)).trans .fin⟩

end Go.Proofs.Ytnifaajdiolbjaa
