/- What one may vote for: the object and its functions. -/
import Derived.Test.YtmigjpmadhebfaaTr6
namespace Go.Proofs.Ytmigjpmadhebfaa
open Go Go.Proofs
set_option maxRecDepth 100000
theorem OX_stAo {W : World} {P : Program} {l : Env} {L R : List HProp} {ty : TypeId} {x y : Operand} {t b off m : Nat} {cs vs cs' : List Value} {T : TypeId} (hz : ∀ w, (sizeOf t).run P w = .ok m w) (hx : ev l x = some (.pointer (some ⟨b, off, none⟩))) (hy : ev l y = some (.agg vs.toArray)) [ho : Ones vs] [tp : TakePt L b (.cells cs.toArray T) R]
    (hm : vs.length = m) (hc : off + m ≤ cs.length) (he : setL cs off vs = cs') : OX W P l L (.store t x y) ty (fun _ L' => L' = pt b (.cells cs'.toArray T) :: R) :=
  (OX.lands (fun m => Den_perm tp.perm m) (OX_storeA hz hm hx hy (fun v hv => (ho.h v hv)) (by omega))).imp fun _ _ e => by rw [e, he]
structure SS where
  t : Nat
  hv : Int
  hb : Int
  lock : Int
  last : Int
def safeI (p : Nat) (s : SS) : HProp := fun h => ∃ a c, Den [pt p (.cells [.pointer (some ⟨s.t, 0, none⟩), .int .i64 s.hv, .int .i64 s.hb, .slice a 0 c, .int .i64 s.lock, .int .i64 s.last].toArray 114), rowP 3 1 a 0 c []] h

theorem open_safe {p : Nat} {s : SS} : Opens safeI p s (fun x : (Option Addr) × (Nat) => True) (fun x R => (pt p (.cells [.pointer (some ⟨s.t, 0, none⟩), .int .i64 s.hv, .int .i64 s.hb, .slice x.1 0 x.2, .int .i64 s.lock, .int .i64 s.last].toArray 114)) :: (rowP 3 1 x.1 0 x.2 []) :: R) := by
  rintro R m_ ⟨m1, m2, d, e, ⟨a, c, h⟩, r⟩
  exact ⟨(a, c), trivial, Den_app d e h r⟩
theorem SC.op_safe {W : World} {P : Program} {L R : List HProp} {n_ : Nat} {c_ : Code} {k_ : Kont} {l_ : Env} {p : Nat} {s : SS} [t_ : TakeAt L safeI p s R] (h_ : ∀ (a : Option Addr) (c : Nat), SC W P n_ c_ k_ l_ ((pt p (.cells [.pointer (some ⟨s.t, 0, none⟩), .int .i64 s.hv, .int .i64 s.hb, .slice a 0 c, .int .i64 s.lock, .int .i64 s.last].toArray 114)) :: (rowP 3 1 a 0 c []) :: R)) : SC W P n_ c_ k_ l_ L := SC.opn (open_safe) fun x hx => h_ x.1 x.2 
theorem SN.op_safe {W : World} {P : Program} {L R : List HProp} {n_ : Nat} {k_ : Kont} {l_ : Env} {p : Nat} {s : SS} [t_ : TakeAt L safeI p s R] (h_ : ∀ (a : Option Addr) (c : Nat), SN W P n_ k_ l_ ((pt p (.cells [.pointer (some ⟨s.t, 0, none⟩), .int .i64 s.hv, .int .i64 s.hb, .slice a 0 c, .int .i64 s.lock, .int .i64 s.last].toArray 114)) :: (rowP 3 1 a 0 c []) :: R)) : SN W P n_ k_ l_ L := SN.opn (open_safe) fun x hx => h_ x.1 x.2 
theorem SR.op_safe {W : World} {P : Program} {L R : List HProp} {n_ : Nat} {ops_ : Array Oper} {os_ : List Oper} {k_ : Kont} {l_ : Env} {p : Nat} {s : SS} [t_ : TakeAt L safeI p s R] (h_ : ∀ (a : Option Addr) (c : Nat), SR W P n_ ops_ os_ k_ l_ ((pt p (.cells [.pointer (some ⟨s.t, 0, none⟩), .int .i64 s.hv, .int .i64 s.hb, .slice a 0 c, .int .i64 s.lock, .int .i64 s.last].toArray 114)) :: (rowP 3 1 a 0 c []) :: R)) : SR W P n_ ops_ os_ k_ l_ L := SR.opn (open_safe) fun x hx => h_ x.1 x.2 
theorem SQ.op_safe {W : World} {P : Program} {L R : List HProp} {n_ : Nat} {ops_ : Array Oper} {r_ : Ord} {Ts_ : Facts} {k_ : Kont} {l_ : Env} {p : Nat} {s : SS} [t_ : TakeAt L safeI p s R] (h_ : ∀ (a : Option Addr) (c : Nat), SQ W P n_ ops_ r_ Ts_ k_ l_ ((pt p (.cells [.pointer (some ⟨s.t, 0, none⟩), .int .i64 s.hv, .int .i64 s.hb, .slice a 0 c, .int .i64 s.lock, .int .i64 s.last].toArray 114)) :: (rowP 3 1 a 0 c []) :: R)) : SQ W P n_ ops_ r_ Ts_ k_ l_ L := SQ.opn (open_safe) fun x hx => h_ x.1 x.2 
theorem CallsK.op_safe {W : World} {P : Program} {L R : List HProp} {f_ : FuncId} {args_ : Array Value} {K_ : Value → List HProp → Prop} {p : Nat} {s : SS} [t_ : TakeAt L safeI p s R] (h_ : ∀ (a : Option Addr) (c : Nat), CallsK W P f_ args_ ((pt p (.cells [.pointer (some ⟨s.t, 0, none⟩), .int .i64 s.hv, .int .i64 s.hb, .slice a 0 c, .int .i64 s.lock, .int .i64 s.last].toArray 114)) :: (rowP 3 1 a 0 c []) :: R) K_) : CallsK W P f_ args_ L K_ := CallsK.opn (open_safe) fun x hx => h_ x.1 x.2 
theorem close_safe {L R R1 : List HProp} {p t c : Nat} {hv hb lock last : Int} {a : Option Addr} {s : SS} [t_ : TakePt L p (.cells [.pointer (some ⟨t, 0, none⟩), .int .i64 hv, .int .i64 hb, .slice a 0 c, .int .i64 lock, .int .i64 last].toArray 114) R1] [u : TakeRow R1 a 3 1 0 c [] R]
    (h : s = ⟨t, hv, hb, lock, last⟩) : Lands L (At safeI p s :: R) := fun q H => by
  subst h
  obtain ⟨m1, m2, d, e, hq, hr⟩ := Den_perm t_.perm q H
  have H2 : Den ([pt p (.cells [.pointer (some ⟨t, 0, none⟩), .int .i64 hv, .int .i64 hb, .slice a 0 c, .int .i64 lock, .int .i64 last].toArray 114), rowP 3 1 a 0 c []] ++ R) q := ⟨m1, m2, d, e, hq, Den_perm u.perm m2 hr⟩
  exact Lands.wrap (A := At safeI p ⟨t, hv, hb, lock, last⟩) (fun z hz => ⟨a, c, hz⟩) q H2

theorem safe_New {W : World} {F : List HProp} [Abs F] (t : Nat) (st : TS) :
    CallsK W Try.prog 29 #[.pointer (some ⟨t, 0, none⟩)] (At treeI t st :: F) (fun v L => ∃ p, v = .pointer (some ⟨p, 0, none⟩) ∧ Lands L (At safeI p ⟨t, 0, st.root, st.root, 0⟩ :: At treeI t st :: F)) := by
  refine CallsK_enter (n := 11) Try.func29 rfl rfl rfl ?_
  refine SC_seq ?_
  refine SC_region ?_
  refine SR_pu (RD_assign rfl) rfl ?_
  refine SR_nil ?_
  refine SN.le (l := [(0, _)]) ?_ (.cons rfl (.nil))
  refine SN_seq ?_
  refine SC_seq ?_
  refine SC_region ?_
  refine SR_pu (RD_move rfl) rfl ?_
  refine SR_pu (RD_move rfl) rfl ?_
  refine SR_call Try.call60 (.cons rfl (.nil)) (CallsK.at (tree_Root t st)) (lts rfl) ?_
  rintro _ L1 ⟨rfl, hL1⟩
  refine SR.lands hL1 ?_
  refine SR_pu (RD_build (.cons rfl (.nil)) built26_1) rfl ?_
  refine SR_pu (RD_move rfl) rfl ?_
  refine SR_call Try.call60 (.cons rfl (.nil)) (CallsK.at (tree_Root t st)) (lts rfl) ?_
  rintro _ L1 ⟨rfl, hL1⟩
  refine SR.lands hL1 ?_
  refine SR_pu (RD_build (.cons rfl (.cons rfl (.cons rfl (.nil)))) built114_0_1_2) rfl ?_
  refine SR_ox (OX_box rfl rfl) rfl ?_
  rintro _ _ ⟨b10, rfl, rfl⟩
  refine SR_pu (RD_assign rfl) rfl ?_
  refine SR_nil ?_
  refine SN.le (l := [(2, _)]) ?_ (.cons rfl (.nil))
  refine SN_seq ?_
  refine SC_ret1 rfl rfl ?_
  refine ⟨b10, rfl, ?_⟩
  exact (row_new 3 1 none).trans ((close_safe (p := b10) (s := ⟨t, 0, st.root, st.root, 0⟩) rfl).trans .fin)

theorem safe_Lock {W : World} {F : List HProp} [Abs F] (p : Nat) (s : SS) :
    CallsK W Try.prog 67 #[.pointer (some ⟨p, 0, none⟩)] (At safeI p s :: F) (fun v L => v = .int .i64 s.lock ∧ Lands L (At safeI p s :: F)) := by
  refine CallsK_enter (n := 7) Try.func67 rfl rfl rfl ?_
  refine SC_seq ?_
  refine SC_region ?_
  refine SR_pu (RD_assign rfl) rfl ?_
  refine SR_nil ?_
  refine SN.le (l := [(0, _)]) ?_ (.cons rfl (.nil))
  refine SN_seq ?_
  refine SC_seq ?_
  refine SC.op_safe (p := p) fun a c => ?_
  refine SC_region ?_
  refine SR_pu (RD_move rfl) rfl ?_
  first
    | refine SR_pu (RD_nilCheck rfl) rfl ?_
    | refine SR_pu (RD_nilCheckF rfl) rfl ?_
  first
    | refine SR_pu (RD_fieldAddr 4 Try.runUnderlying114 rfl rfl Try.sizeOf3 rfl) rfl ?_
    | refine SR_rd (RD_fieldAddrO 4 Try.runUnderlying114 rfl rfl Try.sizeOf3 rfl (by simp <;> omega)) Has.ro rfl ?_
  refine SR_rd (RD_load Try.isAgg3 rfl) (Has.ce rfl) rfl ?_
  refine SR_pu (RD_assign rfl) rfl ?_
  refine SR_nil ?_
  refine SN.le (l := [(2, _)]) ?_ (.cons rfl (.nil))
  refine SN_seq ?_
  refine SC_ret1 rfl rfl ?_
  exact ⟨rfl, ((close_safe (p := p) (s := s) rfl).trans .fin)⟩

theorem safe_Last {W : World} {F : List HProp} [Abs F] (p : Nat) (s : SS) :
    CallsK W Try.prog 69 #[.pointer (some ⟨p, 0, none⟩)] (At safeI p s :: F) (fun v L => v = .int .i64 s.last ∧ Lands L (At safeI p s :: F)) := by
  refine CallsK_enter (n := 7) Try.func69 rfl rfl rfl ?_
  refine SC_seq ?_
  refine SC_region ?_
  refine SR_pu (RD_assign rfl) rfl ?_
  refine SR_nil ?_
  refine SN.le (l := [(0, _)]) ?_ (.cons rfl (.nil))
  refine SN_seq ?_
  refine SC_seq ?_
  refine SC.op_safe (p := p) fun a c => ?_
  refine SC_region ?_
  refine SR_pu (RD_move rfl) rfl ?_
  first
    | refine SR_pu (RD_nilCheck rfl) rfl ?_
    | refine SR_pu (RD_nilCheckF rfl) rfl ?_
  first
    | refine SR_pu (RD_fieldAddr 5 Try.runUnderlying114 rfl rfl Try.sizeOf3 rfl) rfl ?_
    | refine SR_rd (RD_fieldAddrO 5 Try.runUnderlying114 rfl rfl Try.sizeOf3 rfl (by simp <;> omega)) Has.ro rfl ?_
  refine SR_rd (RD_load Try.isAgg3 rfl) (Has.ce rfl) rfl ?_
  refine SR_pu (RD_assign rfl) rfl ?_
  refine SR_nil ?_
  refine SN.le (l := [(2, _)]) ?_ (.cons rfl (.nil))
  refine SN_seq ?_
  refine SC_ret1 rfl rfl ?_
  exact ⟨rfl, ((close_safe (p := p) (s := s) rfl).trans .fin)⟩

theorem safe_High {W : World} {F : List HProp} [Abs F] (p : Nat) (s : SS) :
    CallsK W Try.prog 68 #[.pointer (some ⟨p, 0, none⟩)] (At safeI p s :: F) (fun v L => (∃ a c, v = .agg #[.int .i64 s.hv, .int .i64 s.hb, .slice a 0 c]) ∧ Lands L (At safeI p s :: F)) := by
  refine CallsK_enter (n := 13) Try.func68 rfl rfl rfl ?_
  refine SC_seq ?_
  refine SC_region ?_
  refine SR_ox (OX_alloc Try.zeroValue26 rfl) rfl ?_
  rintro _ _ ⟨b2, rfl, rfl⟩
  refine SR_nil ?_
  refine SN.le (l := [(0, _), (2, _)]) ?_ (.cons rfl (.cons rfl (.nil)))
  refine SN_seq ?_
  refine SC_seq ?_
  refine SC.op_safe (p := p) fun a c => ?_
  refine SC_region ?_
  refine SR_pu (RD_move rfl) rfl ?_
  first
    | refine SR_pu (RD_nilCheck rfl) rfl ?_
    | refine SR_pu (RD_nilCheckF rfl) rfl ?_
  first
    | refine SR_pu (RD_fieldAddr 1 Try.runUnderlying114 rfl rfl Try.sizeOf26 rfl) rfl ?_
    | refine SR_rd (RD_fieldAddrO 1 Try.runUnderlying114 rfl rfl Try.sizeOf26 rfl (by simp <;> omega)) Has.ro rfl ?_
  refine SR_rd (RD_loadA (vs := [.int .i64 s.hv, .int .i64 s.hb, .slice a 0 c]) Try.isAgg26 Try.sizeOf26 rfl rfl) (Has.ces (cs := [.pointer (some ⟨s.t, 0, none⟩), .int .i64 s.hv, .int .i64 s.hb, .slice a 0 c, .int .i64 s.lock, .int .i64 s.last]) fun j v h => by rcases j with _ | _ | _ | j <;> simp at h ⊢ <;> exact h) rfl ?_
  refine SR_ox (OX_alloc Try.zeroValue26 rfl) rfl ?_
  rintro _ _ ⟨b3, rfl, rfl⟩
  refine SR_ox0 (OX_stA (vs := [.int .i64 s.hv, .int .i64 s.hb, .slice a 0 c]) Try.sizeOf26 rfl rfl rfl rfl) ?_
  rintro _ _ rfl
  refine SR_nil ?_
  refine SN.le (l := [(2, _), (3, _)]) ?_ (.cons rfl (.cons rfl (.nil)))
  refine SN_seq ?_
  refine SC_seq ?_
  refine SC_region ?_
  first
    | refine SR_pu (RD_fieldAddr 2 Try.runUnderlying26 rfl rfl Try.sizeOf24 rfl) rfl ?_
    | refine SR_rd (RD_fieldAddrO 2 Try.runUnderlying26 rfl rfl Try.sizeOf24 rfl (by simp <;> omega)) Has.ro rfl ?_
  refine SR_rd (RD_load Try.isAgg24 rfl) (Has.ce rfl) rfl ?_
  refine SR_call Try.call64 (.cons rfl (.nil)) (clone_ints [] a 0 c rfl (by simp)) (lts rfl) ?_
  rintro _ L1 ⟨a10, c10, rfl, hL1⟩
  refine SR.lands hL1 ?_
  first
    | refine SR_pu (RD_fieldAddr 2 Try.runUnderlying26 rfl rfl Try.sizeOf24 rfl) rfl ?_
    | refine SR_rd (RD_fieldAddrO 2 Try.runUnderlying26 rfl rfl Try.sizeOf24 rfl (by simp <;> omega)) Has.ro rfl ?_
  refine SR_ox0 (OX_st Try.sizeOf24 rfl rfl) ?_
  rintro _ _ rfl
  refine SR_nil ?_
  refine SN.le (l := [(2, _), (3, _)]) ?_ (.cons rfl (.cons rfl (.nil)))
  refine SN_seq ?_
  refine SC_seq ?_
  refine SC_region ?_
  refine SR_rd (RD_loadA Try.isAgg26 Try.sizeOf26 rfl rfl) Has.wh rfl ?_
  refine SR_ox0 (OX_stA (vs := [.int .i64 s.hv, .int .i64 s.hb, .slice a10 0 c10]) Try.sizeOf26 rfl rfl rfl rfl) ?_
  rintro _ _ rfl
  refine SR_nil ?_
  refine SN.le (l := [(2, _)]) ?_ (.cons rfl (.nil))
  refine SN_seq ?_
  refine SC_retC rfl Try.isAgg26 Try.sizeOf26 rfl rfl Has.wh ?_
  exact ⟨⟨_, _, rfl⟩, ((close_safe (p := p) (s := s) rfl).trans .fin)⟩

theorem safe_Skip {W : World} {F : List HProp} [Abs F] (p : Nat) (s : SS) (v : Int) :
    CallsK W Try.prog 32 #[.pointer (some ⟨p, 0, none⟩), .int .i64 v] (At safeI p s :: F) (fun u L => u = .tuple #[] ∧ Lands L (At safeI p ⟨s.t, s.hv, s.hb, s.lock, max s.last v⟩ :: F)) := by
  refine CallsK_enter (n := 13) Try.func32 rfl rfl rfl ?_
  refine SC.op_safe (p := p) fun a c => ?_
  refine SC_region ?_
  refine SR_pu (RD_move rfl) rfl ?_
  refine SR_pu (RD_move rfl) rfl ?_
  first
    | refine SR_pu (RD_nilCheck rfl) rfl ?_
    | refine SR_pu (RD_nilCheckF rfl) rfl ?_
  first
    | refine SR_pu (RD_fieldAddr 5 Try.runUnderlying114 rfl rfl Try.sizeOf3 rfl) rfl ?_
    | refine SR_rd (RD_fieldAddrO 5 Try.runUnderlying114 rfl rfl Try.sizeOf3 rfl (by simp <;> omega)) Has.ro rfl ?_
  refine SR_rd (RD_load Try.isAgg3 rfl) (Has.ce rfl) rfl ?_
  refine SR_pu (RD_move rfl) rfl ?_
  refine SR_pu (RD_max rfl rfl) rfl ?_
  first
    | refine SR_pu (RD_nilCheck rfl) rfl ?_
    | refine SR_pu (RD_nilCheckF rfl) rfl ?_
  first
    | refine SR_pu (RD_fieldAddr 5 Try.runUnderlying114 rfl rfl Try.sizeOf3 rfl) rfl ?_
    | refine SR_rd (RD_fieldAddrO 5 Try.runUnderlying114 rfl rfl Try.sizeOf3 rfl (by simp <;> omega)) Has.ro rfl ?_
  refine SR_ox0 (OX_st Try.sizeOf3 rfl rfl) ?_
  rintro _ _ rfl
  refine SR_nil ?_
  refine SN.le (l := []) ?_ (.nil)
  refine SN_stop0 rfl ?_
  refine ⟨rfl, ?_⟩
  have e : (if v > s.last then v else s.last) = max s.last v := by split <;> omega
  rw [e]
  exact (close_safe (p := p) (s := ⟨s.t, s.hv, s.hb, s.lock, max s.last v⟩) rfl).trans .fin

def SS.see1 (s : SS) (v b : Int) : SS := if v > s.hv then { s with hv := v, hb := b } else s
def SS.lock2 (s : SS) (st : TS) (b1 : Int) : Int := if viewOf (mget st.T b1) > viewOf (mget st.T s.lock) then b1 else s.lock
def parOf (st : TS) (d : Int) : Int := (mget st.T d).elim 0 Blk.jb
def fixes (st : TS) (b : Int) : Prop := ¬ (b = st.root ∨ parOf st b = st.root ∨ viewOf (mget st.T b) ≠ viewOf (mget st.T (parOf st b)) + 1 ∨ viewOf (mget st.T (parOf st b)) ≠ viewOf (mget st.T (parOf st (parOf st b))) + 1)
instance decFixes (st : TS) (b : Int) : Decidable (fixes st b) := by unfold fixes; infer_instance
/-- What is seen: what is fixed by it, and what one knows then. -/
def SS.see (s : SS) (st : TS) (v b : Int) : Int × SS :=
  if (mget st.T b).isSome = false ∨ v ≠ viewOf (mget st.T b) then (0, s)
  else (if fixes st b then parOf st (parOf st b) else 0, ⟨s.t, (s.see1 v b).hv, (s.see1 v b).hb, s.lock2 st (parOf st b), s.last⟩)

theorem safe_See {W : World} {F : List HProp} [Abs F] (p : Nat) (s : SS) (st : TS) (hvb : ∀ d, -1 ≤ viewOf (mget st.T d) ∧ viewOf (mget st.T d) ≤ 1000000000) (v b : Int) :
    CallsK W Try.prog 34 #[.pointer (some ⟨p, 0, none⟩), .agg #[.int .i64 v, .int .i64 b, .slice none 0 0]] (At safeI p s :: At treeI s.t st :: F) (fun u L => u = .int .i64 (s.see st v b).1 ∧ Lands L (At safeI p (s.see st v b).2 :: At treeI s.t st :: F)) := by
  refine CallsK_enter (n := 130) Try.func34 rfl rfl rfl ?_
  have hv1 := hvb (parOf st b)
  have hv2 := hvb (parOf st (parOf st b))
  refine SC_seq ?_
  refine SC_region ?_
  refine SR_ox (OX_box rfl rfl) rfl ?_
  rintro _ _ ⟨b3, rfl, rfl⟩
  refine SR_pu (RD_assign rfl) rfl ?_
  refine SR_nil ?_
  refine SN.le (l := [(0, _), (3, _)]) ?_ (.cons rfl (.cons rfl (.nil)))
  refine SN_seq ?_
  refine SC_seq ?_
  refine SC_seq ?_
  refine SC.op_safe (p := p) fun a c => ?_
  refine SC_drawn (.cons 0 true (.cons 1 true (.cons 2 true (.cons 3 true (.cons 4 true (.cons 5 true (.cons 6 false (.cons 7 true (.cons 8 true (.cons 9 true (.cons 10 true (.cons 11 true (.cons 12 true (.cons 13 true (.cons 14 true (.cons 15 true (.cons 16 true (.cons 17 false (.cons 18 true (.cons 19 true (.nil))))))))))))))))))))) (by kernel_rfl) (by kernel_rfl) ?_
  refine SQ_pu rfl (RD_move rfl) rfl ?_
  first
    | refine SQ_pu rfl (RD_nilCheck rfl) rfl ?_
    | refine SQ_pu rfl (RD_nilCheckF rfl) rfl ?_
  first
    | refine SQ_pu rfl (RD_fieldAddr0 Try.runUnderlying114 rfl rfl Try.sizeOf61 rfl) rfl ?_
    | refine SQ_rd rfl (RD_fieldAddrO 0 Try.runUnderlying114 rfl rfl Try.sizeOf61 rfl (by simp <;> omega)) Has.ro rfl ?_
  refine SQ_rd rfl (RD_load Try.isAgg61 rfl) (Has.ce rfl) rfl ?_
  first
    | refine SQ_pu rfl (RD_fieldAddr 1 Try.runUnderlying26 rfl rfl Try.sizeOf3 rfl) rfl ?_
    | refine SQ_rd rfl (RD_fieldAddrO 1 Try.runUnderlying26 rfl rfl Try.sizeOf3 rfl (by simp <;> omega)) Has.ro rfl ?_
  refine SQ_rd rfl (RD_load Try.isAgg3 rfl) (Has.ce rfl) rfl ?_
  refine SQ_call rfl Try.call61 (.cons rfl (.cons rfl (.nil))) (CallsK.at (tree_Has s.t st b)) (lts rfl) ?_
  rintro _ L1 ⟨rfl, hL1⟩
  refine ⟨.lands hL1 (.w rfl (.w rfl (.nil))), ?_⟩
  refine SQ.lands hL1 ?_
  refine SQ_pu rfl (RD_not rfl) rfl ?_
  refine SQ_pu rfl (RD_move rfl) rfl ?_
  refine SQ_guard (i := 9) rfl rfl rfl (fun hg1_8 => ?_) (fun hg1_8 => ?_)
  · first
      | refine SQ_pyes rfl rfl rfl (hg1_8) (RD_fieldAddr0 Try.runUnderlying26 rfl rfl Try.sizeOf3 rfl) rfl ?_
      | refine SQ_yes rfl rfl rfl (hg1_8) (RD_fieldAddrO 0 Try.runUnderlying26 rfl rfl Try.sizeOf3 rfl (by simp <;> omega)) Has.ro rfl ?_
    refine SQ_yes rfl rfl rfl (hg1_8) (RD_load Try.isAgg3 rfl) (Has.ce rfl) rfl ?_
    refine SQ_pyes rfl rfl rfl (hg1_8) (RD_move rfl) rfl ?_
    first
      | refine SQ_pyes rfl rfl rfl (hg1_8) (RD_nilCheck rfl) rfl ?_
      | refine SQ_pyes rfl rfl rfl (hg1_8) (RD_nilCheckF rfl) rfl ?_
    first
      | refine SQ_pyes rfl rfl rfl (hg1_8) (RD_fieldAddr0 Try.runUnderlying114 rfl rfl Try.sizeOf61 rfl) rfl ?_
      | refine SQ_yes rfl rfl rfl (hg1_8) (RD_fieldAddrO 0 Try.runUnderlying114 rfl rfl Try.sizeOf61 rfl (by simp <;> omega)) Has.ro rfl ?_
    refine SQ_yes rfl rfl rfl (hg1_8) (RD_load Try.isAgg61 rfl) (Has.ce rfl) rfl ?_
    first
      | refine SQ_pyes rfl rfl rfl (hg1_8) (RD_fieldAddr 1 Try.runUnderlying26 rfl rfl Try.sizeOf3 rfl) rfl ?_
      | refine SQ_yes rfl rfl rfl (hg1_8) (RD_fieldAddrO 1 Try.runUnderlying26 rfl rfl Try.sizeOf3 rfl (by simp <;> omega)) Has.ro rfl ?_
    refine SQ_yes rfl rfl rfl (hg1_8) (RD_load Try.isAgg3 rfl) (Has.ce rfl) rfl ?_
    refine SQ_one (SA_call rfl (.mk rfl rfl (hg1_8)) Try.call31 (.cons rfl (.cons rfl (.nil))) (CallsK.at (tree_View s.t st (b))) (lts rfl) ?_)
    rintro _ L2 ⟨rfl, hL2⟩
    refine ⟨.lands hL2 (.w rfl (.w rfl (.h (Has.ce rfl) (.h (Has.ce rfl) (.h (Has.ce rfl) (.nil)))))), ?_⟩
    refine SQ.lands hL2 ?_
    refine SQ_pyes rfl rfl rfl (hg1_8) (RD_neq rfl rfl) rfl ?_
    refine SQ_pu rfl (RD_pick_f rfl (hg1_8) rfl) rfl ?_
    refine SQ_nil ?_
    refine SN.le (l := [(0, _), (3, _), (27, _)]) ?_ (.cons rfl (.cons rfl (.cons rfl (.nil))))
    refine SN_seq ?_
    refine SC_cond rfl (fun hc27 => ?_) (fun hc27 => ?_)
    · have hbad : (mget st.T b).isSome = false ∨ v ≠ viewOf (mget st.T b) := .inr (by simpa using hc27)
      refine SC_seq ?_
      refine SC_region ?_
      refine SR_pu (RD_assign rfl) rfl ?_
      refine SR_nil ?_
      refine SN.le (l := [(4, _)]) ?_ (.cons rfl (.nil))
      refine SN_seq ?_
      refine SC_ret1 rfl rfl ?_
      unfold SS.see
      rw [if_pos hbad]
      exact ⟨rfl, ((close_safe (p := p) (s := s) rfl).trans .fin)⟩
    · have hok : ¬ ((mget st.T b).isSome = false ∨ v ≠ viewOf (mget st.T b)) := by
        have h1 : ¬ (mget st.T b).isSome = false := fun h => by rw [h] at hg1_8; cases hg1_8
        have h2 : v = viewOf (mget st.T b) := by simpa using hc27
        exact fun h => h.elim h1 (fun h => h h2)
      refine SC_skip ?_
      refine SN_seq ?_
      refine SC_seq ?_
      refine SC_seq ?_
      refine SC_join2 (X := {x : Int × Int × Option Addr × Nat // x.1 = (s.see1 v b).hv ∧ x.2.1 = (s.see1 v b).hb}) (fun x => [(0, .pointer (some ⟨p, 0, none⟩)), (3, .pointer (some ⟨b3, 0, none⟩))]) (fun x => pt p (.cells [.pointer (some ⟨s.t, 0, none⟩), .int .i64 x.1.1, .int .i64 x.1.2.1, .slice x.1.2.2.1 0 x.1.2.2.2, .int .i64 s.lock, .int .i64 s.last].toArray 114) :: rowP 3 1 x.1.2.2.1 0 x.1.2.2.2 [] :: pt b3 (.cells [.int .i64 v, .int .i64 b, .slice none 0 0].toArray 26) :: At treeI s.t st :: F) (fun ⟨⟨h1, h2, a, c⟩, hx⟩ => ?_) (fun J0 => ?_)
      · dsimp only at hx ⊢
        obtain ⟨rfl, rfl⟩ := hx
        refine SN_seq ?_
        refine SC_seq ?_
        refine SC_region ?_
        first
          | refine SR_pu (RD_fieldAddr 1 Try.runUnderlying26 rfl rfl Try.sizeOf3 rfl) rfl ?_
          | refine SR_rd (RD_fieldAddrO 1 Try.runUnderlying26 rfl rfl Try.sizeOf3 rfl (by simp <;> omega)) Has.ro rfl ?_
        refine SR_rd (RD_load Try.isAgg3 rfl) (Has.ce rfl) rfl ?_
        refine SR_pu (RD_assign rfl) rfl ?_
        refine SR_nil ?_
        refine SN.le (l := [(0, _), (5, _)]) ?_ (.cons rfl (.cons rfl (.nil)))
        refine SN_seq ?_
        refine SC_seq ?_
        refine SC_region ?_
        refine SR_pu (RD_move rfl) rfl ?_
        first
          | refine SR_pu (RD_nilCheck rfl) rfl ?_
          | refine SR_pu (RD_nilCheckF rfl) rfl ?_
        first
          | refine SR_pu (RD_fieldAddr0 Try.runUnderlying114 rfl rfl Try.sizeOf61 rfl) rfl ?_
          | refine SR_rd (RD_fieldAddrO 0 Try.runUnderlying114 rfl rfl Try.sizeOf61 rfl (by simp <;> omega)) Has.ro rfl ?_
        refine SR_rd (RD_load Try.isAgg61 rfl) (Has.ce rfl) rfl ?_
        refine SR_pu (RD_move rfl) rfl ?_
        refine SR_call Try.call33 (.cons rfl (.cons rfl (.nil))) (CallsK.at (tree_Parent s.t st b)) (lts rfl) ?_
        rintro _ L4 ⟨rfl, hL4⟩
        refine SR.lands hL4 ?_
        rw [show (mget st.T b).elim 0 Blk.jb = parOf st b from rfl]
        refine SR_pu (RD_assign rfl) rfl ?_
        refine SR_nil ?_
        refine SN.le (l := [(0, _), (5, _), (6, _)]) ?_ (.cons rfl (.cons rfl (.cons rfl (.nil))))
        refine SN_seq ?_
        refine SC_seq ?_
        refine SC_region ?_
        refine SR_pu (RD_move rfl) rfl ?_
        first
          | refine SR_pu (RD_nilCheck rfl) rfl ?_
          | refine SR_pu (RD_nilCheckF rfl) rfl ?_
        first
          | refine SR_pu (RD_fieldAddr0 Try.runUnderlying114 rfl rfl Try.sizeOf61 rfl) rfl ?_
          | refine SR_rd (RD_fieldAddrO 0 Try.runUnderlying114 rfl rfl Try.sizeOf61 rfl (by simp <;> omega)) Has.ro rfl ?_
        refine SR_rd (RD_load Try.isAgg61 rfl) (Has.ce rfl) rfl ?_
        refine SR_pu (RD_move rfl) rfl ?_
        refine SR_call Try.call33 (.cons rfl (.cons rfl (.nil))) (CallsK.at (tree_Parent s.t st (parOf st b))) (lts rfl) ?_
        rintro _ L5 ⟨rfl, hL5⟩
        refine SR.lands hL5 ?_
        rw [show (mget st.T (parOf st b)).elim 0 Blk.jb = parOf st (parOf st b) from rfl]
        refine SR_pu (RD_assign rfl) rfl ?_
        refine SR_nil ?_
        refine SN.le (l := [(0, _), (5, _), (6, _), (7, _)]) ?_ (.cons rfl (.cons rfl (.cons rfl (.cons rfl (.nil)))))
        refine SN_seq ?_
        refine SC_seq ?_
        refine SC_seq ?_
        refine SC_join2 (X := {x : Int // x = s.lock2 st (parOf st b)}) (fun x => [(0, .pointer (some ⟨p, 0, none⟩)), (5, .int .i64 b), (6, .int .i64 (parOf st b)), (7, .int .i64 (parOf st (parOf st b)))]) (fun x => pt p (.cells [.pointer (some ⟨s.t, 0, none⟩), .int .i64 (s.see1 v b).hv, .int .i64 (s.see1 v b).hb, .slice a 0 c, .int .i64 x.1, .int .i64 s.last].toArray 114) :: rowP 3 1 a 0 c [] :: pt b3 (.cells [.int .i64 v, .int .i64 b, .slice none 0 0].toArray 26) :: At treeI s.t st :: F) (fun ⟨lk, hx⟩ => ?_) (fun J0 => ?_)
        · dsimp only at hx ⊢
          subst hx
          refine SN_seq ?_
          refine SC_seq ?_
          refine SC_seq ?_
          refine SC_drawn (.cons 0 true (.cons 1 true (.cons 2 true (.cons 3 true (.cons 4 true (.cons 5 false (.cons 6 true (.cons 7 true (.cons 8 true (.cons 9 true (.cons 10 true (.cons 11 true (.cons 12 true (.cons 13 false (.cons 14 true (.cons 15 true (.cons 16 true (.cons 17 true (.cons 18 true (.cons 19 true (.cons 20 true (.cons 21 true (.cons 23 true (.cons 24 true (.cons 25 true (.cons 26 true (.cons 27 true (.cons 22 false (.cons 28 false (.cons 29 true (.cons 30 true (.cons 31 true (.cons 32 true (.cons 33 true (.cons 34 true (.cons 35 true (.cons 36 true (.cons 37 true (.cons 39 true (.cons 40 true (.cons 41 true (.cons 42 true (.cons 43 true (.cons 38 false (.cons 44 false (.cons 45 true (.cons 46 true (.cons 47 true (.nil))))))))))))))))))))))))))))))))))))))))))))))))) (by kernel_rfl) (by kernel_rfl) ?_
          refine SQ_pu rfl (RD_move rfl) rfl ?_
          refine SQ_pu rfl (RD_move rfl) rfl ?_
          first
            | refine SQ_pu rfl (RD_nilCheck rfl) rfl ?_
            | refine SQ_pu rfl (RD_nilCheckF rfl) rfl ?_
          first
            | refine SQ_pu rfl (RD_fieldAddr0 Try.runUnderlying114 rfl rfl Try.sizeOf61 rfl) rfl ?_
            | refine SQ_rd rfl (RD_fieldAddrO 0 Try.runUnderlying114 rfl rfl Try.sizeOf61 rfl (by simp <;> omega)) Has.ro rfl ?_
          refine SQ_rd rfl (RD_load Try.isAgg61 rfl) (Has.ce rfl) rfl ?_
          refine SQ_call rfl Try.call60 (.cons rfl (.nil)) (CallsK.at (tree_Root s.t st)) (lts rfl) ?_
          rintro _ L8 ⟨rfl, hL8⟩
          refine ⟨.lands hL8 (.w rfl (.nil)), ?_⟩
          refine SQ.lands hL8 ?_
          refine SQ_pu rfl (RD_eql rfl rfl) rfl ?_
          refine SQ_pu rfl (RD_move rfl) rfl ?_
          refine SQ_guard (i := 8) rfl rfl rfl (fun hg11_7 => ?_) (fun hg11_7 => ?_)
          · refine SQ_pyes rfl rfl rfl (hg11_7) (RD_move rfl) rfl ?_
            refine SQ_pyes rfl rfl rfl (hg11_7) (RD_move rfl) rfl ?_
            first
              | refine SQ_pyes rfl rfl rfl (hg11_7) (RD_nilCheck rfl) rfl ?_
              | refine SQ_pyes rfl rfl rfl (hg11_7) (RD_nilCheckF rfl) rfl ?_
            first
              | refine SQ_pyes rfl rfl rfl (hg11_7) (RD_fieldAddr0 Try.runUnderlying114 rfl rfl Try.sizeOf61 rfl) rfl ?_
              | refine SQ_yes rfl rfl rfl (hg11_7) (RD_fieldAddrO 0 Try.runUnderlying114 rfl rfl Try.sizeOf61 rfl (by simp <;> omega)) Has.ro rfl ?_
            refine SQ_yes rfl rfl rfl (hg11_7) (RD_load Try.isAgg61 rfl) (Has.ce rfl) rfl ?_
            refine SQ_one (SA_call rfl (.mk rfl rfl (hg11_7)) Try.call60 (.cons rfl (.nil)) (CallsK.at (tree_Root s.t st)) (lts rfl) ?_)
            rintro _ L8 ⟨rfl, hL8⟩
            refine ⟨.lands hL8 (.w rfl (.h (Has.ce rfl) (.nil))), ?_⟩
            refine SQ.lands hL8 ?_
            refine SQ_pyes rfl rfl rfl (hg11_7) (RD_eql rfl rfl) rfl ?_
            refine SQ_pu rfl (RD_pick_f rfl (hg11_7) rfl) rfl ?_
            refine SQ_pu rfl (RD_move rfl) rfl ?_
            refine SQ_guard (i := 17) rfl rfl rfl (fun hg11_16 => ?_) (fun hg11_16 => ?_)
            · refine SQ_pyes rfl rfl rfl (hg11_16) (RD_move rfl) rfl ?_
              first
                | refine SQ_pyes rfl rfl rfl (hg11_16) (RD_nilCheck rfl) rfl ?_
                | refine SQ_pyes rfl rfl rfl (hg11_16) (RD_nilCheckF rfl) rfl ?_
              first
                | refine SQ_pyes rfl rfl rfl (hg11_16) (RD_fieldAddr0 Try.runUnderlying114 rfl rfl Try.sizeOf61 rfl) rfl ?_
                | refine SQ_yes rfl rfl rfl (hg11_16) (RD_fieldAddrO 0 Try.runUnderlying114 rfl rfl Try.sizeOf61 rfl (by simp <;> omega)) Has.ro rfl ?_
              refine SQ_yes rfl rfl rfl (hg11_16) (RD_load Try.isAgg61 rfl) (Has.ce rfl) rfl ?_
              refine SQ_pyes rfl rfl rfl (hg11_16) (RD_move rfl) rfl ?_
              refine SQ_pyes rfl rfl rfl (hg11_16) (RD_move rfl) rfl ?_
              first
                | refine SQ_pyes rfl rfl rfl (hg11_16) (RD_nilCheck rfl) rfl ?_
                | refine SQ_pyes rfl rfl rfl (hg11_16) (RD_nilCheckF rfl) rfl ?_
              first
                | refine SQ_pyes rfl rfl rfl (hg11_16) (RD_fieldAddr0 Try.runUnderlying114 rfl rfl Try.sizeOf61 rfl) rfl ?_
                | refine SQ_yes rfl rfl rfl (hg11_16) (RD_fieldAddrO 0 Try.runUnderlying114 rfl rfl Try.sizeOf61 rfl (by simp <;> omega)) Has.ro rfl ?_
              refine SQ_yes rfl rfl rfl (hg11_16) (RD_load Try.isAgg61 rfl) (Has.ce rfl) rfl ?_
              refine SQ_pyes rfl rfl rfl (hg11_16) (RD_move rfl) rfl ?_
              refine SQ_one (SA_call rfl (.mk rfl rfl (hg11_16)) Try.call31 (.cons rfl (.cons rfl (.nil))) (CallsK.at (tree_View s.t st (b))) (lts rfl) ?_)
              rintro _ L9 ⟨rfl, hL9⟩
              refine ⟨.lands hL9 (.h (Has.ce rfl) (.w rfl (.h (Has.ce rfl) (.h (Has.ce rfl) (.nil))))), ?_⟩
              refine SQ.lands hL9 ?_
              refine SQ_one (SA_call rfl (.mk rfl rfl (hg11_16)) Try.call31 (.cons rfl (.cons rfl (.nil))) (CallsK.at (tree_View s.t st (parOf st b))) (lts rfl) ?_)
              rintro _ L10 ⟨rfl, hL10⟩
              refine ⟨.lands hL10 (.w rfl (.h (Has.ce rfl) (.h (Has.ce rfl) (.h (Has.ce rfl) (.nil))))), ?_⟩
              refine SQ.lands hL10 ?_
              refine SQ_pyes rfl rfl rfl (hg11_16) (RD_addi rfl rfl (by omega) (by omega)) rfl ?_
              refine SQ_pyes rfl rfl rfl (hg11_16) (RD_neq rfl rfl) rfl ?_
              refine SQ_pu rfl (RD_pick_f rfl (hg11_16) rfl) rfl ?_
              refine SQ_pu rfl (RD_move rfl) rfl ?_
              refine SQ_guard (i := 33) rfl rfl rfl (fun hg11_32 => ?_) (fun hg11_32 => ?_)
              · refine SQ_pyes rfl rfl rfl (hg11_32) (RD_move rfl) rfl ?_
                first
                  | refine SQ_pyes rfl rfl rfl (hg11_32) (RD_nilCheck rfl) rfl ?_
                  | refine SQ_pyes rfl rfl rfl (hg11_32) (RD_nilCheckF rfl) rfl ?_
                first
                  | refine SQ_pyes rfl rfl rfl (hg11_32) (RD_fieldAddr0 Try.runUnderlying114 rfl rfl Try.sizeOf61 rfl) rfl ?_
                  | refine SQ_yes rfl rfl rfl (hg11_32) (RD_fieldAddrO 0 Try.runUnderlying114 rfl rfl Try.sizeOf61 rfl (by simp <;> omega)) Has.ro rfl ?_
                refine SQ_yes rfl rfl rfl (hg11_32) (RD_load Try.isAgg61 rfl) (Has.ce rfl) rfl ?_
                refine SQ_pyes rfl rfl rfl (hg11_32) (RD_move rfl) rfl ?_
                refine SQ_pyes rfl rfl rfl (hg11_32) (RD_move rfl) rfl ?_
                first
                  | refine SQ_pyes rfl rfl rfl (hg11_32) (RD_nilCheck rfl) rfl ?_
                  | refine SQ_pyes rfl rfl rfl (hg11_32) (RD_nilCheckF rfl) rfl ?_
                first
                  | refine SQ_pyes rfl rfl rfl (hg11_32) (RD_fieldAddr0 Try.runUnderlying114 rfl rfl Try.sizeOf61 rfl) rfl ?_
                  | refine SQ_yes rfl rfl rfl (hg11_32) (RD_fieldAddrO 0 Try.runUnderlying114 rfl rfl Try.sizeOf61 rfl (by simp <;> omega)) Has.ro rfl ?_
                refine SQ_yes rfl rfl rfl (hg11_32) (RD_load Try.isAgg61 rfl) (Has.ce rfl) rfl ?_
                refine SQ_pyes rfl rfl rfl (hg11_32) (RD_move rfl) rfl ?_
                refine SQ_one (SA_call rfl (.mk rfl rfl (hg11_32)) Try.call31 (.cons rfl (.cons rfl (.nil))) (CallsK.at (tree_View s.t st (parOf st b))) (lts rfl) ?_)
                rintro _ L11 ⟨rfl, hL11⟩
                refine ⟨.lands hL11 (.h (Has.ce rfl) (.w rfl (.h (Has.ce rfl) (.h (Has.ce rfl) (.h (Has.ce rfl) (.h (Has.ce rfl) (.nil))))))), ?_⟩
                refine SQ.lands hL11 ?_
                refine SQ_one (SA_call rfl (.mk rfl rfl (hg11_32)) Try.call31 (.cons rfl (.cons rfl (.nil))) (CallsK.at (tree_View s.t st (parOf st (parOf st b)))) (lts rfl) ?_)
                rintro _ L12 ⟨rfl, hL12⟩
                refine ⟨.lands hL12 (.w rfl (.h (Has.ce rfl) (.h (Has.ce rfl) (.h (Has.ce rfl) (.h (Has.ce rfl) (.h (Has.ce rfl) (.nil))))))), ?_⟩
                refine SQ.lands hL12 ?_
                refine SQ_pyes rfl rfl rfl (hg11_32) (RD_addi rfl rfl (by omega) (by omega)) rfl ?_
                refine SQ_pyes rfl rfl rfl (hg11_32) (RD_neq rfl rfl) rfl ?_
                refine SQ_pu rfl (RD_pick_f rfl (hg11_32) rfl) rfl ?_
                refine SQ_nil ?_
                refine SN.le (l := [(7, _), (128, _)]) ?_ (.cons rfl (.cons rfl (.nil)))
                refine SN_seq ?_
                refine SC_cond rfl (fun hc128 => ?_) (fun hc128 => ?_)
                · refine SC_seq ?_
                  refine SC_region ?_
                  refine SR_pu (RD_assign rfl) rfl ?_
                  refine SR_nil ?_
                  refine SN.le (l := [(4, _)]) ?_ (.cons rfl (.nil))
                  refine SN_seq ?_
                  refine SC_ret1 rfl rfl ?_
                  have hnf : ¬ fixes st b := fun h => h (.inr (.inr (.inr (by simpa using hc128))))
                  unfold SS.see
                  rw [if_neg hok, if_neg hnf]
                  exact ⟨rfl, (close_safe (p := p) (s := ⟨s.t, (s.see1 v b).hv, (s.see1 v b).hb, s.lock2 st (parOf st b), s.last⟩) rfl).trans .fin⟩
                · refine SC_skip ?_
                  refine SN_seq ?_
                  refine SC_seq ?_
                  refine SC_region ?_
                  refine SR_pu (RD_move rfl) rfl ?_
                  refine SR_pu (RD_assign rfl) rfl ?_
                  refine SR_nil ?_
                  refine SN.le (l := [(4, _)]) ?_ (.cons rfl (.nil))
                  refine SN_seq ?_
                  refine SC_ret1 rfl rfl ?_
                  have hf : fixes st b := fun h => by
                    rcases h with h | h | h | h
                    · exact absurd h (by simpa using hg11_7)
                    · exact absurd h (by simpa using hg11_16)
                    · exact absurd h (by simpa using hg11_32)
                    · exact absurd h (by simpa using hc128)
                  unfold SS.see
                  rw [if_neg hok, if_pos hf]
                  exact ⟨rfl, (close_safe (p := p) (s := ⟨s.t, (s.see1 v b).hv, (s.see1 v b).hb, s.lock2 st (parOf st b), s.last⟩) rfl).trans .fin⟩
              · refine SQ_no rfl rfl rfl (hg11_32) (lts rfl) ?_
                refine SQ_no rfl rfl rfl (hg11_32) (lts rfl) ?_
                refine SQ_no rfl rfl rfl (hg11_32) (lts rfl) ?_
                refine SQ_no rfl rfl rfl (hg11_32) (lts rfl) ?_
                refine SQ_no rfl rfl rfl (hg11_32) (lts rfl) ?_
                refine SQ_no rfl rfl rfl (hg11_32) (lts rfl) ?_
                refine SQ_no rfl rfl rfl (hg11_32) (lts rfl) ?_
                refine SQ_no rfl rfl rfl (hg11_32) (lts rfl) ?_
                refine SQ_no rfl rfl rfl (hg11_32) (lts rfl) ?_
                refine SQ_no rfl rfl rfl (hg11_32) (lts rfl) ?_
                refine SQ_no1 rfl rfl rfl (hg11_32) (lts rfl) ?_
                refine SQ_no1 rfl rfl rfl (hg11_32) (lts rfl) ?_
                refine SQ_no rfl rfl rfl (hg11_32) (lts rfl) ?_
                refine SQ_no rfl rfl rfl (hg11_32) (lts rfl) ?_
                refine SQ_pu rfl (RD_pick_t rfl (hg11_32) rfl) rfl ?_
                refine SQ_nil ?_
                refine SN.le (l := [(7, _), (128, _)]) ?_ (.cons rfl (.cons rfl (.nil)))
                refine SN_seq ?_
                refine SC_cond_true rfl (rfl) ?_
                refine SC_seq ?_
                refine SC_region ?_
                refine SR_pu (RD_assign rfl) rfl ?_
                refine SR_nil ?_
                refine SN.le (l := [(4, _)]) ?_ (.cons rfl (.nil))
                refine SN_seq ?_
                refine SC_ret1 rfl rfl ?_
                have hnf : ¬ fixes st b := fun h => h (.inr (.inr (.inl (by simpa using hg11_32))))
                unfold SS.see
                rw [if_neg hok, if_neg hnf]
                exact ⟨rfl, (close_safe (p := p) (s := ⟨s.t, (s.see1 v b).hv, (s.see1 v b).hb, s.lock2 st (parOf st b), s.last⟩) rfl).trans .fin⟩
            · refine SQ_no rfl rfl rfl (hg11_16) (lts rfl) ?_
              refine SQ_no rfl rfl rfl (hg11_16) (lts rfl) ?_
              refine SQ_no rfl rfl rfl (hg11_16) (lts rfl) ?_
              refine SQ_no rfl rfl rfl (hg11_16) (lts rfl) ?_
              refine SQ_no rfl rfl rfl (hg11_16) (lts rfl) ?_
              refine SQ_no rfl rfl rfl (hg11_16) (lts rfl) ?_
              refine SQ_no rfl rfl rfl (hg11_16) (lts rfl) ?_
              refine SQ_no rfl rfl rfl (hg11_16) (lts rfl) ?_
              refine SQ_no rfl rfl rfl (hg11_16) (lts rfl) ?_
              refine SQ_no rfl rfl rfl (hg11_16) (lts rfl) ?_
              refine SQ_no1 rfl rfl rfl (hg11_16) (lts rfl) ?_
              refine SQ_no1 rfl rfl rfl (hg11_16) (lts rfl) ?_
              refine SQ_no rfl rfl rfl (hg11_16) (lts rfl) ?_
              refine SQ_no rfl rfl rfl (hg11_16) (lts rfl) ?_
              refine SQ_pu rfl (RD_pick_t rfl (hg11_16) rfl) rfl ?_
              refine SQ_pu rfl (RD_move rfl) rfl ?_
              refine SQ_no rfl rfl rfl (rfl) (lts rfl) ?_
              refine SQ_no rfl rfl rfl (rfl) (lts rfl) ?_
              refine SQ_no rfl rfl rfl (rfl) (lts rfl) ?_
              refine SQ_no rfl rfl rfl (rfl) (lts rfl) ?_
              refine SQ_no rfl rfl rfl (rfl) (lts rfl) ?_
              refine SQ_no rfl rfl rfl (rfl) (lts rfl) ?_
              refine SQ_no rfl rfl rfl (rfl) (lts rfl) ?_
              refine SQ_no rfl rfl rfl (rfl) (lts rfl) ?_
              refine SQ_no rfl rfl rfl (rfl) (lts rfl) ?_
              refine SQ_no rfl rfl rfl (rfl) (lts rfl) ?_
              refine SQ_no1 rfl rfl rfl (rfl) (lts rfl) ?_
              refine SQ_no1 rfl rfl rfl (rfl) (lts rfl) ?_
              refine SQ_no rfl rfl rfl (rfl) (lts rfl) ?_
              refine SQ_no rfl rfl rfl (rfl) (lts rfl) ?_
              refine SQ_pu rfl (RD_pick_t rfl (rfl) rfl) rfl ?_
              refine SQ_nil ?_
              refine SN.le (l := [(7, _), (128, _)]) ?_ (.cons rfl (.cons rfl (.nil)))
              refine SN_seq ?_
              refine SC_cond_true rfl (rfl) ?_
              refine SC_seq ?_
              refine SC_region ?_
              refine SR_pu (RD_assign rfl) rfl ?_
              refine SR_nil ?_
              refine SN.le (l := [(4, _)]) ?_ (.cons rfl (.nil))
              refine SN_seq ?_
              refine SC_ret1 rfl rfl ?_
              have hnf : ¬ fixes st b := fun h => h (.inr (.inl (by simpa using hg11_16)))
              unfold SS.see
              rw [if_neg hok, if_neg hnf]
              exact ⟨rfl, (close_safe (p := p) (s := ⟨s.t, (s.see1 v b).hv, (s.see1 v b).hb, s.lock2 st (parOf st b), s.last⟩) rfl).trans .fin⟩
          · refine SQ_no rfl rfl rfl (hg11_7) (lts rfl) ?_
            refine SQ_no rfl rfl rfl (hg11_7) (lts rfl) ?_
            refine SQ_no rfl rfl rfl (hg11_7) (lts rfl) ?_
            refine SQ_no rfl rfl rfl (hg11_7) (lts rfl) ?_
            refine SQ_no rfl rfl rfl (hg11_7) (lts rfl) ?_
            refine SQ_no1 rfl rfl rfl (hg11_7) (lts rfl) ?_
            refine SQ_no rfl rfl rfl (hg11_7) (lts rfl) ?_
            refine SQ_pu rfl (RD_pick_t rfl (hg11_7) rfl) rfl ?_
            refine SQ_pu rfl (RD_move rfl) rfl ?_
            refine SQ_no rfl rfl rfl (rfl) (lts rfl) ?_
            refine SQ_no rfl rfl rfl (rfl) (lts rfl) ?_
            refine SQ_no rfl rfl rfl (rfl) (lts rfl) ?_
            refine SQ_no rfl rfl rfl (rfl) (lts rfl) ?_
            refine SQ_no rfl rfl rfl (rfl) (lts rfl) ?_
            refine SQ_no rfl rfl rfl (rfl) (lts rfl) ?_
            refine SQ_no rfl rfl rfl (rfl) (lts rfl) ?_
            refine SQ_no rfl rfl rfl (rfl) (lts rfl) ?_
            refine SQ_no rfl rfl rfl (rfl) (lts rfl) ?_
            refine SQ_no rfl rfl rfl (rfl) (lts rfl) ?_
            refine SQ_no1 rfl rfl rfl (rfl) (lts rfl) ?_
            refine SQ_no1 rfl rfl rfl (rfl) (lts rfl) ?_
            refine SQ_no rfl rfl rfl (rfl) (lts rfl) ?_
            refine SQ_no rfl rfl rfl (rfl) (lts rfl) ?_
            refine SQ_pu rfl (RD_pick_t rfl (rfl) rfl) rfl ?_
            refine SQ_pu rfl (RD_move rfl) rfl ?_
            refine SQ_no rfl rfl rfl (rfl) (lts rfl) ?_
            refine SQ_no rfl rfl rfl (rfl) (lts rfl) ?_
            refine SQ_no rfl rfl rfl (rfl) (lts rfl) ?_
            refine SQ_no rfl rfl rfl (rfl) (lts rfl) ?_
            refine SQ_no rfl rfl rfl (rfl) (lts rfl) ?_
            refine SQ_no rfl rfl rfl (rfl) (lts rfl) ?_
            refine SQ_no rfl rfl rfl (rfl) (lts rfl) ?_
            refine SQ_no rfl rfl rfl (rfl) (lts rfl) ?_
            refine SQ_no rfl rfl rfl (rfl) (lts rfl) ?_
            refine SQ_no rfl rfl rfl (rfl) (lts rfl) ?_
            refine SQ_no1 rfl rfl rfl (rfl) (lts rfl) ?_
            refine SQ_no1 rfl rfl rfl (rfl) (lts rfl) ?_
            refine SQ_no rfl rfl rfl (rfl) (lts rfl) ?_
            refine SQ_no rfl rfl rfl (rfl) (lts rfl) ?_
            refine SQ_pu rfl (RD_pick_t rfl (rfl) rfl) rfl ?_
            refine SQ_nil ?_
            refine SN.le (l := [(7, _), (128, _)]) ?_ (.cons rfl (.cons rfl (.nil)))
            refine SN_seq ?_
            refine SC_cond_true rfl (rfl) ?_
            refine SC_seq ?_
            refine SC_region ?_
            refine SR_pu (RD_assign rfl) rfl ?_
            refine SR_nil ?_
            refine SN.le (l := [(4, _)]) ?_ (.cons rfl (.nil))
            refine SN_seq ?_
            refine SC_ret1 rfl rfl ?_
            have hnf : ¬ fixes st b := fun h => h (.inl (by simpa using hg11_7))
            unfold SS.see
            rw [if_neg hok, if_neg hnf]
            exact ⟨rfl, (close_safe (p := p) (s := ⟨s.t, (s.see1 v b).hv, (s.see1 v b).hb, s.lock2 st (parOf st b), s.last⟩) rfl).trans .fin⟩
        · refine SC_drawn (.cons 0 true (.cons 1 true (.cons 2 true (.cons 3 true (.cons 4 true (.cons 6 true (.cons 7 true (.cons 8 true (.cons 9 true (.cons 10 true (.cons 11 true (.cons 12 true (.cons 13 true (.cons 5 false (.cons 14 false (.cons 15 true (.nil))))))))))))))))) (by kernel_rfl) (by kernel_rfl) ?_
          refine SQ_pu rfl (RD_move rfl) rfl ?_
          first
            | refine SQ_pu rfl (RD_nilCheck rfl) rfl ?_
            | refine SQ_pu rfl (RD_nilCheckF rfl) rfl ?_
          first
            | refine SQ_pu rfl (RD_fieldAddr0 Try.runUnderlying114 rfl rfl Try.sizeOf61 rfl) rfl ?_
            | refine SQ_rd rfl (RD_fieldAddrO 0 Try.runUnderlying114 rfl rfl Try.sizeOf61 rfl (by simp <;> omega)) Has.ro rfl ?_
          refine SQ_rd rfl (RD_load Try.isAgg61 rfl) (Has.ce rfl) rfl ?_
          refine SQ_pu rfl (RD_move rfl) rfl ?_
          refine SQ_pu rfl (RD_move rfl) rfl ?_
          first
            | refine SQ_pu rfl (RD_nilCheck rfl) rfl ?_
            | refine SQ_pu rfl (RD_nilCheckF rfl) rfl ?_
          first
            | refine SQ_pu rfl (RD_fieldAddr0 Try.runUnderlying114 rfl rfl Try.sizeOf61 rfl) rfl ?_
            | refine SQ_rd rfl (RD_fieldAddrO 0 Try.runUnderlying114 rfl rfl Try.sizeOf61 rfl (by simp <;> omega)) Has.ro rfl ?_
          refine SQ_rd rfl (RD_load Try.isAgg61 rfl) (Has.ce rfl) rfl ?_
          refine SQ_pu rfl (RD_move rfl) rfl ?_
          first
            | refine SQ_pu rfl (RD_nilCheck rfl) rfl ?_
            | refine SQ_pu rfl (RD_nilCheckF rfl) rfl ?_
          first
            | refine SQ_pu rfl (RD_fieldAddr 4 Try.runUnderlying114 rfl rfl Try.sizeOf3 rfl) rfl ?_
            | refine SQ_rd rfl (RD_fieldAddrO 4 Try.runUnderlying114 rfl rfl Try.sizeOf3 rfl (by simp <;> omega)) Has.ro rfl ?_
          refine SQ_rd rfl (RD_load Try.isAgg3 rfl) (Has.ce rfl) rfl ?_
          refine SQ_call rfl Try.call31 (.cons rfl (.cons rfl (.nil))) (CallsK.at (tree_View s.t st (parOf st b))) (lts rfl) ?_
          rintro _ L6 ⟨rfl, hL6⟩
          refine ⟨.lands hL6 (.h (Has.ce rfl) (.h (Has.ce rfl) (.w rfl (.nil)))), ?_⟩
          refine SQ.lands hL6 ?_
          refine SQ_call rfl Try.call31 (.cons rfl (.cons rfl (.nil))) (CallsK.at (tree_View s.t st (s.lock))) (lts rfl) ?_
          rintro _ L7 ⟨rfl, hL7⟩
          refine ⟨.lands hL7 (.w rfl (.w rfl (.h (Has.ce rfl) (.nil)))), ?_⟩
          refine SQ.lands hL7 ?_
          refine SQ_pu rfl (RD_gtr rfl rfl) rfl ?_
          refine SQ_nil ?_
          refine SN.le (l := [(0, _), (5, _), (6, _), (7, _), (76, _)]) ?_ (.cons rfl (.cons rfl (.cons rfl (.cons rfl (.cons rfl (.nil))))))
          refine SN_seq ?_
          refine SC_cond rfl (fun hc76 => ?_) (fun hc76 => ?_)
          · refine SC_region ?_
            refine SR_pu (RD_move rfl) rfl ?_
            refine SR_pu (RD_move rfl) rfl ?_
            first
              | refine SR_pu (RD_nilCheck rfl) rfl ?_
              | refine SR_pu (RD_nilCheckF rfl) rfl ?_
            first
              | refine SR_pu (RD_fieldAddr 4 Try.runUnderlying114 rfl rfl Try.sizeOf3 rfl) rfl ?_
              | refine SR_rd (RD_fieldAddrO 4 Try.runUnderlying114 rfl rfl Try.sizeOf3 rfl (by simp <;> omega)) Has.ro rfl ?_
            refine SR_ox0 (OX_st Try.sizeOf3 rfl rfl) ?_
            rintro _ _ rfl
            refine SR_nil ?_
            refine SN.le (l := [(0, _), (5, _), (6, _), (7, _)]) ?_ (.cons rfl (.cons rfl (.cons rfl (.cons rfl (.nil)))))
            exact J0 (⟨parOf st b, by unfold SS.lock2; rw [if_pos (by simpa using hc76)]⟩) _ _ (.cons rfl (.cons rfl (.cons rfl (.cons rfl (.nil))))) ((show Lands _ (pt p (.cells [.pointer (some ⟨s.t, 0, none⟩), .int .i64 (s.see1 v b).hv, .int .i64 (s.see1 v b).hb, .slice a 0 c, .int .i64 (parOf st b), .int .i64 s.last].toArray 114) :: rowP 3 1 a 0 c [] :: pt b3 (.cells [.int .i64 v, .int .i64 b, .slice none 0 0].toArray 26) :: At treeI s.t st :: F) from .fin))
          · refine SC_skip ?_
            exact J0 (⟨s.lock, by unfold SS.lock2; rw [if_neg (by simpa using hc76)]⟩) _ _ (.cons rfl (.cons rfl (.cons rfl (.cons rfl (.nil))))) ((show Lands _ (pt p (.cells [.pointer (some ⟨s.t, 0, none⟩), .int .i64 (s.see1 v b).hv, .int .i64 (s.see1 v b).hb, .slice a 0 c, .int .i64 s.lock, .int .i64 s.last].toArray 114) :: rowP 3 1 a 0 c [] :: pt b3 (.cells [.int .i64 v, .int .i64 b, .slice none 0 0].toArray 26) :: At treeI s.t st :: F) from .fin))
      · refine SC_drawn (.cons 0 true (.cons 1 true (.cons 2 true (.cons 3 true (.cons 4 true (.cons 5 true (.cons 6 true (.cons 7 true (.nil))))))))) (by kernel_rfl) (by kernel_rfl) ?_
        first
          | refine SQ_pu rfl (RD_fieldAddr0 Try.runUnderlying26 rfl rfl Try.sizeOf3 rfl) rfl ?_
          | refine SQ_rd rfl (RD_fieldAddrO 0 Try.runUnderlying26 rfl rfl Try.sizeOf3 rfl (by simp <;> omega)) Has.ro rfl ?_
        refine SQ_rd rfl (RD_load Try.isAgg3 rfl) (Has.ce rfl) rfl ?_
        refine SQ_pu rfl (RD_move rfl) rfl ?_
        first
          | refine SQ_pu rfl (RD_nilCheck rfl) rfl ?_
          | refine SQ_pu rfl (RD_nilCheckF rfl) rfl ?_
        first
          | refine SQ_pu rfl (RD_fieldAddr 1 Try.runUnderlying114 rfl rfl Try.sizeOf26 rfl) rfl ?_
          | refine SQ_rd rfl (RD_fieldAddrO 1 Try.runUnderlying114 rfl rfl Try.sizeOf26 rfl (by simp <;> omega)) Has.ro rfl ?_
        first
          | refine SQ_pu rfl (RD_fieldAddr0 Try.runUnderlying26 rfl rfl Try.sizeOf3 rfl) rfl ?_
          | refine SQ_rd rfl (RD_fieldAddrO 0 Try.runUnderlying26 rfl rfl Try.sizeOf3 rfl (by simp <;> omega)) Has.ro rfl ?_
        refine SQ_rd rfl (RD_load Try.isAgg3 rfl) (Has.ce rfl) rfl ?_
        refine SQ_pu rfl (RD_gtr rfl rfl) rfl ?_
        refine SQ_nil ?_
        refine SN.le (l := [(0, _), (3, _), (35, _)]) ?_ (.cons rfl (.cons rfl (.cons rfl (.nil))))
        refine SN_seq ?_
        refine SC_cond rfl (fun hc35 => ?_) (fun hc35 => ?_)
        · refine SC_seq ?_
          refine SC_region ?_
          refine SR_pu (RD_move rfl) rfl ?_
          refine SR_rd (RD_loadA (vs := [.int .i64 v, .int .i64 b, .slice none 0 0]) Try.isAgg26 Try.sizeOf26 rfl rfl) Has.wh rfl ?_
          first
            | refine SR_pu (RD_nilCheck rfl) rfl ?_
            | refine SR_pu (RD_nilCheckF rfl) rfl ?_
          first
            | refine SR_pu (RD_fieldAddr 1 Try.runUnderlying114 rfl rfl Try.sizeOf26 rfl) rfl ?_
            | refine SR_rd (RD_fieldAddrO 1 Try.runUnderlying114 rfl rfl Try.sizeOf26 rfl (by simp <;> omega)) Has.ro rfl ?_
          refine SR_ox0 (OX_stAo (vs := [.int .i64 v, .int .i64 b, .slice none 0 0]) (cs := [.pointer (some ⟨s.t, 0, none⟩), .int .i64 s.hv, .int .i64 s.hb, .slice a 0 c, .int .i64 s.lock, .int .i64 s.last]) (cs' := [.pointer (some ⟨s.t, 0, none⟩), .int .i64 v, .int .i64 b, .slice none 0 0, .int .i64 s.lock, .int .i64 s.last]) Try.sizeOf26 rfl rfl rfl (by simp) rfl) ?_
          rintro _ _ rfl
          refine SR_nil ?_
          refine SN.le (l := [(0, _), (3, _)]) ?_ (.cons rfl (.cons rfl (.nil)))
          refine SN_seq ?_
          refine SC_region ?_
          refine SR_pu (RD_move rfl) rfl ?_
          first
            | refine SR_pu (RD_fieldAddr 2 Try.runUnderlying26 rfl rfl Try.sizeOf24 rfl) rfl ?_
            | refine SR_rd (RD_fieldAddrO 2 Try.runUnderlying26 rfl rfl Try.sizeOf24 rfl (by simp <;> omega)) Has.ro rfl ?_
          refine SR_rd (RD_load Try.isAgg24 rfl) (Has.ce rfl) rfl ?_
          refine SR_call Try.call64 (.cons rfl (.nil)) (clone_ints [] none 0 0 rfl (by simp)) (lts rfl) ?_
          rintro _ L3 ⟨a43, c43, rfl, hL3⟩
          refine SR.lands hL3 ?_
          first
            | refine SR_pu (RD_nilCheck rfl) rfl ?_
            | refine SR_pu (RD_nilCheckF rfl) rfl ?_
          first
            | refine SR_pu (RD_fieldAddr 1 Try.runUnderlying114 rfl rfl Try.sizeOf26 rfl) rfl ?_
            | refine SR_rd (RD_fieldAddrO 1 Try.runUnderlying114 rfl rfl Try.sizeOf26 rfl (by simp <;> omega)) Has.ro rfl ?_
          first
            | refine SR_pu (RD_fieldAddr 2 Try.runUnderlying26 rfl rfl Try.sizeOf24 rfl) rfl ?_
            | refine SR_rd (RD_fieldAddrO 2 Try.runUnderlying26 rfl rfl Try.sizeOf24 rfl (by simp <;> omega)) Has.ro rfl ?_
          refine SR_ox0 (OX_st Try.sizeOf24 rfl rfl) ?_
          rintro _ _ rfl
          refine SR_nil ?_
          refine SN.le (l := [(0, _), (3, _)]) ?_ (.cons rfl (.cons rfl (.nil)))
          exact J0 (⟨(v, b, a43, c43), by unfold SS.see1; rw [if_pos (by simpa using hc35)]; exact ⟨rfl, rfl⟩⟩) _ _ (.cons rfl (.cons rfl (.nil))) ((show Lands _ (pt p (.cells [.pointer (some ⟨s.t, 0, none⟩), .int .i64 v, .int .i64 b, .slice a43 0 c43, .int .i64 s.lock, .int .i64 s.last].toArray 114) :: rowP 3 1 a43 0 c43 [] :: pt b3 (.cells [.int .i64 v, .int .i64 b, .slice none 0 0].toArray 26) :: At treeI s.t st :: F) from .fin))
        · refine SC_skip ?_
          exact J0 (⟨(s.hv, s.hb, a, c), by unfold SS.see1; rw [if_neg (by simpa using hc35)]; exact ⟨rfl, rfl⟩⟩) _ _ (.cons rfl (.cons rfl (.nil))) ((show Lands _ (pt p (.cells [.pointer (some ⟨s.t, 0, none⟩), .int .i64 s.hv, .int .i64 s.hb, .slice a 0 c, .int .i64 s.lock, .int .i64 s.last].toArray 114) :: rowP 3 1 a 0 c [] :: pt b3 (.cells [.int .i64 v, .int .i64 b, .slice none 0 0].toArray 26) :: At treeI s.t st :: F) from .fin))
  · refine SQ_no rfl rfl rfl (hg1_8) (lts rfl) ?_
    refine SQ_no rfl rfl rfl (hg1_8) (lts rfl) ?_
    refine SQ_no rfl rfl rfl (hg1_8) (lts rfl) ?_
    refine SQ_no rfl rfl rfl (hg1_8) (lts rfl) ?_
    refine SQ_no rfl rfl rfl (hg1_8) (lts rfl) ?_
    refine SQ_no rfl rfl rfl (hg1_8) (lts rfl) ?_
    refine SQ_no rfl rfl rfl (hg1_8) (lts rfl) ?_
    refine SQ_no rfl rfl rfl (hg1_8) (lts rfl) ?_
    refine SQ_no1 rfl rfl rfl (hg1_8) (lts rfl) ?_
    refine SQ_no rfl rfl rfl (hg1_8) (lts rfl) ?_
    refine SQ_pu rfl (RD_pick_t rfl (hg1_8) rfl) rfl ?_
    refine SQ_nil ?_
    refine SN.le (l := [(0, _), (3, _), (27, _)]) ?_ (.cons rfl (.cons rfl (.cons rfl (.nil))))
    refine SN_seq ?_
    have hbad : (mget st.T b).isSome = false ∨ v ≠ viewOf (mget st.T b) := .inl (by simpa using hg1_8)
    refine SC_cond_true rfl (rfl) ?_
    refine SC_seq ?_
    refine SC_region ?_
    refine SR_pu (RD_assign rfl) rfl ?_
    refine SR_nil ?_
    refine SN.le (l := [(4, _)]) ?_ (.cons rfl (.nil))
    refine SN_seq ?_
    refine SC_ret1 rfl rfl ?_
    unfold SS.see
    rw [if_pos hbad]
    exact ⟨rfl, ((close_safe (p := p) (s := s) rfl).trans .fin)⟩

end Go.Proofs.Ytmigjpmadhebfaa
