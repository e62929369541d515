/- What is fixed: the log and its functions. -/
import Derived.Test.YtnifaajdiolbjaaTr6
import Derived.Test.YtnifaajdiolbjaaEs
namespace Go.Proofs.Ytnifaajdiolbjaa
open Go Go.Proofs
set_option maxRecDepth 100000
/-- A log. -/
structure LS where
  w : Nat
  t : Nat
  tip : Int
  l : List EnvD
  ks : List Int
def wsC (T : List Int) : List (Int × Value) := T.map fun w => (w, Value.int .i64 1)
def logI (p : Nat) (s : LS) : HProp := fun h => ∃ a c m, Den [pt p (.cells [.pointer (some ⟨s.w, 0, none⟩), .pointer (some ⟨s.t, 0, none⟩), .int .i64 s.tip, .slice a s.l.length c, .map (some m)].toArray 128), rowP 39 4 a s.l.length c (s.l.flatMap EnvD.cells), mapP intK m (wsC s.ks)] h

theorem open_log {p : Nat} {s : LS} : Opens logI p s (fun x : (Option Addr) × (Nat) × (Nat) => True) (fun x R => (pt p (.cells [.pointer (some ⟨s.w, 0, none⟩), .pointer (some ⟨s.t, 0, none⟩), .int .i64 s.tip, .slice x.1 s.l.length x.2.1, .map (some x.2.2)].toArray 128)) :: (rowP 39 4 x.1 s.l.length x.2.1 (s.l.flatMap EnvD.cells)) :: (mapP intK x.2.2 (wsC s.ks)) :: R) := by
  rintro R m_ ⟨m1, m2, d, e, ⟨a, c, m, h⟩, r⟩
  exact ⟨(a, c, m), trivial, Den_app d e h r⟩
theorem SC.op_log {W : World} {P : Program} {L R : List HProp} {n_ : Nat} {c_ : Code} {k_ : Kont} {l_ : Env} {p : Nat} {s : LS} [t_ : TakeAt L logI p s R] (h_ : ∀ (a : Option Addr) (c : Nat) (m : Nat), SC W P n_ c_ k_ l_ ((pt p (.cells [.pointer (some ⟨s.w, 0, none⟩), .pointer (some ⟨s.t, 0, none⟩), .int .i64 s.tip, .slice a s.l.length c, .map (some m)].toArray 128)) :: (rowP 39 4 a s.l.length c (s.l.flatMap EnvD.cells)) :: (mapP intK m (wsC s.ks)) :: R)) : SC W P n_ c_ k_ l_ L := SC.opn (open_log) fun x hx => h_ x.1 x.2.1 x.2.2 
theorem SN.op_log {W : World} {P : Program} {L R : List HProp} {n_ : Nat} {k_ : Kont} {l_ : Env} {p : Nat} {s : LS} [t_ : TakeAt L logI p s R] (h_ : ∀ (a : Option Addr) (c : Nat) (m : Nat), SN W P n_ k_ l_ ((pt p (.cells [.pointer (some ⟨s.w, 0, none⟩), .pointer (some ⟨s.t, 0, none⟩), .int .i64 s.tip, .slice a s.l.length c, .map (some m)].toArray 128)) :: (rowP 39 4 a s.l.length c (s.l.flatMap EnvD.cells)) :: (mapP intK m (wsC s.ks)) :: R)) : SN W P n_ k_ l_ L := SN.opn (open_log) fun x hx => h_ x.1 x.2.1 x.2.2 
theorem SR.op_log {W : World} {P : Program} {L R : List HProp} {n_ : Nat} {ops_ : Array Oper} {os_ : List Oper} {k_ : Kont} {l_ : Env} {p : Nat} {s : LS} [t_ : TakeAt L logI p s R] (h_ : ∀ (a : Option Addr) (c : Nat) (m : Nat), SR W P n_ ops_ os_ k_ l_ ((pt p (.cells [.pointer (some ⟨s.w, 0, none⟩), .pointer (some ⟨s.t, 0, none⟩), .int .i64 s.tip, .slice a s.l.length c, .map (some m)].toArray 128)) :: (rowP 39 4 a s.l.length c (s.l.flatMap EnvD.cells)) :: (mapP intK m (wsC s.ks)) :: R)) : SR W P n_ ops_ os_ k_ l_ L := SR.opn (open_log) fun x hx => h_ x.1 x.2.1 x.2.2 
theorem SQ.op_log {W : World} {P : Program} {L R : List HProp} {n_ : Nat} {ops_ : Array Oper} {r_ : Ord} {Ts_ : Facts} {k_ : Kont} {l_ : Env} {p : Nat} {s : LS} [t_ : TakeAt L logI p s R] (h_ : ∀ (a : Option Addr) (c : Nat) (m : Nat), SQ W P n_ ops_ r_ Ts_ k_ l_ ((pt p (.cells [.pointer (some ⟨s.w, 0, none⟩), .pointer (some ⟨s.t, 0, none⟩), .int .i64 s.tip, .slice a s.l.length c, .map (some m)].toArray 128)) :: (rowP 39 4 a s.l.length c (s.l.flatMap EnvD.cells)) :: (mapP intK m (wsC s.ks)) :: R)) : SQ W P n_ ops_ r_ Ts_ k_ l_ L := SQ.opn (open_log) fun x hx => h_ x.1 x.2.1 x.2.2 
theorem CallsK.op_log {W : World} {P : Program} {L R : List HProp} {f_ : FuncId} {args_ : Array Value} {K_ : Value → List HProp → Prop} {p : Nat} {s : LS} [t_ : TakeAt L logI p s R] (h_ : ∀ (a : Option Addr) (c : Nat) (m : Nat), CallsK W P f_ args_ ((pt p (.cells [.pointer (some ⟨s.w, 0, none⟩), .pointer (some ⟨s.t, 0, none⟩), .int .i64 s.tip, .slice a s.l.length c, .map (some m)].toArray 128)) :: (rowP 39 4 a s.l.length c (s.l.flatMap EnvD.cells)) :: (mapP intK m (wsC s.ks)) :: R) K_) : CallsK W P f_ args_ L K_ := CallsK.opn (open_log) fun x hx => h_ x.1 x.2.1 x.2.2 
theorem close_log {L R R1 R2 : List HProp} {p w t n c m : Nat} {tip : Int} {a : Option Addr} {cs : List Value} {mm : List (Int × Value)} {s : LS} [t_ : TakePt L p (.cells [.pointer (some ⟨w, 0, none⟩), .pointer (some ⟨t, 0, none⟩), .int .i64 tip, .slice a n c, .map (some m)].toArray 128) R1] [u : TakeRow R1 a 39 4 n c cs R2] [v : TakeMap R2 intK m mm R]
    (h1 : s.w = w) (h2 : s.t = t) (h3 : s.tip = tip) (h4 : s.l.length = n) (h5 : cs = s.l.flatMap EnvD.cells) (h6 : mm = wsC s.ks) : Lands L (At logI p s :: R) := fun q H => by
  subst h1; subst h2; subst h3; subst h4; subst h5; subst h6
  obtain ⟨m1, m2, d, e, hq, hr⟩ := Den_perm t_.perm q H
  obtain ⟨m3, m4, d2, e2, hm, hs⟩ := Den_perm u.perm m2 hr
  have H2 : Den ([pt p (.cells [.pointer (some ⟨s.w, 0, none⟩), .pointer (some ⟨s.t, 0, none⟩), .int .i64 s.tip, .slice a s.l.length c, .map (some m)].toArray 128), rowP 39 4 a s.l.length c (s.l.flatMap EnvD.cells), mapP intK m (wsC s.ks)] ++ R) q := ⟨m1, m2, d, e, hq, m3, m4, d2, e2, hm, Den_perm v.perm m4 hs⟩
  exact Lands.wrap (A := At logI p s) (fun z hz => ⟨a, c, m, hz⟩) q H2
/-- One envelope more, if it is not there. -/
def LS.take1 (l : List (List UInt8)) (s : LS) (e : EnvD) : LS := if ((dnum l (envB e) : Nat) : Int) ∈ s.ks then s else ⟨s.w, s.t, s.tip, s.l ++ [e], s.ks ++ [((dnum l (envB e) : Nat) : Int)]⟩
def LS.takeB (l : List (List UInt8)) (s : LS) (es : List EnvD) : LS := es.foldl (LS.take1 l) s
def LS.step (l : List (List UInt8)) (st : TS) (s : LS) (x : Int) : LS := { (s.takeB l ((mget st.T x).getD zBlk).envs) with tip := x }
def LS.goB (l : List (List UInt8)) (st : TS) (s : LS) (W : List Int) : LS := W.foldl (LS.step l st) s
def LS.commit (l : List (List UInt8)) (st : TS) (s : LS) (d : Int) : Bool × LS :=
  if (st.way d s.tip).isSome then (true, s) else ((st.way s.tip d).isSome, s.goB l st ((st.way s.tip d).getD []))
theorem take1_wt (l : List (List UInt8)) (s : LS) (e : EnvD) : (s.take1 l e).w = s.w ∧ (s.take1 l e).t = s.t ∧ (s.take1 l e).tip = s.tip ∧ (s.take1 l e).l.length ≤ s.l.length + 1 := by
  unfold LS.take1; split
  · exact ⟨rfl, rfl, rfl, by omega⟩
  · exact ⟨rfl, rfl, rfl, by simp⟩
theorem takeB_wt (l : List (List UInt8)) : ∀ (es : List EnvD) (s : LS), (s.takeB l es).w = s.w ∧ (s.takeB l es).t = s.t ∧ (s.takeB l es).tip = s.tip ∧ (s.takeB l es).l.length ≤ s.l.length + es.length
  | [], s => ⟨rfl, rfl, rfl, by simp [LS.takeB]⟩
  | e :: es, s => by
    obtain ⟨h1, h2, h3, h4⟩ := takeB_wt l es (s.take1 l e)
    obtain ⟨g1, g2, g3, g4⟩ := take1_wt l s e
    exact ⟨h1.trans g1, h2.trans g2, h3.trans g3, by show ((s.take1 l e).takeB l es).l.length ≤ _; rw [List.length_cons]; omega⟩
theorem takeB_snoc (l : List (List UInt8)) (s : LS) (es : List EnvD) (e : EnvD) : s.takeB l (es ++ [e]) = (s.takeB l es).take1 l e := by simp [LS.takeB]
theorem goB_snoc (l : List (List UInt8)) (st : TS) (s : LS) (W : List Int) (x : Int) : s.goB l st (W ++ [x]) = (s.goB l st W).step l st x := by simp [LS.goB]
theorem step_wt (l : List (List UInt8)) (st : TS) (s : LS) (x : Int) : (s.step l st x).w = s.w ∧ (s.step l st x).t = s.t := by
  obtain ⟨h1, h2, _⟩ := takeB_wt l ((mget st.T x).getD zBlk).envs s
  exact ⟨h1, h2⟩
theorem goB_wt (l : List (List UInt8)) (st : TS) : ∀ (W : List Int) (s : LS), (s.goB l st W).w = s.w ∧ (s.goB l st W).t = s.t
  | [], s => ⟨rfl, rfl⟩
  | x :: W, s => by
    obtain ⟨h1, h2⟩ := goB_wt l st W (s.step l st x)
    obtain ⟨g1, g2⟩ := step_wt l st s x
    exact ⟨h1.trans g1, h2.trans g2⟩
theorem wayF_len (s : TS) (f : Int) : ∀ (n : Nat) (t : Int) (W : List Int), wayF s n f t = some W → W.length ≤ n
  | 0, t, W, h => by simp [wayF] at h
  | n + 1, t, W, h => by
    simp only [wayF] at h
    split at h
    · cases h; simp
    · split at h
      · cases h
      · split at h
        · cases h
        · rename_i W2 h2
          obtain ⟨W3, h3, rfl⟩ := Option.map_eq_some_iff.1 h
          have := wayF_len s f n _ _ h3
          simp; omega
theorem clog_way_len {s : TS} {f t : Int} {W : List Int} (h : s.way f t = some W) : W.length ≤ (viewOf (mget s.T t)).toNat + 1 := wayF_len s f _ t W h

theorem clog_New {W : World} {F : List HProp} [Abs F] (w t : Nat) (st : TS) :
    CallsK W Try.prog 38 #[.pointer (some ⟨w, 0, none⟩), .pointer (some ⟨t, 0, none⟩)] (At treeI t st :: F) (fun v L => ∃ p, v = .pointer (some ⟨p, 0, none⟩) ∧ Lands L (At logI p ⟨w, t, st.root, [], []⟩ :: At treeI t st :: F)) := by
  refine CallsK_enter (n := 12) Try.func38 rfl rfl rfl ?_
  refine SC_seq ?_
  refine SC_region ?_
  refine SR_pu (RD_assign rfl) rfl ?_
  refine SR_nil ?_
  refine SN.le (l := [(0, _), (1, _)]) ?_ (.cons rfl (.cons rfl (.nil)))
  refine SN_seq ?_
  refine SC_seq ?_
  refine SC_region ?_
  refine SR_pu (RD_move rfl) rfl ?_
  refine SR_pu (RD_move rfl) rfl ?_
  refine SR_pu (RD_move rfl) rfl ?_
  refine SR_call Try.call77 (.cons rfl (.nil)) (CallsK.at (tree_Root t st)) (lts rfl) ?_
  rintro _ L1 ⟨rfl, hL1⟩
  refine SR.lands hL1 ?_
  refine SR_ox (OX_mk intK) rfl ?_
  rintro _ _ ⟨b9, rfl, rfl⟩
  refine SR_pu (RD_build (.cons rfl (.cons rfl (.cons rfl (.cons rfl (.nil))))) built128_0_1_2_4) rfl ?_
  refine SR_ox (OX_box rfl rfl) rfl ?_
  rintro _ _ ⟨b11, rfl, rfl⟩
  refine SR_pu (RD_assign rfl) rfl ?_
  refine SR_nil ?_
  refine SN.le (l := [(4, _)]) ?_ (.cons rfl (.nil))
  refine SN_seq ?_
  refine SC_ret1 rfl rfl ?_
  refine ⟨b11, rfl, ?_⟩
  exact (row_new 39 4 none).trans ((close_log (p := b11) (s := ⟨w, t, st.root, [], []⟩) rfl rfl rfl rfl rfl rfl).trans .fin)

theorem clog_Tip {W : World} {F : List HProp} [Abs F] (p : Nat) (s : LS) :
    CallsK W Try.prog 42 #[.pointer (some ⟨p, 0, none⟩)] (At logI p s :: F) (fun v L => v = .int .i64 s.tip ∧ Lands L (At logI p s :: F)) := by
  refine CallsK_enter (n := 7) Try.func42 rfl rfl rfl ?_
  refine SC_seq ?_
  refine SC_region ?_
  refine SR_pu (RD_assign rfl) rfl ?_
  refine SR_nil ?_
  refine SN.le (l := [(0, _)]) ?_ (.cons rfl (.nil))
  refine SN_seq ?_
  refine SC_seq ?_
  refine SC.op_log (p := p) fun a c m => ?_
  refine SC_region ?_
  refine SR_pu (RD_move rfl) rfl ?_
  first
    | refine SR_pu (RD_nilCheck rfl) rfl ?_
    | refine SR_pu (RD_nilCheckF rfl) rfl ?_
  first
    | refine SR_pu (RD_fieldAddr 2 Try.runUnderlying128 rfl rfl Try.sizeOf3 rfl) rfl ?_
    | refine SR_rd (RD_fieldAddrO 2 Try.runUnderlying128 rfl rfl Try.sizeOf3 rfl (by simp <;> omega)) Has.ro rfl ?_
  refine SR_rd (RD_load Try.isAgg3 rfl) (Has.ce rfl) rfl ?_
  refine SR_pu (RD_assign rfl) rfl ?_
  refine SR_nil ?_
  refine SN.le (l := [(2, _)]) ?_ (.cons rfl (.nil))
  refine SN_seq ?_
  refine SC_ret1 rfl rfl ?_
  exact ⟨rfl, ((close_log (p := p) (s := s) rfl rfl rfl rfl rfl rfl).trans .fin)⟩

theorem clog_Len {W : World} {F : List HProp} [Abs F] (p : Nat) (s : LS) :
    CallsK W Try.prog 45 #[.pointer (some ⟨p, 0, none⟩)] (At logI p s :: F) (fun v L => v = .int .i64 (s.l.length : Nat) ∧ Lands L (At logI p s :: F)) := by
  refine CallsK_enter (n := 8) Try.func45 rfl rfl rfl ?_
  refine SC_seq ?_
  refine SC_region ?_
  refine SR_pu (RD_assign rfl) rfl ?_
  refine SR_nil ?_
  refine SN.le (l := [(0, _)]) ?_ (.cons rfl (.nil))
  refine SN_seq ?_
  refine SC_seq ?_
  refine SC.op_log (p := p) fun a c m => ?_
  refine SC_region ?_
  refine SR_pu (RD_move rfl) rfl ?_
  first
    | refine SR_pu (RD_nilCheck rfl) rfl ?_
    | refine SR_pu (RD_nilCheckF rfl) rfl ?_
  first
    | refine SR_pu (RD_fieldAddr 3 Try.runUnderlying128 rfl rfl Try.sizeOf31 rfl) rfl ?_
    | refine SR_rd (RD_fieldAddrO 3 Try.runUnderlying128 rfl rfl Try.sizeOf31 rfl (by simp <;> omega)) Has.ro rfl ?_
  refine SR_rd (RD_load Try.isAgg31 rfl) (Has.ce rfl) rfl ?_
  refine SR_pu (RD_len Try.runUnderlying31 rfl) rfl ?_
  refine SR_pu (RD_assign rfl) rfl ?_
  refine SR_nil ?_
  refine SN.le (l := [(2, _)]) ?_ (.cons rfl (.nil))
  refine SN_seq ?_
  refine SC_ret1 rfl rfl ?_
  exact ⟨rfl, ((close_log (p := p) (s := s) rfl rfl rfl rfl rfl rfl).trans .fin)⟩

theorem clog_Envs {W : World} {F : List HProp} [Abs F] (p : Nat) (s : LS) (hb : s.l.length ≤ 100000000) :
    CallsK W Try.prog 41 #[.pointer (some ⟨p, 0, none⟩)] (At logI p s :: F) (fun v L => ∃ a c, v = .slice a s.l.length c ∧ Lands L (rowP 39 4 a s.l.length c (s.l.flatMap EnvD.cells) :: At logI p s :: F)) := by
  refine CallsK_enter (n := 8) Try.func41 rfl rfl rfl ?_
  refine SC_seq ?_
  refine SC_region ?_
  refine SR_pu (RD_assign rfl) rfl ?_
  refine SR_nil ?_
  refine SN.le (l := [(0, _)]) ?_ (.cons rfl (.nil))
  refine SN_seq ?_
  refine SC_seq ?_
  refine SC.op_log (p := p) fun a c m => ?_
  refine SC_region ?_
  refine SR_pu (RD_move rfl) rfl ?_
  first
    | refine SR_pu (RD_nilCheck rfl) rfl ?_
    | refine SR_pu (RD_nilCheckF rfl) rfl ?_
  first
    | refine SR_pu (RD_fieldAddr 3 Try.runUnderlying128 rfl rfl Try.sizeOf31 rfl) rfl ?_
    | refine SR_rd (RD_fieldAddrO 3 Try.runUnderlying128 rfl rfl Try.sizeOf31 rfl (by simp <;> omega)) Has.ro rfl ?_
  refine SR_rd (RD_load Try.isAgg31 rfl) (Has.ce rfl) rfl ?_
  refine SR_call Try.call83 (.cons rfl (.nil)) (clone_envs (s.l.flatMap EnvD.cells) a s.l.length c (env_len _) (by omega)) (lts rfl) ?_
  rintro _ L1 ⟨a7, c7, rfl, hL1⟩
  refine SR.lands hL1 ?_
  refine SR_pu (RD_assign rfl) rfl ?_
  refine SR_nil ?_
  refine SN.le (l := [(2, _)]) ?_ (.cons rfl (.nil))
  refine SN_seq ?_
  refine SC_ret1 rfl rfl ?_
  exact ⟨a7, c7, rfl, (close_log (p := p) (s := s) rfl rfl rfl rfl rfl rfl).trans .fin⟩

theorem clog_Has {W : World} {F : List HProp} [Abs F] (p : Nat) (s : LS) (d : Int) :
    CallsK W Try.prog 47 #[.pointer (some ⟨p, 0, none⟩), .int .i64 d] (At logI p s :: F) (fun v L => v = .bool (decide (d ∈ s.ks)) ∧ Lands L (At logI p s :: F)) := by
  refine CallsK_enter (n := 12) Try.func47 rfl rfl rfl ?_
  refine SC_seq ?_
  refine SC_region ?_
  refine SR_pu (RD_assign rfl) rfl ?_
  refine SR_nil ?_
  refine SN.le (l := [(0, _), (1, _)]) ?_ (.cons rfl (.cons rfl (.nil)))
  refine SN_seq ?_
  refine SC_seq ?_
  refine SC.op_log (p := p) fun a c m => ?_
  refine SC_region ?_
  refine SR_pu (RD_move rfl) rfl ?_
  first
    | refine SR_pu (RD_nilCheck rfl) rfl ?_
    | refine SR_pu (RD_nilCheckF rfl) rfl ?_
  first
    | refine SR_pu (RD_fieldAddr 4 Try.runUnderlying128 rfl rfl Try.sizeOf25 rfl) rfl ?_
    | refine SR_rd (RD_fieldAddrO 4 Try.runUnderlying128 rfl rfl Try.sizeOf25 rfl (by simp <;> omega)) Has.ro rfl ?_
  refine SR_rd (RD_load Try.isAgg25 rfl) (Has.ce rfl) rfl ?_
  refine SR_pu (RD_move rfl) rfl ?_
  refine SR_rd (RD_lookI (m := wsC s.ks) Try.underlying25 Try.underlying3 Try.zeroValue3 rfl rfl (or_ws s.ks d)) (Has.ma (K := intK)) rfl ?_
  refine SR_pu (RD_gtr rfl rfl) rfl ?_
  refine SR_pu (RD_assign rfl) rfl ?_
  refine SR_nil ?_
  refine SN.le (l := [(4, _)]) ?_ (.cons rfl (.nil))
  refine SN_seq ?_
  refine SC_ret1 rfl rfl ?_
  refine ⟨congrArg Value.bool ?_, ((close_log (p := p) (s := s) rfl rfl rfl rfl rfl rfl).trans .fin)⟩
  unfold wsC
  rw [iget_ws]
  by_cases h : d ∈ s.ks <;> simp [h]

theorem clog_Commit_no {W : World} {F : List HProp} [Abs F] (p : Nat) (s : LS) (st : TS) (k : WK) (z : WS) (hw : s.w = k.p) (hst : st.Ok) (d : Int) (hd : mget st.T d = none) :
    CallsK W Try.prog 40 #[.pointer (some ⟨p, 0, none⟩), .int .i64 d] (At logI p s :: At treeI s.t st :: At worldI k z :: F) (fun v L => v = .bool false ∧ Lands L (At logI p s :: At treeI s.t st :: At worldI k z :: F)) := by
  refine CallsK_enter (n := 97) Try.func40 rfl rfl rfl ?_
  refine SC_seq ?_
  refine SC_region ?_
  refine SR_pu (RD_assign rfl) rfl ?_
  refine SR_nil ?_
  refine SN.le (l := [(0, _), (1, _)]) ?_ (.cons rfl (.cons rfl (.nil)))
  refine SN_seq ?_
  refine SC_seq ?_
  refine SC_seq ?_
  refine SC.op_log (p := p) fun a c m => ?_
  refine SC_drawn (.cons 0 true (.cons 1 true (.cons 2 true (.cons 3 true (.cons 4 true (.cons 5 true (.cons 6 true (.cons 7 true (.cons 8 true (.cons 9 false (.cons 10 true (.cons 11 true (.cons 12 true (.cons 13 true (.cons 14 true (.nil)))))))))))))))) (by kernel_rfl) (by kernel_rfl) ?_
  refine SQ_pu rfl (RD_move rfl) rfl ?_
  first
    | refine SQ_pu rfl (RD_nilCheck rfl) rfl ?_
    | refine SQ_pu rfl (RD_nilCheckF rfl) rfl ?_
  first
    | refine SQ_pu rfl (RD_fieldAddr 1 Try.runUnderlying128 rfl rfl Try.sizeOf68 rfl) rfl ?_
    | refine SQ_rd rfl (RD_fieldAddrO 1 Try.runUnderlying128 rfl rfl Try.sizeOf68 rfl (by simp <;> omega)) Has.ro rfl ?_
  refine SQ_rd rfl (RD_load Try.isAgg68 rfl) (Has.ce rfl) rfl ?_
  refine SQ_pu rfl (RD_move rfl) rfl ?_
  refine SQ_pu rfl (RD_move rfl) rfl ?_
  first
    | refine SQ_pu rfl (RD_nilCheck rfl) rfl ?_
    | refine SQ_pu rfl (RD_nilCheckF rfl) rfl ?_
  first
    | refine SQ_pu rfl (RD_fieldAddr 2 Try.runUnderlying128 rfl rfl Try.sizeOf3 rfl) rfl ?_
    | refine SQ_rd rfl (RD_fieldAddrO 2 Try.runUnderlying128 rfl rfl Try.sizeOf3 rfl (by simp <;> omega)) Has.ro rfl ?_
  refine SQ_rd rfl (RD_load Try.isAgg3 rfl) (Has.ce rfl) rfl ?_
  refine SQ_call rfl Try.call81 (.cons rfl (.cons rfl (.cons rfl (.nil)))) (CallsK.at (tree_Path_no s.t st hst d s.tip (.inl hd))) (lts rfl) ?_
  rintro _ L1 ⟨rfl, hL1⟩
  refine ⟨.lands hL1 (.w rfl (.w rfl (.nil))), ?_⟩
  refine SQ.lands hL1 ?_
  refine SQ_pu rfl (RD_move rfl) rfl ?_
  refine SQ_pu rfl (RD_extract rfl rfl) rfl ?_
  refine SQ_pu rfl (RD_extract rfl rfl) rfl ?_
  refine SQ_pu rfl (RD_assign rfl) rfl ?_
  refine SQ_pu rfl (RD_assign rfl) rfl ?_
  refine SQ_nil ?_
  refine SN.le (l := [(0, _), (1, _), (6, _)]) ?_ (.cons rfl (.cons rfl (.cons rfl (.nil))))
  refine SN_seq ?_
  refine SC_seq ?_
  refine SC_region ?_
  refine SR_pu (RD_move rfl) rfl ?_
  refine SR_nil ?_
  refine SN.le (l := [(0, _), (1, _), (29, _)]) ?_ (.cons rfl (.cons rfl (.cons rfl (.nil))))
  refine SN_seq ?_
  refine SC_cond_false rfl (rfl) ?_
  refine SC_skip ?_
  refine SN_seq ?_
  refine SC_seq ?_
  refine SC_drawn (.cons 0 true (.cons 1 true (.cons 2 true (.cons 3 true (.cons 4 true (.cons 5 true (.cons 6 true (.cons 7 true (.cons 8 true (.cons 9 false (.cons 10 true (.cons 11 true (.cons 12 true (.cons 13 true (.cons 14 true (.nil)))))))))))))))) (by kernel_rfl) (by kernel_rfl) ?_
  refine SQ_pu rfl (RD_move rfl) rfl ?_
  first
    | refine SQ_pu rfl (RD_nilCheck rfl) rfl ?_
    | refine SQ_pu rfl (RD_nilCheckF rfl) rfl ?_
  first
    | refine SQ_pu rfl (RD_fieldAddr 1 Try.runUnderlying128 rfl rfl Try.sizeOf68 rfl) rfl ?_
    | refine SQ_rd rfl (RD_fieldAddrO 1 Try.runUnderlying128 rfl rfl Try.sizeOf68 rfl (by simp <;> omega)) Has.ro rfl ?_
  refine SQ_rd rfl (RD_load Try.isAgg68 rfl) (Has.ce rfl) rfl ?_
  refine SQ_pu rfl (RD_move rfl) rfl ?_
  first
    | refine SQ_pu rfl (RD_nilCheck rfl) rfl ?_
    | refine SQ_pu rfl (RD_nilCheckF rfl) rfl ?_
  first
    | refine SQ_pu rfl (RD_fieldAddr 2 Try.runUnderlying128 rfl rfl Try.sizeOf3 rfl) rfl ?_
    | refine SQ_rd rfl (RD_fieldAddrO 2 Try.runUnderlying128 rfl rfl Try.sizeOf3 rfl (by simp <;> omega)) Has.ro rfl ?_
  refine SQ_rd rfl (RD_load Try.isAgg3 rfl) (Has.ce rfl) rfl ?_
  refine SQ_pu rfl (RD_move rfl) rfl ?_
  refine SQ_call rfl Try.call81 (.cons rfl (.cons rfl (.cons rfl (.nil)))) (CallsK.at (tree_Path_no s.t st hst s.tip d (.inr hd))) (lts rfl) ?_
  rintro _ L2 ⟨rfl, hL2⟩
  refine ⟨.lands hL2 (.w rfl (.w rfl (.nil))), ?_⟩
  refine SQ.lands hL2 ?_
  refine SQ_pu rfl (RD_move rfl) rfl ?_
  refine SQ_pu rfl (RD_extract rfl rfl) rfl ?_
  refine SQ_pu rfl (RD_extract rfl rfl) rfl ?_
  refine SQ_pu rfl (RD_assign rfl) rfl ?_
  refine SQ_pu rfl (RD_assign rfl) rfl ?_
  refine SQ_nil ?_
  refine SN.le (l := [(0, _), (7, _), (8, _)]) ?_ (.cons rfl (.cons rfl (.cons rfl (.nil))))
  refine SN_seq ?_
  refine SC_seq ?_
  refine SC_seq ?_
  refine SC_region ?_
  refine SR_pu (RD_move rfl) rfl ?_
  refine SR_pu (RD_len Try.runUnderlying22 rfl) rfl ?_
  refine SR_pu (RD_move rfl) rfl ?_
  refine SR_nil ?_
  refine SN.le (l := [(0, _), (8, _), (43, _), (44, _), (45, _)]) ?_ (.cons rfl (.cons rfl (.cons rfl (.cons rfl (.cons rfl (.nil))))))
  refine SN_seq ?_
  refine SC_block ?_
  refine SC_loop ?_
  refine SC_seq ?_
  refine SC_region ?_
  refine SR_pu (RD_lss rfl rfl) rfl ?_
  refine SR_nil ?_
  refine SN.le (l := [(0, _), (8, _), (43, _), (44, _), (45, _), (46, _)]) ?_ (.cons rfl (.cons rfl (.cons rfl (.cons rfl (.cons rfl (.cons rfl (.nil)))))))
  refine SN_seq ?_
  refine SC_seq ?_
  refine SC_cond_false rfl (by simp) ?_
  refine SC_exit rfl ?_
  refine SN_seq ?_
  refine SC_seq ?_
  refine SC_region ?_
  refine SR_pu (RD_move rfl) rfl ?_
  refine SR_pu (RD_assign rfl) rfl ?_
  refine SR_nil ?_
  refine SN.le (l := [(4, _)]) ?_ (.cons rfl (.nil))
  refine SN_seq ?_
  refine SC_ret1 rfl rfl ?_
  exact ⟨rfl, ((close_log (p := p) (s := s) rfl rfl rfl rfl rfl rfl).trans .fin)⟩

theorem clog_Commit_yes {W : World} {F : List HProp} [Abs F] (p : Nat) (s : LS) (st : TS) (k : WK) (z : WS) (hw : s.w = k.p) (hst : st.Ok) (d : Int) (hd : ∃ b, mget st.T d = some b) (hp : ∃ b, mget st.T s.tip = some b) (hvd : (viewOf (mget st.T d)).toNat ≤ 1000) (hvp : (viewOf (mget st.T s.tip)).toNat ≤ 1000) (hA : ∀ x b, mget st.T x = some b → ∀ e ∈ b.envs, envB e ∈ z.l) (hl : s.l.length ≤ 1000000) (hz : z.l.length ≤ 900000000) :
    CallsK W Try.prog 40 #[.pointer (some ⟨p, 0, none⟩), .int .i64 d] (At logI p s :: At treeI s.t st :: At worldI k z :: F) (fun v L => v = .bool (s.commit z.l st d).1 ∧ Lands L (At logI p (s.commit z.l st d).2 :: At treeI s.t st :: At worldI k z :: F)) := by
  refine CallsK_enter (n := 97) Try.func40 rfl rfl rfl ?_
  refine SC_seq ?_
  refine SC_region ?_
  refine SR_pu (RD_assign rfl) rfl ?_
  refine SR_nil ?_
  refine SN.le (l := [(0, _), (1, _)]) ?_ (.cons rfl (.cons rfl (.nil)))
  refine SN_seq ?_
  refine SC_seq ?_
  refine SC_seq ?_
  refine SC.op_log (p := p) fun a c m => ?_
  refine SC_drawn (.cons 0 true (.cons 1 true (.cons 2 true (.cons 3 true (.cons 4 true (.cons 5 true (.cons 6 true (.cons 7 true (.cons 8 true (.cons 9 false (.cons 10 true (.cons 11 true (.cons 12 true (.cons 13 true (.cons 14 true (.nil)))))))))))))))) (by kernel_rfl) (by kernel_rfl) ?_
  refine SQ_pu rfl (RD_move rfl) rfl ?_
  first
    | refine SQ_pu rfl (RD_nilCheck rfl) rfl ?_
    | refine SQ_pu rfl (RD_nilCheckF rfl) rfl ?_
  first
    | refine SQ_pu rfl (RD_fieldAddr 1 Try.runUnderlying128 rfl rfl Try.sizeOf68 rfl) rfl ?_
    | refine SQ_rd rfl (RD_fieldAddrO 1 Try.runUnderlying128 rfl rfl Try.sizeOf68 rfl (by simp <;> omega)) Has.ro rfl ?_
  refine SQ_rd rfl (RD_load Try.isAgg68 rfl) (Has.ce rfl) rfl ?_
  refine SQ_pu rfl (RD_move rfl) rfl ?_
  refine SQ_pu rfl (RD_move rfl) rfl ?_
  first
    | refine SQ_pu rfl (RD_nilCheck rfl) rfl ?_
    | refine SQ_pu rfl (RD_nilCheckF rfl) rfl ?_
  first
    | refine SQ_pu rfl (RD_fieldAddr 2 Try.runUnderlying128 rfl rfl Try.sizeOf3 rfl) rfl ?_
    | refine SQ_rd rfl (RD_fieldAddrO 2 Try.runUnderlying128 rfl rfl Try.sizeOf3 rfl (by simp <;> omega)) Has.ro rfl ?_
  refine SQ_rd rfl (RD_load Try.isAgg3 rfl) (Has.ce rfl) rfl ?_
  refine SQ_call rfl Try.call81 (.cons rfl (.cons rfl (.cons rfl (.nil)))) (CallsK.at (tree_Path_yes s.t st hst d s.tip hd hp (by omega))) (lts rfl) ?_
  rintro _ L1 ⟨wa1, wc1, rfl, hL1⟩
  refine ⟨.lands hL1 (.w rfl (.w rfl (.nil))), ?_⟩
  refine SQ.lands hL1 ?_
  refine SQ_pu rfl (RD_move rfl) rfl ?_
  refine SQ_pu rfl (RD_extract rfl rfl) rfl ?_
  refine SQ_pu rfl (RD_extract rfl rfl) rfl ?_
  refine SQ_pu rfl (RD_assign rfl) rfl ?_
  refine SQ_pu rfl (RD_assign rfl) rfl ?_
  refine SQ_nil ?_
  refine SN.le (l := [(0, _), (1, _), (6, _)]) ?_ (.cons rfl (.cons rfl (.cons rfl (.nil))))
  refine SN_seq ?_
  refine SC_seq ?_
  refine SC_region ?_
  refine SR_pu (RD_move rfl) rfl ?_
  refine SR_nil ?_
  refine SN.le (l := [(0, _), (1, _), (29, _)]) ?_ (.cons rfl (.cons rfl (.cons rfl (.nil))))
  refine SN_seq ?_
  refine SC_cond rfl (fun hc29 => ?_) (fun hc29 => ?_)
  · have hc : s.commit z.l st d = (true, s) := if_pos (by simpa using hc29)
    refine SC_seq ?_
    refine SC_region ?_
    refine SR_pu (RD_assign rfl) rfl ?_
    refine SR_nil ?_
    refine SN.le (l := [(4, _)]) ?_ (.cons rfl (.nil))
    refine SN_seq ?_
    refine SC_ret1 rfl rfl ?_
    rw [hc]
    exact ⟨rfl, ((close_log (p := p) (s := s) rfl rfl rfl rfl rfl rfl).trans .fin)⟩
  · have hc : s.commit z.l st d = ((st.way s.tip d).isSome, s.goB z.l st ((st.way s.tip d).getD [])) := if_neg (by simpa using hc29)
    refine SC_skip ?_
    refine SN_seq ?_
    refine SC_seq ?_
    refine SC_drawn (.cons 0 true (.cons 1 true (.cons 2 true (.cons 3 true (.cons 4 true (.cons 5 true (.cons 6 true (.cons 7 true (.cons 8 true (.cons 9 false (.cons 10 true (.cons 11 true (.cons 12 true (.cons 13 true (.cons 14 true (.nil)))))))))))))))) (by kernel_rfl) (by kernel_rfl) ?_
    refine SQ_pu rfl (RD_move rfl) rfl ?_
    first
      | refine SQ_pu rfl (RD_nilCheck rfl) rfl ?_
      | refine SQ_pu rfl (RD_nilCheckF rfl) rfl ?_
    first
      | refine SQ_pu rfl (RD_fieldAddr 1 Try.runUnderlying128 rfl rfl Try.sizeOf68 rfl) rfl ?_
      | refine SQ_rd rfl (RD_fieldAddrO 1 Try.runUnderlying128 rfl rfl Try.sizeOf68 rfl (by simp <;> omega)) Has.ro rfl ?_
    refine SQ_rd rfl (RD_load Try.isAgg68 rfl) (Has.ce rfl) rfl ?_
    refine SQ_pu rfl (RD_move rfl) rfl ?_
    first
      | refine SQ_pu rfl (RD_nilCheck rfl) rfl ?_
      | refine SQ_pu rfl (RD_nilCheckF rfl) rfl ?_
    first
      | refine SQ_pu rfl (RD_fieldAddr 2 Try.runUnderlying128 rfl rfl Try.sizeOf3 rfl) rfl ?_
      | refine SQ_rd rfl (RD_fieldAddrO 2 Try.runUnderlying128 rfl rfl Try.sizeOf3 rfl (by simp <;> omega)) Has.ro rfl ?_
    refine SQ_rd rfl (RD_load Try.isAgg3 rfl) (Has.ce rfl) rfl ?_
    refine SQ_pu rfl (RD_move rfl) rfl ?_
    refine SQ_call rfl Try.call81 (.cons rfl (.cons rfl (.cons rfl (.nil)))) (CallsK.at (tree_Path_yes s.t st hst s.tip d hp hd (by omega))) (lts rfl) ?_
    rintro _ L2 ⟨wa2, wc2, rfl, hL2⟩
    refine ⟨.lands hL2 (.w rfl (.w rfl (.nil))), ?_⟩
    refine SQ.lands hL2 ?_
    refine SQ_pu rfl (RD_move rfl) rfl ?_
    refine SQ_pu rfl (RD_extract rfl rfl) rfl ?_
    refine SQ_pu rfl (RD_extract rfl rfl) rfl ?_
    refine SQ_pu rfl (RD_assign rfl) rfl ?_
    refine SQ_pu rfl (RD_assign rfl) rfl ?_
    refine SQ_nil ?_
    refine SN.le (l := [(0, _), (7, _), (8, _)]) ?_ (.cons rfl (.cons rfl (.cons rfl (.nil))))
    obtain ⟨W, hW⟩ : ∃ W, ((st.way s.tip d).getD []) = W := ⟨_, rfl⟩
    rw [hW]
    refine SN_seq ?_
    refine SC_seq ?_
    refine SC_seq ?_
    refine SC_region ?_
    refine SR_pu (RD_move rfl) rfl ?_
    refine SR_pu (RD_len Try.runUnderlying22 rfl) rfl ?_
    refine SR_pu (RD_move rfl) rfl ?_
    refine SR_nil ?_
    refine SN.le (l := [(0, _), (8, _), (43, _), (44, _), (45, _)]) ?_ (.cons rfl (.cons rfl (.cons rfl (.cons rfl (.cons rfl (.nil))))))
    refine SN_seq ?_
    refine SC_block ?_
    have hlen : W.length ≤ 1001 := by
      rw [← hW]
      cases h : st.way s.tip d with
      | none => simp
      | some W2 => have := clog_way_len h; simp; omega
    refine SC.lands (close_log (p := p) (s := s) rfl rfl rfl rfl rfl rfl) ?_
    refine SC_ind (X := Nat) (fun i => i ≤ W.length ∧ (s.goB z.l st (W.take i)).l.length ≤ s.l.length + 10000 * i) (fun i => W.length - i) (fun i => [(0, .pointer (some ⟨p, 0, none⟩)), (8, .bool (st.way s.tip d).isSome), (43, .slice wa2 W.length wc2), (44, .int .i64 (W.length : Nat)), (45, .int .i64 (i : Nat))]) (fun i => At logI p (s.goB z.l st (W.take i)) :: rowP 3 1 wa2 W.length wc2 (W.map intV) :: At treeI s.t st :: At worldI k z :: F) (0) (⟨by omega, by show s.l.length ≤ _; omega⟩) (.cons rfl (.cons rfl (.cons rfl (.cons rfl (.cons rfl (.nil)))))) ((show Lands _ (At logI p s :: rowP 3 1 wa2 W.length wc2 (W.map intV) :: At treeI s.t st :: At worldI k z :: F) from .fin)) ?_
    intro i hi ih
    obtain ⟨hi1, hi2⟩ := hi
    refine SC_seq ?_
    refine SC_region ?_
    refine SR_pu (RD_lss rfl rfl) rfl ?_
    refine SR_nil ?_
    refine SN.le (l := [(0, _), (8, _), (43, _), (44, _), (45, _), (46, _)]) ?_ (.cons rfl (.cons rfl (.cons rfl (.cons rfl (.cons rfl (.cons rfl (.nil)))))))
    refine SN_seq ?_
    refine SC_seq ?_
    refine SC_cond rfl (fun hc46 => ?_) (fun hc46 => ?_)
    · have hin : i < W.length := by simp at hc46; omega
      obtain ⟨x, hx⟩ : ∃ x, W[i]? = some x := ⟨_, List.getElem?_eq_getElem hin⟩
      have htk : W.take (i + 1) = W.take i ++ [x] := by rw [List.take_add_one, hx]; rfl
      have hgs := goB_snoc z.l st s (W.take i) x
      rw [← htk] at hgs
      obtain ⟨hw1, ht1⟩ := goB_wt z.l st (W.take i) s
      obtain ⟨s1, hs1⟩ : ∃ s1, s.goB z.l st (W.take i) = s1 := ⟨_, rfl⟩
      rw [hs1] at hw1 ht1 hi2 hgs ⊢
      refine SC_skip ?_
      refine SN_seq ?_
      refine SC_seq ?_
      refine SC_block ?_
      refine SC_seq ?_
      refine SC_region ?_
      refine SR_rd (RD_ixO (i := (i : Nat)) (cs := W.map intV) Try.runUnderlying22 Try.sizeOf3 rfl rfl (by simp) (by omega) (by omega)) Has.ro rfl ?_
      refine SR_rd (RD_loadO (v := intV x) (cs := W.map intV) Try.isAgg3 rfl (by simp [hx])) Has.ro rfl ?_
      refine SR_pu (RD_assign rfl) rfl ?_
      refine SR_nil ?_
      refine SN.le (l := [(0, _), (8, _), (10, _), (43, _), (44, _), (45, _)]) ?_ (.cons rfl (.cons rfl (.cons rfl (.cons rfl (.cons rfl (.cons rfl (.nil)))))))
      refine SN_seq ?_
      refine SC_seq ?_
      refine SC.op_log (p := p) fun a c m => ?_
      refine SC_region ?_
      refine SR_pu (RD_move rfl) rfl ?_
      first
        | refine SR_pu (RD_nilCheck rfl) rfl ?_
        | refine SR_pu (RD_nilCheckF rfl) rfl ?_
      first
        | refine SR_pu (RD_fieldAddr 1 Try.runUnderlying128 rfl rfl Try.sizeOf68 rfl) rfl ?_
        | refine SR_rd (RD_fieldAddrO 1 Try.runUnderlying128 rfl rfl Try.sizeOf68 rfl (by simp <;> omega)) Has.ro rfl ?_
      refine SR_rd (RD_load (v := .pointer (some ⟨s.t, 0, none⟩)) Try.isAgg68 rfl) (Has.ce (by rw [← ht1]; rfl)) rfl ?_
      refine SR_pu (RD_move rfl) rfl ?_
      refine SR_call Try.call82 (.cons rfl (.cons rfl (.nil))) (CallsK.at (tree_Block s.t st x)) (lts rfl) ?_
      rintro _ L3 ⟨b1, rfl, hp3, hf3, hL3⟩
      refine SR.lands hL3 ?_
      refine SR_pu (RD_move rfl) rfl ?_
      refine SR_pu (RD_extract rfl rfl) rfl ?_
      refine SR_pu (RD_extract rfl rfl) rfl ?_
      refine SR_ox (OX_alloc Try.zeroValue33 rfl) rfl ?_
      rintro _ _ ⟨b11, rfl, rfl⟩
      refine SR_ox0 (OX_stA (vs := b1.cells) Try.sizeOf33 rfl rfl rfl rfl) ?_
      rintro _ _ rfl
      refine SR_pu (RD_assign rfl) rfl ?_
      refine SR_nil ?_
      refine SN.le (l := [(0, _), (8, _), (10, _), (11, _), (43, _), (44, _), (45, _)]) ?_ (.cons rfl (.cons rfl (.cons rfl (.cons rfl (.cons rfl (.cons rfl (.cons rfl (.nil))))))))
      refine SN_seq ?_
      refine SC_seq ?_
      refine SC_seq ?_
      refine SC_region ?_
      first
        | refine SR_pu (RD_fieldAddr 5 Try.runUnderlying33 rfl rfl Try.sizeOf31 rfl) rfl ?_
        | refine SR_rd (RD_fieldAddrO 5 Try.runUnderlying33 rfl rfl Try.sizeOf31 rfl (by simp <;> omega)) Has.ro rfl ?_
      refine SR_rd (RD_load Try.isAgg31 rfl) (Has.ce rfl) rfl ?_
      refine SR_pu (RD_len Try.runUnderlying31 rfl) rfl ?_
      refine SR_pu (RD_move rfl) rfl ?_
      refine SR_nil ?_
      refine SN.le (l := [(0, _), (8, _), (10, _), (43, _), (44, _), (45, _), (59, _), (60, _), (61, _)]) ?_ (.cons rfl (.cons rfl (.cons rfl (.cons rfl (.cons rfl (.cons rfl (.cons rfl (.cons rfl (.cons rfl (.nil))))))))))
      refine SN_seq ?_
      refine SC_block ?_
      have hbe : b1.envs.l = ((mget st.T x).getD zBlk).envs := congrArg Blk.envs hp3
      have hAe : ∀ e ∈ b1.envs.l, envB e ∈ z.l := fun e he => by
        rw [hbe] at he
        cases h : mget st.T x with
        | none => rw [h] at he; simp [zBlk] at he
        | some q => rw [h] at he; exact hA x q h e he
      obtain ⟨hf1, hf2, hf3, hf4, hf5⟩ := hf3
      refine SC_ind (X := Nat) (fun j => j ≤ b1.envs.n) (fun j => b1.envs.n - j) (fun j => [(0, .pointer (some ⟨p, 0, none⟩)), (8, .bool (st.way s.tip d).isSome), (10, .int .i64 x), (43, .slice wa2 W.length wc2), (44, .int .i64 (W.length : Nat)), (45, .int .i64 (i : Nat)), (59, .slice b1.envs.a b1.envs.n b1.envs.c), (60, .int .i64 (b1.envs.n : Nat)), (61, .int .i64 (j : Nat))]) (fun j => At logI p (s1.takeB z.l (b1.envs.l.take j)) :: rowP 39 4 b1.envs.a b1.envs.n b1.envs.c (b1.envs.l.flatMap EnvD.cells) :: rowP 3 1 wa2 W.length wc2 (W.map intV) :: At treeI s.t st :: At worldI k z :: F) (0) (by omega) (.cons rfl (.cons rfl (.cons rfl (.cons rfl (.cons rfl (.cons rfl (.cons rfl (.cons rfl (.cons rfl (.nil)))))))))) (((close_log (p := p) (s := s1) rfl rfl rfl rfl rfl rfl).trans (show Lands _ (At logI p s1 :: rowP 39 4 b1.envs.a b1.envs.n b1.envs.c (b1.envs.l.flatMap EnvD.cells) :: rowP 3 1 wa2 W.length wc2 (W.map intV) :: At treeI s.t st :: At worldI k z :: F) from .fin))) ?_
      intro j hi ih1
      have hj := hi
      refine SC_seq ?_
      refine SC_region ?_
      refine SR_pu (RD_lss rfl rfl) rfl ?_
      refine SR_nil ?_
      refine SN.le (l := [(0, _), (8, _), (10, _), (43, _), (44, _), (45, _), (59, _), (60, _), (61, _), (62, _)]) ?_ (.cons rfl (.cons rfl (.cons rfl (.cons rfl (.cons rfl (.cons rfl (.cons rfl (.cons rfl (.cons rfl (.cons rfl (.nil)))))))))))
      refine SN_seq ?_
      refine SC_seq ?_
      refine SC_cond rfl (fun hc62 => ?_) (fun hc62 => ?_)
      · have hjn : j < b1.envs.n := by simp at hc62; omega
        obtain ⟨e, he⟩ : ∃ e, b1.envs.l[j]? = some e := ⟨_, List.getElem?_eq_getElem (by omega)⟩
        have hem := List.mem_of_getElem? he
        have hmm := hAe e hem
        have htj : b1.envs.l.take (j + 1) = b1.envs.l.take j ++ [e] := by rw [List.take_add_one, he]; rfl
        have hts := takeB_snoc z.l s1 (b1.envs.l.take j) e
        rw [← htj] at hts
        obtain ⟨hw2, ht2, hp2, hl2⟩ := takeB_wt z.l (b1.envs.l.take j) s1
        have hjl : (b1.envs.l.take j).length ≤ j := by simp; omega
        obtain ⟨s2, hs2⟩ : ∃ s2, s1.takeB z.l (b1.envs.l.take j) = s2 := ⟨_, rfl⟩
        rw [hs2] at hw2 ht2 hp2 hl2 hts ⊢
        refine SC_skip ?_
        refine SN_seq ?_
        refine SC_seq ?_
        refine SC_block ?_
        refine SC_seq ?_
        refine SC_region ?_
        refine SR_rd (RD_ixO (i := (j : Nat)) (cs := b1.envs.l.flatMap EnvD.cells) Try.runUnderlying31 Try.sizeOf39 rfl rfl (by rw [env_len, hf2]) (by omega) (by omega)) Has.ro rfl ?_
        refine SR_rd (RD_loadAO (vs := EnvD.cells e) (cs := b1.envs.l.flatMap EnvD.cells) Try.isAgg39 Try.sizeOf39 rfl rfl (by decide) (fun o v h => by have ho : o < 4 := (List.getElem?_eq_some_iff.1 h).1; rw [show ((j : Nat) : Int).toNat * (3 + 1) + o = j * 4 + o by omega, env_get he o ho]; exact h)) Has.ro rfl ?_
        refine SR_ox (OX_alloc Try.zeroValue39 rfl) rfl ?_
        rintro _ _ ⟨b14, rfl, rfl⟩
        refine SR_ox0 (OX_stA (vs := EnvD.cells e) Try.sizeOf39 rfl rfl rfl rfl) ?_
        rintro _ _ rfl
        refine SR_nil ?_
        refine SN.le (l := [(0, _), (8, _), (10, _), (14, _), (43, _), (44, _), (45, _), (59, _), (60, _), (61, _)]) ?_ (.cons rfl (.cons rfl (.cons rfl (.cons rfl (.cons rfl (.cons rfl (.cons rfl (.cons rfl (.cons rfl (.cons rfl (.nil)))))))))))
        refine SN_seq ?_
        refine SC_seq ?_
        refine SC.op_log (p := p) fun a c m => ?_
        refine SC_drawn (.cons 0 true (.cons 1 true (.cons 2 true (.cons 3 true (.cons 4 true (.cons 5 false (.cons 6 true (.nil)))))))) (by kernel_rfl) (by kernel_rfl) ?_
        refine SQ_pu rfl (RD_move rfl) rfl ?_
        first
          | refine SQ_pu rfl (RD_nilCheck rfl) rfl ?_
          | refine SQ_pu rfl (RD_nilCheckF rfl) rfl ?_
        first
          | refine SQ_pu rfl (RD_fieldAddr0 Try.runUnderlying128 rfl rfl Try.sizeOf35 rfl) rfl ?_
          | refine SQ_rd rfl (RD_fieldAddrO 0 Try.runUnderlying128 rfl rfl Try.sizeOf35 rfl (by simp <;> omega)) Has.ro rfl ?_
        refine SQ_rd rfl (RD_load (v := .pointer (some ⟨k.p, 0, none⟩)) Try.isAgg35 rfl) (Has.ce (by rw [← hw, ← hw1, ← hw2]; rfl)) rfl ?_
        refine SQ_rd rfl (RD_loadA Try.isAgg39 Try.sizeOf39 rfl rfl) Has.wh rfl ?_
        refine SQ_call rfl Try.call29 (.cons rfl (.cons rfl (.nil))) (CallsK.at (w_EnvDigest k z e (hf5 e hem) (by omega) z.l (dnum z.l (envB e)) (dput_idem hmm) rfl)) (lts rfl) ?_
        rintro _ L4 ⟨rfl, hL4⟩
        refine ⟨.lands hL4 (.w rfl (.w rfl (.nil))), ?_⟩
        refine SQ.lands hL4 ?_
        refine SQ_pu rfl (RD_assign rfl) rfl ?_
        refine SQ_nil ?_
        refine SN.le (l := [(0, _), (8, _), (10, _), (14, _), (15, _), (43, _), (44, _), (45, _), (59, _), (60, _), (61, _)]) ?_ (.cons rfl (.cons rfl (.cons rfl (.cons rfl (.cons rfl (.cons rfl (.cons rfl (.cons rfl (.cons rfl (.cons rfl (.cons rfl (.nil))))))))))))
        refine SN_seq ?_
        refine SC_seq ?_
        refine SC_region ?_
        refine SR_pu (RD_move rfl) rfl ?_
        refine SR_pu (RD_move rfl) rfl ?_
        refine SR_call Try.call47 (.cons rfl (.cons rfl (.nil))) (CallsK.lands ((close_log (p := p) (s := s2) rfl rfl rfl rfl rfl rfl).trans (.fin : Lands _ (At logI p s2 :: pt b14 (.cells (EnvD.cells e).toArray 39) :: rowP 39 4 b1.envs.a b1.envs.n b1.envs.c (b1.envs.l.flatMap EnvD.cells) :: rowP 3 1 wa2 W.length wc2 (W.map intV) :: At treeI s.t st :: At worldI k z :: F))) (clog_Has p s2 _)) (lts rfl) ?_
        rintro _ L5 ⟨rfl, hL5⟩
        refine SR.lands hL5 ?_
        refine SR_pu (RD_not rfl) rfl ?_
        refine SR_nil ?_
        refine SN.le (l := [(0, _), (8, _), (10, _), (14, _), (15, _), (43, _), (44, _), (45, _), (59, _), (60, _), (61, _), (74, _)]) ?_ (.cons rfl (.cons rfl (.cons rfl (.cons rfl (.cons rfl (.cons rfl (.cons rfl (.cons rfl (.cons rfl (.cons rfl (.cons rfl (.cons rfl (.nil)))))))))))))
        refine SN_seq ?_
        refine SC_cond rfl (fun hc74 => ?_) (fun hc74 => ?_)
        · have hk : ((dnum z.l (envB e) : Nat) : Int) ∉ s2.ks := by simpa using hc74
          have ht3 : s2.take1 z.l e = ⟨s2.w, s2.t, s2.tip, s2.l ++ [e], s2.ks ++ [((dnum z.l (envB e) : Nat) : Int)]⟩ := if_neg hk
          have hms : mset (wsC s2.ks) ((dnum z.l (envB e) : Nat) : Int) (.int .i64 1) = wsC (s2.ks ++ [((dnum z.l (envB e) : Nat) : Int)]) := by unfold wsC; rw [mset_ws]; unfold putW; rw [if_neg hk]
          refine SC_seq ?_
          refine SC.op_log (p := p) fun a c m => ?_
          refine SC_region ?_
          refine SR_pu (RD_move rfl) rfl ?_
          first
            | refine SR_pu (RD_nilCheck rfl) rfl ?_
            | refine SR_pu (RD_nilCheckF rfl) rfl ?_
          first
            | refine SR_pu (RD_fieldAddr 4 Try.runUnderlying128 rfl rfl Try.sizeOf25 rfl) rfl ?_
            | refine SR_rd (RD_fieldAddrO 4 Try.runUnderlying128 rfl rfl Try.sizeOf25 rfl (by simp <;> omega)) Has.ro rfl ?_
          refine SR_rd (RD_load Try.isAgg25 rfl) (Has.ce rfl) rfl ?_
          refine SR_pu (RD_move rfl) rfl ?_
          refine SR_ox0 (OX_mu (K := intK) Try.underlying25 Try.underlying3 rfl rfl rfl) ?_
          rintro _ _ rfl
          refine SR_nil ?_
          refine SN.le (l := [(0, _), (8, _), (10, _), (14, _), (43, _), (44, _), (45, _), (59, _), (60, _), (61, _)]) ?_ (.cons rfl (.cons rfl (.cons rfl (.cons rfl (.cons rfl (.cons rfl (.cons rfl (.cons rfl (.cons rfl (.cons rfl (.nil)))))))))))
          refine SN_seq ?_
          refine SC_drawn (.cons 0 true (.cons 1 true (.cons 2 true (.cons 3 true (.cons 4 true (.cons 5 true (.cons 6 false (.cons 7 false (.cons 8 true (.cons 9 true (.cons 10 false (.nil)))))))))))) (by kernel_rfl) (by kernel_rfl) ?_
          refine SQ_pu rfl (RD_move rfl) rfl ?_
          refine SQ_pu rfl (RD_move rfl) rfl ?_
          first
            | refine SQ_pu rfl (RD_nilCheck rfl) rfl ?_
            | refine SQ_pu rfl (RD_nilCheckF rfl) rfl ?_
          first
            | refine SQ_pu rfl (RD_fieldAddr 3 Try.runUnderlying128 rfl rfl Try.sizeOf31 rfl) rfl ?_
            | refine SQ_rd rfl (RD_fieldAddrO 3 Try.runUnderlying128 rfl rfl Try.sizeOf31 rfl (by simp <;> omega)) Has.ro rfl ?_
          refine SQ_rd rfl (RD_load Try.isAgg31 rfl) (Has.ce rfl) rfl ?_
          refine SQ_rd rfl (RD_loadA Try.isAgg39 Try.sizeOf39 rfl rfl) Has.wh rfl ?_
          refine SQ_ox rfl (OX_lit Try.underlying31 Try.type39 rfl rfl rfl rfl (.cons rfl (.nil)) (.cons rfl rfl (.nil))) rfl ?_
          rintro _ _ ⟨b86, rfl, rfl⟩
          refine ⟨.w rfl (.h (Has.ce rfl) (.nil)), ?_⟩
          refine SQ_ox rfl (OX_app 4 Try.underlying31 Try.underlying31 Try.type39 rfl rfl rfl rfl rfl (by first | rfl | simp; done | (simp; omega)) 32 rfl (by omega) (by omega)) rfl ?_
          rintro _ _ ⟨a87, c87, rfl, rfl⟩
          refine ⟨.h Has.wh (.w rfl (.nil)), ?_⟩
          first
            | refine SQ_pu rfl (RD_nilCheck rfl) rfl ?_
            | refine SQ_pu rfl (RD_nilCheckF rfl) rfl ?_
          first
            | refine SQ_pu rfl (RD_fieldAddr 3 Try.runUnderlying128 rfl rfl Try.sizeOf31 rfl) rfl ?_
            | refine SQ_rd rfl (RD_fieldAddrO 3 Try.runUnderlying128 rfl rfl Try.sizeOf31 rfl (by simp <;> omega)) Has.ro rfl ?_
          refine SQ_ox0 rfl (OX_st Try.sizeOf31 rfl rfl) ?_
          rintro _ _ rfl
          refine ⟨.w rfl (.w rfl (.nil)), ?_⟩
          refine SQ_nil ?_
          refine SN.le (l := [(0, _), (8, _), (10, _), (43, _), (44, _), (45, _), (59, _), (60, _), (61, _)]) ?_ (.cons rfl (.cons rfl (.cons rfl (.cons rfl (.cons rfl (.cons rfl (.cons rfl (.cons rfl (.cons rfl (.nil))))))))))
          have hr : s2.l.flatMap EnvD.cells ++ (EnvD.cells e ++ []) = (s2.l ++ [e]).flatMap EnvD.cells := by rw [List.flatMap_append]; rfl
          rw [hr]
          refine SN_block ?_
          refine SN_seq ?_
          refine SC_region ?_
          refine SR_pu (RD_addi rfl rfl (by omega) (by omega)) rfl ?_
          refine SR_pu (RD_move rfl) rfl ?_
          refine SR_nil ?_
          refine SN.le (l := [(0, _), (8, _), (10, _), (43, _), (44, _), (45, _), (59, _), (60, _), (61, _)]) ?_ (.cons rfl (.cons rfl (.cons rfl (.cons rfl (.cons rfl (.cons rfl (.cons rfl (.cons rfl (.cons rfl (.nil))))))))))
          refine SC_again (ih1 (j + 1) (by omega) (by omega)) (by rw [hts, ht3]; exact (close_log (p := p) (s := ⟨s2.w, s2.t, s2.tip, s2.l ++ [e], s2.ks ++ [((dnum z.l (envB e) : Nat) : Int)]⟩) rfl rfl rfl (by simp) rfl hms).trans .fin) (.cons rfl (.cons rfl (.cons rfl (.cons rfl (.cons rfl (.cons rfl (.cons rfl (.cons rfl (.cons' rfl (ie (by omega)) (.nil))))))))))
        · have hk : ((dnum z.l (envB e) : Nat) : Int) ∈ s2.ks := by simpa using hc74
          have ht3 : s2.take1 z.l e = s2 := if_pos hk
          refine SC_skip ?_
          refine SN_block ?_
          refine SN_seq ?_
          refine SC_region ?_
          refine SR_pu (RD_addi rfl rfl (by omega) (by omega)) rfl ?_
          refine SR_pu (RD_move rfl) rfl ?_
          refine SR_nil ?_
          refine SN.le (l := [(0, _), (8, _), (10, _), (43, _), (44, _), (45, _), (59, _), (60, _), (61, _)]) ?_ (.cons rfl (.cons rfl (.cons rfl (.cons rfl (.cons rfl (.cons rfl (.cons rfl (.cons rfl (.cons rfl (.nil))))))))))
          refine SC_again (ih1 (j + 1) (by omega) (by omega)) (by rw [hts, ht3]; exact .fin) (.cons rfl (.cons rfl (.cons rfl (.cons rfl (.cons rfl (.cons rfl (.cons rfl (.cons rfl (.cons' rfl (ie (by omega)) (.nil))))))))))
      · have hjn : j = b1.envs.n := by simp at hc62; omega
        subst hjn
        clear ih1
        rw [show b1.envs.l.take b1.envs.n = b1.envs.l by rw [← hf2, List.take_length]]
        obtain ⟨hw2, ht2, hp2, hl2⟩ := takeB_wt z.l b1.envs.l s1
        have hsp : s1.step z.l st x = ⟨(s1.takeB z.l b1.envs.l).w, (s1.takeB z.l b1.envs.l).t, x, (s1.takeB z.l b1.envs.l).l, (s1.takeB z.l b1.envs.l).ks⟩ := by unfold LS.step; rw [← hbe]
        obtain ⟨s2, hs2⟩ : ∃ s2, s1.takeB z.l b1.envs.l = s2 := ⟨_, rfl⟩
        rw [hs2] at hw2 ht2 hp2 hl2 hsp ⊢
        refine SC_exit rfl ?_
        refine SN_seq ?_
        refine SC.op_log (p := p) fun a c m => ?_
        refine SC_region ?_
        refine SR_pu (RD_move rfl) rfl ?_
        refine SR_pu (RD_move rfl) rfl ?_
        first
          | refine SR_pu (RD_nilCheck rfl) rfl ?_
          | refine SR_pu (RD_nilCheckF rfl) rfl ?_
        first
          | refine SR_pu (RD_fieldAddr 2 Try.runUnderlying128 rfl rfl Try.sizeOf3 rfl) rfl ?_
          | refine SR_rd (RD_fieldAddrO 2 Try.runUnderlying128 rfl rfl Try.sizeOf3 rfl (by simp <;> omega)) Has.ro rfl ?_
        refine SR_ox0 (OX_st Try.sizeOf3 rfl rfl) ?_
        rintro _ _ rfl
        refine SR_nil ?_
        refine SN.le (l := [(0, _), (8, _), (43, _), (44, _), (45, _)]) ?_ (.cons rfl (.cons rfl (.cons rfl (.cons rfl (.cons rfl (.nil))))))
        refine SN_block ?_
        refine SN_seq ?_
        refine SC_region ?_
        refine SR_pu (RD_addi rfl rfl (by omega) (by omega)) rfl ?_
        refine SR_pu (RD_move rfl) rfl ?_
        refine SR_nil ?_
        refine SN.le (l := [(0, _), (8, _), (43, _), (44, _), (45, _)]) ?_ (.cons rfl (.cons rfl (.cons rfl (.cons rfl (.cons rfl (.nil))))))
        refine SC_again (ih (i + 1) (⟨by omega, by rw [hgs, hsp]; dsimp only; omega⟩) (by omega)) (by rw [hgs, hsp]; exact (close_log (p := p) (s := ⟨s2.w, s2.t, x, s2.l, s2.ks⟩) rfl rfl rfl rfl rfl rfl).trans .fin) (.cons rfl (.cons rfl (.cons rfl (.cons rfl (.cons' rfl (ie (by omega)) (.nil))))))
    · have hin : i = W.length := by simp at hc46; omega
      subst hin
      rw [List.take_length]
      refine SC_exit rfl ?_
      refine SN_seq ?_
      refine SC_seq ?_
      refine SC_region ?_
      refine SR_pu (RD_move rfl) rfl ?_
      refine SR_pu (RD_assign rfl) rfl ?_
      refine SR_nil ?_
      refine SN.le (l := [(4, _)]) ?_ (.cons rfl (.nil))
      refine SN_seq ?_
      refine SC_ret1 rfl rfl ?_
      rw [hc, hW]
      exact ⟨rfl, .fin⟩

end Go.Proofs.Ytnifaajdiolbjaa
