/- Part 6 of the proof: lemmas that the walk of TopWindow needs. -/
import Derived.Laws.StructEq
import Derived.Test.YtdhpjdhloaoepaaGreatPw5
set_option linter.unusedSimpArgs false
set_option linter.unusedVariables false
/- What is fixed: the log and its functions. -/
namespace Go.Proofs.YtdhpjdhloaoepaaGreat
open Go Go.Proofs
attribute [local irreducible] SC SN SR SQ SA SO
set_option maxRecDepth 100000
/-- A log. -/
structure LS where
  w : Nat
  t : Nat
  tip : Int
  l : List EnvD
  ks : List Int
def wsC (T : List Int) : List (Int × Value) := T.map fun w => (w, Value.int .i64 1)
def logI (p : Nat) (s : LS) : HProp := fun h => ∃ a c m, Den [pt p (.cells [.pointer (some ⟨s.w, 0, none⟩), .pointer (some ⟨s.t, 0, none⟩), .int .i64 s.tip, .slice a s.l.length c, .map (some m)].toArray 144), rowP 43 4 a s.l.length c (s.l.flatMap EnvD.cells), mapP intK m (wsC s.ks)] h

theorem open_log {p : Nat} {s : LS} : Opens logI p s (fun x : (Option Addr) × (Nat) × (Nat) => True) (fun x R => (pt p (.cells [.pointer (some ⟨s.w, 0, none⟩), .pointer (some ⟨s.t, 0, none⟩), .int .i64 s.tip, .slice x.1 s.l.length x.2.1, .map (some x.2.2)].toArray 144)) :: (rowP 43 4 x.1 s.l.length x.2.1 (s.l.flatMap EnvD.cells)) :: (mapP intK x.2.2 (wsC s.ks)) :: R) := by
  rintro R m_ ⟨m1, m2, d, e, ⟨a, c, m, h⟩, r⟩
  exact ⟨(a, c, m), trivial, Den_app d e h r⟩
theorem SC.op_log {W : World} {P : Program} {L R : List HProp} {n_ : Nat} {c_ : Code} {k_ : Kont} {l_ : Env} {p : Nat} {s : LS} [t_ : TakeAt L logI p s R] (h_ : ∀ (a : Option Addr) (c : Nat) (m : Nat), SC W P n_ c_ k_ l_ ((pt p (.cells [.pointer (some ⟨s.w, 0, none⟩), .pointer (some ⟨s.t, 0, none⟩), .int .i64 s.tip, .slice a s.l.length c, .map (some m)].toArray 144)) :: (rowP 43 4 a s.l.length c (s.l.flatMap EnvD.cells)) :: (mapP intK m (wsC s.ks)) :: R)) : SC W P n_ c_ k_ l_ L := SC.opn (open_log) fun x hx => h_ x.1 x.2.1 x.2.2
theorem SN.op_log {W : World} {P : Program} {L R : List HProp} {n_ : Nat} {k_ : Kont} {l_ : Env} {p : Nat} {s : LS} [t_ : TakeAt L logI p s R] (h_ : ∀ (a : Option Addr) (c : Nat) (m : Nat), SN W P n_ k_ l_ ((pt p (.cells [.pointer (some ⟨s.w, 0, none⟩), .pointer (some ⟨s.t, 0, none⟩), .int .i64 s.tip, .slice a s.l.length c, .map (some m)].toArray 144)) :: (rowP 43 4 a s.l.length c (s.l.flatMap EnvD.cells)) :: (mapP intK m (wsC s.ks)) :: R)) : SN W P n_ k_ l_ L := SN.opn (open_log) fun x hx => h_ x.1 x.2.1 x.2.2
theorem SR.op_log {W : World} {P : Program} {L R : List HProp} {n_ : Nat} {ops_ : Array Oper} {os_ : List Oper} {k_ : Kont} {l_ : Env} {p : Nat} {s : LS} [t_ : TakeAt L logI p s R] (h_ : ∀ (a : Option Addr) (c : Nat) (m : Nat), SR W P n_ ops_ os_ k_ l_ ((pt p (.cells [.pointer (some ⟨s.w, 0, none⟩), .pointer (some ⟨s.t, 0, none⟩), .int .i64 s.tip, .slice a s.l.length c, .map (some m)].toArray 144)) :: (rowP 43 4 a s.l.length c (s.l.flatMap EnvD.cells)) :: (mapP intK m (wsC s.ks)) :: R)) : SR W P n_ ops_ os_ k_ l_ L := SR.opn (open_log) fun x hx => h_ x.1 x.2.1 x.2.2
theorem SQ.op_log {W : World} {P : Program} {L R : List HProp} {n_ : Nat} {ops_ : Array Oper} {r_ : Ord} {Ts_ : Facts} {k_ : Kont} {l_ : Env} {p : Nat} {s : LS} [t_ : TakeAt L logI p s R] (h_ : ∀ (a : Option Addr) (c : Nat) (m : Nat), SQ W P n_ ops_ r_ Ts_ k_ l_ ((pt p (.cells [.pointer (some ⟨s.w, 0, none⟩), .pointer (some ⟨s.t, 0, none⟩), .int .i64 s.tip, .slice a s.l.length c, .map (some m)].toArray 144)) :: (rowP 43 4 a s.l.length c (s.l.flatMap EnvD.cells)) :: (mapP intK m (wsC s.ks)) :: R)) : SQ W P n_ ops_ r_ Ts_ k_ l_ L := SQ.opn (open_log) fun x hx => h_ x.1 x.2.1 x.2.2
theorem CallsK.op_log {W : World} {P : Program} {L R : List HProp} {f_ : FuncId} {args_ : Array Value} {K_ : Value → List HProp → Prop} {p : Nat} {s : LS} [t_ : TakeAt L logI p s R] (h_ : ∀ (a : Option Addr) (c : Nat) (m : Nat), CallsK W P f_ args_ ((pt p (.cells [.pointer (some ⟨s.w, 0, none⟩), .pointer (some ⟨s.t, 0, none⟩), .int .i64 s.tip, .slice a s.l.length c, .map (some m)].toArray 144)) :: (rowP 43 4 a s.l.length c (s.l.flatMap EnvD.cells)) :: (mapP intK m (wsC s.ks)) :: R) K_) : CallsK W P f_ args_ L K_ := CallsK.opn (open_log) fun x hx => h_ x.1 x.2.1 x.2.2
theorem close_log {L R R1 R2 : List HProp} {p w t n c m : Nat} {tip : Int} {a : Option Addr} {cs : List Value} {mm : List (Int × Value)} {s : LS} [t_ : TakePt L p (.cells [.pointer (some ⟨w, 0, none⟩), .pointer (some ⟨t, 0, none⟩), .int .i64 tip, .slice a n c, .map (some m)].toArray 144) R1] [u : TakeRow R1 a 43 4 n c cs R2] [v : TakeMap R2 intK m mm R]
    (h1 : s.w = w) (h2 : s.t = t) (h3 : s.tip = tip) (h4 : s.l.length = n) (h5 : cs = s.l.flatMap EnvD.cells) (h6 : mm = wsC s.ks) : Lands L (At logI p s :: R) := fun q H => by
  subst h1; subst h2; subst h3; subst h4; subst h5; subst h6
  obtain ⟨m1, m2, d, e, hq, hr⟩ := Den_perm t_.perm q H
  obtain ⟨m3, m4, d2, e2, hm, hs⟩ := Den_perm u.perm m2 hr
  have H2 : Den ([pt p (.cells [.pointer (some ⟨s.w, 0, none⟩), .pointer (some ⟨s.t, 0, none⟩), .int .i64 s.tip, .slice a s.l.length c, .map (some m)].toArray 144), rowP 43 4 a s.l.length c (s.l.flatMap EnvD.cells), mapP intK m (wsC s.ks)] ++ R) q := ⟨m1, m2, d, e, hq, m3, m4, d2, e2, hm, Den_perm v.perm m4 hs⟩
  exact Lands.wrap (A := At logI p s) (fun z hz => ⟨a, c, m, hz⟩) q H2
/-- One envelope more, if it is not there. -/
def LS.take1 (l : List (List UInt8)) (s : LS) (e : EnvD) : LS := if ((dnum l (envB e) : Nat) : Int) ∈ s.ks then s else ⟨s.w, s.t, s.tip, s.l ++ [e], s.ks ++ [((dnum l (envB e) : Nat) : Int)]⟩
def LS.takeB (l : List (List UInt8)) (s : LS) (es : List EnvD) : LS := es.foldl (LS.take1 l) s
def LS.step (l : List (List UInt8)) (st : TS) (s : LS) (x : Int) : LS := { (s.takeB l ((mget st.T x).getD zBlk).envs) with tip := x }
def LS.goB (l : List (List UInt8)) (st : TS) (s : LS) (W : List Int) : LS := W.foldl (LS.step l st) s
def LS.commit (l : List (List UInt8)) (st : TS) (s : LS) (d : Int) : Bool × LS :=
  if (st.way d s.tip).isSome then (true, s) else ((st.way s.tip d).isSome, s.goB l st ((st.way s.tip d).getD []))
theorem take1_wt (l : List (List UInt8)) (s : LS) (e : EnvD) : (s.take1 l e).w = s.w ∧ (s.take1 l e).t = s.t ∧ (s.take1 l e).tip = s.tip ∧ (s.take1 l e).l.length ≤ s.l.length + 1 := by
  unfold LS.take1; split
  · exact ⟨rfl, rfl, rfl, by omega⟩
  · exact ⟨rfl, rfl, rfl, by simp⟩
theorem takeB_wt (l : List (List UInt8)) : ∀ (es : List EnvD) (s : LS), (s.takeB l es).w = s.w ∧ (s.takeB l es).t = s.t ∧ (s.takeB l es).tip = s.tip ∧ (s.takeB l es).l.length ≤ s.l.length + es.length
  | [], s => ⟨rfl, rfl, rfl, by simp [LS.takeB]⟩
  | e :: es, s => by
    obtain ⟨h1, h2, h3, h4⟩ := takeB_wt l es (s.take1 l e)
    obtain ⟨g1, g2, g3, g4⟩ := take1_wt l s e
    exact ⟨h1.trans g1, h2.trans g2, h3.trans g3, by show ((s.take1 l e).takeB l es).l.length ≤ _; rw [List.length_cons]; omega⟩
theorem takeB_snoc (l : List (List UInt8)) (s : LS) (es : List EnvD) (e : EnvD) : s.takeB l (es ++ [e]) = (s.takeB l es).take1 l e := by simp [LS.takeB]
theorem goB_snoc (l : List (List UInt8)) (st : TS) (s : LS) (W : List Int) (x : Int) : s.goB l st (W ++ [x]) = (s.goB l st W).step l st x := by simp [LS.goB]
theorem step_wt (l : List (List UInt8)) (st : TS) (s : LS) (x : Int) : (s.step l st x).w = s.w ∧ (s.step l st x).t = s.t := by
  obtain ⟨h1, h2, _⟩ := takeB_wt l ((mget st.T x).getD zBlk).envs s
  exact ⟨h1, h2⟩
theorem goB_wt (l : List (List UInt8)) (st : TS) : ∀ (W : List Int) (s : LS), (s.goB l st W).w = s.w ∧ (s.goB l st W).t = s.t
  | [], s => ⟨rfl, rfl⟩
  | x :: W, s => by
    obtain ⟨h1, h2⟩ := goB_wt l st W (s.step l st x)
    obtain ⟨g1, g2⟩ := step_wt l st s x
    exact ⟨h1.trans g1, h2.trans g2⟩
theorem wayF_len (s : TS) (f : Int) : ∀ (n : Nat) (t : Int) (W : List Int), wayF s n f t = some W → W.length ≤ n
  | 0, t, W, h => by simp [wayF] at h
  | n + 1, t, W, h => by
    simp only [wayF] at h
    split at h
    · cases h; simp
    · split at h
      · cases h
      · split at h
        · cases h
        · rename_i W2 h2
          obtain ⟨W3, h3, rfl⟩ := Option.map_eq_some_iff.1 h
          have := wayF_len s f n _ _ h3
          simp; omega
theorem clog_way_len {s : TS} {f t : Int} {W : List Int} (h : s.way f t = some W) : W.length ≤ (viewOf (mget s.T t)).toNat + 1 := wayF_len s f _ t W h

theorem clog_New {W : World} {F : List HProp} [Abs F] (w t : Nat) (st : TS) :
    CallsK W Tryz.prog 54 #[.pointer (some ⟨w, 0, none⟩), .pointer (some ⟨t, 0, none⟩)] (At treeI t st :: F) (fun v L => ∃ p, v = .pointer (some ⟨p, 0, none⟩) ∧ Lands L (At logI p ⟨w, t, st.root, [], []⟩ :: At treeI t st :: F)) := by
  refine CallsK_enter (n := 12) Tryz.func54 rfl rfl rfl ?_
  iterate 10 refine Ws ?_
  refine Wc (CallsK.at (tree_Root t st)) ?_
  refine SR_ox (OX_mk intK) rfl ?_
  rintro _ _ ⟨b9, rfl, rfl⟩
  refine SR_pu (RD_build (.cons rfl (.cons rfl (.cons rfl (.cons rfl (.nil))))) built144_0_1_2_4) rfl ?_
  refine Wb fun b11 => ?_
  iterate 3 refine Ws ?_
  refine SC_ret1 rfl rfl ?_
  refine ⟨b11, rfl, ?_⟩
  exact (row_new 43 4 none).trans ((close_log (p := b11) (s := ⟨w, t, st.root, [], []⟩) rfl rfl rfl rfl rfl rfl).trans .fin)

theorem clog_Tip {W : World} {F : List HProp} [Abs F] (p : Nat) (s : LS) :
    CallsK W Tryz.prog 148 #[.pointer (some ⟨p, 0, none⟩)] (At logI p s :: F) (fun v L => v = .int .i64 s.tip ∧ Lands L (At logI p s :: F)) := by
  refine CallsK_enter (n := 7) Tryz.func148 rfl rfl rfl ?_
  iterate 6 refine Ws ?_
  refine SC.op_log (p := p) fun a c m => ?_
  iterate 8 refine Ws ?_
  refine SC_ret1 rfl rfl ?_
  exact ⟨rfl, ((close_log (p := p) (s := s) rfl rfl rfl rfl rfl rfl).trans .fin)⟩

theorem clog_Len {W : World} {F : List HProp} [Abs F] (p : Nat) (s : LS) :
    CallsK W Tryz.prog 219 #[.pointer (some ⟨p, 0, none⟩)] (At logI p s :: F) (fun v L => v = .int .i64 (s.l.length : Nat) ∧ Lands L (At logI p s :: F)) := by
  refine CallsK_enter (n := 8) Tryz.func219 rfl rfl rfl ?_
  iterate 6 refine Ws ?_
  refine SC.op_log (p := p) fun a c m => ?_
  iterate 9 refine Ws ?_
  refine SC_ret1 rfl rfl ?_
  exact ⟨rfl, ((close_log (p := p) (s := s) rfl rfl rfl rfl rfl rfl).trans .fin)⟩

theorem clog_Envs {W : World} {F : List HProp} [Abs F] (p : Nat) (s : LS) (hb : s.l.length ≤ 100000000) :
    CallsK W Tryz.prog 37 #[.pointer (some ⟨p, 0, none⟩)] (At logI p s :: F) (fun v L => ∃ a c, v = .slice a s.l.length c ∧ Lands L (rowP 43 4 a s.l.length c (s.l.flatMap EnvD.cells) :: At logI p s :: F)) := by
  refine CallsK_enter (n := 8) Tryz.func37 rfl rfl rfl ?_
  iterate 6 refine Ws ?_
  refine SC.op_log (p := p) fun a c m => ?_
  iterate 5 refine Ws ?_
  refine We (clone_envs (s.l.flatMap EnvD.cells) a s.l.length c (env_len _) (by omega)) ?_
  rintro _ L1 ⟨a7, c7, rfl, hL1⟩
  refine SR.lands hL1 ?_
  iterate 3 refine Ws ?_
  refine SC_ret1 rfl rfl ?_
  exact ⟨a7, c7, rfl, (close_log (p := p) (s := s) rfl rfl rfl rfl rfl rfl).trans .fin⟩

theorem clog_Has {W : World} {F : List HProp} [Abs F] (p : Nat) (s : LS) (d : Int) :
    CallsK W Tryz.prog 176 #[.pointer (some ⟨p, 0, none⟩), .int .i64 d] (At logI p s :: F) (fun v L => v = .bool (decide (d ∈ s.ks)) ∧ Lands L (At logI p s :: F)) := by
  refine CallsK_enter (n := 12) Tryz.func176 rfl rfl rfl ?_
  iterate 6 refine Ws ?_
  refine SC.op_log (p := p) fun a c m => ?_
  iterate 6 refine Ws ?_
  refine SR_rd (RD_lookI (m := wsC s.ks) Tryz.underlying96 Tryz.underlying3 Tryz.zeroValue3 rfl rfl (or_ws s.ks d)) (Has.ma (K := intK)) rfl ?_
  iterate 4 refine Ws ?_
  refine SC_ret1 rfl rfl ?_
  refine ⟨congrArg Value.bool ?_, ((close_log (p := p) (s := s) rfl rfl rfl rfl rfl rfl).trans .fin)⟩
  unfold wsC
  rw [iget_ws]
  by_cases h : d ∈ s.ks <;> simp [h]

theorem clog_Commit_yes {W : World} {F : List HProp} [Abs F] (p : Nat) (s : LS) (st : TS) (k : WK) (z : WS) (hw : s.w = k.p) (hst : st.Ok) (d : Int) (hd : ∃ b, mget st.T d = some b) (hp : ∃ b, mget st.T s.tip = some b) (hvd : (viewOf (mget st.T d)).toNat ≤ 1000) (hvp : (viewOf (mget st.T s.tip)).toNat ≤ 1000) (hA : ∀ x b, mget st.T x = some b → ∀ e ∈ b.envs, envB e ∈ z.l) (hl : s.l.length ≤ 1000000) (hz : z.l.length ≤ 900000000) :
    CallsK W Tryz.prog 220 #[.pointer (some ⟨p, 0, none⟩), .int .i64 d] (At logI p s :: At treeI s.t st :: At worldI k z :: F) (fun v L => v = .bool (s.commit z.l st d).1 ∧ Lands L (At logI p (s.commit z.l st d).2 :: At treeI s.t st :: At worldI k z :: F)) := by
  refine CallsK_enter (n := 97) Tryz.func220 rfl rfl rfl ?_
  iterate 7 refine Ws ?_
  refine SC.op_log (p := p) fun a c m => ?_
  refine Wd [.r 0, .r 1, .r 2, .r 3, .r 4, .r 5, .r 6, .r 7, .r 8, .e 9, .r 10, .r 11, .r 12, .r 13, .r 14] ?_
  iterate 9 refine Wq ?_
  refine SQ_call rfl Tryz.call186 (.cons rfl (.cons rfl (.cons rfl (.nil)))) (CallsK.at (tree_Path_yes s.t st hst d s.tip hd hp (by omega))) (lts rfl) ?_
  rintro _ L1 ⟨wa1, wc1, rfl, hL1⟩
  refine ⟨.lands hL1 (.w rfl (.w rfl (.nil))), ?_⟩
  refine SQ.lands hL1 ?_
  iterate 5 refine Wq ?_
  iterate 7 refine Ws ?_
  refine SC_cond rfl (fun hc29 => ?_) (fun hc29 => ?_)
  · have hc : s.commit z.l st d = (true, s) := if_pos (by simpa using hc29)
    iterate 5 refine Ws ?_
    refine SC_ret1 rfl rfl ?_
    rw [hc]
    exact ⟨rfl, ((close_log (p := p) (s := s) rfl rfl rfl rfl rfl rfl).trans .fin)⟩
  · have hc : s.commit z.l st d = ((st.way s.tip d).isSome, s.goB z.l st ((st.way s.tip d).getD [])) := if_neg (by simpa using hc29)
    iterate 3 refine Ws ?_
    refine Wd [.r 0, .r 1, .r 2, .r 3, .r 4, .r 5, .r 6, .r 7, .r 8, .e 9, .r 10, .r 11, .r 12, .r 13, .r 14] ?_
    iterate 9 refine Wq ?_
    refine SQ_call rfl Tryz.call186 (.cons rfl (.cons rfl (.cons rfl (.nil)))) (CallsK.at (tree_Path_yes s.t st hst s.tip d hp hd (by omega))) (lts rfl) ?_
    rintro _ L2 ⟨wa2, wc2, rfl, hL2⟩
    refine ⟨.lands hL2 (.w rfl (.w rfl (.nil))), ?_⟩
    refine SQ.lands hL2 ?_
    iterate 5 refine Wq ?_
    refine Ws ?_
    obtain ⟨W, hW⟩ : ∃ W, ((st.way s.tip d).getD []) = W := ⟨_, rfl⟩
    rw [hW]
    iterate 10 refine Ws ?_
    have hlen : W.length ≤ 1001 := by
      rw [← hW]
      cases h : st.way s.tip d with
      | none => simp
      | some W2 => have := clog_way_len h; simp; omega
    refine SC.lands (close_log (p := p) (s := s) rfl rfl rfl rfl rfl rfl) ?_
    refine SC_ind (X := Nat) (fun i => i ≤ W.length ∧ (s.goB z.l st (W.take i)).l.length ≤ s.l.length + 10000 * i) (fun i => W.length - i) (fun i => [(0, .pointer (some ⟨p, 0, none⟩)), (8, .bool (st.way s.tip d).isSome), (43, .slice wa2 W.length wc2), (44, .int .i64 (W.length : Nat)), (45, .int .i64 (i : Nat))]) (fun i => At logI p (s.goB z.l st (W.take i)) :: rowP 3 1 wa2 W.length wc2 (W.map intV) :: At treeI s.t st :: At worldI k z :: F) (0) (⟨by omega, by show s.l.length ≤ _; omega⟩) (.cons rfl (.cons rfl (.cons rfl (.cons rfl (.cons rfl (.nil)))))) ((show Lands _ (At logI p s :: rowP 3 1 wa2 W.length wc2 (W.map intV) :: At treeI s.t st :: At worldI k z :: F) from .fin)) ?_
    intro i hi ih
    obtain ⟨hi1, hi2⟩ := hi
    iterate 6 refine Ws ?_
    refine SC_cond rfl (fun hc46 => ?_) (fun hc46 => ?_)
    · have hin : i < W.length := by simp at hc46; omega
      obtain ⟨x, hx⟩ : ∃ x, W[i]? = some x := ⟨_, List.getElem?_eq_getElem hin⟩
      have htk : W.take (i + 1) = W.take i ++ [x] := by rw [List.take_add_one, hx]; rfl
      have hgs := goB_snoc z.l st s (W.take i) x
      rw [← htk] at hgs
      obtain ⟨hw1, ht1⟩ := goB_wt z.l st (W.take i) s
      obtain ⟨s1, hs1⟩ : ∃ s1, s.goB z.l st (W.take i) = s1 := ⟨_, rfl⟩
      rw [hs1] at hw1 ht1 hi2 hgs ⊢
      iterate 6 refine Ws ?_
      refine SR_rd (RD_ixO (i := (i : Nat)) (cs := W.map intV) Tryz.runUnderlying37 Tryz.sizeOf3 rfl rfl (by simp) (by omega) (by omega)) Has.ro rfl ?_
      refine SR_rd (RD_loadO (v := intV x) (cs := W.map intV) Tryz.isAgg3 rfl (by simp [hx])) Has.ro rfl ?_
      iterate 4 refine Ws ?_
      refine SC.op_log (p := p) fun a c m => ?_
      iterate 4 refine Ws ?_
      refine SR_rd (RD_load (v := .pointer (some ⟨s.t, 0, none⟩)) Tryz.isAgg81 rfl) (Has.ce (by rw [← ht1]; rfl)) rfl ?_
      refine Ws ?_
      refine We (CallsK.at (tree_Block s.t st x)) ?_
      rintro _ L3 ⟨b1, rfl, hp3, hf3, hL3⟩
      refine SR.lands hL3 ?_
      iterate 3 refine Ws ?_
      refine Wa fun b11 => ?_
      refine SR_ox0 (OX_stA (vs := b1.cells) Tryz.sizeOf146 rfl rfl rfl rfl) ?_
      rintro _ _ rfl
      iterate 13 refine Ws ?_
      have hbe : b1.envs.l = ((mget st.T x).getD zBlk).envs := congrArg Blk.envs hp3
      have hAe : ∀ e ∈ b1.envs.l, envB e ∈ z.l := fun e he => by
        rw [hbe] at he
        cases h : mget st.T x with
        | none => rw [h] at he; simp [zBlk] at he
        | some q => rw [h] at he; exact hA x q h e he
      obtain ⟨hf1, hf2, hf3, hf4, hf5⟩ := hf3
      refine SC_ind (X := Nat) (fun j => j ≤ b1.envs.n) (fun j => b1.envs.n - j) (fun j => [(0, .pointer (some ⟨p, 0, none⟩)), (8, .bool (st.way s.tip d).isSome), (10, .int .i64 x), (43, .slice wa2 W.length wc2), (44, .int .i64 (W.length : Nat)), (45, .int .i64 (i : Nat)), (59, .slice b1.envs.a b1.envs.n b1.envs.c), (60, .int .i64 (b1.envs.n : Nat)), (61, .int .i64 (j : Nat))]) (fun j => At logI p (s1.takeB z.l (b1.envs.l.take j)) :: rowP 43 4 b1.envs.a b1.envs.n b1.envs.c (b1.envs.l.flatMap EnvD.cells) :: rowP 3 1 wa2 W.length wc2 (W.map intV) :: At treeI s.t st :: At worldI k z :: F) (0) (by omega) (.cons rfl (.cons rfl (.cons rfl (.cons rfl (.cons rfl (.cons rfl (.cons rfl (.cons rfl (.cons rfl (.nil)))))))))) (((close_log (p := p) (s := s1) rfl rfl rfl rfl rfl rfl).trans (show Lands _ (At logI p s1 :: rowP 43 4 b1.envs.a b1.envs.n b1.envs.c (b1.envs.l.flatMap EnvD.cells) :: rowP 3 1 wa2 W.length wc2 (W.map intV) :: At treeI s.t st :: At worldI k z :: F) from .fin))) ?_
      intro j hi ih1
      have hj := hi
      iterate 6 refine Ws ?_
      refine SC_cond rfl (fun hc62 => ?_) (fun hc62 => ?_)
      · have hjn : j < b1.envs.n := by simp at hc62; omega
        obtain ⟨e, he⟩ : ∃ e, b1.envs.l[j]? = some e := ⟨_, List.getElem?_eq_getElem (by omega)⟩
        have hem := List.mem_of_getElem? he
        have hmm := hAe e hem
        have htj : b1.envs.l.take (j + 1) = b1.envs.l.take j ++ [e] := by rw [List.take_add_one, he]; rfl
        have hts := takeB_snoc z.l s1 (b1.envs.l.take j) e
        rw [← htj] at hts
        obtain ⟨hw2, ht2, hp2, hl2⟩ := takeB_wt z.l (b1.envs.l.take j) s1
        have hjl : (b1.envs.l.take j).length ≤ j := by simp; omega
        obtain ⟨s2, hs2⟩ : ∃ s2, s1.takeB z.l (b1.envs.l.take j) = s2 := ⟨_, rfl⟩
        rw [hs2] at hw2 ht2 hp2 hl2 hts ⊢
        iterate 6 refine Ws ?_
        refine SR_rd (RD_ixO (i := (j : Nat)) (cs := b1.envs.l.flatMap EnvD.cells) Tryz.runUnderlying53 Tryz.sizeOf43 rfl rfl (by rw [env_len, hf2]) (by omega) (by omega)) Has.ro rfl ?_
        refine SR_rd (RD_loadAO (vs := EnvD.cells e) (cs := b1.envs.l.flatMap EnvD.cells) Tryz.isAgg43 Tryz.sizeOf43 rfl rfl (by decide) (fun o v h => by have ho : o < 4 := (List.getElem?_eq_some_iff.1 h).1; rw [show ((j : Nat) : Int).toNat * (3 + 1) + o = j * 4 + o by omega, env_get he o ho]; exact h)) Has.ro rfl ?_
        refine Wa fun b14 => ?_
        refine SR_ox0 (OX_stA (vs := EnvD.cells e) Tryz.sizeOf43 rfl rfl rfl rfl) ?_
        rintro _ _ rfl
        iterate 3 refine Ws ?_
        refine SC.op_log (p := p) fun a c m => ?_
        refine Wd [.r 0, .r 1, .r 2, .r 3, .r 4, .e 5, .r 6] ?_
        iterate 3 refine Wq ?_
        refine SQ_rd rfl (RD_load (v := .pointer (some ⟨k.p, 0, none⟩)) Tryz.isAgg31 rfl) (Has.ce (by rw [← hw, ← hw1, ← hw2]; rfl)) rfl ?_
        refine Wq ?_
        refine SQ_call rfl Tryz.call127 (.cons rfl (.cons rfl (.nil))) (CallsK.at (w_EnvDigest k z e (hf5 e hem) (by omega) z.l (dnum z.l (envB e)) (dput_idem hmm) rfl)) (lts rfl) ?_
        rintro _ L4 ⟨rfl, hL4⟩
        refine ⟨.lands hL4 (.w rfl (.w rfl (.nil))), ?_⟩
        refine SQ.lands hL4 ?_
        refine Wq ?_
        iterate 6 refine Ws ?_
        refine Wc (CallsK.lands ((close_log (p := p) (s := s2) rfl rfl rfl rfl rfl rfl).trans (.fin : Lands _ (At logI p s2 :: pt b14 (.cells (EnvD.cells e).toArray 43) :: rowP 43 4 b1.envs.a b1.envs.n b1.envs.c (b1.envs.l.flatMap EnvD.cells) :: rowP 3 1 wa2 W.length wc2 (W.map intV) :: At treeI s.t st :: At worldI k z :: F))) (clog_Has p s2 _)) ?_
        iterate 3 refine Ws ?_
        refine SC_cond rfl (fun hc74 => ?_) (fun hc74 => ?_)
        · have hk : ((dnum z.l (envB e) : Nat) : Int) ∉ s2.ks := by simpa using hc74
          have ht3 : s2.take1 z.l e = ⟨s2.w, s2.t, s2.tip, s2.l ++ [e], s2.ks ++ [((dnum z.l (envB e) : Nat) : Int)]⟩ := if_neg hk
          have hms : mset (wsC s2.ks) ((dnum z.l (envB e) : Nat) : Int) (.int .i64 1) = wsC (s2.ks ++ [((dnum z.l (envB e) : Nat) : Int)]) := by unfold wsC; rw [mset_ws]; unfold putW; rw [if_neg hk]
          refine Ws ?_
          refine SC.op_log (p := p) fun a c m => ?_
          iterate 6 refine Ws ?_
          refine SR_ox0 (OX_mu (K := intK) Tryz.underlying96 Tryz.underlying3 rfl rfl rfl) ?_
          rintro _ _ rfl
          iterate 2 refine Ws ?_
          refine Wd [.r 0, .r 1, .r 2, .r 3, .r 4, .r 5, .e 6, .e 7, .r 8, .r 9, .e 10] ?_
          iterate 6 refine Wq ?_
          refine SQ_ox rfl (OX_lit Tryz.underlying53 Tryz.type43 rfl rfl rfl rfl (.cons rfl (.nil)) (.cons rfl rfl (.nil))) rfl ?_
          rintro _ _ ⟨b86, rfl, rfl⟩
          refine ⟨.w rfl (.h (Has.ce rfl) (.nil)), ?_⟩
          refine SQ_ox rfl (OX_app 4 Tryz.underlying53 Tryz.underlying53 Tryz.type43 rfl rfl rfl rfl rfl (by first | rfl | simp; done | (simp; omega)) 32 rfl (by omega) (by omega)) rfl ?_
          rintro _ _ ⟨a87, c87, rfl, rfl⟩
          refine ⟨.h Has.wh (.w rfl (.nil)), ?_⟩
          iterate 2 refine Wq ?_
          refine SQ_ox0 rfl (OX_st Tryz.sizeOf53 rfl rfl) ?_
          rintro _ _ rfl
          refine ⟨.w rfl (.w rfl (.nil)), ?_⟩
          refine Ws ?_
          have hr : s2.l.flatMap EnvD.cells ++ (EnvD.cells e ++ []) = (s2.l ++ [e]).flatMap EnvD.cells := by rw [List.flatMap_append]; rfl
          rw [hr]
          iterate 6 refine Ws ?_
          refine SC_again (ih1 (j + 1) (by omega) (by omega)) (by rw [hts, ht3]; exact (close_log (p := p) (s := ⟨s2.w, s2.t, s2.tip, s2.l ++ [e], s2.ks ++ [((dnum z.l (envB e) : Nat) : Int)]⟩) rfl rfl rfl (by simp) rfl hms).trans .fin) (.cons rfl (.cons rfl (.cons rfl (.cons rfl (.cons rfl (.cons rfl (.cons rfl (.cons rfl (.cons' rfl (ie (by omega)) (.nil))))))))))
        · have hk : ((dnum z.l (envB e) : Nat) : Int) ∈ s2.ks := by simpa using hc74
          have ht3 : s2.take1 z.l e = s2 := if_pos hk
          iterate 7 refine Ws ?_
          refine SC_again (ih1 (j + 1) (by omega) (by omega)) (by rw [hts, ht3]; exact .fin) (.cons rfl (.cons rfl (.cons rfl (.cons rfl (.cons rfl (.cons rfl (.cons rfl (.cons rfl (.cons' rfl (ie (by omega)) (.nil))))))))))
      · have hjn : j = b1.envs.n := by simp at hc62; omega
        subst hjn
        clear ih1
        rw [show b1.envs.l.take b1.envs.n = b1.envs.l by rw [← hf2, List.take_length]]
        obtain ⟨hw2, ht2, hp2, hl2⟩ := takeB_wt z.l b1.envs.l s1
        have hsp : s1.step z.l st x = ⟨(s1.takeB z.l b1.envs.l).w, (s1.takeB z.l b1.envs.l).t, x, (s1.takeB z.l b1.envs.l).l, (s1.takeB z.l b1.envs.l).ks⟩ := by unfold LS.step; rw [← hbe]
        obtain ⟨s2, hs2⟩ : ∃ s2, s1.takeB z.l b1.envs.l = s2 := ⟨_, rfl⟩
        rw [hs2] at hw2 ht2 hp2 hl2 hsp ⊢
        iterate 2 refine Ws ?_
        refine SC.op_log (p := p) fun a c m => ?_
        iterate 13 refine Ws ?_
        refine SC_again (ih (i + 1) (⟨by omega, by rw [hgs, hsp]; dsimp only; omega⟩) (by omega)) (by rw [hgs, hsp]; exact (close_log (p := p) (s := ⟨s2.w, s2.t, x, s2.l, s2.ks⟩) rfl rfl rfl rfl rfl rfl).trans .fin) (.cons rfl (.cons rfl (.cons rfl (.cons rfl (.cons' rfl (ie (by omega)) (.nil))))))
    · have hin : i = W.length := by simp at hc46; omega
      subst hin
      rw [List.take_length]
      iterate 8 refine Ws ?_
      refine SC_ret1 rfl rfl ?_
      rw [hc, hW]
      exact ⟨rfl, .fin⟩

end Go.Proofs.YtdhpjdhloaoepaaGreat

/- The statements on the writer: its own bytes. -/
namespace Go.Proofs.YtdhpjdhloaoepaaGreat
open Go Go.Proofs
attribute [local irreducible] SC SN SR SQ SA SO
set_option maxRecDepth 100000
end Go.Proofs.YtdhpjdhloaoepaaGreat

/- The trades' forms: their fields, their code, and back. -/
namespace Go.Proofs.YtdhpjdhloaoepaaGreat
open Go Go.Proofs
attribute [local irreducible] SC SN SR SQ SA SO
set_option maxRecDepth 100000
/-- A trade. -/
structure TxD where
  kind : Int
  asset : Int
  to : Int
  buy : Bool
  price : Int
  qty : Int
  id : Int
def TxD.cells (t : TxD) : List Value := [.int .i64 t.kind, .int .i64 t.asset, .int .i64 t.to, .bool t.buy, .int .u64 t.price, .int .u64 t.qty, .int .i64 t.id]
def TxD.val (t : TxD) : Value := .agg t.cells.toArray
def TxD.same (s t : TxD) : Bool := s.kind == t.kind && (s.asset == t.asset && (s.to == t.to && (s.buy == t.buy && (s.price == t.price && (s.qty == t.qty && s.id == t.id)))))
theorem run_eqTx (s t : TxD) (w : World) : (Op.equalIn 10000 149 s.val t.val).run Tryz.prog w = .ok (s.same t) w := by
  have u3 := Tryz.underlying3
  have a3 := Tryz.isAgg3
  have z3 := Tryz.sizeOf3
  have u4 := Tryz.underlying4
  have a4 := Tryz.isAgg4
  have z4 := Tryz.sizeOf4
  have u41 := Tryz.underlying35
  have a41 := Tryz.isAgg35
  have z41 := Tryz.sizeOf35
  have hS : Tryz.prog.underlying 149 = some (.struct (Tryz.prog.fieldsOf 149)) := by kernel_rfl
  have hp : Tryz.prog.stoodInHeld 149 = false := by kernel_rfl
  rw [show (10000 : Nat) = 9999 + 1 from rfl, TxD.val, TxD.val, run_equalIn_agg w 9999 149 _ _ hS hp]
  simp only [Program.fieldsOf, Tryz.underlying149, TxD.cells]
  go_simp
  obtain ⟨k, m, to, b, p, q, i⟩ := s
  obtain ⟨k', m', to', b', p', q', i'⟩ := t
  by_cases h1 : k = k' <;> by_cases h2 : m = m' <;> by_cases h3 : to = to' <;> by_cases h4 : b = b' <;> by_cases h5 : p = p' <;> by_cases h6 : q = q' <;> by_cases h7 : i = i' <;> simp [h1, h2, h3, h4, h5, h6, h7, TxD.same]

instance (t : TxD) : Ones t.cells := by unfold TxD.cells; infer_instance
def txZero : TxD := ⟨0, 0, 0, false, 0, 0, 0⟩
/-- The fields that a kind has. -/
def TxD.fields (t : TxD) : Option TxD :=
  if t.kind = 1 ∨ t.kind = 2 then some ⟨t.kind, t.asset, 0, false, 0, t.qty, 0⟩
  else if t.kind = 3 then some ⟨t.kind, t.asset, t.to, false, 0, t.qty, 0⟩
  else if t.kind = 4 ∨ t.kind = 5 then some ⟨t.kind, 0, 0, t.buy, t.price, t.qty, 0⟩
  else if t.kind = 6 then some ⟨t.kind, 0, 0, false, 0, 0, t.id⟩
  else none
def within (x m : Int) : Bool := decide (0 ≤ x) && decide (x ≤ m)
def TxD.ok (t : TxD) : Bool := match t.fields with
  | none => false
  | some u => u.same t && within t.asset 1 && within t.to 2147483647 && within t.id 2147483647

theorem tx_within {W : World} {F : List HProp} [Abs F] (x m : Int) :
    CallsK W Tryz.prog 259 #[.int .i64 x, .int .i64 m] (F) (fun v L => v = .bool (within x m) ∧ Lands L F) := by
  refine CallsK_enter (n := 12) Tryz.func259 rfl rfl rfl ?_
  iterate 10 refine Ws ?_
  refine SR_guard rfl rfl (fun hg1_2 => ?_) (fun hg1_2 => ?_)
  · refine SR_yes rfl rfl (hg1_2) ?_
    refine Ws ?_
    refine SR_yes rfl rfl (hg1_2) ?_
    refine Ws ?_
    refine SR_yes rfl rfl (hg1_2) ?_
    refine Ws ?_
    refine SR_pu (RD_pick_t rfl (hg1_2) rfl) rfl ?_
    iterate 3 refine Ws ?_
    refine SC_ret1 rfl rfl ?_
    exact ⟨by unfold within; rw [hg1_2]; simp, .fin⟩
  · refine SR_no rfl rfl (hg1_2) (lts rfl) ?_
    refine SR_no rfl rfl (hg1_2) (lts rfl) ?_
    refine SR_no rfl rfl (hg1_2) (lts rfl) ?_
    refine SR_pu (RD_pick_f rfl (hg1_2) rfl) rfl ?_
    iterate 3 refine Ws ?_
    refine SC_ret1 rfl rfl ?_
    exact ⟨by unfold within; rw [hg1_2]; simp, .fin⟩

theorem tx_fields {W : World} {F : List HProp} [Abs F] (t : TxD) :
    CallsK W Tryz.prog 258 #[t.val] (F) (fun v L => v = .tuple #[(t.fields.getD txZero).val, .bool t.fields.isSome] ∧ Lands L F) := by
  refine CallsK_enter (n := 49) Tryz.func258 rfl rfl rfl ?_
  iterate 2 refine Ws ?_
  refine Wb fun b1 => ?_
  refine Wa fun b2 => ?_
  iterate 7 refine Ws ?_
  refine SR_pu (RD_build (.cons rfl (.nil)) built149_0) rfl ?_
  refine Wa fun b4 => ?_
  refine SR_ox0 (OX_stA Tryz.sizeOf149 rfl rfl rfl rfl) ?_
  rintro _ _ rfl
  iterate 17 refine Ws ?_
  refine SC_cond rfl (fun hA11 => ?_) (fun hA11 => ?_)
  · have hk : t.kind = 1 := by simpa using hA11
    iterate 2 refine Ws ?_
    refine SC_cond_true rfl (hA11) ?_
    refine Wd [.r 0, .r 1, .r 2, .r 3, .r 4, .e 5, .r 6, .e 7] ?_
    iterate 5 refine Wq ?_
    refine SQ_ox0 rfl (OX_st Tryz.sizeOf3 rfl rfl) ?_
    rintro _ _ rfl
    refine ⟨.h (Has.ce rfl) (.w rfl (.nil)), ?_⟩
    refine Wq ?_
    refine SQ_ox0 rfl (OX_st Tryz.sizeOf35 rfl rfl) ?_
    rintro _ _ rfl
    refine ⟨.w rfl (.w rfl (.nil)), ?_⟩
    iterate 6 refine Ws ?_
    refine SR_ox0 (OX_stA Tryz.sizeOf149 rfl rfl rfl rfl) ?_
    rintro _ _ rfl
    iterate 3 refine Ws ?_
    refine SC_retCT rfl Tryz.isAgg149 Tryz.sizeOf149 rfl rfl rfl Has.wh ?_
    exact ⟨by simp [TxD.fields, hk, TxD.val, TxD.cells], .fin⟩
  · have hn1 : ¬ t.kind = 1 := by simpa using hA11
    iterate 5 refine Ws ?_
    refine SC_cond rfl (fun hB11 => ?_) (fun hB11 => ?_)
    · have hk : t.kind = 2 := by simpa using hB11
      refine Wd [.r 0, .r 1, .r 2, .r 3, .r 4, .e 5, .r 6, .e 7] ?_
      iterate 5 refine Wq ?_
      refine SQ_ox0 rfl (OX_st Tryz.sizeOf3 rfl rfl) ?_
      rintro _ _ rfl
      refine ⟨.h (Has.ce rfl) (.w rfl (.nil)), ?_⟩
      refine Wq ?_
      refine SQ_ox0 rfl (OX_st Tryz.sizeOf35 rfl rfl) ?_
      rintro _ _ rfl
      refine ⟨.w rfl (.w rfl (.nil)), ?_⟩
      iterate 6 refine Ws ?_
      refine SR_ox0 (OX_stA Tryz.sizeOf149 rfl rfl rfl rfl) ?_
      rintro _ _ rfl
      iterate 3 refine Ws ?_
      refine SC_retCT rfl Tryz.isAgg149 Tryz.sizeOf149 rfl rfl rfl Has.wh ?_
      exact ⟨by simp [TxD.fields, hk, TxD.val, TxD.cells], .fin⟩
    · have hn2 : ¬ t.kind = 2 := by simpa using hB11
      iterate 6 refine Ws ?_
      refine SC_cond rfl (fun hA20 => ?_) (fun hA20 => ?_)
      · have hk : t.kind = 3 := by simpa using hA20
        refine Wd [.r 0, .r 1, .r 2, .r 3, .r 4, .r 5, .r 6, .e 7, .r 8, .e 9, .r 10, .e 11] ?_
        iterate 7 refine Wq ?_
        refine SQ_ox0 rfl (OX_st Tryz.sizeOf3 rfl rfl) ?_
        rintro _ _ rfl
        refine ⟨.h (Has.ce rfl) (.h (Has.ce rfl) (.w rfl (.nil))), ?_⟩
        refine Wq ?_
        refine SQ_ox0 rfl (OX_st Tryz.sizeOf3 rfl rfl) ?_
        rintro _ _ rfl
        refine ⟨.h (Has.ce rfl) (.w rfl (.w rfl (.nil))), ?_⟩
        refine Wq ?_
        refine SQ_ox0 rfl (OX_st Tryz.sizeOf35 rfl rfl) ?_
        rintro _ _ rfl
        refine ⟨.w rfl (.w rfl (.w rfl (.nil))), ?_⟩
        iterate 6 refine Ws ?_
        refine SR_ox0 (OX_stA Tryz.sizeOf149 rfl rfl rfl rfl) ?_
        rintro _ _ rfl
        iterate 3 refine Ws ?_
        refine SC_retCT rfl Tryz.isAgg149 Tryz.sizeOf149 rfl rfl rfl Has.wh ?_
        exact ⟨by simp [TxD.fields, hk, TxD.val, TxD.cells], .fin⟩
      · have hn3 : ¬ t.kind = 3 := by simpa using hA20
        iterate 7 refine Ws ?_
        refine SC_cond rfl (fun hA31 => ?_) (fun hA31 => ?_)
        · have hk : t.kind = 4 := by simpa using hA31
          iterate 2 refine Ws ?_
          refine SC_cond_true rfl (hA31) ?_
          refine Wd [.r 0, .r 1, .r 2, .r 3, .r 4, .r 5, .r 6, .e 7, .r 8, .e 9, .r 10, .e 11] ?_
          iterate 7 refine Wq ?_
          refine SQ_ox0 rfl (OX_st Tryz.sizeOf4 rfl rfl) ?_
          rintro _ _ rfl
          refine ⟨.h (Has.ce rfl) (.h (Has.ce rfl) (.w rfl (.nil))), ?_⟩
          refine Wq ?_
          refine SQ_ox0 rfl (OX_st Tryz.sizeOf35 rfl rfl) ?_
          rintro _ _ rfl
          refine ⟨.h (Has.ce rfl) (.w rfl (.w rfl (.nil))), ?_⟩
          refine Wq ?_
          refine SQ_ox0 rfl (OX_st Tryz.sizeOf35 rfl rfl) ?_
          rintro _ _ rfl
          refine ⟨.w rfl (.w rfl (.w rfl (.nil))), ?_⟩
          iterate 6 refine Ws ?_
          refine SR_ox0 (OX_stA Tryz.sizeOf149 rfl rfl rfl rfl) ?_
          rintro _ _ rfl
          iterate 3 refine Ws ?_
          refine SC_retCT rfl Tryz.isAgg149 Tryz.sizeOf149 rfl rfl rfl Has.wh ?_
          exact ⟨by simp [TxD.fields, hk, TxD.val, TxD.cells], .fin⟩
        · have hn4 : ¬ t.kind = 4 := by simpa using hA31
          iterate 5 refine Ws ?_
          refine SC_cond rfl (fun hB31 => ?_) (fun hB31 => ?_)
          · have hk : t.kind = 5 := by simpa using hB31
            refine Wd [.r 0, .r 1, .r 2, .r 3, .r 4, .r 5, .r 6, .e 7, .r 8, .e 9, .r 10, .e 11] ?_
            iterate 7 refine Wq ?_
            refine SQ_ox0 rfl (OX_st Tryz.sizeOf4 rfl rfl) ?_
            rintro _ _ rfl
            refine ⟨.h (Has.ce rfl) (.h (Has.ce rfl) (.w rfl (.nil))), ?_⟩
            refine Wq ?_
            refine SQ_ox0 rfl (OX_st Tryz.sizeOf35 rfl rfl) ?_
            rintro _ _ rfl
            refine ⟨.h (Has.ce rfl) (.w rfl (.w rfl (.nil))), ?_⟩
            refine Wq ?_
            refine SQ_ox0 rfl (OX_st Tryz.sizeOf35 rfl rfl) ?_
            rintro _ _ rfl
            refine ⟨.w rfl (.w rfl (.w rfl (.nil))), ?_⟩
            iterate 6 refine Ws ?_
            refine SR_ox0 (OX_stA Tryz.sizeOf149 rfl rfl rfl rfl) ?_
            rintro _ _ rfl
            iterate 3 refine Ws ?_
            refine SC_retCT rfl Tryz.isAgg149 Tryz.sizeOf149 rfl rfl rfl Has.wh ?_
            exact ⟨by simp [TxD.fields, hk, TxD.val, TxD.cells], .fin⟩
          · have hn5 : ¬ t.kind = 5 := by simpa using hB31
            iterate 6 refine Ws ?_
            refine SC_cond rfl (fun hA43 => ?_) (fun hA43 => ?_)
            · have hk : t.kind = 6 := by simpa using hA43
              iterate 11 refine Ws ?_
              refine SR_ox0 (OX_stA Tryz.sizeOf149 rfl rfl rfl rfl) ?_
              rintro _ _ rfl
              iterate 3 refine Ws ?_
              refine SC_retCT rfl Tryz.isAgg149 Tryz.sizeOf149 rfl rfl rfl Has.wh ?_
              exact ⟨by simp [TxD.fields, hk, TxD.val, TxD.cells], .fin⟩
            · have hn6 : ¬ t.kind = 6 := by simpa using hA43
              iterate 2 refine Ws ?_
              refine SR_pu (RD_build (.nil) built149) rfl ?_
              refine SR_ox0 (OX_stA Tryz.sizeOf149 rfl rfl rfl rfl) ?_
              rintro _ _ rfl
              iterate 3 refine Ws ?_
              refine SC_retCT rfl Tryz.isAgg149 Tryz.sizeOf149 rfl rfl rfl Has.wh ?_
              exact ⟨by simp [TxD.fields, hn1, hn2, hn3, hn4, hn5, hn6, TxD.val, TxD.cells, txZero], .fin⟩

theorem RD_eqlTx {P : Program} {l : Env} {ty : TypeId} {x y : Operand} {yt : TypeId} (s t : TxD) (hP : P = Tryz.prog) (hx : ev l x = some s.val) (hy : ev l y = some t.val) : RD P l (.binOp .eql 149 x y yt) ty RU (.bool (s.same t)) := fun ρ hρ w _ _ _ _ _ => by
  subst hP
  have hg : ∀ w, (eqGuard .eql 149 x y s.val t.val).run Tryz.prog w = .ok () w := fun w => run_eqGuard_agg w .eql 149 x y _ _ (by kernel_rfl)
  have he : ∀ w, (binOp .eql 149 s.val t.val).run Tryz.prog w = .ok (.bool (s.same t)) w := fun w => by
    show (binOp .eql 149 (.agg s.cells.toArray) (.agg t.cells.toArray)).run Tryz.prog w = _
    rw [run_eql_struct]
    have := run_eqTx s t w
    unfold TxD.val at this
    rw [this]; rfl
  simp [execOp, hρ x _ hx, hρ y _ hy, hg, he]

theorem tx_Ok {W : World} {F : List HProp} [Abs F] (t : TxD) :
    CallsK W Tryz.prog 251 #[t.val] (F) (fun v L => v = .bool t.ok ∧ Lands L F) := by
  refine CallsK_enter (n := 31) Tryz.func251 rfl rfl rfl ?_
  obtain ⟨f, hf⟩ : ∃ f, t.fields = f := ⟨_, rfl⟩
  iterate 2 refine Ws ?_
  refine Wb fun b1 => ?_
  iterate 6 refine Ws ?_
  refine We (tx_fields t) ?_
  rintro _ L1 ⟨rfl, hL1⟩
  rw [hf]
  refine SR.lands hL1 ?_
  iterate 3 refine Ws ?_
  refine Wa fun b3 => ?_
  refine SR_ox0 (OX_stA Tryz.sizeOf149 rfl rfl rfl rfl) ?_
  rintro _ _ rfl
  iterate 7 refine Ws ?_
  refine SR_guard rfl rfl (fun hg2_1 => ?_) (fun hg2_1 => ?_)
  · refine SR_yes rfl rfl (hg2_1) ?_
    refine Ws ?_
    refine SR_yes rfl rfl (hg2_1) ?_
    refine Ws ?_
    refine SR_yes rfl rfl (hg2_1) ?_
    refine SR_pu (RD_eqlTx (f.getD txZero) t rfl rfl rfl) rfl ?_
    refine SR_pu (RD_pick_t rfl (hg2_1) rfl) rfl ?_
    refine Ws ?_
    refine SR_guard rfl rfl (fun hg2_6 => ?_) (fun hg2_6 => ?_)
    · refine SR_yes rfl rfl (hg2_6) ?_
      refine Ws ?_
      refine SR_yes rfl rfl (hg2_6) ?_
      refine Ws ?_
      refine SR_yes rfl rfl (hg2_6) ?_
      refine Wc (tx_within _ _) ?_
      refine SR_pu (RD_pick_t rfl (hg2_6) rfl) rfl ?_
      refine Ws ?_
      refine SR_guard rfl rfl (fun hg2_11 => ?_) (fun hg2_11 => ?_)
      · refine SR_yes rfl rfl (hg2_11) ?_
        refine Ws ?_
        refine SR_yes rfl rfl (hg2_11) ?_
        refine Ws ?_
        refine SR_yes rfl rfl (hg2_11) ?_
        refine Wc (tx_within _ _) ?_
        refine SR_pu (RD_pick_t rfl (hg2_11) rfl) rfl ?_
        refine Ws ?_
        refine SR_guard rfl rfl (fun hg2_16 => ?_) (fun hg2_16 => ?_)
        · refine SR_yes rfl rfl (hg2_16) ?_
          refine Ws ?_
          refine SR_yes rfl rfl (hg2_16) ?_
          refine Ws ?_
          refine SR_yes rfl rfl (hg2_16) ?_
          refine Wc (tx_within _ _) ?_
          refine SR_pu (RD_pick_t rfl (hg2_16) rfl) rfl ?_
          iterate 3 refine Ws ?_
          refine SC_ret1 rfl rfl ?_
          refine ⟨?_, .fin⟩
          cases f with
          | none => simp [TxD.ok, hf] at *
          | some u => (simp [TxD.ok, hf] at * <;> simp [*])
        · refine SR_no rfl rfl (hg2_16) (lts rfl) ?_
          refine SR_no rfl rfl (hg2_16) (lts rfl) ?_
          refine SR_no rfl rfl (hg2_16) (lts rfl) ?_
          refine SR_pu (RD_pick_f rfl (hg2_16) rfl) rfl ?_
          iterate 3 refine Ws ?_
          refine SC_ret1 rfl rfl ?_
          refine ⟨?_, .fin⟩
          cases f with
          | none => simp [TxD.ok, hf] at *
          | some u => (simp [TxD.ok, hf] at * <;> simp [*])
      · refine SR_no rfl rfl (hg2_11) (lts rfl) ?_
        refine SR_no rfl rfl (hg2_11) (lts rfl) ?_
        refine SR_no rfl rfl (hg2_11) (lts rfl) ?_
        refine SR_pu (RD_pick_f rfl (hg2_11) rfl) rfl ?_
        refine Ws ?_
        refine SR_no rfl rfl (rfl) (lts rfl) ?_
        refine SR_no rfl rfl (rfl) (lts rfl) ?_
        refine SR_no rfl rfl (rfl) (lts rfl) ?_
        refine SR_pu (RD_pick_f rfl (rfl) rfl) rfl ?_
        iterate 3 refine Ws ?_
        refine SC_ret1 rfl rfl ?_
        refine ⟨?_, .fin⟩
        cases f with
        | none => simp [TxD.ok, hf] at *
        | some u => (simp [TxD.ok, hf] at * <;> simp [*])
    · refine SR_no rfl rfl (hg2_6) (lts rfl) ?_
      refine SR_no rfl rfl (hg2_6) (lts rfl) ?_
      refine SR_no rfl rfl (hg2_6) (lts rfl) ?_
      refine SR_pu (RD_pick_f rfl (hg2_6) rfl) rfl ?_
      refine Ws ?_
      refine SR_no rfl rfl (rfl) (lts rfl) ?_
      refine SR_no rfl rfl (rfl) (lts rfl) ?_
      refine SR_no rfl rfl (rfl) (lts rfl) ?_
      refine SR_pu (RD_pick_f rfl (rfl) rfl) rfl ?_
      refine Ws ?_
      refine SR_no rfl rfl (rfl) (lts rfl) ?_
      refine SR_no rfl rfl (rfl) (lts rfl) ?_
      refine SR_no rfl rfl (rfl) (lts rfl) ?_
      refine SR_pu (RD_pick_f rfl (rfl) rfl) rfl ?_
      iterate 3 refine Ws ?_
      refine SC_ret1 rfl rfl ?_
      refine ⟨?_, .fin⟩
      cases f with
      | none => simp [TxD.ok, hf] at *
      | some u => (simp [TxD.ok, hf] at * <;> simp [*])
  · refine SR_no rfl rfl (hg2_1) (lts rfl) ?_
    refine SR_no rfl rfl (hg2_1) (lts rfl) ?_
    refine SR_no rfl rfl (hg2_1) (lts rfl) ?_
    refine SR_pu (RD_pick_f rfl (hg2_1) rfl) rfl ?_
    refine Ws ?_
    refine SR_no rfl rfl (rfl) (lts rfl) ?_
    refine SR_no rfl rfl (rfl) (lts rfl) ?_
    refine SR_no rfl rfl (rfl) (lts rfl) ?_
    refine SR_pu (RD_pick_f rfl (rfl) rfl) rfl ?_
    refine Ws ?_
    refine SR_no rfl rfl (rfl) (lts rfl) ?_
    refine SR_no rfl rfl (rfl) (lts rfl) ?_
    refine SR_no rfl rfl (rfl) (lts rfl) ?_
    refine SR_pu (RD_pick_f rfl (rfl) rfl) rfl ?_
    refine Ws ?_
    refine SR_no rfl rfl (rfl) (lts rfl) ?_
    refine SR_no rfl rfl (rfl) (lts rfl) ?_
    refine SR_no rfl rfl (rfl) (lts rfl) ?_
    refine SR_pu (RD_pick_f rfl (rfl) rfl) rfl ?_
    iterate 3 refine Ws ?_
    refine SC_ret1 rfl rfl ?_
    refine ⟨?_, .fin⟩
    cases f with
    | none => simp [TxD.ok, hf] at *
    | some u => (simp [TxD.ok, hf] at * <;> simp [*])

/-- The numbers fit their kinds. -/
structure TxD.Wf (t : TxD) : Prop where
  kind : I64 t.kind
  asset : I64 t.asset
  to : I64 t.to
  price : 0 ≤ t.price ∧ t.price < 18446744073709551616
  qty : 0 ≤ t.qty ∧ t.qty < 18446744073709551616
  id : I64 t.id
def TxD.code (t : TxD) : List UInt8 := [] ++ bei t.kind ++ bei t.asset ++ bei t.to ++ bei (if t.buy then 1 else 0) ++ bei t.price ++ bei t.qty ++ bei t.id
theorem TxD.code_len (t : TxD) : t.code.length = 56 := by simp [TxD.code, bei_length]

theorem tx_Code_no {W : World} {F : List HProp} [Abs F] (t : TxD) (hok : t.ok = false) :
    CallsK W Tryz.prog 249 #[t.val] (F) (fun v L => v = .tuple #[.slice none 0 0, .bool false] ∧ Lands L F) := by
  refine CallsK_enter (n := 41) Tryz.func249 rfl rfl rfl ?_
  iterate 2 refine Ws ?_
  refine Wb fun b1 => ?_
  iterate 8 refine Ws ?_
  refine We (tx_Ok t) ?_
  rintro _ L9 ⟨rfl, hL9⟩
  rw [hok]
  refine SR.lands hL9 ?_
  iterate 3 refine Ws ?_
  refine SC_cond_true rfl (rfl) ?_
  iterate 6 refine Ws ?_
  refine SC_ret2 rfl rfl rfl ?_
  exact ⟨rfl, .fin⟩

theorem tx_Code_ok {W : World} {F : List HProp} [Abs F] (t : TxD) (hw : t.Wf) (hok : t.ok = true) :
    CallsK W Tryz.prog 249 #[t.val] (F) (fun v L => ∃ a c, v = .tuple #[.slice a 56 c, .bool true] ∧ Lands L (rowP 5 1 a 56 c (t.code.map byteV) :: F)) := by
  refine CallsK_enter (n := 41) Tryz.func249 rfl rfl rfl ?_
  iterate 2 refine Ws ?_
  refine Wb fun b1 => ?_
  iterate 8 refine Ws ?_
  refine We (tx_Ok t) ?_
  rintro _ L9 ⟨rfl, hL9⟩
  rw [hok]
  refine SR.lands hL9 ?_
  iterate 3 refine Ws ?_
  refine SC_cond_false rfl (rfl) ?_
  iterate 4 refine Ws ?_
  refine We (wire_New) ?_
  rintro _ L0 ⟨p, rfl, hL0⟩
  refine SR.lands hL0 ?_
  iterate 8 refine Ws ?_
  refine Wc (CallsK.at (wire_Int p ([]) (t.kind) (by simp [bei_length]))) ?_
  iterate 7 refine Ws ?_
  refine Wc (CallsK.at (wire_Int p ([] ++ bei t.kind) (t.asset) (by simp [bei_length]))) ?_
  iterate 7 refine Ws ?_
  refine Wc (CallsK.at (wire_Int p ([] ++ bei t.kind ++ bei t.asset) (t.to) (by simp [bei_length]))) ?_
  iterate 14 refine Ws ?_
  refine SC_cond rfl (fun hc23 => ?_) (fun hc23 => ?_)
  · have hbuy : t.buy = true := hc23
    have hcode : t.code = [] ++ bei t.kind ++ bei t.asset ++ bei t.to ++ bei 1 ++ bei t.price ++ bei t.qty ++ bei t.id := by simp [TxD.code, hbuy]
    iterate 8 refine Ws ?_
    refine Wc (CallsK.at (wire_Int p ([] ++ bei t.kind ++ bei t.asset ++ bei t.to) (1) (by simp [bei_length]))) ?_
    iterate 7 refine Ws ?_
    refine Wc (CallsK.at (wire_Num p ([] ++ bei t.kind ++ bei t.asset ++ bei t.to ++ bei 1) (t.price) hw.price (by simp [bei_length]))) ?_
    iterate 7 refine Ws ?_
    refine Wc (CallsK.at (wire_Num p ([] ++ bei t.kind ++ bei t.asset ++ bei t.to ++ bei 1 ++ bei t.price) (t.qty) hw.qty (by simp [bei_length]))) ?_
    iterate 7 refine Ws ?_
    refine Wc (CallsK.at (wire_Int p ([] ++ bei t.kind ++ bei t.asset ++ bei t.to ++ bei 1 ++ bei t.price ++ bei t.qty) (t.id) (by simp [bei_length]))) ?_
    iterate 5 refine Ws ?_
    refine We (CallsK.at (wire_Bytes p ([] ++ bei t.kind ++ bei t.asset ++ bei t.to ++ bei 1 ++ bei t.price ++ bei t.qty ++ bei t.id) (by simp [bei_length]))) ?_
    rintro _ L8 ⟨a40, c40, rfl, hL8⟩
    refine SR.lands hL8 ?_
    iterate 4 refine Ws ?_
    refine SC_ret2 rfl rfl rfl ?_
    have e56 := t.code_len
    rw [hcode] at e56
    exact ⟨_, _, rfl, by rw [hcode, ← e56]; exact .fin⟩
  · have hbuy : t.buy = false := hc23
    have hcode : t.code = [] ++ bei t.kind ++ bei t.asset ++ bei t.to ++ bei 0 ++ bei t.price ++ bei t.qty ++ bei t.id := by simp [TxD.code, hbuy]
    iterate 6 refine Ws ?_
    refine Wc (CallsK.at (wire_Int p ([] ++ bei t.kind ++ bei t.asset ++ bei t.to) (0) (by simp [bei_length]))) ?_
    iterate 7 refine Ws ?_
    refine Wc (CallsK.at (wire_Num p ([] ++ bei t.kind ++ bei t.asset ++ bei t.to ++ bei 0) (t.price) hw.price (by simp [bei_length]))) ?_
    iterate 7 refine Ws ?_
    refine Wc (CallsK.at (wire_Num p ([] ++ bei t.kind ++ bei t.asset ++ bei t.to ++ bei 0 ++ bei t.price) (t.qty) hw.qty (by simp [bei_length]))) ?_
    iterate 7 refine Ws ?_
    refine Wc (CallsK.at (wire_Int p ([] ++ bei t.kind ++ bei t.asset ++ bei t.to ++ bei 0 ++ bei t.price ++ bei t.qty) (t.id) (by simp [bei_length]))) ?_
    iterate 5 refine Ws ?_
    refine We (CallsK.at (wire_Bytes p ([] ++ bei t.kind ++ bei t.asset ++ bei t.to ++ bei 0 ++ bei t.price ++ bei t.qty ++ bei t.id) (by simp [bei_length]))) ?_
    rintro _ L8 ⟨a40, c40, rfl, hL8⟩
    refine SR.lands hL8 ?_
    iterate 4 refine Ws ?_
    refine SC_ret2 rfl rfl rfl ?_
    have e56 := t.code_len
    rw [hcode] at e56
    exact ⟨_, _, rfl, by rw [hcode, ← e56]; exact .fin⟩

end Go.Proofs.YtdhpjdhloaoepaaGreat

/- The trades' forms: back from their code. -/
namespace Go.Proofs.YtdhpjdhloaoepaaGreat
open Go Go.Proofs
attribute [local irreducible] SC SN SR SQ SA SO
set_option maxRecDepth 100000
/-- What a reader makes of a trade's bytes. -/
def rdTx (bs : List UInt8) : TxD :=
  let r1 := rdNum (bs, false)
  let r2 := rdNum r1.2
  let r3 := rdNum r2.2
  let r4 := rdNum r3.2
  let r5 := rdNum r4.2
  let r6 := rdNum r5.2
  let r7 := rdNum r6.2
  ⟨IntKind.i64.wrap r1.1, IntKind.i64.wrap r2.1, IntKind.i64.wrap r3.1, decide (IntKind.i64.wrap r4.1 = 1), r5.1, r6.1, IntKind.i64.wrap r7.1⟩
theorem wrap_I64 (x : Int) : I64 (IntKind.i64.wrap x) := by
  unfold I64; rw [IntKind.wrap_i64]; omega
theorem rdTx_wf (bs : List UInt8) : (rdTx bs).Wf := by
  refine ⟨wrap_I64 _, wrap_I64 _, wrap_I64 _, ?_, ?_, wrap_I64 _⟩
  · have := rdNum_lt (rdNum (rdNum (rdNum (rdNum (bs, false)).2).2).2).2
    exact ⟨by show (0 : Int) ≤ ((rdNum _).1 : Int); omega, by show ((rdNum _).1 : Int) < _; omega⟩
  · have := rdNum_lt (rdNum (rdNum (rdNum (rdNum (rdNum (bs, false)).2).2).2).2).2
    exact ⟨by show (0 : Int) ≤ ((rdNum _).1 : Int); omega, by show ((rdNum _).1 : Int) < _; omega⟩
def parseTx (bs : List UInt8) : Option TxD := if (rdTx bs).ok = true ∧ (rdTx bs).code = bs then some (rdTx bs) else none
theorem go_Equal {W : World} {F : List HProp} [Abs F] (a : Option Addr) (n c : Nat) (xs : List UInt8) {cs : List Value} [HasRow F a cs] (hcs : cs = xs.map byteV) (hn : xs.length = n) (b : Option Addr) (m d : Nat) (ys : List UInt8) {ds : List Value} [HasRow F b ds] (hds : ds = ys.map byteV) (hm : ys.length = m) :
    CallsK W Tryz.prog 139 #[.slice a n c, .slice b m d] (F) (fun v L => v = .bool (decide (xs = ys)) ∧ Lands L F) := by
  refine CallsK_enter (n := 10) Tryz.func139 rfl rfl rfl ?_
  subst hcs
  subst hds
  iterate 8 refine Ws ?_
  refine SR_rd (RD_b2s (bs := xs) Tryz.underlying36 Tryz.underlying9 Tryz.underlying5 rfl hn) Has.ro rfl ?_
  refine Ws ?_
  refine SR_rd (RD_b2s (bs := ys) Tryz.underlying36 Tryz.underlying9 Tryz.underlying5 rfl hm) Has.ro rfl ?_
  refine SR_pu (RD_eqlS rfl rfl) rfl ?_
  iterate 3 refine Ws ?_
  refine SC_ret1 rfl rfl ?_
  refine ⟨?_, .fin⟩
  simp [bstr_inj]

theorem tx_Parse_bad {W : World} {F : List HProp} [Abs F] (bs : List UInt8) (a : Option Addr) (n c : Nat) {cs : List Value} [HasRow F a cs] (hcs : cs = bs.map byteV) (hn : bs.length = n) (hb : n ≤ 1000000000000) (hok : (rdTx bs).ok = false) :
    CallsK W Tryz.prog 225 #[.slice a n c] (F) (fun v L => v = .tuple #[((parseTx bs).getD txZero).val, .bool (parseTx bs).isSome] ∧ Lands L F) := by
  refine CallsK_enter (n := 45) Tryz.func225 rfl rfl rfl ?_
  have hp : parseTx bs = none := by unfold parseTx; rw [if_neg (by rw [hok]; simp)]
  rw [hp]
  subst hcs
  obtain ⟨k1, s1, h1⟩ : ∃ k s, rdNum (bs, false) = (k, s) := ⟨_, _, rfl⟩
  have l1 : s1.1.length ≤ 1000000000000 := by have := rdNum_len (bs, false); rw [h1] at this; dsimp only at this; omega
  obtain ⟨k2, s2, h2⟩ : ∃ k s, rdNum s1 = (k, s) := ⟨_, _, rfl⟩
  have l2 : s2.1.length ≤ 1000000000000 := by have := rdNum_len s1; rw [h2] at this; dsimp only at this; omega
  obtain ⟨k3, s3, h3⟩ : ∃ k s, rdNum s2 = (k, s) := ⟨_, _, rfl⟩
  have l3 : s3.1.length ≤ 1000000000000 := by have := rdNum_len s2; rw [h3] at this; dsimp only at this; omega
  obtain ⟨k4, s4, h4⟩ : ∃ k s, rdNum s3 = (k, s) := ⟨_, _, rfl⟩
  have l4 : s4.1.length ≤ 1000000000000 := by have := rdNum_len s3; rw [h4] at this; dsimp only at this; omega
  obtain ⟨k5, s5, h5⟩ : ∃ k s, rdNum s4 = (k, s) := ⟨_, _, rfl⟩
  have l5 : s5.1.length ≤ 1000000000000 := by have := rdNum_len s4; rw [h5] at this; dsimp only at this; omega
  obtain ⟨k6, s6, h6⟩ : ∃ k s, rdNum s5 = (k, s) := ⟨_, _, rfl⟩
  have l6 : s6.1.length ≤ 1000000000000 := by have := rdNum_len s5; rw [h6] at this; dsimp only at this; omega
  obtain ⟨k7, s7, h7⟩ : ∃ k s, rdNum s6 = (k, s) := ⟨_, _, rfl⟩
  have l7 : s7.1.length ≤ 1000000000000 := by have := rdNum_len s6; rw [h7] at this; dsimp only at this; omega
  have hT : rdTx bs = (TxD.mk (IntKind.i64.wrap (k1 : Nat)) (IntKind.i64.wrap (k2 : Nat)) (IntKind.i64.wrap (k3 : Nat)) (decide (IntKind.i64.wrap (k4 : Nat) = 1)) (k5 : Nat) (k6 : Nat) (IntKind.i64.wrap (k7 : Nat))) := by simp only [rdTx, h1, h2, h3, h4, h5, h6, h7]
  have hTw := rdTx_wf bs
  rw [hT] at hok hTw
  iterate 2 refine Ws ?_
  refine Wa fun b2 => ?_
  iterate 6 refine Ws ?_
  refine We (wire_Read bs _ _ _ rfl hn hb) ?_
  rintro _ L0 ⟨q, rfl, hL0⟩
  refine SR.lands hL0 ?_
  iterate 6 refine Ws ?_
  refine We (CallsK.at (reader_Int q (bs, false) (by first | assumption | (dsimp only; omega)))) ?_
  rintro _ L1 ⟨rfl, hL1⟩
  rw [h1] at hL1 ⊢
  dsimp only at hL1 ⊢
  refine SR.lands hL1 ?_
  refine Ws ?_
  refine We (CallsK.at (reader_Int q s1 (by first | assumption | (dsimp only; omega)))) ?_
  rintro _ L2 ⟨rfl, hL2⟩
  rw [h2] at hL2 ⊢
  dsimp only at hL2 ⊢
  refine SR.lands hL2 ?_
  refine Ws ?_
  refine We (CallsK.at (reader_Int q s2 (by first | assumption | (dsimp only; omega)))) ?_
  rintro _ L3 ⟨rfl, hL3⟩
  rw [h3] at hL3 ⊢
  dsimp only at hL3 ⊢
  refine SR.lands hL3 ?_
  refine SR_pu (RD_build (.cons rfl (.cons rfl (.cons rfl (.nil)))) built149_0_1_2) rfl ?_
  refine Wa fun b5 => ?_
  refine SR_ox0 (OX_stA Tryz.sizeOf149 rfl rfl rfl rfl) ?_
  rintro _ _ rfl
  iterate 5 refine Ws ?_
  refine We (CallsK.at (reader_Int q s3 (by first | assumption | (dsimp only; omega)))) ?_
  rintro _ L4 ⟨rfl, hL4⟩
  rw [h4] at hL4 ⊢
  dsimp only at hL4 ⊢
  refine SR.lands hL4 ?_
  iterate 8 refine Ws ?_
  refine We (CallsK.at (reader_Num q s4 (by first | assumption | (dsimp only; omega)))) ?_
  rintro _ L5 ⟨rfl, hL5⟩
  rw [h5] at hL5 ⊢
  dsimp only at hL5 ⊢
  refine SR.lands hL5 ?_
  refine Ws ?_
  refine We (CallsK.at (reader_Num q s5 (by first | assumption | (dsimp only; omega)))) ?_
  rintro _ L6 ⟨rfl, hL6⟩
  rw [h6] at hL6 ⊢
  dsimp only at hL6 ⊢
  refine SR.lands hL6 ?_
  iterate 9 refine Ws ?_
  refine We (CallsK.at (reader_Int q s6 (by first | assumption | (dsimp only; omega)))) ?_
  rintro _ L7 ⟨rfl, hL7⟩
  rw [h7] at hL7 ⊢
  dsimp only at hL7 ⊢
  refine SR.lands hL7 ?_
  iterate 7 refine Ws ?_
  refine Wc (tx_Code_no (TxD.mk (IntKind.i64.wrap (k1 : Nat)) (IntKind.i64.wrap (k2 : Nat)) (IntKind.i64.wrap (k3 : Nat)) (decide (IntKind.i64.wrap (k4 : Nat) = 1)) (k5 : Nat) (k6 : Nat) (IntKind.i64.wrap (k7 : Nat))) hok) ?_
  iterate 13 refine Ws ?_
  refine SR_no rfl rfl (rfl) (lts rfl) ?_
  refine SR_no rfl rfl (rfl) (lts rfl) ?_
  refine SR_no rfl rfl (rfl) (lts rfl) ?_
  refine SR_no rfl rfl (rfl) (lts rfl) ?_
  refine SR_pu (RD_pick_t rfl (rfl) rfl) rfl ?_
  iterate 2 refine Ws ?_
  refine SC_cond_true rfl (rfl) ?_
  iterate 2 refine Ws ?_
  refine SR_pu (RD_build (.nil) built149) rfl ?_
  refine SR_ox0 (OX_stA Tryz.sizeOf149 rfl rfl rfl rfl) ?_
  rintro _ _ rfl
  iterate 3 refine Ws ?_
  refine SC_retCT rfl Tryz.isAgg149 Tryz.sizeOf149 rfl rfl rfl Has.wh ?_
  exact ⟨rfl, .fin⟩

theorem tx_Parse_ok {W : World} {F : List HProp} [Abs F] (bs : List UInt8) (a : Option Addr) (n c : Nat) {cs : List Value} [HasRow F a cs] (hcs : cs = bs.map byteV) (hn : bs.length = n) (hb : n ≤ 1000000000000) (hok : (rdTx bs).ok = true) :
    CallsK W Tryz.prog 225 #[.slice a n c] (F) (fun v L => v = .tuple #[((parseTx bs).getD txZero).val, .bool (parseTx bs).isSome] ∧ Lands L F) := by
  refine CallsK_enter (n := 45) Tryz.func225 rfl rfl rfl ?_
  subst hcs
  obtain ⟨k1, s1, h1⟩ : ∃ k s, rdNum (bs, false) = (k, s) := ⟨_, _, rfl⟩
  have l1 : s1.1.length ≤ 1000000000000 := by have := rdNum_len (bs, false); rw [h1] at this; dsimp only at this; omega
  obtain ⟨k2, s2, h2⟩ : ∃ k s, rdNum s1 = (k, s) := ⟨_, _, rfl⟩
  have l2 : s2.1.length ≤ 1000000000000 := by have := rdNum_len s1; rw [h2] at this; dsimp only at this; omega
  obtain ⟨k3, s3, h3⟩ : ∃ k s, rdNum s2 = (k, s) := ⟨_, _, rfl⟩
  have l3 : s3.1.length ≤ 1000000000000 := by have := rdNum_len s2; rw [h3] at this; dsimp only at this; omega
  obtain ⟨k4, s4, h4⟩ : ∃ k s, rdNum s3 = (k, s) := ⟨_, _, rfl⟩
  have l4 : s4.1.length ≤ 1000000000000 := by have := rdNum_len s3; rw [h4] at this; dsimp only at this; omega
  obtain ⟨k5, s5, h5⟩ : ∃ k s, rdNum s4 = (k, s) := ⟨_, _, rfl⟩
  have l5 : s5.1.length ≤ 1000000000000 := by have := rdNum_len s4; rw [h5] at this; dsimp only at this; omega
  obtain ⟨k6, s6, h6⟩ : ∃ k s, rdNum s5 = (k, s) := ⟨_, _, rfl⟩
  have l6 : s6.1.length ≤ 1000000000000 := by have := rdNum_len s5; rw [h6] at this; dsimp only at this; omega
  obtain ⟨k7, s7, h7⟩ : ∃ k s, rdNum s6 = (k, s) := ⟨_, _, rfl⟩
  have l7 : s7.1.length ≤ 1000000000000 := by have := rdNum_len s6; rw [h7] at this; dsimp only at this; omega
  have hT : rdTx bs = (TxD.mk (IntKind.i64.wrap (k1 : Nat)) (IntKind.i64.wrap (k2 : Nat)) (IntKind.i64.wrap (k3 : Nat)) (decide (IntKind.i64.wrap (k4 : Nat) = 1)) (k5 : Nat) (k6 : Nat) (IntKind.i64.wrap (k7 : Nat))) := by simp only [rdTx, h1, h2, h3, h4, h5, h6, h7]
  have hTw := rdTx_wf bs
  rw [hT] at hok hTw
  iterate 2 refine Ws ?_
  refine Wa fun b2 => ?_
  iterate 6 refine Ws ?_
  refine We (wire_Read bs _ _ _ rfl hn hb) ?_
  rintro _ L0 ⟨q, rfl, hL0⟩
  refine SR.lands hL0 ?_
  iterate 6 refine Ws ?_
  refine We (CallsK.at (reader_Int q (bs, false) (by first | assumption | (dsimp only; omega)))) ?_
  rintro _ L1 ⟨rfl, hL1⟩
  rw [h1] at hL1 ⊢
  dsimp only at hL1 ⊢
  refine SR.lands hL1 ?_
  refine Ws ?_
  refine We (CallsK.at (reader_Int q s1 (by first | assumption | (dsimp only; omega)))) ?_
  rintro _ L2 ⟨rfl, hL2⟩
  rw [h2] at hL2 ⊢
  dsimp only at hL2 ⊢
  refine SR.lands hL2 ?_
  refine Ws ?_
  refine We (CallsK.at (reader_Int q s2 (by first | assumption | (dsimp only; omega)))) ?_
  rintro _ L3 ⟨rfl, hL3⟩
  rw [h3] at hL3 ⊢
  dsimp only at hL3 ⊢
  refine SR.lands hL3 ?_
  refine SR_pu (RD_build (.cons rfl (.cons rfl (.cons rfl (.nil)))) built149_0_1_2) rfl ?_
  refine Wa fun b5 => ?_
  refine SR_ox0 (OX_stA Tryz.sizeOf149 rfl rfl rfl rfl) ?_
  rintro _ _ rfl
  iterate 5 refine Ws ?_
  refine We (CallsK.at (reader_Int q s3 (by first | assumption | (dsimp only; omega)))) ?_
  rintro _ L4 ⟨rfl, hL4⟩
  rw [h4] at hL4 ⊢
  dsimp only at hL4 ⊢
  refine SR.lands hL4 ?_
  iterate 8 refine Ws ?_
  refine We (CallsK.at (reader_Num q s4 (by first | assumption | (dsimp only; omega)))) ?_
  rintro _ L5 ⟨rfl, hL5⟩
  rw [h5] at hL5 ⊢
  dsimp only at hL5 ⊢
  refine SR.lands hL5 ?_
  refine Ws ?_
  refine We (CallsK.at (reader_Num q s5 (by first | assumption | (dsimp only; omega)))) ?_
  rintro _ L6 ⟨rfl, hL6⟩
  rw [h6] at hL6 ⊢
  dsimp only at hL6 ⊢
  refine SR.lands hL6 ?_
  iterate 9 refine Ws ?_
  refine We (CallsK.at (reader_Int q s6 (by first | assumption | (dsimp only; omega)))) ?_
  rintro _ L7 ⟨rfl, hL7⟩
  rw [h7] at hL7 ⊢
  dsimp only at hL7 ⊢
  refine SR.lands hL7 ?_
  iterate 7 refine Ws ?_
  refine We (tx_Code_ok (TxD.mk (IntKind.i64.wrap (k1 : Nat)) (IntKind.i64.wrap (k2 : Nat)) (IntKind.i64.wrap (k3 : Nat)) (decide (IntKind.i64.wrap (k4 : Nat) = 1)) (k5 : Nat) (k6 : Nat) (IntKind.i64.wrap (k7 : Nat))) hTw hok) ?_
  rintro _ L8 ⟨a8, c8, rfl, hL8⟩
  refine SR.lands hL8 ?_
  iterate 13 refine Ws ?_
  refine SR_yes rfl rfl (rfl) ?_
  refine Ws ?_
  refine SR_yes rfl rfl (rfl) ?_
  refine Ws ?_
  refine SR_yes rfl rfl (rfl) ?_
  refine Wc (go_Equal a8 56 c8 (TxD.code (TxD.mk (IntKind.i64.wrap (k1 : Nat)) (IntKind.i64.wrap (k2 : Nat)) (IntKind.i64.wrap (k3 : Nat)) (decide (IntKind.i64.wrap (k4 : Nat) = 1)) (k5 : Nat) (k6 : Nat) (IntKind.i64.wrap (k7 : Nat)))) rfl (TxD.code_len _) a n c bs rfl hn) ?_
  refine SR_yes rfl rfl (rfl) ?_
  refine Ws ?_
  refine SR_pu (RD_pick_f rfl (rfl) rfl) rfl ?_
  iterate 2 refine Ws ?_
  refine SC_cond rfl (fun hc42 => ?_) (fun hc42 => ?_)
  · have hp : parseTx bs = none := by unfold parseTx; rw [if_neg (by rw [hT]; intro h; simp [h.2] at hc42)]
    rw [hp]
    iterate 2 refine Ws ?_
    refine SR_pu (RD_build (.nil) built149) rfl ?_
    refine SR_ox0 (OX_stA Tryz.sizeOf149 rfl rfl rfl rfl) ?_
    rintro _ _ rfl
    iterate 3 refine Ws ?_
    refine SC_retCT rfl Tryz.isAgg149 Tryz.sizeOf149 rfl rfl rfl Has.wh ?_
    exact ⟨rfl, .fin⟩
  · have hp : parseTx bs = some (TxD.mk (IntKind.i64.wrap (k1 : Nat)) (IntKind.i64.wrap (k2 : Nat)) (IntKind.i64.wrap (k3 : Nat)) (decide (IntKind.i64.wrap (k4 : Nat) = 1)) (k5 : Nat) (k6 : Nat) (IntKind.i64.wrap (k7 : Nat))) := by unfold parseTx; rw [if_pos (by rw [hT]; exact ⟨hok, by simpa using hc42⟩), hT]
    rw [hp]
    iterate 5 refine Ws ?_
    refine SR_ox0 (OX_stA Tryz.sizeOf149 rfl rfl rfl rfl) ?_
    rintro _ _ rfl
    iterate 3 refine Ws ?_
    refine SC_retCT rfl Tryz.isAgg149 Tryz.sizeOf149 rfl rfl rfl Has.wh ?_
    exact ⟨rfl, .fin⟩

theorem tx_Parse {W : World} {F : List HProp} [Abs F] (bs : List UInt8) (a : Option Addr) (n c : Nat) {cs : List Value} [HasRow F a cs] (hcs : cs = bs.map byteV) (hn : bs.length = n) (hb : n ≤ 1000000000000) :
    CallsK W Tryz.prog 225 #[.slice a n c] (F) (fun v L => v = .tuple #[((parseTx bs).getD txZero).val, .bool (parseTx bs).isSome] ∧ Lands L F) := by
  cases hok : (rdTx bs).ok with
  | false => exact tx_Parse_bad bs a n c hcs hn hb hok
  | true => exact tx_Parse_ok bs a n c hcs hn hb hok

end Go.Proofs.YtdhpjdhloaoepaaGreat

/- A vault of many ciphers. -/
namespace Go.Proofs.YtdhpjdhloaoepaaGreat
open Go Go.Proofs
attribute [local irreducible] SC SN SR SQ SA SO
set_option maxRecDepth 100000
theorem ev_iV {l : Env} {x : Operand} {v w : Value} (h : ev l x = some v) (e : v = w) : ev l x = some w := e ▸ h
/-- A cipher, as it lies. -/
structure CipD where
  label : Int
  a : Option Addr
  c : Nat
  m : Nat
  plain : List UInt8
  sh : List Int
structure Ciph where
  label : Int
  plain : List UInt8
  sh : List Int
deriving DecidableEq
def CipD.p (d : CipD) : Ciph := ⟨d.label, d.plain, d.sh⟩
def CipD.cells (d : CipD) : List Value := [.int .i64 d.label, .slice d.a d.plain.length d.c, .map (some d.m)]
instance onesCip (e : CipD) : Ones e.cells := by unfold CipD.cells; infer_instance
def CipD.ps (d : CipD) : List HProp := [rowP 5 1 d.a d.plain.length d.c (d.plain.map byteV), mapP intK d.m (wsC d.sh)]
def bigV (ds : List CipD) : HProp := fun h => Den (ds.flatMap CipD.ps) h
structure VS where
  need : Int
  l : List Ciph
theorem cip_get {l : List CipD} {i : Nat} {e : CipD} (h : l[i]? = some e) (o : Nat) (ho : o < 3) : (l.flatMap CipD.cells)[i * 3 + o]? = e.cells[o]? := by
  induction l generalizing i with
  | nil => simp at h
  | cons x l ih =>
    cases i with
    | zero => simp at h; subst h; rw [List.flatMap_cons, Nat.zero_mul, Nat.zero_add, List.getElem?_append_left (by show o < 3; exact ho)]
    | succ i =>
      rw [List.flatMap_cons, List.getElem?_append_right (by show 3 ≤ _; omega), show x.cells.length = 3 from rfl, show (i + 1) * 3 + o - 3 = i * 3 + o by omega]
      exact ih (by simpa using h)
theorem cip_len (l : List CipD) : (l.flatMap CipD.cells).length = l.length * 3 := by
  induction l with
  | nil => rfl
  | cons x l ih => rw [List.flatMap_cons, List.length_append, ih, List.length_cons, show x.cells.length = 3 from rfl]; omega
theorem bigV_flat {T : List CipD} {R : List HProp} {m : Hp} : Den (bigV T :: R) m ↔ Den (T.flatMap CipD.ps ++ R) m := by
  rw [Den_append]
  constructor
  · rintro ⟨m1, m2, d, e, h, r⟩; exact ⟨m1, m2, d, e, h, r⟩
  · rintro ⟨m1, m2, d, e, h, r⟩; exact ⟨m1, m2, d, e, h, r⟩
theorem bigV_perm (A B : List CipD) (x : CipD) (R : List HProp) : ((A ++ x :: B).flatMap CipD.ps ++ R).Perm (x.ps ++ ((A ++ B).flatMap CipD.ps ++ R)) := by
  rw [List.flatMap_append, List.flatMap_cons, List.flatMap_append, ← List.append_assoc x.ps, ← List.append_assoc x.ps]
  refine List.Perm.append_right R ?_
  rw [← List.append_assoc]
  exact (List.Perm.append_right _ List.perm_append_comm)
/-- One cipher laid apart, and put back. -/
theorem bigV_take {A B : List CipD} {x : CipD} {R : List HProp} : Lands (bigV (A ++ x :: B) :: R) (rowP 5 1 x.a x.plain.length x.c (x.plain.map byteV) :: mapP intK x.m (wsC x.sh) :: bigV (A ++ B) :: R) := fun m H => by
  have H1 := Den_perm (bigV_perm A B x R) m (bigV_flat.1 H)
  exact Den_tail (fun _ h2 => Den_tail (fun _ h => bigV_flat.2 h) h2) H1
theorem bigV_put {A B : List CipD} {x : CipD} {R : List HProp} : Lands (rowP 5 1 x.a x.plain.length x.c (x.plain.map byteV) :: mapP intK x.m (wsC x.sh) :: bigV (A ++ B) :: R) (bigV (A ++ x :: B) :: R) := fun m H =>
  bigV_flat.2 (Den_perm (bigV_perm A B x R).symm m (Den_tail (fun _ h2 => Den_tail (fun _ h => bigV_flat.1 h) h2) H))
theorem at_split {X : Type} {l : List X} {i : Nat} {x : X} (h : l[i]? = some x) : l = l.take i ++ x :: l.drop (i + 1) := by
  obtain ⟨hi, rfl⟩ := List.getElem?_eq_some_iff.1 h
  rw [List.getElem_cons_drop, List.take_append_drop]

def vltI (v : Nat) (s : VS) : HProp := fun h => ∃ (a : Option Addr) (c : Nat) (ds : List CipD), ds.map CipD.p = s.l ∧ Den [pt v (.cells [.int .i64 s.need, .slice a ds.length c].toArray 101), rowP 98 3 a ds.length c (ds.flatMap CipD.cells), bigV ds] h
theorem open_vlt {v : Nat} {s : VS} : Opens vltI v s (fun x : (Option Addr) × (Nat) × (List CipD) => (x.2.2.map CipD.p = s.l)) (fun x R => (pt v (.cells [.int .i64 s.need, .slice x.1 x.2.2.length x.2.1].toArray 101)) :: (rowP 98 3 x.1 x.2.2.length x.2.1 (x.2.2.flatMap CipD.cells)) :: (bigV x.2.2) :: R) := by
  rintro R m_ ⟨m1, m2, d, e, ⟨a, c, ds, f0_, h_⟩, r⟩
  exact ⟨(a, c, ds), f0_, Den_app d e h_ r⟩
theorem close_vlt {L R R1_ R2_ : List HProp} (v : Nat) (s : VS) {a : Option Addr} {c : Nat} {ds : List CipD} {y1_ : Int} {y2_ : Nat} {y3_ : Nat} {y4_ : List Value} [t0_ : TakePt L v (.cells [.int .i64 y1_, .slice a y2_ c].toArray 101) R1_] [t1_ : TakeRow R1_ a 98 3 y3_ c y4_ R2_] [t2_ : TakeA R2_ (bigV ds) R] (f0_ : ds.map CipD.p = s.l) (e0_ : s.need = y1_ := by rfl) (e1_ : ds.length = y2_ := by rfl) (e2_ : ds.length = y3_ := by rfl) (e3_ : ds.flatMap CipD.cells = y4_ := by rfl) : Lands L (At vltI v s :: R) := fun q_ H_ => by
  subst e0_; subst e1_; subst e2_; subst e3_;
  obtain ⟨a0_, b0_, d0_, i0_, p0_, r0_⟩ := Den_perm t0_.perm q_ H_
  obtain ⟨a1_, b1_, d1_, i1_, p1_, r1_⟩ := Den_perm t1_.perm b0_ r0_
  obtain ⟨a2_, b2_, d2_, i2_, p2_, r2_⟩ := Den_perm t2_.perm b1_ r1_
  have H2_ : Den ([pt v (.cells [.int .i64 s.need, .slice a ds.length c].toArray 101), rowP 98 3 a ds.length c (ds.flatMap CipD.cells), bigV ds] ++ R) q_ := ⟨a0_, b0_, d0_, i0_, p0_, ⟨a1_, b1_, d1_, i1_, p1_, ⟨a2_, b2_, d2_, i2_, p2_, r2_⟩⟩⟩
  exact Lands.wrap (A := At vltI v s) (fun z_ hz_ => ⟨a, c, ds, f0_, hz_⟩) q_ H2_
def VS.has (s : VS) (c : Int) : Bool := decide (1 ≤ c ∧ c ≤ s.l.length)
def VS.at (s : VS) (c : Int) : Ciph := (s.l[(c - 1).toNat]?).getD ⟨0, [], []⟩
def VS.enough (s : VS) (c : Int) : Bool := s.has c && decide (s.need ≤ (s.at c).sh.length)
def VS.shared (s : VS) (w c : Int) : Bool := s.has c && decide (w ∈ (s.at c).sh)
def addI (l : List Int) (w : Int) : List Int := if w ∈ l then l else l ++ [w]
def VS.share (s : VS) (w c : Int) : VS := if s.has c then ⟨s.need, s.l.set (c - 1).toNat ⟨(s.at c).label, (s.at c).plain, addI (s.at c).sh w⟩⟩ else s

theorem vlt_has {W : World} {F : List HProp} [Abs F] (v : Nat) (s : VS) (c : Int) :
    CallsK W Tryz.prog 38 #[.pointer (some ⟨v, 0, none⟩), .int .i64 c] (At vltI v s :: F) (fun u L => u = .bool (s.has c) ∧ Lands L (At vltI v s :: F)) := by
  refine CallsK_enter (n := 16) Tryz.func38 rfl rfl rfl ?_
  iterate 6 refine Ws ?_
  refine SC.opn (open_vlt (v := v)) fun ⟨a, c_, ds⟩ hp => ?_
  dsimp only at hp ⊢
  have hl : ds.length = s.l.length := by rw [← hp, List.length_map]
  iterate 4 refine Ws ?_
  refine SR_guard rfl rfl (fun hg1_2 => ?_) (fun hg1_2 => ?_)
  · refine SR_yes rfl rfl (hg1_2) ?_
    refine Ws ?_
    refine SR_yes rfl rfl (hg1_2) ?_
    refine Ws ?_
    refine SR_yes rfl rfl (hg1_2) ?_
    refine Ws ?_
    refine SR_yes rfl rfl (hg1_2) ?_
    refine Ws ?_
    refine SR_yes rfl rfl (hg1_2) ?_
    refine Ws ?_
    refine SR_yes rfl rfl (hg1_2) ?_
    refine Ws ?_
    refine SR_yes rfl rfl (hg1_2) ?_
    refine Ws ?_
    refine SR_pu (RD_pick_t rfl (hg1_2) rfl) rfl ?_
    iterate 3 refine Ws ?_
    refine SC_ret1 rfl rfl ?_
    refine ⟨congrArg Value.bool ?_, ((close_vlt v s hp).trans .fin)⟩
    have h := of_decide_eq_true hg1_2
    exact decide_eq_decide.2 (by omega)
  · refine SR_no rfl rfl (hg1_2) (lts rfl) ?_
    refine SR_no rfl rfl (hg1_2) (lts rfl) ?_
    refine SR_no rfl rfl (hg1_2) (lts rfl) ?_
    refine SR_no rfl rfl (hg1_2) (lts rfl) ?_
    refine SR_no rfl rfl (hg1_2) (lts rfl) ?_
    refine SR_no rfl rfl (hg1_2) (lts rfl) ?_
    refine SR_no rfl rfl (hg1_2) (lts rfl) ?_
    refine SR_pu (RD_pick_f rfl (hg1_2) rfl) rfl ?_
    iterate 3 refine Ws ?_
    refine SC_ret1 rfl rfl ?_
    refine ⟨congrArg Value.bool ?_, ((close_vlt v s hp).trans .fin)⟩
    have h := of_decide_eq_false hg1_2
    exact (decide_eq_false (by omega)).symm

theorem vlt_Len {W : World} {F : List HProp} [Abs F] (v : Nat) (s : VS) :
    CallsK W Tryz.prog 70 #[.pointer (some ⟨v, 0, none⟩)] (At vltI v s :: F) (fun u L => u = .int .i64 (s.l.length : Nat) ∧ Lands L (At vltI v s :: F)) := by
  refine CallsK_enter (n := 8) Tryz.func70 rfl rfl rfl ?_
  iterate 6 refine Ws ?_
  refine SC.opn (open_vlt (v := v)) fun ⟨a, c_, ds⟩ hp => ?_
  dsimp only at hp ⊢
  have hl : ds.length = s.l.length := by rw [← hp, List.length_map]
  iterate 9 refine Ws ?_
  refine SC_ret1 rfl rfl ?_
  exact ⟨by rw [hl], ((close_vlt v s hp).trans .fin)⟩

theorem TakeA.lands {L R : List HProp} {A : HProp} [t : TakeA L A R] : Lands L (A :: R) := fun m H => Den_perm t.perm m H
theorem bigV_t {L R : List HProp} {ds : List CipD} {i : Nat} {x : CipD} (h : ds[i]? = some x) [t : TakeA L (bigV ds) R] : Lands L (rowP 5 1 x.a x.plain.length x.c (x.plain.map byteV) :: mapP intK x.m (wsC x.sh) :: bigV (ds.take i ++ ds.drop (i + 1)) :: R) := fun m H => by
  have H1 := Den_perm t.perm m H
  rw [at_split h] at H1
  exact bigV_take m H1
theorem bigV_p {L R R1 R2 : List HProp} {ds : List CipD} {i : Nat} (x : CipD) (hi : i < ds.length) {n c : Nat} {cs : List Value} {mm : List (Int × Value)} [t : TakeRow L x.a 5 1 n c cs R1] [u : TakeMap R1 intK x.m mm R2] [w : TakeA R2 (bigV (ds.take i ++ ds.drop (i + 1))) R] (h1 : n = x.plain.length) (h2 : c = x.c) (h3 : cs = x.plain.map byteV) (h4 : mm = wsC x.sh) : Lands L (bigV (ds.set i x) :: R) := fun m H => by
  subst h1; subst h2; subst h3; subst h4
  obtain ⟨m1, m2, d, e, p1, r1⟩ := Den_perm t.perm m H
  obtain ⟨m3, m4, d2, e2, p2, r2⟩ := Den_perm u.perm m2 r1
  have H2 := bigV_put (x := x) m ⟨m1, m2, d, e, p1, m3, m4, d2, e2, p2, Den_perm w.perm m4 r2⟩
  have e3 : ds.set i x = ds.take i ++ x :: ds.drop (i + 1) := by rw [List.set_eq_take_append_cons_drop, if_pos hi]
  rw [e3]; exact H2

theorem set_selfV {X : Type} {l : List X} {i : Nat} {x : X} (h : l[i]? = some x) : l.set i x = l := by
  obtain ⟨hi, rfl⟩ := List.getElem?_eq_some_iff.1 h
  exact List.set_getElem_self hi
theorem vlt_Enough {W : World} {F : List HProp} [Abs F] (v : Nat) (s : VS) (hb : s.l.length ≤ 1000000) (c : Int) :
    CallsK W Tryz.prog 96 #[.pointer (some ⟨v, 0, none⟩), .int .i64 c] (At vltI v s :: F) (fun u L => u = .bool (s.enough c) ∧ Lands L (At vltI v s :: F)) := by
  refine CallsK_enter (n := 25) Tryz.func96 rfl rfl rfl ?_
  iterate 6 refine Ws ?_
  refine Wd [.r 0, .r 1, .e 2, .r 3, .r 4, .r 5, .r 6, .r 7, .r 8, .r 9, .r 10, .r 11, .r 12, .r 13, .r 14, .r 15, .r 16, .r 17, .r 18, .r 19, .r 20] ?_
  iterate 2 refine Wq ?_
  refine SQ_call rfl Tryz.call38 (.cons rfl (.cons rfl (.nil))) (CallsK.at (vlt_has v s c)) (lts rfl) ?_
  rintro _ L1 ⟨rfl, hL1⟩
  refine ⟨.nil, ?_⟩
  refine SQ.lands hL1 ?_
  refine Wq ?_
  refine SQ_guard (i := 4) rfl rfl rfl (fun hg1_3 => ?_) (fun hg1_3 => ?_)
  · have hh := hg1_3
    refine SQ.opn (open_vlt (v := v)) fun ⟨a, c_, ds⟩ hp => ?_
    dsimp only at hp ⊢
    have hl : ds.length = s.l.length := by rw [← hp, List.length_map]
    have hc := of_decide_eq_true hh
    obtain ⟨i, hi⟩ : ∃ i : Nat, c = (i : Int) + 1 := ⟨(c - 1).toNat, by omega⟩
    subst hi
    have hi2 : i < ds.length := by omega
    obtain ⟨x, hx⟩ : ∃ x, ds[i]? = some x := ⟨_, List.getElem?_eq_getElem hi2⟩
    have hat : s.at ((i : Int) + 1) = x.p := by unfold VS.at; rw [← hp, show ((i : Int) + 1 - 1).toNat = i by omega, List.getElem?_map, hx]; rfl
    have hsp := at_split hx
    refine SQ.lands (bigV_t hx) ?_
    refine SQ_pyes rfl rfl rfl (hg1_3) (RD_move rfl) rfl ?_
    first
      | refine SQ_pyes rfl rfl rfl (hg1_3) (RD_nilCheck rfl) rfl ?_
      | refine SQ_pyes rfl rfl rfl (hg1_3) (RD_nilCheckF rfl) rfl ?_
    first
      | refine SQ_pyes rfl rfl rfl (hg1_3) (RD_fieldAddr 1 Tryz.runUnderlying101 rfl rfl Tryz.sizeOf99 rfl) rfl ?_
      | refine SQ_yes rfl rfl rfl (hg1_3) (RD_fieldAddrO 1 Tryz.runUnderlying101 rfl rfl Tryz.sizeOf99 rfl (by simp <;> omega)) Has.ro rfl ?_
    refine SQ_yes rfl rfl rfl (hg1_3) (RD_load Tryz.isAgg99 rfl) (Has.ce rfl) rfl ?_
    refine SQ_pyes rfl rfl rfl (hg1_3) (RD_move rfl) rfl ?_
    refine SQ_pyes rfl rfl rfl (hg1_3) (RD_subi rfl rfl (by omega) (by omega)) rfl ?_
    refine SQ_yes rfl rfl rfl (hg1_3) (RD_ixO (i := ((i : Nat) : Int)) (cs := ds.flatMap CipD.cells) Tryz.runUnderlying99 Tryz.sizeOf98 rfl (ev_iV rfl (ie (by omega))) (by rw [cip_len]) (by omega) (by omega)) Has.ro rfl ?_
    refine SQ_yes rfl rfl rfl (hg1_3) (RD_fieldAddrO (cs := ds.flatMap CipD.cells) 2 Tryz.runUnderlying98 rfl rfl Tryz.sizeOf96 rfl (by rw [cip_len]; omega)) Has.ro rfl ?_
    refine SQ_yes rfl rfl rfl (hg1_3) (RD_loadO (v := .map (some x.m)) (cs := ds.flatMap CipD.cells) Tryz.isAgg96 rfl ((fun q hq => by rw [hq]; exact cip_get hx 2 (by omega) : ∀ q : Nat, q = i * 3 + 2 → (ds.flatMap CipD.cells)[q]? = some (.map (some x.m))) _ (by omega))) Has.ro rfl ?_
    refine SQ_yes rfl rfl rfl (hg1_3) (RD_lenM (K := intK) Tryz.underlying96 rfl) (Has.ma (K := intK)) rfl ?_
    refine SQ_pyes rfl rfl rfl (hg1_3) (RD_move rfl) rfl ?_
    first
      | refine SQ_pyes rfl rfl rfl (hg1_3) (RD_nilCheck rfl) rfl ?_
      | refine SQ_pyes rfl rfl rfl (hg1_3) (RD_nilCheckF rfl) rfl ?_
    first
      | refine SQ_pyes rfl rfl rfl (hg1_3) (RD_fieldAddr0 Tryz.runUnderlying101 rfl rfl Tryz.sizeOf3 rfl) rfl ?_
      | refine SQ_yes rfl rfl rfl (hg1_3) (RD_fieldAddrO 0 Tryz.runUnderlying101 rfl rfl Tryz.sizeOf3 rfl (by simp <;> omega)) Has.ro rfl ?_
    refine SQ_yes rfl rfl rfl (hg1_3) (RD_load Tryz.isAgg3 rfl) (Has.ce rfl) rfl ?_
    refine SQ_pyes rfl rfl rfl (hg1_3) (RD_geq rfl rfl) rfl ?_
    refine SQ_pu rfl (RD_pick_t rfl (hg1_3) rfl) rfl ?_
    refine Wq ?_
    iterate 2 refine Ws ?_
    refine SC_ret1 rfl rfl ?_
    refine ⟨?_, ((bigV_p x hi2 rfl rfl rfl rfl).trans ((close_vlt v s (ds := ds.set i x) (by rw [set_selfV hx]; exact hp) (e1_ := by rw [set_selfV hx]) (e2_ := by rw [set_selfV hx]) (e3_ := by rw [set_selfV hx])).trans .fin))⟩
    unfold VS.enough
    rw [hh, hat, Bool.true_and]
    exact congrArg Value.bool (decide_eq_decide.2 (by simp [wsC, CipD.p]))
  · refine SQ_no rfl rfl rfl (hg1_3) (lts rfl) ?_
    refine SQ_no rfl rfl rfl (hg1_3) (lts rfl) ?_
    refine SQ_no rfl rfl rfl (hg1_3) (lts rfl) ?_
    refine SQ_no rfl rfl rfl (hg1_3) (lts rfl) ?_
    refine SQ_no rfl rfl rfl (hg1_3) (lts rfl) ?_
    refine SQ_no rfl rfl rfl (hg1_3) (lts rfl) ?_
    refine SQ_no rfl rfl rfl (hg1_3) (lts rfl) ?_
    refine SQ_no rfl rfl rfl (hg1_3) (lts rfl) ?_
    refine SQ_no rfl rfl rfl (hg1_3) (lts rfl) ?_
    refine SQ_no rfl rfl rfl (hg1_3) (lts rfl) ?_
    refine SQ_no rfl rfl rfl (hg1_3) (lts rfl) ?_
    refine SQ_no rfl rfl rfl (hg1_3) (lts rfl) ?_
    refine SQ_no rfl rfl rfl (hg1_3) (lts rfl) ?_
    refine SQ_no rfl rfl rfl (hg1_3) (lts rfl) ?_
    refine SQ_no rfl rfl rfl (hg1_3) (lts rfl) ?_
    refine SQ_pu rfl (RD_pick_f rfl (hg1_3) rfl) rfl ?_
    refine Wq ?_
    iterate 2 refine Ws ?_
    refine SC_ret1 rfl rfl ?_
    exact ⟨by unfold VS.enough; rw [show s.has c = false by simpa using hg1_3]; rfl, .fin⟩

theorem wsC_get (l : List Int) (w : Int) : mget (wsC l) w = if w ∈ l then some (.int .i64 1) else none := by
  induction l with
  | nil => simp [wsC, mget]
  | cons x l ih =>
    have ih' : mget (List.map (fun w => (w, Value.int .i64 1)) l) w = if w ∈ l then some (.int .i64 1) else none := ih
    by_cases h : w = x
    · subst h; simp [wsC, mget]
    · have h2 : ¬ x = w := fun e => h e.symm
      simp only [wsC, List.map_cons, mget, ih', List.mem_cons, h, false_or, if_false]
theorem wsC_iget (l : List Int) (w : Int) : iget (wsC l) w = if w ∈ l then 1 else 0 := by
  unfold iget
  rw [wsC_get]
  by_cases h : w ∈ l <;> simp [h]
theorem wsC_pos (l : List Int) (w : Int) : decide (0 < iget (wsC l) w) = decide (w ∈ l) := by
  rw [wsC_iget]
  by_cases h : w ∈ l <;> simp [h]
theorem wsC_add (l : List Int) (w : Int) : mset (wsC l) w (.int .i64 1) = wsC (addI l w) := by
  unfold addI
  induction l with
  | nil => simp [wsC, mset]
  | cons x l ih =>
    by_cases h : x = w
    · subst h; simp [wsC, mset]
    · have h2 : ¬ w = x := fun e => h e.symm
      by_cases hm : w ∈ l
      · rw [if_pos hm] at ih
        simp only [wsC, List.map_cons, mset, h2, List.mem_cons, hm, or_true, if_true, if_false]
        exact congrArg _ ih
      · rw [if_neg hm] at ih
        simp only [wsC, List.map_cons, mset, h2, List.mem_cons, hm, or_false, if_false, List.cons_append]
        exact congrArg _ ih
theorem wsC_some (l : List Int) (w : Int) : mget (wsC l) w = none ∨ ∃ n, mget (wsC l) w = some (.int .i64 n) := by
  rw [wsC_get]
  by_cases h : w ∈ l
  · exact .inr ⟨1, by rw [if_pos h]⟩
  · exact .inl (by rw [if_neg h])

theorem vlt_Shared {W : World} {F : List HProp} [Abs F] (v : Nat) (s : VS) (hb : s.l.length ≤ 1000000) (w c : Int) :
    CallsK W Tryz.prog 17 #[.pointer (some ⟨v, 0, none⟩), .int .i64 w, .int .i64 c] (At vltI v s :: F) (fun u L => u = .bool (s.shared w c) ∧ Lands L (At vltI v s :: F)) := by
  refine CallsK_enter (n := 24) Tryz.func17 rfl rfl rfl ?_
  iterate 9 refine Ws ?_
  refine Wc (CallsK.at (vlt_has v s c)) ?_
  refine Ws ?_
  refine SR_guard rfl rfl (fun hg1_3 => ?_) (fun hg1_3 => ?_)
  · have hh := hg1_3
    refine SR.opn (open_vlt (v := v)) fun ⟨a, c_, ds⟩ hp => ?_
    dsimp only at hp ⊢
    have hl : ds.length = s.l.length := by rw [← hp, List.length_map]
    have hc := of_decide_eq_true hh
    obtain ⟨i, hi⟩ : ∃ i : Nat, c = (i : Int) + 1 := ⟨(c - 1).toNat, by omega⟩
    subst hi
    have hi2 : i < ds.length := by omega
    obtain ⟨x, hx⟩ : ∃ x, ds[i]? = some x := ⟨_, List.getElem?_eq_getElem hi2⟩
    have hat : s.at ((i : Int) + 1) = x.p := by unfold VS.at; rw [← hp, show ((i : Int) + 1 - 1).toNat = i by omega, List.getElem?_map, hx]; rfl
    have hsp := at_split hx
    refine SR.lands (bigV_t hx) ?_
    refine SR_yes rfl rfl (hg1_3) ?_
    refine Ws ?_
    refine SR_yes rfl rfl (hg1_3) ?_
    refine Ws ?_
    refine SR_yes rfl rfl (hg1_3) ?_
    refine Ws ?_
    refine SR_yes rfl rfl (hg1_3) ?_
    refine Ws ?_
    refine SR_yes rfl rfl (hg1_3) ?_
    refine Ws ?_
    refine SR_yes rfl rfl (hg1_3) ?_
    refine Ws ?_
    refine SR_yes rfl rfl (hg1_3) ?_
    refine SR_rd (RD_ixO (i := ((i : Nat) : Int)) (cs := ds.flatMap CipD.cells) Tryz.runUnderlying99 Tryz.sizeOf98 rfl (ev_iV rfl (ie (by omega))) (by rw [cip_len]) (by omega) (by omega)) Has.ro rfl ?_
    refine SR_yes rfl rfl (hg1_3) ?_
    refine SR_rd (RD_fieldAddrO (cs := ds.flatMap CipD.cells) 2 Tryz.runUnderlying98 rfl rfl Tryz.sizeOf96 rfl (by rw [cip_len]; omega)) Has.ro rfl ?_
    refine SR_yes rfl rfl (hg1_3) ?_
    refine SR_rd (RD_loadO (v := .map (some x.m)) (cs := ds.flatMap CipD.cells) Tryz.isAgg96 rfl ((fun q hq => by rw [hq]; exact cip_get hx 2 (by omega) : ∀ q : Nat, q = i * 3 + 2 → (ds.flatMap CipD.cells)[q]? = some (.map (some x.m))) _ (by omega))) Has.ro rfl ?_
    refine SR_yes rfl rfl (hg1_3) ?_
    refine Ws ?_
    refine SR_yes rfl rfl (hg1_3) ?_
    refine SR_rd (RD_lookI Tryz.underlying96 Tryz.underlying3 Tryz.zeroValue3 rfl rfl (wsC_some _ _)) (Has.ma (K := intK)) rfl ?_
    refine SR_yes rfl rfl (hg1_3) ?_
    refine Ws ?_
    refine SR_pu (RD_pick_t rfl (hg1_3) rfl) rfl ?_
    iterate 3 refine Ws ?_
    refine SC_ret1 rfl rfl ?_
    refine ⟨?_, ((bigV_p x hi2 rfl rfl rfl rfl).trans ((close_vlt v s (ds := ds.set i x) (by rw [set_selfV hx]; exact hp) (e1_ := by rw [set_selfV hx]) (e2_ := by rw [set_selfV hx]) (e3_ := by rw [set_selfV hx])).trans .fin))⟩
    unfold VS.shared
    rw [hh, hat, Bool.true_and]
    exact congrArg Value.bool (wsC_pos _ _)
  · refine SR_no rfl rfl (hg1_3) (lts rfl) ?_
    refine SR_no rfl rfl (hg1_3) (lts rfl) ?_
    refine SR_no rfl rfl (hg1_3) (lts rfl) ?_
    refine SR_no rfl rfl (hg1_3) (lts rfl) ?_
    refine SR_no rfl rfl (hg1_3) (lts rfl) ?_
    refine SR_no rfl rfl (hg1_3) (lts rfl) ?_
    refine SR_no rfl rfl (hg1_3) (lts rfl) ?_
    refine SR_no rfl rfl (hg1_3) (lts rfl) ?_
    refine SR_no rfl rfl (hg1_3) (lts rfl) ?_
    refine SR_no rfl rfl (hg1_3) (lts rfl) ?_
    refine SR_no rfl rfl (hg1_3) (lts rfl) ?_
    refine SR_no rfl rfl (hg1_3) (lts rfl) ?_
    refine SR_pu (RD_pick_f rfl (hg1_3) rfl) rfl ?_
    iterate 3 refine Ws ?_
    refine SC_ret1 rfl rfl ?_
    exact ⟨by unfold VS.shared; rw [show s.has c = false by simpa using hg1_3]; rfl, .fin⟩

theorem cip_same {l : List CipD} {i : Nat} {x y : CipD} (h : l[i]? = some x) (e : y.cells = x.cells) : (l.set i y).flatMap CipD.cells = l.flatMap CipD.cells := by
  induction l generalizing i with
  | nil => rfl
  | cons z l ih =>
    cases i with
    | zero => simp at h; subst h; simp [e]
    | succ i => simp only [List.set_cons_succ, List.flatMap_cons]; rw [ih (by simpa using h)]
theorem share_fin {s : VS} {ds : List CipD} {i : Nat} {x : CipD} {w : Int} (hp : ds.map CipD.p = s.l) (hx : ds[i]? = some x) (hh : s.has ((i : Int) + 1) = true) (hat : s.at ((i : Int) + 1) = x.p) :
    (ds.set i ⟨x.label, x.a, x.c, x.m, x.plain, addI x.sh w⟩).map CipD.p = (s.share w ((i : Int) + 1)).l ∧ (ds.set i ⟨x.label, x.a, x.c, x.m, x.plain, addI x.sh w⟩).flatMap CipD.cells = ds.flatMap CipD.cells ∧ (s.share w ((i : Int) + 1)).need = s.need := by
  refine ⟨?_, cip_same hx rfl, ?_⟩
  · unfold VS.share
    rw [if_pos hh, hat]
    dsimp only
    rw [show ((i : Int) + 1 - 1).toNat = i by omega, ← hp, List.map_set]
    rfl
  · unfold VS.share
    rw [if_pos hh]

theorem vlt_Share {W : World} {F : List HProp} [Abs F] (v : Nat) (s : VS) (hb : s.l.length ≤ 1000000) (w c : Int) :
    CallsK W Tryz.prog 130 #[.pointer (some ⟨v, 0, none⟩), .int .i64 w, .int .i64 c] (At vltI v s :: F) (fun u L => u = .bool (s.has c) ∧ Lands L (At vltI v (s.share w c) :: F)) := by
  refine CallsK_enter (n := 21) Tryz.func130 rfl rfl rfl ?_
  iterate 10 refine Ws ?_
  refine Wc (CallsK.at (vlt_has v s c)) ?_
  iterate 3 refine Ws ?_
  refine SC_cond rfl (fun hc10 => ?_) (fun hc10 => ?_)
  · have hno : s.has c = false := by simpa using hc10
    iterate 5 refine Ws ?_
    refine SC_ret1 rfl rfl ?_
    refine ⟨by rw [hno], ?_⟩
    rw [show s.share w c = s by unfold VS.share; rw [hno]; rfl]
    exact .fin
  · have hyes : s.has c = true := by simpa using hc10
    iterate 3 refine Ws ?_
    have hh := hyes
    refine SC.opn (open_vlt (v := v)) fun ⟨a, c_, ds⟩ hp => ?_
    dsimp only at hp ⊢
    have hl : ds.length = s.l.length := by rw [← hp, List.length_map]
    have hc := of_decide_eq_true hh
    obtain ⟨i, hi⟩ : ∃ i : Nat, c = (i : Int) + 1 := ⟨(c - 1).toNat, by omega⟩
    subst hi
    have hi2 : i < ds.length := by omega
    obtain ⟨x, hx⟩ : ∃ x, ds[i]? = some x := ⟨_, List.getElem?_eq_getElem hi2⟩
    have hat : s.at ((i : Int) + 1) = x.p := by unfold VS.at; rw [← hp, show ((i : Int) + 1 - 1).toNat = i by omega, List.getElem?_map, hx]; rfl
    have hsp := at_split hx
    have hfin := share_fin (w := w) hp hx hh hat
    refine SC.lands (bigV_t hx) ?_
    iterate 7 refine Ws ?_
    refine SR_rd (RD_ixO (i := ((i : Nat) : Int)) (cs := ds.flatMap CipD.cells) Tryz.runUnderlying99 Tryz.sizeOf98 rfl (ev_iV rfl (ie (by omega))) (by rw [cip_len]) (by omega) (by omega)) Has.ro rfl ?_
    refine SR_rd (RD_fieldAddrO (cs := ds.flatMap CipD.cells) 2 Tryz.runUnderlying98 rfl rfl Tryz.sizeOf96 rfl (by rw [cip_len]; omega)) Has.ro rfl ?_
    refine SR_rd (RD_loadO (v := .map (some x.m)) (cs := ds.flatMap CipD.cells) Tryz.isAgg96 rfl ((fun q hq => by rw [hq]; exact cip_get hx 2 (by omega) : ∀ q : Nat, q = i * 3 + 2 → (ds.flatMap CipD.cells)[q]? = some (.map (some x.m))) _ (by omega))) Has.ro rfl ?_
    refine Ws ?_
    refine SR_ox0 (OX_mu (K := intK) Tryz.underlying96 Tryz.underlying3 rfl rfl rfl) ?_
    rintro _ _ rfl
    iterate 7 refine Ws ?_
    refine SC_ret1 rfl rfl ?_
    exact ⟨by rw [hyes], ((bigV_p (⟨x.label, x.a, x.c, x.m, x.plain, addI x.sh w⟩ : CipD) hi2 rfl rfl rfl (wsC_add _ _)).trans ((close_vlt v (s.share w ((i : Int) + 1)) (ds := ds.set i ⟨x.label, x.a, x.c, x.m, x.plain, addI x.sh w⟩) hfin.1 (e0_ := hfin.2.2) (e1_ := by rw [List.length_set]) (e2_ := by rw [List.length_set]) (e3_ := hfin.2.1)).trans .fin))⟩

def VS.sealC (s : VS) (lb : Int) (bs : List UInt8) : VS := ⟨s.need, s.l ++ [⟨lb, bs, []⟩]⟩
def VS.open (s : VS) (lb c : Int) : Option (List UInt8) := if s.enough c = true ∧ (s.at c).label = lb then some (s.at c).plain else none
theorem bigV_snoc {L R R1 R2 : List HProp} {ds : List CipD} (x : CipD) {n c : Nat} {cs : List Value} {mm : List (Int × Value)} [t : TakeRow L x.a 5 1 n c cs R1] [u : TakeMap R1 intK x.m mm R2] [w : TakeA R2 (bigV ds) R] (h1 : n = x.plain.length) (h2 : c = x.c) (h3 : cs = x.plain.map byteV) (h4 : mm = wsC x.sh) : Lands L (bigV (ds ++ [x]) :: R) := fun m H => by
  subst h1; subst h2; subst h3; subst h4
  obtain ⟨m1, m2, d, e, p1, r1⟩ := Den_perm t.perm m H
  obtain ⟨m3, m4, d2, e2, p2, r2⟩ := Den_perm u.perm m2 r1
  have r3 := Den_perm w.perm m4 r2
  rw [show bigV ds = bigV (ds ++ []) by rw [List.append_nil]] at r3
  exact bigV_put (A := ds) (B := []) (x := x) m ⟨m1, m2, d, e, p1, m3, m4, d2, e2, p2, r3⟩

theorem vlt_Seal {W : World} {F : List HProp} [Abs F] (v : Nat) (s : VS) (hb : s.l.length ≤ 1000000) (lb : Int) (a0 : Option Addr) (n0 c0 : Nat) (bs : List UInt8) {cs0 : List Value} [HasRow F a0 cs0] (hcs : cs0 = bs.map byteV) (h0 : bs.length = n0) (hb2 : n0 ≤ 1000000) :
    CallsK W Tryz.prog 126 #[.pointer (some ⟨v, 0, none⟩), .int .i64 lb, .slice a0 n0 c0] (At vltI v s :: F) (fun u L => u = .int .i64 ((s.l.length + 1 : Nat) : Int) ∧ Lands L (At vltI v (s.sealC lb bs) :: F)) := by
  refine CallsK_enter (n := 26) Tryz.func126 rfl rfl rfl ?_
  subst hcs; subst h0
  iterate 6 refine Ws ?_
  refine SC.opn (open_vlt (v := v)) fun ⟨a, c_, ds⟩ hp => ?_
  dsimp only at hp ⊢
  have hl : ds.length = s.l.length := by rw [← hp, List.length_map]
  refine SC_drawn (.cons 0 true (.cons 1 true (.cons 2 true (.cons 3 true (.cons 4 true (.cons 5 true (.cons 6 true (.alts [7, 8] (fun i => bif Nat.beq i 7 then (.cons 8 false (.cons 9 true (.cons 10 false (.cons 11 false (.cons 12 true (.cons 13 true (.cons 14 false (.nil)))))))) else (.cons 7 false (.cons 9 true (.cons 10 false (.cons 11 false (.cons 12 true (.cons 13 true (.cons 14 false (.nil))))))))))))))))) (by kernel_rfl) (by kernel_rfl) ?_
  iterate 7 refine Wq ?_
  refine SQ_two ?_ ?_
  · refine SA_call rfl .free Tryz.call97 (.cons rfl (.nil)) (clone_bytes (bs.map byteV) a0 bs.length c0 (by simp) (by omega)) (lts rfl) ?_
    rintro _ L1 ⟨a14, c14, rfl, hL1⟩
    refine ⟨.lands hL1 (.h (Has.ce rfl) (.nil)), ?_⟩
    refine SQ.lands hL1 ?_
    refine SQ_ox rfl (OX_mk intK) rfl ?_
    rintro _ _ ⟨b15, rfl, rfl⟩
    refine ⟨.h (Has.ce rfl) (.nil), ?_⟩
    refine SQ_pu rfl (RD_build (.cons rfl (.cons rfl (.cons rfl (.nil)))) built98_0_1_2) rfl ?_
    refine SQ_ox rfl (OX_lit Tryz.underlying99 Tryz.type98 rfl rfl rfl rfl (.cons rfl (.nil)) (.cons rfl rfl (.nil))) rfl ?_
    rintro _ _ ⟨b17, rfl, rfl⟩
    refine ⟨.h (Has.ce rfl) (.nil), ?_⟩
    refine SQ_ox rfl (OX_app 3 Tryz.underlying99 Tryz.underlying99 Tryz.type98 rfl rfl rfl rfl rfl rfl 40 rfl (by omega) (by omega)) rfl ?_
    rintro _ _ ⟨a18, c18, rfl, rfl⟩
    refine ⟨.w rfl (.nil), ?_⟩
    iterate 2 refine Wq ?_
    refine SQ_ox0 rfl (OX_st Tryz.sizeOf99 rfl rfl) ?_
    rintro _ _ rfl
    refine ⟨.w rfl (.nil), ?_⟩
    iterate 12 refine Ws ?_
    refine SC_ret1 rfl rfl ?_
    refine ⟨by rw [hl], ?_⟩
    exact (bigV_snoc (ds := ds) (⟨lb, a14, c14, b15, bs, []⟩ : CipD) rfl rfl rfl rfl).trans ((close_vlt v (s.sealC lb bs) (ds := ds ++ [(⟨lb, a14, c14, b15, bs, []⟩ : CipD)]) (by rw [List.map_append, hp]; rfl) (e1_ := by simp) (e2_ := by simp) (e3_ := by rw [List.flatMap_append]; rfl)).trans .fin)
  · refine SA_ox rfl .free (OX_mk intK) rfl ?_
    rintro _ _ ⟨b15, rfl, rfl⟩
    refine ⟨.h (Has.ce rfl) (.nil), ?_⟩
    refine SQ_call rfl Tryz.call97 (.cons rfl (.nil)) (clone_bytes (bs.map byteV) a0 bs.length c0 (by simp) (by omega)) (lts rfl) ?_
    rintro _ L1 ⟨a14, c14, rfl, hL1⟩
    refine ⟨.lands hL1 (.h (Has.ce rfl) (.nil)), ?_⟩
    refine SQ.lands hL1 ?_
    refine SQ_pu rfl (RD_build (.cons rfl (.cons rfl (.cons rfl (.nil)))) built98_0_1_2) rfl ?_
    refine SQ_ox rfl (OX_lit Tryz.underlying99 Tryz.type98 rfl rfl rfl rfl (.cons rfl (.nil)) (.cons rfl rfl (.nil))) rfl ?_
    rintro _ _ ⟨b17, rfl, rfl⟩
    refine ⟨.h (Has.ce rfl) (.nil), ?_⟩
    refine SQ_ox rfl (OX_app 3 Tryz.underlying99 Tryz.underlying99 Tryz.type98 rfl rfl rfl rfl rfl rfl 40 rfl (by omega) (by omega)) rfl ?_
    rintro _ _ ⟨a18, c18, rfl, rfl⟩
    refine ⟨.w rfl (.nil), ?_⟩
    iterate 2 refine Wq ?_
    refine SQ_ox0 rfl (OX_st Tryz.sizeOf99 rfl rfl) ?_
    rintro _ _ rfl
    refine ⟨.w rfl (.nil), ?_⟩
    iterate 12 refine Ws ?_
    refine SC_ret1 rfl rfl ?_
    refine ⟨by rw [hl], ?_⟩
    exact (bigV_snoc (ds := ds) (⟨lb, a14, c14, b15, bs, []⟩ : CipD) rfl rfl rfl rfl).trans ((close_vlt v (s.sealC lb bs) (ds := ds ++ [(⟨lb, a14, c14, b15, bs, []⟩ : CipD)]) (by rw [List.map_append, hp]; rfl) (e1_ := by simp) (e2_ := by simp) (e3_ := by rw [List.flatMap_append]; rfl)).trans .fin)

theorem VS.has_of {s : VS} {c : Int} (h : s.enough c = true) : s.has c = true := by
  unfold VS.enough at h
  cases h2 : s.has c
  · rw [h2] at h; cases h
  · rfl
def VS.Fit (s : VS) : Prop := s.l.length ≤ 1000000 ∧ ∀ x ∈ s.l, x.plain.length ≤ 1000000

theorem vlt_Plain {W : World} {F : List HProp} [Abs F] (v : Nat) (s : VS) (hf : s.Fit) (c : Int) :
    CallsK W Tryz.prog 71 #[.pointer (some ⟨v, 0, none⟩), .int .i64 c] (At vltI v s :: F) (fun u L => ∃ a n c1, u = .tuple #[.slice a n c1, .bool (s.enough c)] ∧ Lands L (At vltI v s :: F)) := by
  refine CallsK_enter (n := 20) Tryz.func71 rfl rfl rfl ?_
  iterate 11 refine Ws ?_
  refine Wc (CallsK.at (vlt_Enough v s hf.1 c)) ?_
  iterate 3 refine Ws ?_
  refine SC_cond rfl (fun hc9 => ?_) (fun hc9 => ?_)
  · have he : s.enough c = false := by simpa using hc9
    iterate 6 refine Ws ?_
    refine SC_ret2 rfl rfl rfl ?_
    exact ⟨_, _, _, by rw [he], .fin⟩
  · have he : s.enough c = true := by simpa using hc9
    iterate 3 refine Ws ?_
    have hh := VS.has_of he
    have hb := hf.1
    refine SC.opn (open_vlt (v := v)) fun ⟨a, c_, ds⟩ hp => ?_
    dsimp only at hp ⊢
    have hl : ds.length = s.l.length := by rw [← hp, List.length_map]
    have hc := of_decide_eq_true hh
    obtain ⟨i, hi⟩ : ∃ i : Nat, c = (i : Int) + 1 := ⟨(c - 1).toNat, by omega⟩
    subst hi
    have hi2 : i < ds.length := by omega
    obtain ⟨x, hx⟩ : ∃ x, ds[i]? = some x := ⟨_, List.getElem?_eq_getElem hi2⟩
    have hat : s.at ((i : Int) + 1) = x.p := by unfold VS.at; rw [← hp, show ((i : Int) + 1 - 1).toNat = i by omega, List.getElem?_map, hx]; rfl
    have hsp := at_split hx
    have hpl : ∀ y, ds[i]? = some y → y.plain.length ≤ 1000000000000 := fun y hy => by have h3 := hf.2 y.p (by rw [← hp]; exact List.mem_map.2 ⟨y, List.mem_of_getElem? hy, rfl⟩); exact Nat.le_trans h3 (by omega)
    refine SC.lands (bigV_t hx) ?_
    iterate 7 refine Ws ?_
    refine SR_rd (RD_ixO (i := ((i : Nat) : Int)) (cs := ds.flatMap CipD.cells) Tryz.runUnderlying99 Tryz.sizeOf98 rfl (ev_iV rfl (ie (by omega))) (by rw [cip_len]) (by omega) (by omega)) Has.ro rfl ?_
    refine SR_rd (RD_fieldAddrO (cs := ds.flatMap CipD.cells) 1 Tryz.runUnderlying98 rfl rfl Tryz.sizeOf36 rfl (by rw [cip_len]; omega)) Has.ro rfl ?_
    refine SR_rd (RD_loadO (v := .slice x.a x.plain.length x.c) (cs := ds.flatMap CipD.cells) Tryz.isAgg36 rfl ((fun q hq => by rw [hq]; exact cip_get hx 1 (by omega) : ∀ q : Nat, q = i * 3 + 1 → (ds.flatMap CipD.cells)[q]? = some (.slice x.a x.plain.length x.c)) _ (by omega))) Has.ro rfl ?_
    refine We (clone_bytes (x.plain.map byteV) x.a x.plain.length x.c (by simp) (hpl x hx)) ?_
    rintro _ L3 ⟨ra, rc, rfl, hL3⟩
    refine SR.lands hL3 ?_
    iterate 4 refine Ws ?_
    refine SC_ret2 rfl rfl rfl ?_
    refine ⟨_, _, _, by rw [he], ?_⟩
    exact ((bigV_p x hi2 rfl rfl rfl rfl).trans ((close_vlt v s (ds := ds.set i x) (by rw [set_selfV hx]; exact hp) (e1_ := by rw [set_selfV hx]) (e2_ := by rw [set_selfV hx]) (e3_ := by rw [set_selfV hx])).trans .fin))

theorem vlt_Open {W : World} {F : List HProp} [Abs F] (v : Nat) (s : VS) (hf : s.Fit) (lb c : Int) :
    CallsK W Tryz.prog 224 #[.pointer (some ⟨v, 0, none⟩), .int .i64 lb, .int .i64 c] (At vltI v s :: F) (fun u L => ∃ a c1, u = .tuple #[.slice a ((s.open lb c).getD []).length c1, .bool (s.open lb c).isSome] ∧ Lands L (rowP 5 1 a ((s.open lb c).getD []).length c1 (((s.open lb c).getD []).map byteV) :: At vltI v s :: F)) := by
  refine CallsK_enter (n := 35) Tryz.func224 rfl rfl rfl ?_
  iterate 11 refine Ws ?_
  refine Wc (CallsK.at (vlt_Enough v s hf.1 c)) ?_
  iterate 2 refine Ws ?_
  refine SR_guard rfl rfl (fun hg1_4 => ?_) (fun hg1_4 => ?_)
  · have he : s.enough c = true := by cases h : s.enough c <;> simp_all
    have hh := VS.has_of he
    have hb := hf.1
    refine SR.opn (open_vlt (v := v)) fun ⟨a, c_, ds⟩ hp => ?_
    dsimp only at hp ⊢
    have hl : ds.length = s.l.length := by rw [← hp, List.length_map]
    have hc := of_decide_eq_true hh
    obtain ⟨i, hi⟩ : ∃ i : Nat, c = (i : Int) + 1 := ⟨(c - 1).toNat, by omega⟩
    subst hi
    have hi2 : i < ds.length := by omega
    obtain ⟨x, hx⟩ : ∃ x, ds[i]? = some x := ⟨_, List.getElem?_eq_getElem hi2⟩
    have hat : s.at ((i : Int) + 1) = x.p := by unfold VS.at; rw [← hp, show ((i : Int) + 1 - 1).toNat = i by omega, List.getElem?_map, hx]; rfl
    have hsp := at_split hx
    have hpl : ∀ y, ds[i]? = some y → y.plain.length ≤ 1000000000000 := fun y hy => by have h3 := hf.2 y.p (by rw [← hp]; exact List.mem_map.2 ⟨y, List.mem_of_getElem? hy, rfl⟩); exact Nat.le_trans h3 (by omega)
    refine SR_yes rfl rfl (hg1_4) ?_
    refine Ws ?_
    refine SR_yes rfl rfl (hg1_4) ?_
    refine Ws ?_
    refine SR_yes rfl rfl (hg1_4) ?_
    refine Ws ?_
    refine SR_yes rfl rfl (hg1_4) ?_
    refine Ws ?_
    refine SR_yes rfl rfl (hg1_4) ?_
    refine Ws ?_
    refine SR_yes rfl rfl (hg1_4) ?_
    refine Ws ?_
    refine SR_yes rfl rfl (hg1_4) ?_
    refine SR_rd (RD_ixO (i := ((i : Nat) : Int)) (cs := ds.flatMap CipD.cells) Tryz.runUnderlying99 Tryz.sizeOf98 rfl (ev_iV rfl (ie (by omega))) (by rw [cip_len]) (by omega) (by omega)) Has.ro rfl ?_
    refine SR_yes rfl rfl (hg1_4) ?_
    refine SR_rd (RD_fieldAddrO (cs := ds.flatMap CipD.cells) 0 Tryz.runUnderlying98 rfl rfl Tryz.sizeOf3 rfl (by rw [cip_len]; omega)) Has.ro rfl ?_
    refine SR_yes rfl rfl (hg1_4) ?_
    refine SR_rd (RD_loadO (v := .int .i64 x.label) (cs := ds.flatMap CipD.cells) Tryz.isAgg3 rfl ((fun q hq => by rw [hq]; exact cip_get hx 0 (by omega) : ∀ q : Nat, q = i * 3 + 0 → (ds.flatMap CipD.cells)[q]? = some (.int .i64 x.label)) _ (by omega))) Has.ro rfl ?_
    refine SR_yes rfl rfl (hg1_4) ?_
    refine Ws ?_
    refine SR_yes rfl rfl (hg1_4) ?_
    refine Ws ?_
    refine SR_pu (RD_pick_f rfl (hg1_4) rfl) rfl ?_
    iterate 2 refine Ws ?_
    refine SC_cond rfl (fun hc24 => ?_) (fun hc24 => ?_)
    · have hno : ¬ (s.enough ((i : Int) + 1) = true ∧ (s.at ((i : Int) + 1)).label = lb) := fun h => by rw [hat] at h; simp at hc24; exact hc24 h.2
      iterate 6 refine Ws ?_
      refine SC_ret2 rfl rfl rfl ?_
      unfold VS.open
      rw [if_neg hno]
      simp only [Option.getD_none, List.length_nil, List.map_nil, Option.isSome_none]
      exact ⟨none, 0, rfl, (row_new 5 1 none).trans ((close_vlt v s hp).trans .fin)⟩
    · have hlb : s.enough ((i : Int) + 1) = true ∧ (s.at ((i : Int) + 1)).label = lb := ⟨he, by rw [hat]; simpa [CipD.p] using hc24⟩
      iterate 3 refine Ws ?_
      refine SC.lands (bigV_t hx) ?_
      iterate 7 refine Ws ?_
      refine SR_rd (RD_ixO (i := ((i : Nat) : Int)) (cs := ds.flatMap CipD.cells) Tryz.runUnderlying99 Tryz.sizeOf98 rfl (ev_iV rfl (ie (by omega))) (by rw [cip_len]) (by omega) (by omega)) Has.ro rfl ?_
      refine SR_rd (RD_fieldAddrO (cs := ds.flatMap CipD.cells) 1 Tryz.runUnderlying98 rfl rfl Tryz.sizeOf36 rfl (by rw [cip_len]; omega)) Has.ro rfl ?_
      refine SR_rd (RD_loadO (v := .slice x.a x.plain.length x.c) (cs := ds.flatMap CipD.cells) Tryz.isAgg36 rfl ((fun q hq => by rw [hq]; exact cip_get hx 1 (by omega) : ∀ q : Nat, q = i * 3 + 1 → (ds.flatMap CipD.cells)[q]? = some (.slice x.a x.plain.length x.c)) _ (by omega))) Has.ro rfl ?_
      refine We (clone_bytes (x.plain.map byteV) x.a x.plain.length x.c (by simp) (hpl x hx)) ?_
      rintro _ L3 ⟨ra, rc, rfl, hL3⟩
      refine SR.lands hL3 ?_
      iterate 4 refine Ws ?_
      refine SC_ret2 rfl rfl rfl ?_
      unfold VS.open
      rw [if_pos hlb, hat]
      simp only [Option.getD_some, Option.isSome_some, CipD.p]
      exact ⟨_, _, rfl, ((bigV_p x hi2 rfl rfl rfl rfl).trans ((close_vlt v s (ds := ds.set i x) (by rw [set_selfV hx]; exact hp) (e1_ := by rw [set_selfV hx]) (e2_ := by rw [set_selfV hx]) (e3_ := by rw [set_selfV hx])).trans .fin))⟩
  · have hno : ¬ (s.enough c = true ∧ (s.at c).label = lb) := fun h => by rw [h.1] at hg1_4; cases hg1_4
    refine SR_no rfl rfl (hg1_4) (lts rfl) ?_
    refine SR_no rfl rfl (hg1_4) (lts rfl) ?_
    refine SR_no rfl rfl (hg1_4) (lts rfl) ?_
    refine SR_no rfl rfl (hg1_4) (lts rfl) ?_
    refine SR_no rfl rfl (hg1_4) (lts rfl) ?_
    refine SR_no rfl rfl (hg1_4) (lts rfl) ?_
    refine SR_no rfl rfl (hg1_4) (lts rfl) ?_
    refine SR_no rfl rfl (hg1_4) (lts rfl) ?_
    refine SR_no rfl rfl (hg1_4) (lts rfl) ?_
    refine SR_no rfl rfl (hg1_4) (lts rfl) ?_
    refine SR_no rfl rfl (hg1_4) (lts rfl) ?_
    refine SR_pu (RD_pick_t rfl (hg1_4) rfl) rfl ?_
    iterate 2 refine Ws ?_
    refine SC_cond_true rfl (rfl) ?_
    iterate 6 refine Ws ?_
    refine SC_ret2 rfl rfl rfl ?_
    unfold VS.open
    rw [if_neg hno]
    simp only [Option.getD_none, List.length_nil, List.map_nil, Option.isSome_none]
    exact ⟨none, 0, rfl, (row_new 5 1 none).trans .fin⟩

end Go.Proofs.YtdhpjdhloaoepaaGreat
