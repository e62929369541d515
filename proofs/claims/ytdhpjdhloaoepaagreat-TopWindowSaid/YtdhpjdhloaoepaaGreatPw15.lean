/- Part 15 of the proof: lemmas that the walk of TopWindow needs. -/
import Derived.Test.YtdhpjdhloaoepaaGreatPw14
set_option linter.unusedSimpArgs false
set_option linter.unusedVariables false
/- A cluster walked: its parts. -/
namespace Go.Proofs.YtdhpjdhloaoepaaGreat
open Go Go.Proofs
attribute [local irreducible] SC SN SR SQ SA SO
set_option maxRecDepth 100000
structure CK where
  p : Nat
  k : WK
  n : Nat
  a : Nat
  c : CfgD
  Ks : List NK
def NK.ptr (K : NK) : Value := .pointer (some ⟨K.p, 0, none⟩)
instance (K : NK) : One K.ptr := ⟨rfl, rfl⟩
def nodP (d : NK × NS) : HProp := At nodI d.1 (d.2, [])
def bigN (ds : List (NK × NS)) : HProp := fun h => Den (ds.map nodP) h
theorem bigN_flat {T : List (NK × NS)} {R : List HProp} {m : Hp} : Den (bigN T :: R) m ↔ Den (T.map nodP ++ R) m := by
  rw [Den_append]
  constructor
  · rintro ⟨m1, m2, d, e, h, r⟩; exact ⟨m1, m2, d, e, h, r⟩
  · rintro ⟨m1, m2, d, e, h, r⟩; exact ⟨m1, m2, d, e, h, r⟩
theorem bigN_perm (A B : List (NK × NS)) (x : NK × NS) (R : List HProp) : ((A ++ x :: B).map nodP ++ R).Perm (nodP x :: ((A ++ B).map nodP ++ R)) := by
  rw [List.map_append, List.map_cons, List.map_append, List.append_assoc, List.append_assoc]
  exact List.perm_middle
theorem bigN_t {L R : List HProp} {ds : List (NK × NS)} {i : Nat} {K : NK} {s : NS} (h : ds[i]? = some (K, s)) [t : TakeA L (bigN ds) R] : Lands L (At nodI K (s, []) :: bigN (ds.take i ++ ds.drop (i + 1)) :: R) := fun m H => by
  have H1 := Den_perm t.perm m H
  rw [at_split h] at H1
  exact Den_tail (fun _ h2 => bigN_flat.2 h2) (Den_perm (bigN_perm _ _ (K, s) R) m (bigN_flat.1 H1))
theorem bigN_p {L R R1 : List HProp} {ds : List (NK × NS)} {i : Nat} (K : NK) (s : NS) (hi : i < ds.length) [t : TakeAt L nodI K (s, []) R1] [u : TakeA R1 (bigN (ds.take i ++ ds.drop (i + 1))) R] : Lands L (bigN (ds.set i (K, s)) :: R) := fun m H => by
  obtain ⟨m1, m2, d, e, p1, r1⟩ := Den_perm t.perm m H
  have H2 : Den (nodP (K, s) :: ((ds.take i ++ ds.drop (i + 1)).map nodP ++ R)) m := ⟨m1, m2, d, e, p1, bigN_flat.1 (Den_perm u.perm m2 r1)⟩
  have e3 : ds.set i (K, s) = ds.take i ++ (K, s) :: ds.drop (i + 1) := by rw [List.set_eq_take_append_cons_drop, if_pos hi]
  rw [e3]
  exact bigN_flat.2 (Den_perm (bigN_perm _ _ (K, s) R).symm m H2)
theorem bigN_add {L R R1 : List HProp} {ds : List (NK × NS)} (K : NK) (s : NS) [t : TakeAt L nodI K (s, []) R1] [u : TakeA R1 (bigN ds) R] : Lands L (bigN (ds ++ [(K, s)]) :: R) := fun m H => by
  obtain ⟨m1, m2, d, e, p1, r1⟩ := Den_perm t.perm m H
  have H2 : Den (nodP (K, s) :: (ds.map nodP ++ R)) m := ⟨m1, m2, d, e, p1, bigN_flat.1 (Den_perm u.perm m2 r1)⟩
  refine bigN_flat.2 (Den_perm ?_ m H2)
  have h := bigN_perm ds [] (K, s) R
  rw [List.append_nil] at h
  exact h.symm
theorem bigN_new {R : List HProp} : Lands R (bigN [] :: R) := fun m H => bigN_flat.2 H
theorem CallsK.atPR {W : World} {P : Program} {f : FuncId} {args : Array Value} {L R1 R : List HProp} {KK : Value → List HProp → Prop} {b : Nat} {o : Obj} {E z n c : Nat} {a : Option Addr} {cs : List Value} [t : TakePt L b o R1] [u : TakeRow R1 a E z n c cs R] (g : CallsK W P f args (pt b o :: rowP E z a n c cs :: R) KK) : CallsK W P f args L KK := g.pre fun m H => Den_tail (fun m2 h2 => Den_perm u.perm m2 h2) (Den_perm t.perm m H)
theorem CallsK.atP3 {κ1 σ1 κ2 σ2 κ3 σ3 : Type} {W : World} {P : Program} {f : FuncId} {args : Array Value} {L R1 R2 R3 R : List HProp} {KK : Value → List HProp → Prop} {b : Nat} {o : Obj} {I1 : κ1 → σ1 → HProp} {I2 : κ2 → σ2 → HProp} {I3 : κ3 → σ3 → HProp} {k1 : κ1} {s1 : σ1} {k2 : κ2} {s2 : σ2} {k3 : κ3} {s3 : σ3} [t : TakePt L b o R1] [u : TakeAt R1 I1 k1 s1 R2] [v : TakeAt R2 I2 k2 s2 R3] [w : TakeAt R3 I3 k3 s3 R] (g : CallsK W P f args (pt b o :: At I1 k1 s1 :: At I2 k2 s2 :: At I3 k3 s3 :: R) KK) : CallsK W P f args L KK :=
  g.pre fun m H => Den_tail (fun m2 h2 => Den_tail (fun m3 h3 => Den_tail (fun m4 h4 => Den_perm w.perm m4 h4) (Den_perm v.perm m3 h3)) (Den_perm u.perm m2 h2)) (Den_perm t.perm m H)

def cluI (C : CK) (y : CS) : HProp := fun h => ∃ (a : Option Addr) (cc : Nat) (od : List MsgD) (A : Arc) (ds : List (NK × NS)), ds.map Prod.fst = C.Ks ∧ ds.map Prod.snd = y.ns ∧ Out A od y.net ∧ (∀ s ∈ y.ns, s.out = []) ∧ Den [pt C.p (.cells [.int .i64 C.c.f, .int .i64 C.c.n, .int .i64 C.c.cl, .int .i64 C.c.ba, .int .i64 C.c.mo, .int .i64 C.c.bt, .int .i64 C.c.po, .int .i64 C.c.wi, .pointer (some ⟨C.k.p, 0, none⟩), .slice a C.Ks.length cc, .pointer (some ⟨C.n, 0, none⟩), .pointer (some ⟨C.a, 0, none⟩)].toArray 72), rowP 49 1 a C.Ks.length cc (C.Ks.map NK.ptr), At wnI C.k y.g, At netI C.n od, At awI C.a ⟨C.k.p, y.sb⟩, At arcI () A, bigN ds] h
theorem open_clu {C : CK} {y : CS} : Opens cluI C y (fun x : (Option Addr) × (Nat) × (List MsgD) × (Arc) × (List (NK × NS)) => (x.2.2.2.2.map Prod.fst = C.Ks) ∧ (x.2.2.2.2.map Prod.snd = y.ns) ∧ (Out x.2.2.2.1 x.2.2.1 y.net) ∧ ((∀ s ∈ y.ns, s.out = []))) (fun x R => (pt C.p (.cells [.int .i64 C.c.f, .int .i64 C.c.n, .int .i64 C.c.cl, .int .i64 C.c.ba, .int .i64 C.c.mo, .int .i64 C.c.bt, .int .i64 C.c.po, .int .i64 C.c.wi, .pointer (some ⟨C.k.p, 0, none⟩), .slice x.1 C.Ks.length x.2.1, .pointer (some ⟨C.n, 0, none⟩), .pointer (some ⟨C.a, 0, none⟩)].toArray 72)) :: (rowP 49 1 x.1 C.Ks.length x.2.1 (C.Ks.map NK.ptr)) :: (At wnI C.k y.g) :: (At netI C.n x.2.2.1) :: (At awI C.a ⟨C.k.p, y.sb⟩) :: (At arcI () x.2.2.2.1) :: (bigN x.2.2.2.2) :: R) := by
  rintro R m_ ⟨m1, m2, d, e, ⟨a, cc, od, A, ds, f0_, f1_, f2_, f3_, h_⟩, r⟩
  exact ⟨(a, cc, od, A, ds), ⟨f0_, f1_, f2_, f3_⟩, Den_app d e h_ r⟩
theorem close_clu {L R R1_ R2_ R3_ R4_ R5_ R6_ : List HProp} (C : CK) (y : CS) {a : Option Addr} {cc : Nat} {od : List MsgD} {A : Arc} {ds : List (NK × NS)} {y1_ : Int} {y2_ : Int} {y3_ : Int} {y4_ : Int} {y5_ : Int} {y6_ : Int} {y7_ : Int} {y8_ : Int} {y9_ : Nat} {y10_ : Nat} {y11_ : Nat} {y12_ : Nat} {y13_ : Nat} {y14_ : List Value} [t0_ : TakePt L C.p (.cells [.int .i64 y1_, .int .i64 y2_, .int .i64 y3_, .int .i64 y4_, .int .i64 y5_, .int .i64 y6_, .int .i64 y7_, .int .i64 y8_, .pointer (some ⟨y9_, 0, none⟩), .slice a y10_ cc, .pointer (some ⟨y11_, 0, none⟩), .pointer (some ⟨y12_, 0, none⟩)].toArray 72) R1_] [t1_ : TakeRow R1_ a 49 1 y13_ cc y14_ R2_] [t2_ : TakeA R2_ (At wnI C.k y.g) R3_] [t3_ : TakeA R3_ (At netI C.n od) R4_] [t4_ : TakeA R4_ (At awI C.a ⟨C.k.p, y.sb⟩) R5_] [t5_ : TakeA R5_ (At arcI () A) R6_] [t6_ : TakeA R6_ (bigN ds) R] (f0_ : ds.map Prod.fst = C.Ks) (f1_ : ds.map Prod.snd = y.ns) (f2_ : Out A od y.net) (f3_ : (∀ s ∈ y.ns, s.out = [])) (e0_ : C.c.f = y1_ := by rfl) (e1_ : C.c.n = y2_ := by rfl) (e2_ : C.c.cl = y3_ := by rfl) (e3_ : C.c.ba = y4_ := by rfl) (e4_ : C.c.mo = y5_ := by rfl) (e5_ : C.c.bt = y6_ := by rfl) (e6_ : C.c.po = y7_ := by rfl) (e7_ : C.c.wi = y8_ := by rfl) (e8_ : C.k.p = y9_ := by rfl) (e9_ : C.Ks.length = y10_ := by rfl) (e10_ : C.n = y11_ := by rfl) (e11_ : C.a = y12_ := by rfl) (e12_ : C.Ks.length = y13_ := by rfl) (e13_ : C.Ks.map NK.ptr = y14_ := by rfl) : Lands L (At cluI C y :: R) := fun q_ H_ => by
  subst e0_; subst e1_; subst e2_; subst e3_; subst e4_; subst e5_; subst e6_; subst e7_; subst e8_; subst e9_; subst e10_; subst e11_; subst e12_; subst e13_;
  obtain ⟨a0_, b0_, d0_, i0_, p0_, r0_⟩ := Den_perm t0_.perm q_ H_
  obtain ⟨a1_, b1_, d1_, i1_, p1_, r1_⟩ := Den_perm t1_.perm b0_ r0_
  obtain ⟨a2_, b2_, d2_, i2_, p2_, r2_⟩ := Den_perm t2_.perm b1_ r1_
  obtain ⟨a3_, b3_, d3_, i3_, p3_, r3_⟩ := Den_perm t3_.perm b2_ r2_
  obtain ⟨a4_, b4_, d4_, i4_, p4_, r4_⟩ := Den_perm t4_.perm b3_ r3_
  obtain ⟨a5_, b5_, d5_, i5_, p5_, r5_⟩ := Den_perm t5_.perm b4_ r4_
  obtain ⟨a6_, b6_, d6_, i6_, p6_, r6_⟩ := Den_perm t6_.perm b5_ r5_
  have H2_ : Den ([pt C.p (.cells [.int .i64 C.c.f, .int .i64 C.c.n, .int .i64 C.c.cl, .int .i64 C.c.ba, .int .i64 C.c.mo, .int .i64 C.c.bt, .int .i64 C.c.po, .int .i64 C.c.wi, .pointer (some ⟨C.k.p, 0, none⟩), .slice a C.Ks.length cc, .pointer (some ⟨C.n, 0, none⟩), .pointer (some ⟨C.a, 0, none⟩)].toArray 72), rowP 49 1 a C.Ks.length cc (C.Ks.map NK.ptr), At wnI C.k y.g, At netI C.n od, At awI C.a ⟨C.k.p, y.sb⟩, At arcI () A, bigN ds] ++ R) q_ := ⟨a0_, b0_, d0_, i0_, p0_, ⟨a1_, b1_, d1_, i1_, p1_, ⟨a2_, b2_, d2_, i2_, p2_, ⟨a3_, b3_, d3_, i3_, p3_, ⟨a4_, b4_, d4_, i4_, p4_, ⟨a5_, b5_, d5_, i5_, p5_, ⟨a6_, b6_, d6_, i6_, p6_, r6_⟩⟩⟩⟩⟩⟩⟩
  exact Lands.wrap (A := At cluI C y) (fun z_ hz_ => ⟨a, cc, od, A, ds, f0_, f1_, f2_, f3_, hz_⟩) q_ H2_
end Go.Proofs.YtdhpjdhloaoepaaGreat

/- A cluster walked: messages delivered, ticks. -/
namespace Go.Proofs.YtdhpjdhloaoepaaGreat
open Go Go.Proofs
attribute [local irreducible] SC SN SR SQ SA SO
set_option maxRecDepth 100000
structure CK.Ok (C : CK) : Prop where
  n : 1 ≤ C.c.n ∧ C.c.n ≤ 16
  f : 0 ≤ C.c.f ∧ C.c.f ≤ 5
  bt : 0 ≤ C.c.bt ∧ C.c.bt ≤ 100
  wi : 0 ≤ C.c.wi ∧ C.c.wi ≤ 100
  len : C.Ks.length = C.c.n.toNat
  ks : ∀ (i : Nat) (K : NK), C.Ks[i]? = some K → K.k = C.k ∧ K.c = C.c ∧ K.me = (i : Nat) ∧ K.rv.w = C.k.p
theorem CK.Ok.nk {C : CK} (h : C.Ok) {i : Nat} {K : NK} (hi : C.Ks[i]? = some K) : K.Ok := by
  obtain ⟨h1, h2, h3, h4⟩ := h.ks i K hi
  have hlt := (List.getElem?_eq_some_iff.1 hi).1
  have hn := h.n
  have hl := h.len
  exact ⟨by rw [h2]; exact h.n, by rw [h2]; exact h.f, by rw [h2]; exact h.bt, by rw [h2]; exact h.wi, by rw [h3]; exact ⟨by omega, by omega⟩, by rw [h4, h1]⟩
theorem Out.cons {A : Arc} : ∀ {l : List MsgD} {x : PM} {r : List PM}, Out A l (x :: r) → ∃ m l2, l = m :: l2 ∧ MIs A m x ∧ Out A l2 r
  | m :: l, _, _, h => ⟨m, l, rfl, h.1, h.2⟩
theorem Out.nil {A : Arc} : Out A [] [] := trivial
theorem ds_get {ds : List (NK × NS)} {ns : List NS} {i : Nat} {s : NS} (h : ds.map Prod.snd = ns) (hi : ns[i]? = some s) : ∃ K, ds[i]? = some (K, s) := by
  rw [← h, List.getElem?_map] at hi
  cases hd : ds[i]? with
  | none => rw [hd] at hi; cases hi
  | some d => rw [hd] at hi; cases hi; exact ⟨d.1, rfl⟩
theorem ds_fst {ds : List (NK × NS)} {Ks : List NK} {i : Nat} {K : NK} {s : NS} (h : ds.map Prod.fst = Ks) (hi : ds[i]? = some (K, s)) : Ks[i]? = some K := by rw [← h, List.getElem?_map, hi]; rfl
theorem ds_set1 {ds : List (NK × NS)} {Ks : List NK} {i : Nat} {K : NK} {s s' : NS} (h : ds.map Prod.fst = Ks) (hi : ds[i]? = some (K, s)) : (ds.set i (K, s')).map Prod.fst = Ks := by
  rw [List.map_set]
  show (ds.map Prod.fst).set i K = Ks
  rw [set_selfV (by rw [List.getElem?_map, hi]; rfl), h]
theorem ds_set2 {ds : List (NK × NS)} {ns : List NS} (i : Nat) (K : NK) (s' : NS) (h : ds.map Prod.snd = ns) : (ds.set i (K, s')).map Prod.snd = ns.set i s' := by
  rw [List.map_set, h]
theorem out_set {ns : List NS} (i : Nat) (s' : NS) (h : ∀ s ∈ ns, s.out = []) : ∀ s ∈ ns.set i { s' with out := [] }, s.out = [] := fun s hs => by
  rcases List.mem_or_eq_of_mem_set hs with e | e
  · exact h s e
  · subst e; rfl

theorem clu_Take {W : World} {F : List HProp} [Abs F] (C : CK) (hC : C.Ok) (i : Nat) (K : NK) (hi : C.Ks[i]? = some K) (s : NS) (hs : s.out = []) (A : Arc) (g : GS) (m : MsgD) (x : PM) (hM : MIs A m x) (hto : x.to = (i : Nat)) (g' : GS) (s' : NS) (h : takeP C.c (i : Nat) g s x = some (g', s')) :
    CallsK W Tryz.prog 90 #[.pointer (some ⟨K.p, 0, none⟩), m.val] (At nodI K (s, []) :: At wnI C.k g :: At arcI () A :: F) (fun u L => ∃ a c od' A', u = .slice a od'.length c ∧ A.le A' ∧ Out A' od' s'.out ∧ Lands L (rowP 46 19 a od'.length c (od'.flatMap MsgD.cells) :: At nodI K (({ s' with out := [] } : NS), []) :: At wnI C.k g' :: At arcI () A' :: F)) := by
  obtain ⟨h1, h2, h3, h4⟩ := hC.ks i K hi
  rw [← h1]
  exact node_Take K (hC.nk hi) s [] A g (by rw [hs]; exact Out.nil) m x hM (by rw [h3]; exact hto) g' s' (by rw [h2, h3]; exact h)
theorem clu_Tick {W : World} {F : List HProp} [Abs F] (C : CK) (hC : C.Ok) (i : Nat) (K : NK) (hi : C.Ks[i]? = some K) (s : NS) (hs : s.out = []) (A : Arc) (g : GS) (g' : GS) (s' : NS) (h : tickP C.c (i : Nat) g s = some (g', s')) :
    CallsK W Tryz.prog 92 #[.pointer (some ⟨K.p, 0, none⟩)] (At nodI K (s, []) :: At wnI C.k g :: At arcI () A :: F) (fun u L => ∃ a c od' A', u = .slice a od'.length c ∧ A.le A' ∧ Out A' od' s'.out ∧ Lands L (rowP 46 19 a od'.length c (od'.flatMap MsgD.cells) :: At nodI K (({ s' with out := [] } : NS), []) :: At wnI C.k g' :: At arcI () A' :: F)) := by
  obtain ⟨h1, h2, h3, h4⟩ := hC.ks i K hi
  rw [← h1]
  exact node_Tick K (hC.nk hi) s [] A g (by rw [hs]; exact Out.nil) g' s' (by rw [h2, h3]; exact h)
theorem clu_Begin {W : World} {F : List HProp} [Abs F] (C : CK) (hC : C.Ok) (i : Nat) (K : NK) (hi : C.Ks[i]? = some K) (s : NS) (hs : s.out = []) (A : Arc) (g : GS) (g' : GS) (s' : NS) (h : layP C.c (i : Nat) g s = some (g', s')) :
    CallsK W Tryz.prog 31 #[.pointer (some ⟨K.p, 0, none⟩)] (At nodI K (s, []) :: At wnI C.k g :: At arcI () A :: F) (fun u L => ∃ a c od' A', u = .slice a od'.length c ∧ A.le A' ∧ Out A' od' s'.out ∧ Lands L (rowP 46 19 a od'.length c (od'.flatMap MsgD.cells) :: At nodI K (({ s' with out := [] } : NS), []) :: At wnI C.k g' :: At arcI () A' :: F)) := by
  obtain ⟨h1, h2, h3, h4⟩ := hC.ks i K hi
  rw [← h1]
  exact node_Begin K (hC.nk hi) s [] A g (by rw [hs]; exact Out.nil) g' s' (by rw [h2, h3]; exact h)

theorem clu_send {W : World} {F : List HProp} [Abs F] (C : CK) (a : Option Addr) (cc : Nat) (od : List MsgD) (w sb : Nat) (A : Arc) (sa : Option Addr) (n sc : Nat) (od2 : List MsgD) (xs : List PM) {cs : List Value} [HasRow F sa cs] (hcs : cs = od2.flatMap MsgD.cells) (hn : od2.length = n) (hb : n ≤ 100000) (ho : Out A od2 xs) (hl : od.length ≤ 1000000) (hs : sb ≤ 1000000) :
    CallsK W Tryz.prog 30 #[.pointer (some ⟨C.p, 0, none⟩), .slice sa n sc] (pt C.p (.cells ([.int .i64 C.c.f, .int .i64 C.c.n, .int .i64 C.c.cl, .int .i64 C.c.ba, .int .i64 C.c.mo, .int .i64 C.c.bt, .int .i64 C.c.po, .int .i64 C.c.wi, .pointer (some ⟨C.k.p, 0, none⟩), .slice a C.Ks.length cc, .pointer (some ⟨C.n, 0, none⟩), .pointer (some ⟨C.a, 0, none⟩)]).toArray 72) :: At netI C.n od :: At awI C.a ⟨w, sb⟩ :: At arcI () A :: F) (fun _ L => ∃ l2 A', A.le A' ∧ Out A' l2 xs ∧ Lands L (pt C.p (.cells ([.int .i64 C.c.f, .int .i64 C.c.n, .int .i64 C.c.cl, .int .i64 C.c.ba, .int .i64 C.c.mo, .int .i64 C.c.bt, .int .i64 C.c.po, .int .i64 C.c.wi, .pointer (some ⟨C.k.p, 0, none⟩), .slice a C.Ks.length cc, .pointer (some ⟨C.n, 0, none⟩), .pointer (some ⟨C.a, 0, none⟩)]).toArray 72) :: At netI C.n (od ++ l2) :: At awI C.a ⟨w, sb + n⟩ :: At arcI () A' :: F)) := by
  refine CallsK_enter (n := 16) Tryz.func30 rfl rfl rfl ?_
  iterate 7 refine Ws ?_
  refine We (CallsK.at2 (net_Send C.n od A sa n sc od2 xs hcs hn hb ho hl)) ?_
  rintro _ L1 ⟨l2, A2, g2, ho2, hL1⟩
  refine SR.lands hL1 ?_
  iterate 8 refine Ws ?_
  refine We (CallsK.at2 (aw_Hear C.a ⟨w, sb⟩ A2 sa n sc od2 xs hcs hn hb (ho.le g2) hs)) ?_
  rintro _ L2 hL2
  refine SR.lands hL2 ?_
  refine Ws ?_
  refine SN_stop0 rfl ?_
  exact ⟨l2, A2, g2, ho2, .fin⟩

theorem clu_NodeO {W : World} {F : List HProp} [Abs F] (C : CK) (a : Option Addr) (cc : Nat) (i : Nat) (K : NK) (hi : C.Ks[i]? = some K) (v : Int) (hv : v = (i : Nat)) (hl : C.Ks.length ≤ 1000) :
    CallsK W Tryz.prog 13 #[.pointer (some ⟨C.p, 0, none⟩), .int .i64 v] (pt C.p (.cells ([.int .i64 C.c.f, .int .i64 C.c.n, .int .i64 C.c.cl, .int .i64 C.c.ba, .int .i64 C.c.mo, .int .i64 C.c.bt, .int .i64 C.c.po, .int .i64 C.c.wi, .pointer (some ⟨C.k.p, 0, none⟩), .slice a C.Ks.length cc, .pointer (some ⟨C.n, 0, none⟩), .pointer (some ⟨C.a, 0, none⟩)]).toArray 72) :: rowP 49 1 a C.Ks.length cc (C.Ks.map NK.ptr) :: F) (fun u L => u = .pointer (some ⟨K.p, 0, none⟩) ∧ Lands L (pt C.p (.cells ([.int .i64 C.c.f, .int .i64 C.c.n, .int .i64 C.c.cl, .int .i64 C.c.ba, .int .i64 C.c.mo, .int .i64 C.c.bt, .int .i64 C.c.po, .int .i64 C.c.wi, .pointer (some ⟨C.k.p, 0, none⟩), .slice a C.Ks.length cc, .pointer (some ⟨C.n, 0, none⟩), .pointer (some ⟨C.a, 0, none⟩)]).toArray 72) :: rowP 49 1 a C.Ks.length cc (C.Ks.map NK.ptr) :: F)) := by
  refine CallsK_enter (n := 23) Tryz.func13 rfl rfl rfl ?_
  subst hv
  have hlt := (List.getElem?_eq_some_iff.1 hi).1
  iterate 11 refine Ws ?_
  refine SR_yes rfl rfl (decide_eq_false (by omega)) ?_
  refine Ws ?_
  refine SR_yes rfl rfl (decide_eq_false (by omega)) ?_
  refine Ws ?_
  refine SR_yes rfl rfl (decide_eq_false (by omega)) ?_
  refine Ws ?_
  refine SR_yes rfl rfl (decide_eq_false (by omega)) ?_
  refine Ws ?_
  refine SR_yes rfl rfl (decide_eq_false (by omega)) ?_
  refine Ws ?_
  refine SR_yes rfl rfl (decide_eq_false (by omega)) ?_
  refine Ws ?_
  refine SR_yes rfl rfl (decide_eq_false (by omega)) ?_
  refine Ws ?_
  refine SR_pu (RD_pick_f rfl (decide_eq_false (by omega)) rfl) rfl ?_
  iterate 2 refine Ws ?_
  refine SC_cond_false rfl (decide_eq_false (by omega)) ?_
  iterate 9 refine Ws ?_
  refine SR_rd (RD_ixO (cs := C.Ks.map NK.ptr) Tryz.runUnderlying62 Tryz.sizeOf49 rfl rfl (by simp) (by omega) (by omega)) Has.ro rfl ?_
  refine SR_rd (RD_loadO (v := .pointer (some ⟨K.p, 0, none⟩)) (cs := C.Ks.map NK.ptr) Tryz.isAgg49 rfl (by simp [hi, NK.ptr])) Has.ro rfl ?_
  iterate 3 refine Ws ?_
  refine SC_ret1 rfl rfl ?_
  exact ⟨rfl, .fin⟩

theorem clu_deliver {W : World} {F : List HProp} [Abs F] (C : CK) (hC : C.Ok) (x x' : CS) (h : x.deliver C.c = some x') :
    CallsK W Tryz.prog 64 #[.pointer (some ⟨C.p, 0, none⟩), .int .i64 0] (At cluI C x :: F) (fun u L => u = .bool true ∧ Lands L (At cluI C x' :: F)) := by
  refine CallsK_enter (n := 32) Tryz.func64 rfl rfl rfl ?_
  unfold CS.deliver at h
  cases hnet : x.net with
  | nil => rw [hnet] at h; cases h
  | cons m0 r =>
  rw [hnet] at h
  dsimp only at h
  cases hsi : x.ns[m0.to.toNat]? with
  | none => rw [hsi] at h; cases h
  | some s =>
  rw [hsi] at h
  dsimp only at h
  obtain ⟨hc, h⟩ := chk_some h
  simp only [Bool.and_eq_true, decide_eq_true_eq] at hc
  obtain ⟨q1, q2⟩ := hc
  obtain ⟨q3, q4, q5⟩ := CS.ok_1 q1
  obtain ⟨⟨g1, s1⟩, ht, h⟩ := obind_some h
  dsimp only at h
  obtain ⟨hc, h⟩ := chk_some h
  simp only [Bool.and_eq_true, decide_eq_true_eq] at hc
  obtain ⟨q6, q7⟩ := hc
  cases h
  have hto : m0.to = ((m0.to.toNat : Nat) : Int) := by omega
  rw [hto] at ht
  have hCn := hC.n
  have hCl := hC.len
  iterate 6 refine Ws ?_
  refine SC.opn (open_clu (C := C) (y := x)) fun ⟨a, cc, od, A, ds⟩ ⟨hd1, hd2, hod, hns⟩ => ?_
  dsimp only at hd1 hd2 hod hns ⊢
  obtain ⟨K, hdi⟩ := ds_get hd2 hsi
  have hKi := ds_fst hd1 hdi
  have hso : s.out = [] := hns s (List.mem_of_getElem? hsi)
  have hdl := (List.getElem?_eq_some_iff.1 hdi).1
  rw [hnet] at hod q4
  obtain ⟨md, odr, rfl, hmd, hor⟩ := hod.cons
  have horl : odr.length ≤ 10000 := by have h9 := hor.len; rw [List.length_cons] at q4; omega
  iterate 6 refine Ws ?_
  refine We (CallsK.at2 (net_Take0 C.n md odr A m0 hmd (by omega))) ?_
  rintro _ L1 ⟨m1, A1, rfl, gA1, hM1, hL1⟩
  refine SR.lands hL1 ?_
  have hm1t : m1.to_ = ((m0.to.toNat : Nat) : Int) := hM1.1.to.trans hto
  iterate 3 refine Ws ?_
  refine Wa fun b5 => ?_
  refine SR_ox0 (OX_stA (vs := m1.cells) Tryz.sizeOf46 rfl rfl rfl rfl) ?_
  rintro _ _ rfl
  iterate 8 refine Ws ?_
  refine SR_rd (RD_load (v := .int .i64 m1.to_) Tryz.isAgg3 rfl) (Has.ce rfl) rfl ?_
  refine Wc (CallsK.atPR (clu_NodeO C a cc m0.to.toNat K hKi m1.to_ hm1t (by omega))) ?_
  iterate 7 refine Ws ?_
  refine SR_yes rfl rfl (rfl) ?_
  refine Ws ?_
  refine SR_yes rfl rfl (rfl) ?_
  refine Ws ?_
  refine SR_pu (RD_pick_t rfl (rfl) rfl) rfl ?_
  iterate 2 refine Ws ?_
  refine SC_cond_true rfl (rfl) ?_
  refine SC.lands (bigN_t hdi) ?_
  iterate 3 refine Ws ?_
  refine SR_rd (RD_loadA (vs := m1.cells) Tryz.isAgg46 Tryz.sizeOf46 rfl rfl) Has.wh rfl ?_
  refine We (CallsK.at3 (clu_Take C hC m0.to.toNat K hKi s hso A1 x.g m1 m0 hM1 hto g1 s1 ht)) ?_
  rintro _ L3 ⟨sa, sc, od5, A5, rfl, gA5, ho5, hL3⟩
  refine SR.lands hL3 ?_
  have hol5 := ho5.len
  refine We (CallsK.atP3 (clu_send C a cc odr C.k.p x.sb A5 sa od5.length sc od5 s1.out rfl rfl (by omega) ho5 (by omega) (by omega))) ?_
  rintro _ L4 ⟨l2, A6, gA6, ho6, hL4⟩
  refine SR.lands hL4 ?_
  iterate 8 refine Ws ?_
  refine SC_ret1 rfl rfl ?_
  refine ⟨rfl, (bigN_p K ({ s1 with out := [] } : NS) hdl).trans ?_⟩
  rw [hol5]
  exact (close_clu C (x.done m0.to.toNat g1 s1 r) (ds_set1 hd1 hdi) (ds_set2 _ _ _ hd2) ((hor.le (gA1.trans (gA5.trans gA6))).app ho6) (out_set _ _ hns)).trans .fin

theorem clu_tick {W : World} {F : List HProp} [Abs F] (C : CK) (hC : C.Ok) (x x' : CS) (i : Nat) (h : x.tick C.c i = some x') :
    CallsK W Tryz.prog 67 #[.pointer (some ⟨C.p, 0, none⟩), .int .i64 (i : Nat)] (At cluI C x :: F) (fun u L => u = .bool true ∧ Lands L (At cluI C x' :: F)) := by
  refine CallsK_enter (n := 17) Tryz.func67 rfl rfl rfl ?_
  unfold CS.tick at h
  cases hsi : x.ns[i]? with
  | none => rw [hsi] at h; cases h
  | some s =>
  rw [hsi] at h
  dsimp only at h
  obtain ⟨q1, h⟩ := chk_some h
  obtain ⟨q3, q4, q5⟩ := CS.ok_1 q1
  obtain ⟨⟨g1, s1⟩, ht, h⟩ := obind_some h
  dsimp only at h
  obtain ⟨hc, h⟩ := chk_some h
  simp only [Bool.and_eq_true, decide_eq_true_eq] at hc
  obtain ⟨q6, q7⟩ := hc
  cases h
  have hCn := hC.n
  have hCl := hC.len
  iterate 6 refine Ws ?_
  refine SC.opn (open_clu (C := C) (y := x)) fun ⟨a, cc, od, A, ds⟩ ⟨hd1, hd2, hod, hns⟩ => ?_
  dsimp only at hd1 hd2 hod hns ⊢
  obtain ⟨K, hdi⟩ := ds_get hd2 hsi
  have hKi := ds_fst hd1 hdi
  have hso : s.out = [] := hns s (List.mem_of_getElem? hsi)
  have hdl := (List.getElem?_eq_some_iff.1 hdi).1
  have hol := hod.len
  iterate 3 refine Ws ?_
  refine Wc (CallsK.atPR (clu_NodeO C a cc i K hKi _ rfl (by omega))) ?_
  iterate 10 refine Ws ?_
  refine SC_cond_true rfl (rfl) ?_
  refine SC.lands (bigN_t hdi) ?_
  iterate 3 refine Ws ?_
  refine We (CallsK.at3 (clu_Tick C hC i K hKi s hso A x.g g1 s1 ht)) ?_
  rintro _ L3 ⟨sa, sc, od5, A5, rfl, gA5, ho5, hL3⟩
  refine SR.lands hL3 ?_
  have hol5 := ho5.len
  refine We (CallsK.atP3 (clu_send C a cc od C.k.p x.sb A5 sa od5.length sc od5 s1.out rfl rfl (by omega) ho5 (by omega) (by omega))) ?_
  rintro _ L4 ⟨l2, A6, gA6, ho6, hL4⟩
  refine SR.lands hL4 ?_
  iterate 9 refine Ws ?_
  refine SC_ret1 rfl rfl ?_
  refine ⟨rfl, (bigN_p K ({ s1 with out := [] } : NS) hdl).trans ?_⟩
  rw [hol5]
  exact (close_clu C (x.done i g1 s1 x.net) (ds_set1 hd1 hdi) (ds_set2 _ _ _ hd2) ((hod.le (gA5.trans gA6)).app ho6) (out_set _ _ hns)).trans .fin

end Go.Proofs.YtdhpjdhloaoepaaGreat

/- A cluster walked: envelopes submitted. -/
namespace Go.Proofs.YtdhpjdhloaoepaaGreat
open Go Go.Proofs
attribute [local irreducible] SC SN SR SQ SA SO
set_option maxRecDepth 100000
@[reducible] def MsgD.toI (m : MsgD) (t : Int) : MsgD := ⟨m.kind, m.from_, t, m.view, m.num, m.qc, m.tc, m.env, m.bl⟩
def toAll (m : MsgD) (n : Nat) : List MsgD := (List.range n).map fun (i : Nat) => m.toI (i : Int)
def actC (kd a no fe : Int) (p : Option Addr) (pn pc : Nat) : List Value := [.int .i64 kd, .int .i64 a, .int .u64 no, .int .u64 fe, .slice p pn pc, .int .i64 0, .int .i64 0, .int .i64 0, .int .i64 0, .int .i64 0, .int .i64 0, .int .i64 0, .slice none 0 0, .int .i64 0, .slice none 0 0, .slice none 0 0, .int .i64 0, .int .i64 0, .slice none 0 0, .int .i64 0, .int .u64 0, .int .u64 0, .int .i64 0, .slice none 0 0]
instance (kd a no fe : Int) (p : Option Addr) (pn pc : Nat) : Ones (actC kd a no fe p pn pc) := by unfold actC; infer_instance
theorem wn_EMake {W : World} {F : List HProp} [Abs F] (k : WK) (g : GS) (cl nc fe : Int) (h1 : g.ok = true) (hc : 0 ≤ cl ∧ cl ≤ 999) (h2 : U64 nc) (h3 : U64 fe) (a0 : Option Addr) (n0 c0 : Nat) (bs : List UInt8) {cs0 : List Value} [HasRow F a0 cs0] (hcs : cs0 = bs.map byteV) (h0 : bs.length = n0) (hl : bs.length = 56) (hbad : parseTx bs = none) :
    CallsK W Tryz.prog 94 #[.pointer (some ⟨k.p, 0, none⟩), .int .i64 cl, .int .u64 nc, .int .u64 fe, .slice a0 n0 c0] (At wnI k g :: F) (fun u L => u = (EnvD.mk cl nc fe ((g.V.length + 1 : Nat) : Int)).val ∧ Lands L (At wnI k ⟨putC g.N (envC ⟨cl, nc, fe, ((g.V.length + 1 : Nat) : Int)⟩), addTo g.S (1000 + cl) (dnumC (putC g.N (envC ⟨cl, nc, fe, ((g.V.length + 1 : Nat) : Int)⟩)) (envC ⟨cl, nc, fe, ((g.V.length + 1 : Nat) : Int)⟩) : Nat), g.V ++ [(cl, [])]⟩ :: F)) := by
  refine CallsK.opn (open_wn (k := k) (g := g)) fun ⟨l, v⟩ ⟨f1, f2, f3, f4⟩ => ?_
  dsimp only at f1 f2 f3 f4
  have hN := (GS.ok_1 h1).1
  have hV := (GS.ok_1 h1).2
  have hvl := wn_vlen f3
  refine CallsK.imp (CallsK.at2 (vw_Make k ⟨l, g.S⟩ v (by omega) cl nc fe hc h2 h3 a0 n0 c0 bs hcs h0 (by omega) (by have := wn_len f1 hN; show l.length ≤ _; omega))) fun u L ⟨hu, hL⟩ => ⟨by rw [hu, hvl], ?_⟩
  rw [hvl] at hL
  dsimp only at hL
  have e1 : encL (dput l (envB ⟨cl, nc, fe, ((g.V.length + 1 : Nat) : Int)⟩)) = putC g.N (envC ⟨cl, nc, fe, ((g.V.length + 1 : Nat) : Int)⟩) := by rw [env_put, f1]
  have e2 : dnumC (putC g.N (envC ⟨cl, nc, fe, ((g.V.length + 1 : Nat) : Int)⟩)) (envC ⟨cl, nc, fe, ((g.V.length + 1 : Nat) : Int)⟩) = dnum (dput l (envB ⟨cl, nc, fe, ((g.V.length + 1 : Nat) : Int)⟩)) (envB ⟨cl, nc, fe, ((g.V.length + 1 : Nat) : Int)⟩) := by rw [← e1, env_num]
  rw [e2]
  exact hL.trans ((close_wn k ⟨putC g.N (envC ⟨cl, nc, fe, ((g.V.length + 1 : Nat) : Int)⟩), addTo g.S (1000 + cl) (dnum (dput l (envB ⟨cl, nc, fe, ((g.V.length + 1 : Nat) : Int)⟩)) (envB ⟨cl, nc, fe, ((g.V.length + 1 : Nat) : Int)⟩) : Nat), g.V ++ [(cl, [])]⟩ (l := dput l (envB ⟨cl, nc, fe, ((g.V.length + 1 : Nat) : Int)⟩)) (v := v.sealC cl bs) e1 f2 (by unfold VS.sealC; rw [List.map_append, f3]; rfl) (fun c hm => by
    unfold VS.sealC at hm
    rcases List.mem_append.1 hm with h9 | h9
    · exact f4 c h9
    · simp at h9; subst h9; exact ⟨hl, hbad⟩)).trans .fin)

theorem clu_within {W : World} {F : List HProp} [Abs F] (x lw up : Int) :
    CallsK W Tryz.prog 46 #[.int .i64 x, .int .i64 lw, .int .i64 up] (F) (fun u L => u = .bool (decide (lw ≤ x ∧ x ≤ up)) ∧ Lands L F) := by
  refine CallsK_enter (n := 15) Tryz.func46 rfl rfl rfl ?_
  iterate 11 refine Ws ?_
  refine SR_guard rfl rfl (fun hg1_3 => ?_) (fun hg1_3 => ?_)
  · refine SR_yes rfl rfl (hg1_3) ?_
    refine Ws ?_
    refine SR_yes rfl rfl (hg1_3) ?_
    refine Ws ?_
    refine SR_yes rfl rfl (hg1_3) ?_
    refine Ws ?_
    refine SR_pu (RD_pick_t rfl (hg1_3) rfl) rfl ?_
    iterate 3 refine Ws ?_
    refine SC_ret1 rfl rfl ?_
    refine ⟨congrArg Value.bool ?_, .fin⟩
    first | (simp_all; done) | (simp_all; omega)
  · refine SR_no rfl rfl (hg1_3) (lts rfl) ?_
    refine SR_no rfl rfl (hg1_3) (lts rfl) ?_
    refine SR_no rfl rfl (hg1_3) (lts rfl) ?_
    refine SR_pu (RD_pick_f rfl (hg1_3) rfl) rfl ?_
    iterate 3 refine Ws ?_
    refine SC_ret1 rfl rfl ?_
    refine ⟨congrArg Value.bool ?_, .fin⟩
    first | (simp_all; done) | (simp_all; omega)

theorem clu_all {W : World} {F : List HProp} [Abs F] (C : CK) (a : Option Addr) (cc : Nat) (m : MsgD) (n : Nat) (hn : C.c.n = (n : Nat)) (hnb : n ≤ 1000) :
    CallsK W Tryz.prog 93 #[.pointer (some ⟨C.p, 0, none⟩), m.val] (pt C.p (.cells ([.int .i64 C.c.f, .int .i64 C.c.n, .int .i64 C.c.cl, .int .i64 C.c.ba, .int .i64 C.c.mo, .int .i64 C.c.bt, .int .i64 C.c.po, .int .i64 C.c.wi, .pointer (some ⟨C.k.p, 0, none⟩), .slice a C.Ks.length cc, .pointer (some ⟨C.n, 0, none⟩), .pointer (some ⟨C.a, 0, none⟩)]).toArray 72) :: F) (fun u L => ∃ ra rc, u = .slice ra n rc ∧ Lands L (rowP 46 19 ra n rc ((toAll m n).flatMap MsgD.cells) :: pt C.p (.cells ([.int .i64 C.c.f, .int .i64 C.c.n, .int .i64 C.c.cl, .int .i64 C.c.ba, .int .i64 C.c.mo, .int .i64 C.c.bt, .int .i64 C.c.po, .int .i64 C.c.wi, .pointer (some ⟨C.k.p, 0, none⟩), .slice a C.Ks.length cc, .pointer (some ⟨C.n, 0, none⟩), .pointer (some ⟨C.a, 0, none⟩)]).toArray 72) :: F)) := by
  refine CallsK_enter (n := 23) Tryz.func93 rfl rfl rfl ?_
  iterate 2 refine Ws ?_
  refine Wb fun b3 => ?_
  iterate 20 refine Ws ?_
  refine SC_ind (X := Nat × Option Addr × Nat × Int) (fun x => x.1 ≤ n) (fun x => n - x.1) (fun x => [(3, .pointer (some ⟨b3, 0, none⟩)), (5, .slice x.2.1 x.1 x.2.2.1), (11, .int .i64 C.c.n), (12, .int .i64 (x.1 : Nat))]) (fun x => rowP 46 19 x.2.1 x.1 x.2.2.1 ((toAll m x.1).flatMap MsgD.cells) :: pt C.p (.cells ([.int .i64 C.c.f, .int .i64 C.c.n, .int .i64 C.c.cl, .int .i64 C.c.ba, .int .i64 C.c.mo, .int .i64 C.c.bt, .int .i64 C.c.po, .int .i64 C.c.wi, .pointer (some ⟨C.k.p, 0, none⟩), .slice a C.Ks.length cc, .pointer (some ⟨C.n, 0, none⟩), .pointer (some ⟨C.a, 0, none⟩)]).toArray 72) :: pt b3 (.cells (m.toI x.2.2.2).cells.toArray 46) :: F) ((0, none, 0, m.to_)) (Nat.zero_le _) (.cons rfl (.cons rfl (.cons rfl (.cons rfl (.nil))))) (by rw [show m.toI m.to_ = m from rfl, show toAll m 0 = [] from rfl, List.flatMap_nil]; exact (row_new 46 19 none).trans .fin) ?_
  intro ⟨i, oa, oc, tt⟩ hi ih
  dsimp only at hi ih ⊢
  iterate 6 refine Ws ?_
  refine SC_cond rfl (fun hc13 => ?_) (fun hc13 => ?_)
  · have hin : i < n := by have := of_decide_eq_true hc13; omega
    iterate 19 refine Ws ?_
    refine SR_rd (RD_loadA (vs := (m.toI (i : Int)).cells) Tryz.isAgg46 Tryz.sizeOf46 rfl rfl) Has.wh rfl ?_
    refine SR_ox (OX_lit Tryz.underlying76 Tryz.type46 rfl rfl rfl rfl (.cons rfl (.nil)) (.cons rfl rfl (.nil))) rfl ?_
    rintro _ _ ⟨b19, rfl, rfl⟩
    refine SR_ox (OX_app 19 Tryz.underlying76 Tryz.underlying76 Tryz.type46 rfl rfl rfl rfl rfl (by first | rfl | simp; done | (simp; omega)) 232 rfl (by omega) (by omega)) rfl ?_
    rintro _ _ ⟨a20, c20, rfl, rfl⟩
    iterate 8 refine Ws ?_
    refine SC_again (ih ((i + 1, a20, c20, (i : Int))) (by dsimp only; omega) (by dsimp only; omega)) (by dsimp only; rw [show toAll m (i + 1) = toAll m i ++ [m.toI (i : Int)] by unfold toAll; rw [List.range_succ, List.map_append]; rfl, List.flatMap_append, show [m.toI (i : Int)].flatMap MsgD.cells = (m.toI (i : Int)).cells ++ [] from rfl]; exact .fin) (.cons rfl (.cons rfl (.cons rfl (.cons' rfl (ie (by dsimp only; omega)) (.nil)))))
  · have hin : i = n := by have := of_decide_eq_false hc13; omega
    subst hin
    iterate 8 refine Ws ?_
    refine SC_ret1 rfl rfl ?_
    exact ⟨oa, oc, rfl, .fin⟩

theorem clu_submit {W : World} {F : List HProp} [Abs F] (C : CK) (hC : C.Ok) (x x' : CS) (cl nc fe : Int) (h : x.submit C.c cl nc fe = some x') (p : Option Addr) (pn pc : Nat) (pl bs : List UInt8) {cs0 : List Value} [HasRow F p cs0] (hp : cs0 = pl.map byteV) (hpn : pl.length = pn) (hpb : pn ≤ 1) (hbs : setL (List.replicate 56 (byteV 0)) 0 (pl.map byteV) = bs.map byteV) (hbl : bs.length = 56) (hbad : parseTx bs = none) :
    CallsK W Tryz.prog 68 #[.pointer (some ⟨C.p, 0, none⟩), .agg (actC 5 cl nc fe p pn pc).toArray] (At cluI C x :: F) (fun u L => u = .bool true ∧ Lands L (At cluI C x' :: F)) := by
  refine CallsK_enter (n := 44) Tryz.func68 rfl rfl rfl ?_
  unfold CS.submit at h
  obtain ⟨hc, h⟩ := chk_some h
  simp only [Bool.and_eq_true, decide_eq_true_eq] at hc
  obtain ⟨q1, q2, q3, q4, q5⟩ := hc
  obtain ⟨q6, q7, q8⟩ := CS.ok_1 q1
  have hCn := hC.n
  have u4 := u64B_ok q4
  have u5 := u64B_ok q5
  have hVl := (GS.ok_1 q6).2
  have hcls : (0 : Int) ≤ cl ∧ cl ≤ C.c.cl - 1 := by omega
  have heg : (x.env cl nc fe).Good := ⟨⟨by show _ ≤ cl; omega, by show cl ≤ _; omega⟩, ⟨by show _ ≤ ((x.g.V.length + 1 : Nat) : Int); omega, by show ((x.g.V.length + 1 : Nat) : Int) ≤ _; omega⟩, u4, u5⟩
  have hout : ∀ (A : Arc) (n : Nat), n ≤ 1000 → Out A (toAll (mEnv (-1) 0 (x.env cl nc fe)) n) ((List.range n).map fun (i : Nat) => PM.env (-1) (i : Int) (x.env cl nc fe)) := by
    intro A n
    induction n with
    | zero => exact fun _ => trivial
    | succ n ih =>
      intro hn9
      rw [show toAll (mEnv (-1) 0 (x.env cl nc fe)) (n + 1) = toAll (mEnv (-1) 0 (x.env cl nc fe)) n ++ [mEnv (-1) (n : Int) (x.env cl nc fe)] by unfold toAll; rw [List.range_succ, List.map_append]; rfl, List.range_succ, List.map_append]
      exact (ih (by omega)).app (Out.one ⟨.env (-1) (n : Int) (x.env cl nc fe), MArc.of (I64s (.of (by omega)) ⟨by omega, by omega⟩ ⟨by omega, by omega⟩ .zero .zero) RArc.zero ⟨.zero, .zero⟩ heg zB_row rfl (by decide) (fun x9 h9 => (nomatch h9))⟩)
  subst hp
  iterate 2 refine Ws ?_
  refine Wb fun b3 => ?_
  iterate 5 refine Ws ?_
  refine SC.opn (open_clu (C := C) (y := x)) fun ⟨a, cc, od, A, ds⟩ ⟨hd1, hd2, hod, hns⟩ => ?_
  dsimp only at hd1 hd2 hod hns ⊢
  have hol := hod.len
  refine Wd [.r 0, .r 1, .r 2, .r 3, .r 4, .r 5, .r 6, .r 7, .e 8, .r 9, .r 10, .r 11, .r 12, .r 13, .r 14, .r 15] ?_
  refine Wq ?_
  refine SQ_rd rfl (RD_load (v := .int .i64 cl) Tryz.isAgg3 rfl) (Has.ce rfl) rfl ?_
  iterate 6 refine Wq ?_
  refine SQ_call rfl Tryz.call46 (.cons rfl (.cons rfl (.cons rfl (.nil)))) (clu_within cl 0 _) (lts rfl) ?_
  rintro _ L1 ⟨rfl, hL1⟩
  refine ⟨.lands hL1 (.h (Has.ce rfl) (.w rfl (.nil))), ?_⟩
  refine SQ.lands hL1 ?_
  iterate 2 refine Wq ?_
  first
    | refine SQ_pyes rfl rfl rfl (by rw [decide_eq_true hcls]; rfl) (RD_fieldAddr 4 Tryz.runUnderlying48 rfl rfl Tryz.sizeOf36 rfl) rfl ?_
    | refine SQ_yes rfl rfl rfl (by rw [decide_eq_true hcls]; rfl) (RD_fieldAddrO 4 Tryz.runUnderlying48 rfl rfl Tryz.sizeOf36 rfl (by simp <;> omega)) Has.ro rfl ?_
  refine SQ_yes rfl rfl rfl (by rw [decide_eq_true hcls]; rfl) (RD_load (v := .slice p pn pc) Tryz.isAgg36 rfl) (Has.ce rfl) rfl ?_
  refine SQ_pyes rfl rfl rfl (by rw [decide_eq_true hcls]; rfl) (RD_len Tryz.runUnderlying36 rfl) rfl ?_
  refine SQ_pyes rfl rfl rfl (by rw [decide_eq_true hcls]; rfl) (RD_gtr rfl rfl) rfl ?_
  refine SQ_pu rfl (RD_pick_f rfl (by rw [decide_eq_true hcls]; rfl) rfl) rfl ?_
  iterate 2 refine Ws ?_
  refine SC_cond_false rfl (decide_eq_false (by omega)) ?_
  iterate 4 refine Ws ?_
  refine SR_ox (OX_mkS (z := 1) (m := 56) (v := byteV 0) Tryz.underlying36 Tryz.type5 rfl rfl rfl rfl rfl rfl 1 rfl (by omega) (by omega) (by omega)) rfl ?_
  rintro _ _ ⟨b22, rfl, rfl⟩
  iterate 7 refine Ws ?_
  refine SR_rd (RD_load (v := .slice p pn pc) Tryz.isAgg36 rfl) (Has.ce rfl) rfl ?_
  refine SR_ox (OX_copyPt (ds := pl.map byteV) (cs := List.replicate (56 * 1) (byteV 0)) Tryz.underlying36 Tryz.type5 rfl rfl rfl (by simp [hpn]) (by omega) (by simp) (fun v hv => by obtain ⟨b9, _, rfl⟩ := List.mem_map.1 hv; rfl) Has.ro) rfl ?_
  rintro _ _ ⟨rfl, rfl⟩
  iterate 3 refine Ws ?_
  refine Wd [.r 0, .r 1, .r 2, .r 3, .r 4, .r 5, .r 6, .r 7, .r 8, .r 9, .r 10, .r 11, .r 12, .e 13, .r 14, .e 15, .e 16] ?_
  iterate 7 refine Wq ?_
  refine SQ_rd rfl (RD_load (v := .int .i64 cl) Tryz.isAgg3 rfl) (Has.ce rfl) rfl ?_
  refine Wq ?_
  refine SQ_rd rfl (RD_load (v := .int .u64 nc) Tryz.isAgg35 rfl) (Has.ce rfl) rfl ?_
  refine Wq ?_
  refine SQ_rd rfl (RD_load (v := .int .u64 fe) Tryz.isAgg35 rfl) (Has.ce rfl) rfl ?_
  refine Wq ?_
  refine SQ_call rfl Tryz.call94 (.cons rfl (.cons rfl (.cons rfl (.cons rfl (.cons rfl (.nil)))))) (CallsK.at (wn_EMake C.k x.g cl nc fe q6 (by omega) u4 u5 _ 56 56 bs hbs hbl hbl hbad)) (lts rfl) ?_
  rintro _ L2 ⟨rfl, hL2⟩
  refine ⟨.lands hL2 (.w rfl (.w rfl (.w rfl (.w rfl (.nil))))), ?_⟩
  refine SQ.lands hL2 ?_
  refine SQ_pu rfl (RD_build (.cons rfl (.cons rfl (.cons rfl (.nil)))) built46_0_1_7) rfl ?_
  refine SQ_call rfl Tryz.call93 (.cons rfl (.cons rfl (.nil))) (CallsK.atPt (clu_all C a cc (mEnv (-1) 0 (x.env cl nc fe)) C.c.n.toNat (by omega) (by omega))) (lts rfl) ?_
  rintro _ L3 ⟨ra, rc, rfl, hL3⟩
  refine ⟨.lands hL3 (.h (Has.ce rfl) (.h (Has.ce rfl) (.h (Has.ce rfl) (.h (Has.ce rfl) (.nil))))), ?_⟩
  refine SQ.lands hL3 ?_
  refine SQ_call rfl Tryz.call30 (.cons rfl (.cons rfl (.nil))) (CallsK.atP3 (clu_send C a cc od C.k.p x.sb A ra C.c.n.toNat rc (toAll (mEnv (-1) 0 (x.env cl nc fe)) C.c.n.toNat) ((List.range C.c.n.toNat).map fun (i : Nat) => PM.env (-1) (i : Int) (x.env cl nc fe)) rfl (by simp [toAll]) (by omega) (hout A _ (by omega)) (by omega) (by omega))) (lts rfl) ?_
  rintro _ L4 ⟨l2, A6, gA6, ho6, hL4⟩
  refine ⟨.lands hL4 (.h (Has.ce rfl) (.h (Has.ce rfl) (.h (Has.ce rfl) (.h (Has.ce rfl) (.nil))))), ?_⟩
  refine SQ.lands hL4 ?_
  iterate 7 refine Ws ?_
  refine SC_ret1 rfl rfl ?_
  rw [← Option.some.inj h]
  exact ⟨rfl, (close_clu C (⟨⟨putC x.g.N (envC (x.env cl nc fe)), addTo x.g.S (1000 + cl) (dnumC (putC x.g.N (envC (x.env cl nc fe))) (envC (x.env cl nc fe)) : Nat), x.g.V ++ [(cl, [])]⟩, x.ns, x.net ++ ((List.range C.c.n.toNat).map fun (i : Nat) => PM.env (-1) (i : Int) (x.env cl nc fe)), x.sb + C.c.n.toNat⟩ : CS) hd1 hd2 ((hod.le gA6).app ho6) hns).trans .fin⟩

end Go.Proofs.YtdhpjdhloaoepaaGreat

/- A cluster walked: steps and rounds. -/
namespace Go.Proofs.YtdhpjdhloaoepaaGreat
open Go Go.Proofs
attribute [local irreducible] SC SN SR SQ SA SO
set_option maxRecDepth 100000

theorem clu_act1 {W : World} {F : List HProp} [Abs F] (C : CK) (hC : C.Ok) (x x' : CS) (h : x.deliver C.c = some x') :
    CallsK W Tryz.prog 34 #[.pointer (some ⟨C.p, 0, none⟩), .agg (actC 1 0 0 0 none 0 0).toArray] (At cluI C x :: F) (fun u L => u = .bool true ∧ Lands L (At cluI C x' :: F)) := by
  refine CallsK_enter (n := 45) Tryz.func34 rfl rfl rfl ?_
  iterate 2 refine Ws ?_
  refine Wb fun b3 => ?_
  iterate 7 refine Ws ?_
  refine SR_rd (RD_load (v := .int .i64 1) Tryz.isAgg3 rfl) (Has.ce rfl) rfl ?_
  iterate 9 refine Ws ?_
  refine SC_cond_true rfl (rfl) ?_
  iterate 4 refine Ws ?_
  refine SR_rd (RD_load (v := .int .i64 0) Tryz.isAgg3 rfl) (Has.ce rfl) rfl ?_
  refine Wc (CallsK.at (clu_deliver C hC x x' h)) ?_
  iterate 3 refine Ws ?_
  refine SC_ret1 rfl rfl ?_
  exact ⟨rfl, .fin⟩

theorem clu_act4 {W : World} {F : List HProp} [Abs F] (C : CK) (hC : C.Ok) (x x' : CS) (i : Nat) (h : x.tick C.c i = some x') :
    CallsK W Tryz.prog 34 #[.pointer (some ⟨C.p, 0, none⟩), .agg (actC 4 (i : Nat) 0 0 none 0 0).toArray] (At cluI C x :: F) (fun u L => u = .bool true ∧ Lands L (At cluI C x' :: F)) := by
  refine CallsK_enter (n := 45) Tryz.func34 rfl rfl rfl ?_
  iterate 2 refine Ws ?_
  refine Wb fun b3 => ?_
  iterate 7 refine Ws ?_
  refine SR_rd (RD_load (v := .int .i64 4) Tryz.isAgg3 rfl) (Has.ce rfl) rfl ?_
  iterate 9 refine Ws ?_
  refine SC_cond_false rfl (rfl) ?_
  iterate 6 refine Ws ?_
  refine SC_cond_false rfl (rfl) ?_
  iterate 6 refine Ws ?_
  refine SC_cond_false rfl (rfl) ?_
  iterate 6 refine Ws ?_
  refine SC_cond_true rfl (rfl) ?_
  iterate 4 refine Ws ?_
  refine SR_rd (RD_load (v := .int .i64 (i : Nat)) Tryz.isAgg3 rfl) (Has.ce rfl) rfl ?_
  refine Wc (CallsK.at (clu_tick C hC x x' i h)) ?_
  iterate 3 refine Ws ?_
  refine SC_ret1 rfl rfl ?_
  exact ⟨rfl, .fin⟩

theorem clu_act5 {W : World} {F : List HProp} [Abs F] (C : CK) (hC : C.Ok) (x x' : CS) (cl nc fe : Int) (h : x.submit C.c cl nc fe = some x') (p : Option Addr) (pn pc : Nat) (pl bs : List UInt8) {cs0 : List Value} [HasRow F p cs0] (hp : cs0 = pl.map byteV) (hpn : pl.length = pn) (hpb : pn ≤ 1) (hbs : setL (List.replicate 56 (byteV 0)) 0 (pl.map byteV) = bs.map byteV) (hbl : bs.length = 56) (hbad : parseTx bs = none) :
    CallsK W Tryz.prog 34 #[.pointer (some ⟨C.p, 0, none⟩), .agg (actC 5 cl nc fe p pn pc).toArray] (At cluI C x :: F) (fun u L => u = .bool true ∧ Lands L (At cluI C x' :: F)) := by
  refine CallsK_enter (n := 45) Tryz.func34 rfl rfl rfl ?_
  iterate 2 refine Ws ?_
  refine Wb fun b3 => ?_
  iterate 7 refine Ws ?_
  refine SR_rd (RD_load (v := .int .i64 5) Tryz.isAgg3 rfl) (Has.ce rfl) rfl ?_
  iterate 9 refine Ws ?_
  refine SC_cond_false rfl (rfl) ?_
  iterate 6 refine Ws ?_
  refine SC_cond_false rfl (rfl) ?_
  iterate 6 refine Ws ?_
  refine SC_cond_false rfl (rfl) ?_
  iterate 6 refine Ws ?_
  refine SC_cond_false rfl (rfl) ?_
  iterate 6 refine Ws ?_
  refine SC_cond_true rfl (rfl) ?_
  iterate 3 refine Ws ?_
  refine SR_rd (RD_loadA (vs := (actC 5 cl nc fe p pn pc)) Tryz.isAgg48 Tryz.sizeOf48 rfl rfl) Has.wh rfl ?_
  refine Wc (CallsK.at (clu_submit C hC x x' cl nc fe h p pn pc pl bs hp hpn hpb hbs hbl hbad)) ?_
  iterate 3 refine Ws ?_
  refine SC_ret1 rfl rfl ?_
  exact ⟨rfl, .fin⟩

theorem clu_Step {W : World} {F : List HProp} [Abs F] (C : CK) (x y : CS) (hy : y.ok = true) (kd a no fe : Int) (p : Option Addr) (pn pc : Nat) (hA : ∀ b : Nat, CallsK W Tryz.prog 34 #[.pointer (some ⟨C.p, 0, none⟩), .agg (actC kd a no fe p pn pc).toArray] (At cluI C x :: pt b (.cells (actC kd a no fe p pn pc).toArray 48) :: F) (fun u L => u = .bool true ∧ Lands L (At cluI C y :: pt b (.cells (actC kd a no fe p pn pc).toArray 48) :: F))) :
    CallsK W Tryz.prog 11 #[.pointer (some ⟨C.p, 0, none⟩), .agg (actC kd a no fe p pn pc).toArray] (At cluI C x :: F) (fun u L => u = .bool true ∧ Lands L (At cluI C y.seen :: F)) := by
  refine CallsK_enter (n := 16) Tryz.func11 rfl rfl rfl ?_
  obtain ⟨q1, q2, q3⟩ := CS.ok_1 hy
  have hVl := (GS.ok_1 q1).2
  iterate 2 refine Ws ?_
  refine Wb fun b3 => ?_
  iterate 6 refine Ws ?_
  refine SR_rd (RD_loadA (vs := (actC kd a no fe p pn pc)) Tryz.isAgg48 Tryz.sizeOf48 rfl rfl) Has.wh rfl ?_
  refine Wc (CallsK.at (hA b3)) ?_
  iterate 9 refine Ws ?_
  refine SC_cond_true rfl (rfl) ?_
  refine SC.opn (open_clu (C := C) (y := y)) fun ⟨a, cc, od, A, ds⟩ ⟨hd1, hd2, hod, hns⟩ => ?_
  dsimp only at hd1 hd2 hod hns ⊢
  iterate 5 refine Ws ?_
  refine We (CallsK.at2 (aw_Open C.a ⟨C.k.p, y.sb⟩ C.k y.g rfl hVl (by show y.sb ≤ _; omega))) ?_
  rintro _ L2 hL2
  refine SR.lands hL2 ?_
  iterate 8 refine Ws ?_
  refine SC_ret1 rfl rfl ?_
  exact ⟨rfl, (close_clu C y.seen hd1 hd2 hod hns).trans .fin⟩

theorem clu_Round {W : World} {F : List HProp} [Abs F] (C : CK) (hC : C.Ok) (x x' : CS) (h : x.round C.c = some x') :
    CallsK W Tryz.prog 12 #[.pointer (some ⟨C.p, 0, none⟩)] (At cluI C x :: F) (fun _ L => Lands L (At cluI C x' :: F)) := by
  refine CallsK_enter (n := 27) Tryz.func12 rfl rfl rfl ?_
  unfold CS.round at h
  obtain ⟨hok, h⟩ := chk_some h
  have hnl := (CS.ok_1 hok).2.1
  obtain ⟨x1, h1, h2⟩ := obind_some h
  obtain ⟨n0, hn0⟩ : ∃ n0, n0 = x.net.length := ⟨_, rfl⟩
  rw [← hn0] at h1
  have hCn := hC.n
  have hCl := hC.len
  iterate 2 refine Ws ?_
  refine SC.opn (open_clu (C := C) (y := x)) fun ⟨a, cc, od, A, ds⟩ ⟨hd1, hd2, hod, hns⟩ => ?_
  dsimp only at hd1 hd2 hod hns ⊢
  have hol := hod.len
  iterate 5 refine Ws ?_
  refine We (CallsK.at (net_Len C.n od)) ?_
  rintro _ L1 ⟨rfl, hL1⟩
  rw [hol, ← hn0]
  refine SR.lands hL1 ?_
  iterate 4 refine Ws ?_
  refine SC_ind (X := Nat × CS) (fun x_ => x_.1 ≤ n0 ∧ CS.delivers C.c (n0 - x_.1) x_.2 = some x1) (fun x_ => n0 - x_.1) (fun x_ => [(0, .pointer (some ⟨C.p, 0, none⟩)), (7, .int .i64 (n0 : Nat)), (8, .int .i64 (x_.1 : Nat))]) (fun x_ => At cluI C x_.2 :: F) ((0, x)) (⟨Nat.zero_le _, by rw [Nat.sub_zero]; exact h1⟩) (.cons rfl (.cons rfl (.cons rfl (.nil)))) ((close_clu C x hd1 hd2 hod hns).trans .fin) ?_
  intro ⟨i, y⟩ hi ih0
  obtain ⟨hi1, hi2⟩ := hi
  dsimp only at hi1 hi2 ih0 ⊢
  iterate 6 refine Ws ?_
  refine SC_cond rfl (fun hc9 => ?_) (fun hc9 => ?_)
  · have hin : i < n0 := by have := of_decide_eq_true hc9; omega
    obtain ⟨k, hk⟩ : ∃ k, n0 - i = k + 1 := ⟨n0 - i - 1, by omega⟩
    rw [hk] at hi2
    obtain ⟨z, hz1, hz2⟩ := obind_some hi2
    obtain ⟨hz3, hz2⟩ := chk_some hz2
    iterate 6 refine Ws ?_
    refine SR_pu (RD_build (.cons rfl (.nil)) built48_0) rfl ?_
    refine Wc (CallsK.at (clu_Step C y z hz3 1 0 0 0 none 0 0 (fun b => clu_act1 C hC y z hz1))) ?_
    iterate 7 refine Ws ?_
    refine SC_again (ih0 ((i + 1, z.seen)) (⟨by dsimp only; omega, by dsimp only; rw [show n0 - (i + 1) = k by omega]; exact hz2⟩) (by dsimp only; omega)) (.fin) (.cons rfl (.cons rfl (.cons' rfl (ie (by dsimp only; omega)) (.nil))))
  · have hin : i = n0 := by have := of_decide_eq_false hc9; omega
    subst hin
    rw [Nat.sub_self] at hi2
    cases hi2
    iterate 3 refine Ws ?_
    refine SC.opn (open_clu (C := C) (y := x1)) fun ⟨a, cc, od, A, ds⟩ ⟨hd1, hd2, hod, hns⟩ => ?_
    dsimp only at hd1 hd2 hod hns ⊢
    have hln : C.Ks.length = x1.ns.length := by rw [← hd1, ← hd2, List.length_map, List.length_map]
    iterate 10 refine Ws ?_
    refine SC_ind (X := Nat × CS) (fun x_ => x_.1 ≤ C.Ks.length ∧ CS.ticks C.c (C.Ks.length - x_.1) x_.1 x_.2 = some x') (fun x_ => C.Ks.length - x_.1) (fun x_ => [(0, .pointer (some ⟨C.p, 0, none⟩)), (18, .int .i64 (C.Ks.length : Nat)), (19, .int .i64 (x_.1 : Nat))]) (fun x_ => At cluI C x_.2 :: F) ((0, x1)) (⟨Nat.zero_le _, by rw [Nat.sub_zero, hln]; exact h2⟩) (.cons rfl (.cons rfl (.cons rfl (.nil)))) ((close_clu C x1 hd1 hd2 hod hns).trans .fin) ?_
    intro ⟨j, y⟩ hi ih1
    obtain ⟨hj1, hj2⟩ := hi
    dsimp only at hj1 hj2 ih1 ⊢
    iterate 6 refine Ws ?_
    refine SC_cond rfl (fun hc20 => ?_) (fun hc20 => ?_)
    · have hin : j < C.Ks.length := by have := of_decide_eq_true hc20; omega
      obtain ⟨k, hk⟩ : ∃ k, C.Ks.length - j = k + 1 := ⟨C.Ks.length - j - 1, by omega⟩
      rw [hk] at hj2
      obtain ⟨z, hz1, hz2⟩ := obind_some hj2
      obtain ⟨hz3, hz2⟩ := chk_some hz2
      iterate 13 refine Ws ?_
      refine SR_pu (RD_build (.cons rfl (.cons rfl (.nil))) built48_0_1) rfl ?_
      refine Wc (CallsK.at (clu_Step C y z hz3 4 (j : Nat) 0 0 none 0 0 (fun b => clu_act4 C hC y z j hz1))) ?_
      iterate 7 refine Ws ?_
      refine SC_again (ih1 ((j + 1, z.seen)) (⟨by dsimp only; omega, by dsimp only; rw [show C.Ks.length - (j + 1) = k by omega]; exact hz2⟩) (by dsimp only; omega)) (.fin) (.cons rfl (.cons rfl (.cons' rfl (ie (by dsimp only; omega)) (.nil))))
    · have hin : j = C.Ks.length := by have := of_decide_eq_false hc20; omega
      subst hin
      rw [Nat.sub_self] at hj2
      cases hj2
      refine Ws ?_
      refine SN_stop0 rfl ?_
      exact .fin

end Go.Proofs.YtdhpjdhloaoepaaGreat

/- A cluster begins. -/
namespace Go.Proofs.YtdhpjdhloaoepaaGreat
open Go Go.Proofs
attribute [local irreducible] SC SN SR SQ SA SO
set_option maxRecDepth 100000
theorem bigV_new {R : List HProp} : Lands R (bigV [] :: R) := fun m H => bigV_flat.2 H
theorem wn_New {W : World} {F : List HProp} [Abs F] (f : Int) (hf : vneed f = 2) : CallsK W Tryz.prog 25 #[.int .i64 f] F (fun u L => ∃ k : WK, u = .pointer (some ⟨k.p, 0, none⟩) ∧ Lands L (At wnI k ⟨[], [], []⟩ :: F)) :=
  CallsK.imp (enve_New f) fun u L ⟨k, hu, hL⟩ => ⟨k, hu, by
    rw [hf] at hL
    refine hL.trans ?_
    refine (row_new 98 3 none).trans ?_
    refine (bigV_new).trans ?_
    refine (close_vlt k.v ⟨2, []⟩ (a := none) (c := 0) (ds := []) rfl).trans ?_
    exact (close_wn k ⟨[], [], []⟩ (l := []) (v := ⟨2, []⟩) rfl rfl rfl (fun c h => (nomatch h))).trans .fin⟩
structure CfgD.May (c : CfgD) : Prop where
  f : 0 ≤ c.f ∧ c.f ≤ 3
  n : c.n = 3 * c.f + 1
  cl : 1 ≤ c.cl ∧ c.cl ≤ 100
  ba : 10 ≤ c.ba ∧ c.ba ≤ 50
  mo : c.ba ≤ c.mo ∧ c.mo ≤ 100
  bt : 1 ≤ c.bt ∧ c.bt ≤ 20
  po : 1 ≤ c.po ∧ c.po ≤ 100
  wi : 1 ≤ c.wi ∧ c.wi ≤ 100
theorem CfgD.May.fit {c : CfgD} (h : c.May) : c.Fit := ⟨by have := h.ba; omega, by have := h.ba; have := h.mo; omega, by have := h.cl; omega⟩
theorem news_N (c : CfgD) : ∀ n, (CS.news c n).g.N.length ≤ n ∧ (CS.news c n).g.S = [] ∧ (CS.news c n).g.V = [] ∧ (CS.news c n).net = [] ∧ (CS.news c n).sb = 0 ∧ (CS.news c n).ns.length = n ∧ ∀ s ∈ (CS.news c n).ns, s.out = []
  | 0 => ⟨Nat.le_refl _, rfl, rfl, rfl, rfl, rfl, fun s h => (nomatch h)⟩
  | n + 1 => by
    obtain ⟨h1, h2, h3, h4, h5, h6, h7⟩ := news_N c n
    refine ⟨?_, rfl, rfl, rfl, rfl, ?_, fun s hs => ?_⟩
    · show (putC _ _).length ≤ _
      unfold putC
      cases memC (CS.news c n).g.N rootC <;> simp <;> omega
    · show ((CS.news c n).ns ++ [_]).length = _
      rw [List.length_append, h6]; rfl
    · rcases List.mem_append.1 hs with e | e
      · exact h7 s e
      · simp at e; subst e; rfl

theorem clu_ok {W : World} {F : List HProp} [Abs F] (c : CfgD) (h : c.May) :
    CallsK W Tryz.prog 24 #[c.val] (F) (fun u L => u = .bool true ∧ Lands L F) := by
  refine CallsK_enter (n := 47) Tryz.func24 rfl rfl rfl ?_
  obtain ⟨h1, h2, h3, h4, h5, h6, h7, h8⟩ := h
  iterate 2 refine Ws ?_
  refine Wb fun b1 => ?_
  iterate 6 refine Ws ?_
  refine SR_rd (RD_load (v := .int .i64 c.f) Tryz.isAgg3 rfl) (Has.ce rfl) rfl ?_
  refine Wc (clu_within _ _ _) ?_
  refine Ws ?_
  refine SR_yes rfl rfl (decide_eq_true h1) ?_
  refine Ws ?_
  refine SR_yes rfl rfl (decide_eq_true h1) ?_
  refine SR_rd (RD_load (v := .int .i64 c.n) Tryz.isAgg3 rfl) (Has.ce rfl) rfl ?_
  refine SR_yes rfl rfl (decide_eq_true h1) ?_
  refine Ws ?_
  refine SR_yes rfl rfl (decide_eq_true h1) ?_
  refine SR_rd (RD_load (v := .int .i64 c.f) Tryz.isAgg3 rfl) (Has.ce rfl) rfl ?_
  refine SR_yes rfl rfl (decide_eq_true h1) ?_
  refine Ws ?_
  refine SR_yes rfl rfl (decide_eq_true h1) ?_
  refine Ws ?_
  refine SR_yes rfl rfl (decide_eq_true h1) ?_
  refine Ws ?_
  refine SR_pu (RD_pick_t rfl (decide_eq_true h1) rfl) rfl ?_
  refine Ws ?_
  refine SR_yes rfl rfl (decide_eq_true h2) ?_
  refine Ws ?_
  refine SR_yes rfl rfl (decide_eq_true h2) ?_
  refine SR_rd (RD_load (v := .int .i64 c.cl) Tryz.isAgg3 rfl) (Has.ce rfl) rfl ?_
  refine SR_yes rfl rfl (decide_eq_true h2) ?_
  refine Wc (clu_within _ _ _) ?_
  refine SR_pu (RD_pick_t rfl (decide_eq_true h2) rfl) rfl ?_
  refine Ws ?_
  refine SR_yes rfl rfl (decide_eq_true h3) ?_
  refine Ws ?_
  refine SR_yes rfl rfl (decide_eq_true h3) ?_
  refine SR_rd (RD_load (v := .int .i64 c.ba) Tryz.isAgg3 rfl) (Has.ce rfl) rfl ?_
  refine SR_yes rfl rfl (decide_eq_true h3) ?_
  refine Wc (clu_within _ _ _) ?_
  refine SR_pu (RD_pick_t rfl (decide_eq_true h3) rfl) rfl ?_
  refine Ws ?_
  refine SR_yes rfl rfl (decide_eq_true h4) ?_
  refine Ws ?_
  refine SR_yes rfl rfl (decide_eq_true h4) ?_
  refine SR_rd (RD_load (v := .int .i64 c.mo) Tryz.isAgg3 rfl) (Has.ce rfl) rfl ?_
  refine SR_yes rfl rfl (decide_eq_true h4) ?_
  refine Ws ?_
  refine SR_yes rfl rfl (decide_eq_true h4) ?_
  refine SR_rd (RD_load (v := .int .i64 c.ba) Tryz.isAgg3 rfl) (Has.ce rfl) rfl ?_
  refine SR_yes rfl rfl (decide_eq_true h4) ?_
  refine Wc (clu_within _ _ _) ?_
  refine SR_pu (RD_pick_t rfl (decide_eq_true h4) rfl) rfl ?_
  refine Ws ?_
  refine SR_yes rfl rfl (decide_eq_true h5) ?_
  refine Ws ?_
  refine SR_yes rfl rfl (decide_eq_true h5) ?_
  refine SR_rd (RD_load (v := .int .i64 c.bt) Tryz.isAgg3 rfl) (Has.ce rfl) rfl ?_
  refine SR_yes rfl rfl (decide_eq_true h5) ?_
  refine Wc (clu_within _ _ _) ?_
  refine SR_pu (RD_pick_t rfl (decide_eq_true h5) rfl) rfl ?_
  refine Ws ?_
  refine SR_yes rfl rfl (decide_eq_true h6) ?_
  refine Ws ?_
  refine SR_yes rfl rfl (decide_eq_true h6) ?_
  refine SR_rd (RD_load (v := .int .i64 c.po) Tryz.isAgg3 rfl) (Has.ce rfl) rfl ?_
  refine SR_yes rfl rfl (decide_eq_true h6) ?_
  refine Wc (clu_within _ _ _) ?_
  refine SR_pu (RD_pick_t rfl (decide_eq_true h6) rfl) rfl ?_
  refine Ws ?_
  refine SR_yes rfl rfl (decide_eq_true h7) ?_
  refine Ws ?_
  refine SR_yes rfl rfl (decide_eq_true h7) ?_
  refine SR_rd (RD_load (v := .int .i64 c.wi) Tryz.isAgg3 rfl) (Has.ce rfl) rfl ?_
  refine SR_yes rfl rfl (decide_eq_true h7) ?_
  refine Wc (clu_within _ _ _) ?_
  refine SR_pu (RD_pick_t rfl (decide_eq_true h7) rfl) rfl ?_
  iterate 3 refine Ws ?_
  refine SC_ret1 rfl rfl ?_
  exact ⟨by rw [decide_eq_true h8], .fin⟩

theorem clu_New {W : World} {F : List HProp} [Abs F] (c : CfgD) (hm : c.May) (hv : vneed c.f = 2) (x' : CS) (h : CS.new c = some x') :
    CallsK W Tryz.prog 7 #[c.val, .slice none 0 0] (F) (fun u L => ∃ C : CK, u = .tuple #[.pointer (some ⟨C.p, 0, none⟩), .int .i64 0] ∧ C.c = c ∧ C.Ok ∧ Lands L (At cluI C x' :: F)) := by
  refine CallsK_enter (n := 71) Tryz.func7 rfl rfl rfl ?_
  obtain ⟨m1, m2, m3, m4, m5, m6, m7, m8⟩ := id hm
  obtain ⟨n, hn⟩ : ∃ n : Nat, n = c.n.toNat := ⟨_, rfl⟩
  have hcn : c.n = (n : Nat) := by omega
  unfold CS.new at h
  rw [← hn] at h
  iterate 2 refine Ws ?_
  refine Wb fun b2 => ?_
  iterate 7 refine Ws ?_
  refine SR_rd (RD_loadA (vs := c.cells) Tryz.isAgg23 Tryz.sizeOf23 rfl rfl) Has.wh rfl ?_
  refine Wc (clu_ok c hm) ?_
  iterate 3 refine Ws ?_
  refine SC_cond_false rfl (rfl) ?_
  iterate 5 refine Ws ?_
  refine SR_rd (RD_load (v := .int .i64 c.f) Tryz.isAgg3 rfl) (Has.ce rfl) rfl ?_
  refine We (wn_New c.f hv) ?_
  rintro _ L2 ⟨k, rfl, hL2⟩
  refine SR.lands hL2 ?_
  iterate 4 refine Ws ?_
  refine Wd [.r 0, .r 1, .r 3, .r 4, .r 5, .e 2, .e 6, .r 7, .e 8, .r 9] ?_
  refine SQ_rd rfl (RD_loadA (vs := c.cells) Tryz.isAgg23 Tryz.sizeOf23 rfl rfl) Has.wh rfl ?_
  iterate 2 refine Wq ?_
  refine SQ_rd rfl (RD_loadA (vs := c.cells) Tryz.isAgg23 Tryz.sizeOf23 rfl rfl) Has.wh rfl ?_
  refine Wq ?_
  refine SQ_call rfl Tryz.call26 (.nil) (net_New) (lts rfl) ?_
  rintro _ L3 ⟨pn, rfl, hL3⟩
  refine ⟨.lands hL3 (.h Has.wh (.h Has.wh (.nil))), ?_⟩
  refine SQ.lands hL3 ?_
  refine SQ_call rfl Tryz.call27 (.cons rfl (.cons rfl (.cons rfl (.nil)))) (aw_New k.p c) (lts rfl) ?_
  rintro _ L4 ⟨pa, rfl, hL4⟩
  refine ⟨.lands hL4 (.w rfl (.h Has.wh (.nil))), ?_⟩
  refine SQ.lands hL4 ?_
  refine SQ_pu rfl (RD_build (.cons rfl (.cons rfl (.cons rfl (.cons rfl (.nil))))) built72_0_1_3_4) rfl ?_
  refine SQ_ox rfl (OX_box rfl rfl) rfl ?_
  rintro _ _ ⟨b26, rfl, rfl⟩
  refine ⟨.h Has.wh (.h Has.wh (.nil)), ?_⟩
  refine Wq ?_
  iterate 6 refine Ws ?_
  refine SR_rd (RD_load (v := .int .i64 c.n) Tryz.isAgg3 rfl) (Has.ce rfl) rfl ?_
  iterate 4 refine Ws ?_
  refine SC_ind (X := Nat × Option Addr × Nat × List (NK × NS)) (fun x => (x.1 ≤ n ∧ x.2.2.2.length = x.1 ∧ x.2.2.2.map Prod.snd = (CS.news c x.1).ns ∧ (∀ (j : Nat) (K : NK), (x.2.2.2.map Prod.fst)[j]? = some K → K.k = k ∧ K.c = c ∧ K.me = (j : Nat) ∧ K.rv.w = k.p))) (fun x => n - x.1) (fun x => [(2, .pointer (some ⟨b2, 0, none⟩)), (6, .pointer (some ⟨k.p, 0, none⟩)), (7, .pointer (some ⟨b26, 0, none⟩)), (28, .int .i64 c.n), (29, .int .i64 (x.1 : Nat))]) (fun x => pt b26 (.cells [.int .i64 c.f, .int .i64 c.n, .int .i64 c.cl, .int .i64 c.ba, .int .i64 c.mo, .int .i64 c.bt, .int .i64 c.po, .int .i64 c.wi, .pointer (some ⟨k.p, 0, none⟩), .slice x.2.1 x.1 x.2.2.1, .pointer (some ⟨pn, 0, none⟩), .pointer (some ⟨pa, 0, none⟩)].toArray 72) :: rowP 49 1 x.2.1 x.1 x.2.2.1 (x.2.2.2.map fun d : NK × NS => d.1.ptr) :: At wnI k (CS.news c x.1).g :: At netI pn [] :: At awI pa ⟨k.p, 0⟩ :: bigN x.2.2.2 :: pt b2 (.cells c.cells.toArray 23) :: F) ((0, none, 0, [])) (⟨Nat.zero_le _, rfl, rfl, fun j K h => by simp at h⟩) (.cons rfl (.cons rfl (.cons rfl (.cons rfl (.cons rfl (.nil)))))) (by simp only [List.map_nil]; rw [show (CS.news c 0).g = (⟨[], [], []⟩ : GS) from rfl]; exact (row_new 49 1 none).trans (bigN_new.trans .fin)) ?_
  intro ⟨i, oa, oc, ds⟩ hi ih0
  obtain ⟨hi1, hi2, hi3, hi4⟩ := hi
  dsimp only at hi1 hi2 hi3 hi4 ih0 ⊢
  iterate 6 refine Ws ?_
  refine SC_cond rfl (fun hc30 => ?_) (fun hc30 => ?_)
  · have hin : i < n := by have := of_decide_eq_true hc30; omega
    obtain ⟨n1, n2, n3, n4, n5, n6, n7⟩ := news_N c i
    iterate 23 refine Ws ?_
    refine Wc (CallsK.at (aw_Bad pa ⟨k.p, 0⟩ _)) ?_
    iterate 3 refine Ws ?_
    refine SC_cond_true rfl (rfl) ?_
    iterate 2 refine Ws ?_
    refine SR_rd (RD_loadA (vs := c.cells) Tryz.isAgg23 Tryz.sizeOf23 rfl rfl) Has.wh rfl ?_
    refine Ws ?_
    refine We (CallsK.at (node_New k (CS.news c i).g c _ (by omega) hm.fit)) ?_
    rintro _ L6 ⟨K, rfl, hk1, hk2, hk3, hk4, hL6⟩
    refine SR.lands hL6 ?_
    iterate 10 refine Ws ?_
    refine SR_ox (OX_lit1 Tryz.underlying62 Tryz.type49 rfl rfl rfl rfl (.cons rfl (.nil)) (.cons rfl (.nil))) rfl ?_
    rintro _ _ ⟨b49, rfl, rfl⟩
    refine SR_ox (OX_app 1 Tryz.underlying62 Tryz.underlying62 Tryz.type49 rfl rfl rfl rfl rfl (by first | rfl | simp; done | (simp; omega)) 8 rfl (by omega) (by omega)) rfl ?_
    rintro _ _ ⟨a50, c50, rfl, rfl⟩
    iterate 10 refine Ws ?_
    have hnk : ∀ (j : Nat) (K9 : NK), ((ds ++ [(K, ns0 c ((dnumC (putC (CS.news c i).g.N rootC) rootC : Nat) : Int))]).map Prod.fst)[j]? = some K9 → K9.k = k ∧ K9.c = c ∧ K9.me = (j : Nat) ∧ K9.rv.w = k.p := fun j K9 h9 => by
      rw [List.map_append, List.getElem?_append] at h9
      split at h9
      · exact hi4 j K9 h9
      · rename_i hj9
        rw [List.length_map] at hj9 h9
        have hj8 : j - ds.length = 0 := by have h7 := (List.getElem?_eq_some_iff.1 h9).1; simp at h7; omega
        rw [hj8] at h9
        cases h9
        exact ⟨hk1, hk2, by rw [hk3]; omega, hk4⟩
    refine SC_again (ih0 ((i + 1, a50, c50, ds ++ [(K, ns0 c ((dnumC (putC (CS.news c i).g.N rootC) rootC : Nat) : Int))])) (⟨by dsimp only; omega, by dsimp only; rw [List.length_append, hi2]; rfl, by dsimp only; rw [List.map_append, hi3]; rfl, hnk⟩) (by dsimp only; omega)) (by dsimp only; rw [show (CS.news c (i + 1)).g = ⟨putC (CS.news c i).g.N rootC, [], []⟩ from rfl, show (ds ++ [(K, ns0 c ((dnumC (putC (CS.news c i).g.N rootC) rootC : Nat) : Int))]).map (fun d : NK × NS => d.1.ptr) = (ds.map fun d : NK × NS => d.1.ptr) ++ [.pointer (some ⟨K.p, 0, none⟩)] from List.map_append]; rw [n2, n3]; exact (bigN_add (ds := ds) K (ns0 c ((dnumC (putC (CS.news c i).g.N rootC) rootC : Nat) : Int))).trans .fin) (.cons rfl (.cons rfl (.cons rfl (.cons rfl (.cons' rfl (ie (by dsimp only; omega)) (.nil))))))
  · have hin : i = n := by have := of_decide_eq_false hc30; omega
    subst hin
    obtain ⟨n1, n2, n3, n4, n5, n6, n7⟩ := news_N c i
    obtain ⟨C, hCe⟩ : ∃ C : CK, C = (⟨b26, k, pn, pa, c, ds.map Prod.fst⟩ : CK) := ⟨_, rfl⟩
    have hC : C.Ok := by rw [hCe]; exact ⟨by show 1 ≤ c.n ∧ c.n ≤ 16; omega, by show 0 ≤ c.f ∧ c.f ≤ 5; omega, by show 0 ≤ c.bt ∧ c.bt ≤ 100; omega, by show 0 ≤ c.wi ∧ c.wi ≤ 100; omega, by show (ds.map Prod.fst).length = c.n.toNat; rw [List.length_map]; omega, hi4⟩
    iterate 4 refine Ws ?_
    have hKs : ds.map Prod.fst = C.Ks := by rw [hCe]
    have hKl : C.Ks.length = i := by rw [← hKs, List.length_map]; exact hi2
    have hKs2 : C.Ks.map NK.ptr = (ds.map fun d : NK × NS => d.1.ptr) := by rw [← hKs, List.map_map]; rfl
    have hCp : C.p = b26 := by rw [hCe]
    have hCk : C.k = k := by rw [hCe]
    have hCn : C.n = pn := by rw [hCe]
    have hCa : C.a = pa := by rw [hCe]
    have hCc : C.c = c := by rw [hCe]
    iterate 10 refine Ws ?_
    refine SC_ind (X := Nat × CS × List MsgD × Arc × List (NK × NS)) (fun x => x.1 ≤ C.Ks.length ∧ CS.begins c (C.Ks.length - x.1) x.1 x.2.1 = some x' ∧ x.2.2.2.2.map Prod.fst = C.Ks ∧ x.2.2.2.2.map Prod.snd = x.2.1.ns ∧ Out x.2.2.2.1 x.2.2.1 x.2.1.net ∧ (∀ s ∈ x.2.1.ns, s.out = [])) (fun x => C.Ks.length - x.1) (fun x => [(7, .pointer (some ⟨C.p, 0, none⟩)), (57, .slice oa C.Ks.length oc), (58, .int .i64 (C.Ks.length : Nat)), (59, .int .i64 (x.1 : Nat))]) (fun x => pt C.p (.cells ([.int .i64 C.c.f, .int .i64 C.c.n, .int .i64 C.c.cl, .int .i64 C.c.ba, .int .i64 C.c.mo, .int .i64 C.c.bt, .int .i64 C.c.po, .int .i64 C.c.wi, .pointer (some ⟨C.k.p, 0, none⟩), .slice oa C.Ks.length oc, .pointer (some ⟨C.n, 0, none⟩), .pointer (some ⟨C.a, 0, none⟩)]).toArray 72) :: rowP 49 1 oa C.Ks.length oc (C.Ks.map NK.ptr) :: At wnI C.k x.2.1.g :: At netI C.n x.2.2.1 :: At awI C.a ⟨C.k.p, x.2.1.sb⟩ :: At arcI () x.2.2.2.1 :: bigN x.2.2.2.2 :: F) ((0, (CS.news c i), [], Arc.none, ds)) (⟨Nat.zero_le _, by rw [Nat.sub_zero, hKl]; exact h, hKs, hi3, by rw [n4]; trivial, n7⟩) (.cons' rfl (by rw [hCp]) (.cons' rfl (by rw [hKl]) (.cons' rfl (by rw [hKl]) (.cons rfl (.nil))))) (by rw [n5, hCp, hCk, hCn, hCa, hCc, hKs2, hKl]; exact (arc_new).trans .fin) ?_
    intro ⟨j, y, od, A, ds⟩ hi ih1
    obtain ⟨hj1, hj2, hd1, hd2, hod, hns⟩ := hi
    dsimp only at hj1 hj2 hd1 hd2 hod hns ih1 ⊢
    iterate 6 refine Ws ?_
    refine SC_cond rfl (fun hc60 => ?_) (fun hc60 => ?_)
    · have hin : j < C.Ks.length := by have := of_decide_eq_true hc60; omega
      obtain ⟨r, hr⟩ : ∃ r, C.Ks.length - j = r + 1 := ⟨C.Ks.length - j - 1, by omega⟩
      rw [hr] at hj2
      unfold CS.begins at hj2
      cases hsi : y.ns[j]? with
      | none => rw [hsi] at hj2; cases hj2
      | some s =>
      rw [hsi] at hj2
      dsimp only at hj2
      obtain ⟨q1, hj2⟩ := chk_some hj2
      obtain ⟨q3, q4, q5⟩ := CS.ok_1 q1
      obtain ⟨⟨g1, s1⟩, ht, hj2⟩ := obind_some hj2
      dsimp only at hj2
      obtain ⟨hc, hj2⟩ := chk_some hj2
      simp only [Bool.and_eq_true, decide_eq_true_eq] at hc
      obtain ⟨q6, q7⟩ := hc
      obtain ⟨K, hdi⟩ := ds_get hd2 hsi
      have hKi := ds_fst hd1 hdi
      have hso : s.out = [] := hns s (List.mem_of_getElem? hsi)
      have hdl := (List.getElem?_eq_some_iff.1 hdi).1
      have hol := hod.len
      iterate 6 refine Ws ?_
      refine SR_rd (RD_ixO (cs := C.Ks.map NK.ptr) Tryz.runUnderlying62 Tryz.sizeOf49 rfl rfl (by simp) (by omega) (by omega)) Has.ro rfl ?_
      refine SR_rd (RD_loadO (v := .pointer (some ⟨K.p, 0, none⟩)) (cs := C.Ks.map NK.ptr) Tryz.isAgg49 rfl (by simp [hKi, NK.ptr])) Has.ro rfl ?_
      iterate 9 refine Ws ?_
      refine SC_cond_true rfl (rfl) ?_
      refine SC.lands (bigN_t hdi) ?_
      iterate 3 refine Ws ?_
      refine We (CallsK.at3 (clu_Begin C hC j K hKi s hso A y.g g1 s1 (by rw [hCc]; exact ht))) ?_
      rintro _ L7 ⟨sa, sc, od5, A5, rfl, gA5, ho5, hL7⟩
      refine SR.lands hL7 ?_
      have hol5 := ho5.len
      refine We (CallsK.atP3 (clu_send C oa oc od C.k.p y.sb A5 sa od5.length sc od5 s1.out rfl rfl (by omega) ho5 (by omega) (by omega))) ?_
      rintro _ L8 ⟨l2, A6, gA6, ho6, hL8⟩
      refine SR.lands hL8 ?_
      iterate 7 refine Ws ?_
      refine SC_again (ih1 ((j + 1, (y.done j g1 s1 y.net), od ++ l2, A6, ds.set j (K, ({ s1 with out := [] } : NS)))) (⟨by dsimp only; omega, by dsimp only; rw [show C.Ks.length - (j + 1) = r by omega]; exact hj2, ds_set1 hd1 hdi, ds_set2 _ _ _ hd2, (hod.le (gA5.trans gA6)).app ho6, out_set _ _ hns⟩) (by dsimp only; omega)) (by dsimp only; rw [← hol5]; exact (bigN_p K ({ s1 with out := [] } : NS) hdl).trans .fin) (.cons rfl (.cons rfl (.cons rfl (.cons' rfl (ie (by dsimp only; omega)) (.nil)))))
    · have hin : j = C.Ks.length := by have := of_decide_eq_false hc60; omega
      subst hin
      rw [Nat.sub_self] at hj2
      cases hj2
      iterate 9 refine Ws ?_
      refine SC_ret2 rfl rfl rfl ?_
      exact ⟨C, rfl, hCc, hC, (close_clu C x' (a := oa) (cc := oc) hd1 hd2 hod hns).trans .fin⟩

end Go.Proofs.YtdhpjdhloaoepaaGreat

/- A cluster asked. -/
namespace Go.Proofs.YtdhpjdhloaoepaaGreat
open Go Go.Proofs
attribute [local irreducible] SC SN SR SQ SA SO
set_option maxRecDepth 100000
theorem clu_at {W : World} {F : List HProp} [hF : Abs F] (C : CK) (x : CS) (i : Nat) (K : NK) (s : NS) (hi : C.Ks[i]? = some K) (hs : x.ns[i]? = some s) {f : FuncId} {args : Array Value} {Q : Value → Prop} (h : ∀ (G : List HProp) [Abs G], CallsK W Tryz.prog f args (At nodI K (s, []) :: G) (fun u L => Q u ∧ Lands L (At nodI K (s, []) :: G))) : CallsK W Tryz.prog f args (At cluI C x :: F) (fun u L => Q u ∧ Lands L (At cluI C x :: F)) := by
  refine CallsK.opn (open_clu (C := C) (y := x)) fun ⟨a, cc, od, A, ds⟩ ⟨hd1, hd2, hod, hns⟩ => ?_
  dsimp only at hd1 hd2 hod hns ⊢
  obtain ⟨K2, hdi⟩ := ds_get hd2 hs
  have hKi := ds_fst hd1 hdi
  rw [hi] at hKi
  cases hKi
  have hdl := (List.getElem?_eq_some_iff.1 hdi).1
  refine CallsK.lands (bigN_t hdi) ?_
  refine CallsK.imp (h _) fun u L ⟨hq, hL⟩ => ⟨hq, hL.trans ?_⟩
  refine (bigN_p (ds := ds) (i := i) K s hdl).trans ?_
  rw [set_selfV hdi]
  exact (close_clu C x hd1 hd2 hod hns).trans .fin
theorem clu_Reveal {W : World} {F : List HProp} [Abs F] (C : CK) (x : CS) (i : Nat) (K : NK) (s : NS) (hi : C.Ks[i]? = some K) (hs : x.ns[i]? = some s) : CallsK W Tryz.prog 14 #[.pointer (some ⟨K.p, 0, none⟩)] (At cluI C x :: F) (fun u L => u = .pointer (some ⟨K.rv.r, 0, none⟩) ∧ Lands L (At cluI C x :: F)) := clu_at C x i K s hi hs fun G _ => node_Reveal K s []
theorem clu_Cursor {W : World} {F : List HProp} [Abs F] (C : CK) (x : CS) (i : Nat) (K : NK) (s : NS) (hi : C.Ks[i]? = some K) (hs : x.ns[i]? = some s) : CallsK W Tryz.prog 18 #[.pointer (some ⟨K.rv.r, 0, none⟩)] (At cluI C x :: F) (fun u L => u = .int .i64 (s.rn : Nat) ∧ Lands L (At cluI C x :: F)) := clu_at C x i K s hi hs fun G _ => node_Cursor K s []
theorem clu_Ledger {W : World} {F : List HProp} [Abs F] (C : CK) (x : CS) (i : Nat) (K : NK) (s : NS) (hi : C.Ks[i]? = some K) (hs : x.ns[i]? = some s) : CallsK W Tryz.prog 32 #[.pointer (some ⟨K.rv.r, 0, none⟩)] (At cluI C x :: F) (fun u L => u = .pointer (some ⟨K.rv.L.g, 0, none⟩) ∧ Lands L (At cluI C x :: F)) := clu_at C x i K s hi hs fun G _ => node_Ledger K s []
theorem clu_Free {W : World} {F : List HProp} [Abs F] (C : CK) (x : CS) (i : Nat) (K : NK) (s : NS) (hi : C.Ks[i]? = some K) (hs : x.ns[i]? = some s) (a b : Int) : CallsK W Tryz.prog 33 #[.pointer (some ⟨K.rv.L.g, 0, none⟩), .int .i64 a, .int .i64 b] (At cluI C x :: F) (fun u L => u = .int .u64 (acFree s.led.acs a b) ∧ Lands L (At cluI C x :: F)) := clu_at C x i K s hi hs fun G _ => node_Free K s [] a b
theorem clu_Log {W : World} {F : List HProp} [Abs F] (C : CK) (x : CS) (i : Nat) (K : NK) (s : NS) (hi : C.Ks[i]? = some K) (hs : x.ns[i]? = some s) (hb : s.lg.length ≤ 1000) : CallsK W Tryz.prog 15 #[.pointer (some ⟨K.p, 0, none⟩)] (At cluI C x :: F) (fun u L => ∃ a c, u = .slice a s.lg.length c ∧ Lands L (rowP 43 4 a s.lg.length c (s.lg.flatMap EnvD.cells) :: At cluI C x :: F)) := by
  refine CallsK.opn (open_clu (C := C) (y := x)) fun ⟨a, cc, od, A, ds⟩ ⟨hd1, hd2, hod, hns⟩ => ?_
  dsimp only at hd1 hd2 hod hns ⊢
  obtain ⟨K2, hdi⟩ := ds_get hd2 hs
  have hKi := ds_fst hd1 hdi
  rw [hi] at hKi
  cases hKi
  have hdl := (List.getElem?_eq_some_iff.1 hdi).1
  refine CallsK.lands (bigN_t hdi) ?_
  refine CallsK.imp (node_Log K s [] hb) fun u L ⟨ea, ec, hu, hL⟩ => ⟨ea, ec, hu, hL.trans ?_⟩
  refine (bigN_p (ds := ds) (i := i) K s hdl).trans ?_
  rw [set_selfV hdi]
  exact (close_clu C x hd1 hd2 hod hns).trans .fin
theorem clu_Node {W : World} {F : List HProp} [Abs F] (C : CK) (hC : C.Ok) (x : CS) (i : Nat) (K : NK) (hi : C.Ks[i]? = some K) (v : Int) (hv : v = (i : Nat)) : CallsK W Tryz.prog 13 #[.pointer (some ⟨C.p, 0, none⟩), .int .i64 v] (At cluI C x :: F) (fun u L => u = .pointer (some ⟨K.p, 0, none⟩) ∧ Lands L (At cluI C x :: F)) := by
  refine CallsK.opn (open_clu (C := C) (y := x)) fun ⟨a, cc, od, A, ds⟩ ⟨hd1, hd2, hod, hns⟩ => ?_
  dsimp only at hd1 hd2 hod hns ⊢
  exact (CallsK.atPR (clu_NodeO C a cc i K hi v hv (by have := hC.len; have := hC.n; omega))).post ((close_clu C x hd1 hd2 hod hns).trans .fin)
theorem clu_Vault {W : World} {F : List HProp} [Abs F] (C : CK) (x : CS) : CallsK W Tryz.prog 16 #[.pointer (some ⟨C.k.p, 0, none⟩)] (At cluI C x :: F) (fun u L => u = .pointer (some ⟨C.k.v, 0, none⟩) ∧ Lands L (At cluI C x :: F)) := by
  refine CallsK.opn (open_clu (C := C) (y := x)) fun ⟨a, cc, od, A, ds⟩ ⟨hd1, hd2, hod, hns⟩ => ?_
  dsimp only at hd1 hd2 hod hns ⊢
  exact (CallsK.at (wn_Vault C.k x.g)).post ((close_clu C x hd1 hd2 hod hns).trans .fin)
theorem clu_Shared {W : World} {F : List HProp} [Abs F] (C : CK) (x : CS) (w c : Int) (hV : x.g.V.length ≤ 1000) : CallsK W Tryz.prog 17 #[.pointer (some ⟨C.k.v, 0, none⟩), .int .i64 w, .int .i64 c] (At cluI C x :: F) (fun u L => u = .bool (x.g.shared w c) ∧ Lands L (At cluI C x :: F)) := by
  refine CallsK.opn (open_clu (C := C) (y := x)) fun ⟨a, cc, od, A, ds⟩ ⟨hd1, hd2, hod, hns⟩ => ?_
  dsimp only at hd1 hd2 hod hns ⊢
  exact (CallsK.at (wn_Shared C.k x.g w c hV)).post ((close_clu C x hd1 hd2 hod hns).trans .fin)

theorem clu_Net {W : World} {F : List HProp} [Abs F] (C : CK) (x : CS) :
    CallsK W Tryz.prog 8 #[.pointer (some ⟨C.p, 0, none⟩)] (At cluI C x :: F) (fun u L => u = .pointer (some ⟨C.n, 0, none⟩) ∧ Lands L (At cluI C x :: F)) := by
  refine CallsK_enter (n := 7) Tryz.func8 rfl rfl rfl ?_
  iterate 6 refine Ws ?_
  refine SC.opn (open_clu (C := C) (y := x)) fun ⟨a, cc, od, A, ds⟩ ⟨hd1, hd2, hod, hns⟩ => ?_
  dsimp only at hd1 hd2 hod hns ⊢
  iterate 8 refine Ws ?_
  refine SC_ret1 rfl rfl ?_
  exact ⟨rfl, (close_clu C x hd1 hd2 hod hns).trans .fin⟩

theorem clu_World {W : World} {F : List HProp} [Abs F] (C : CK) (x : CS) :
    CallsK W Tryz.prog 9 #[.pointer (some ⟨C.p, 0, none⟩)] (At cluI C x :: F) (fun u L => u = .pointer (some ⟨C.k.p, 0, none⟩) ∧ Lands L (At cluI C x :: F)) := by
  refine CallsK_enter (n := 7) Tryz.func9 rfl rfl rfl ?_
  iterate 6 refine Ws ?_
  refine SC.opn (open_clu (C := C) (y := x)) fun ⟨a, cc, od, A, ds⟩ ⟨hd1, hd2, hod, hns⟩ => ?_
  dsimp only at hd1 hd2 hod hns ⊢
  iterate 8 refine Ws ?_
  refine SC_ret1 rfl rfl ?_
  exact ⟨rfl, (close_clu C x hd1 hd2 hod hns).trans .fin⟩

theorem law_Config {W : World} {F : List HProp} [Abs F] :
    CallsK W Tryz.prog 6 #[.int .i64 1] (F) (fun u L => u = wakC.val ∧ Lands L F) := by
  refine CallsK_enter (n := 8) Tryz.func6 rfl rfl rfl ?_
  iterate 2 refine Ws ?_
  refine Wa fun b2 => ?_
  iterate 8 refine Ws ?_
  refine SR_pu (RD_build (.cons rfl (.cons rfl (.cons rfl (.cons rfl (.cons rfl (.cons rfl (.cons rfl (.cons rfl (.nil))))))))) built23_0_1_2_3_4_5_6_7) rfl ?_
  refine SR_ox0 (OX_stA (vs := wakC.cells) Tryz.sizeOf23 rfl rfl rfl rfl) ?_
  rintro _ _ rfl
  iterate 2 refine Ws ?_
  refine SC_retC rfl Tryz.isAgg23 Tryz.sizeOf23 rfl rfl Has.wh ?_
  exact ⟨rfl, .fin⟩

end Go.Proofs.YtdhpjdhloaoepaaGreat

/- All of it is awake. -/
namespace Go.Proofs.YtdhpjdhloaoepaaGreat
open Go Go.Proofs
attribute [local irreducible] SC SN SR SQ SA SO
set_option maxRecDepth 100000
theorem wak_may : wakC.May := ⟨by decide, by decide, by decide, by decide, by decide, by decide, by decide, by decide⟩
theorem wak_need : vneed wakC.f = 2 := by decide
def zx : List UInt8 := 120 :: List.replicate 55 0
theorem zx_bad : parseTx zx = none := by
  have h : (parseTx zx).isSome = false := by decide +kernel
  cases e : parseTx zx with
  | none => rfl
  | some y => rw [e] at h; cases h
theorem wakR_some (hw : wakB = true) : ∃ x0 y x, CS.new wakC = some x0 ∧ x0.ok = true ∧ x0.submit wakC 1 0 5 = some y ∧ y.ok = true ∧ CS.rounds wakC 16 y.seen = some x ∧ x.ns.length = 4 ∧ ∀ s ∈ x.ns, s.rn = 1 ∧ acFree s.led.acs 1 1 = 995 := by
  unfold wakB at hw
  cases hr : wakR with
  | none => rw [hr] at hw; cases hw
  | some x =>
    rw [hr] at hw
    dsimp only at hw
    simp only [Bool.and_eq_true, decide_eq_true_eq, List.all_eq_true] at hw
    unfold wakR at hr
    obtain ⟨x0, h0, hr⟩ := obind_some hr
    obtain ⟨h1, hr⟩ := chk_some hr
    obtain ⟨y, h2, hr⟩ := obind_some hr
    obtain ⟨h3, hr⟩ := chk_some hr
    exact ⟨x0, y, x, h0, h1, h2, h3, hr, hw.1, hw.2⟩
theorem CK.Ok.get {C : CK} (h : C.Ok) {i : Nat} (hi : i < C.c.n.toNat) : ∃ K, C.Ks[i]? = some K := ⟨_, List.getElem?_eq_getElem (by rw [h.len]; exact hi)⟩
theorem get_of {X : Type} {l : List X} {i : Nat} (hi : i < l.length) : ∃ x, l[i]? = some x ∧ x ∈ l := ⟨_, List.getElem?_eq_getElem hi, List.getElem_mem hi⟩

theorem top_awake {W : World} {F : List HProp} [Abs F] (hw : wakB = true) :
    CallsK W Tryz.prog 10 #[] (F) (fun u L => u = .bool true ∧ Lands L F) := by
  refine CallsK_enter (n := 71) Tryz.func10 rfl rfl rfl ?_
  obtain ⟨x0, y, x, h0, h1, h2, h3, h4, h5, h6⟩ := wakR_some hw
  iterate 7 refine Ws ?_
  refine Wc (law_Config) ?_
  refine We (clu_New wakC wak_may wak_need x0 h0) ?_
  rintro _ L2 ⟨C, rfl, hCc, hC, hL2⟩
  refine SR.lands hL2 ?_
  obtain ⟨K0, hK0⟩ := hC.get (i := 0) (by rw [hCc]; decide)
  iterate 13 refine Ws ?_
  refine SR_yes rfl rfl (rfl) ?_
  refine Ws ?_
  refine SR_yes rfl rfl (rfl) ?_
  refine Ws ?_
  refine SR_pu (RD_pick_f rfl (rfl) rfl) rfl ?_
  refine Ws ?_
  refine SR_yes rfl rfl (rfl) ?_
  refine Ws ?_
  refine SR_yes rfl rfl (rfl) ?_
  refine Wc (CallsK.at (clu_Net C x0)) ?_
  refine SR_yes rfl rfl (rfl) ?_
  refine Ws ?_
  refine SR_pu (RD_pick_f rfl (rfl) rfl) rfl ?_
  refine Ws ?_
  refine SR_yes rfl rfl (rfl) ?_
  refine Ws ?_
  refine SR_yes rfl rfl (rfl) ?_
  refine Wc (CallsK.at (clu_Node C hC x0 0 K0 hK0 0 rfl)) ?_
  refine SR_yes rfl rfl (rfl) ?_
  refine Ws ?_
  refine SR_pu (RD_pick_f rfl (rfl) rfl) rfl ?_
  iterate 2 refine Ws ?_
  refine SC_cond_false rfl (rfl) ?_
  iterate 5 refine Ws ?_
  refine SR_ox (OX_lit1 Tryz.underlying36 Tryz.type5 rfl rfl rfl rfl (.cons rfl (.nil)) (.cons rfl (.nil))) rfl ?_
  rintro _ _ ⟨b28, rfl, rfl⟩
  refine SR_ox (OX_mark Tryz.underlying36 Tryz.underlying5 rfl) rfl ?_
  rintro _ _ ⟨fz29, rfl, rfl⟩
  refine SR_pu (RD_build (.cons rfl (.cons rfl (.cons rfl (.cons rfl (.nil))))) built48_0_1_3_4) rfl ?_
  refine Wc (CallsK.at (clu_Step C x0 y h3 5 1 0 5 (some ⟨b28, 0, none⟩) 1 1 (fun b => clu_act5 C hC x0 y 1 0 5 (by rw [hCc]; exact h2) (some ⟨b28, 0, none⟩) 1 1 [120] zx rfl rfl (by omega) rfl rfl zx_bad))) ?_
  iterate 9 refine Ws ?_
  refine SC_ind (X := Nat × CS) (fun x_ => x_.1 ≤ 16 ∧ CS.rounds wakC (16 - x_.1) x_.2 = some x) (fun x_ => 16 - x_.1) (fun x_ => [(1, .pointer (some ⟨C.p, 0, none⟩)), (3, .int .i64 (x_.1 : Nat))]) (fun x_ => At cluI C x_.2 :: F) ((0, y.seen)) (⟨Nat.zero_le _, h4⟩) (.cons rfl (.cons rfl (.nil))) (.fin) ?_
  intro ⟨i, z⟩ hi ih0
  obtain ⟨hi1, hi2⟩ := hi
  dsimp only at hi1 hi2 ih0 ⊢
  iterate 7 refine Ws ?_
  refine SC_cond rfl (fun hc33 => ?_) (fun hc33 => ?_)
  · have hin : i < 16 := by have := of_decide_eq_true hc33; omega
    obtain ⟨r, hr⟩ : ∃ r, 16 - i = r + 1 := ⟨16 - i - 1, by omega⟩
    rw [hr] at hi2
    obtain ⟨z2, hz1, hz2⟩ := obind_some hi2
    iterate 6 refine Ws ?_
    refine We (CallsK.at (clu_Round C hC z z2 (by rw [hCc]; exact hz1))) ?_
    rintro _ L5 hL5
    refine SR.lands hL5 ?_
    iterate 8 refine Ws ?_
    refine SC_again (ih0 ((i + 1, z2)) (⟨by dsimp only; omega, by dsimp only; rw [show 16 - (i + 1) = r by omega]; exact hz2⟩) (by dsimp only; omega)) (.fin) (.cons rfl (.cons' rfl (ie (by dsimp only; omega)) (.nil)))
  · have hin : i = 16 := by have := of_decide_eq_false hc33; omega
    subst hin
    cases hi2
    iterate 9 refine Ws ?_
    refine SC_ind (X := Nat) (fun j => j ≤ 4) (fun j => 4 - j) (fun j => [(1, .pointer (some ⟨C.p, 0, none⟩)), (4, .int .i64 (j : Nat))]) (fun j => At cluI C x :: F) (0) (Nat.zero_le _) (.cons rfl (.cons rfl (.nil))) (.fin) ?_
    intro j hi ih1
    iterate 7 refine Ws ?_
    refine SC_cond rfl (fun hc39 => ?_) (fun hc39 => ?_)
    · have hin : j < 4 := by have := of_decide_eq_true hc39; omega
      obtain ⟨K, hKi⟩ := hC.get (i := j) (by rw [hCc]; exact hin)
      obtain ⟨s, hsi, hsm⟩ := get_of (l := x.ns) (i := j) (by omega)
      obtain ⟨e1, e2⟩ := h6 s hsm
      iterate 8 refine Ws ?_
      refine Wc (CallsK.at (clu_Node C hC x j K hKi _ rfl)) ?_
      iterate 8 refine Ws ?_
      refine SR_yes rfl rfl (rfl) ?_
      refine Ws ?_
      refine SR_yes rfl rfl (rfl) ?_
      refine Wc (CallsK.at (clu_Reveal C x j K s hKi hsi)) ?_
      refine SR_yes rfl rfl (rfl) ?_
      refine Ws ?_
      refine SR_pu (RD_pick_f rfl (rfl) rfl) rfl ?_
      refine Ws ?_
      refine SR_yes rfl rfl (rfl) ?_
      refine Ws ?_
      refine SR_yes rfl rfl (rfl) ?_
      refine Wc (CallsK.at (clu_Reveal C x j K s hKi hsi)) ?_
      refine SR_yes rfl rfl (rfl) ?_
      refine Wc (CallsK.at (clu_Ledger C x j K s hKi hsi)) ?_
      refine SR_yes rfl rfl (rfl) ?_
      refine Ws ?_
      refine SR_pu (RD_pick_f rfl (rfl) rfl) rfl ?_
      refine Ws ?_
      refine SR_yes rfl rfl (rfl) ?_
      refine Ws ?_
      refine SR_yes rfl rfl (rfl) ?_
      refine Wc (CallsK.at (clu_Reveal C x j K s hKi hsi)) ?_
      refine SR_yes rfl rfl (rfl) ?_
      refine Wc (CallsK.at (clu_Cursor C x j K s hKi hsi)) ?_
      refine SR_yes rfl rfl (rfl) ?_
      refine Ws ?_
      refine SR_pu (RD_pick_f rfl (rfl) rfl) rfl ?_
      refine Ws ?_
      refine SR_yes rfl rfl (by rw [e1]; rfl) ?_
      refine Ws ?_
      refine SR_yes rfl rfl (by rw [e1]; rfl) ?_
      refine Wc (CallsK.at (clu_Reveal C x j K s hKi hsi)) ?_
      refine SR_yes rfl rfl (by rw [e1]; rfl) ?_
      refine Wc (CallsK.at (clu_Ledger C x j K s hKi hsi)) ?_
      refine SR_yes rfl rfl (by rw [e1]; rfl) ?_
      refine Wc (CallsK.at (clu_Free C x j K s hKi hsi 1 1)) ?_
      refine SR_yes rfl rfl (by rw [e1]; rfl) ?_
      refine Ws ?_
      refine SR_pu (RD_pick_f rfl (by rw [e1]; rfl) rfl) rfl ?_
      iterate 2 refine Ws ?_
      refine SC_cond_false rfl (by rw [e2]; rfl) ?_
      iterate 8 refine Ws ?_
      refine SC_again (ih1 (j + 1) (by omega) (by omega)) (.fin) (.cons rfl (.cons' rfl (ie (by omega)) (.nil)))
    · iterate 7 refine Ws ?_
      refine SC_ret1 rfl rfl ?_
      exact ⟨rfl, .fin⟩

end Go.Proofs.YtdhpjdhloaoepaaGreat

/- However small the window is: the walk. -/
namespace Go.Proofs.YtdhpjdhloaoepaaGreat
open Go Go.Proofs
attribute [local irreducible] SC SN SR SQ SA SO
set_option maxRecDepth 100000
theorem win_may {w : Nat} (h : 1 ≤ w ∧ w ≤ 4) : (winC w).May := ⟨by dsimp only [winC]; omega, by dsimp only [winC]; omega, by dsimp only [winC]; omega, by dsimp only [winC]; omega, by dsimp only [winC]; omega, by dsimp only [winC]; omega, by dsimp only [winC]; omega, by dsimp only [winC]; omega⟩
theorem win_need (w : Nat) : vneed (winC w).f = 2 := by show vneed 1 = 2; decide
def zz : List UInt8 := List.replicate 56 0
theorem zz_bad : parseTx zz = none := by
  have h : (parseTx zz).isSome = false := by decide +kernel
  cases e : parseTx zz with
  | none => rfl
  | some y => rw [e] at h; cases h
theorem winR_some {w n : Nat} (hw : winB w n = true) : ∃ x0 y x, CS.new (winC w) = some x0 ∧ CS.submits (winC w) n 0 x0 = some y ∧ CS.roundsH (winC w) n 30 y = some x ∧ x.ns.length = 4 ∧ ∀ s ∈ x.ns, s.rn = n := by
  unfold winB at hw
  cases hr : winR w n with
  | none => rw [hr] at hw; cases hw
  | some x =>
    rw [hr] at hw
    dsimp only at hw
    simp only [Bool.and_eq_true, decide_eq_true_eq, List.all_eq_true] at hw
    unfold winR at hr
    obtain ⟨x0, h0, hr⟩ := obind_some hr
    obtain ⟨h1, hr⟩ := chk_some hr
    obtain ⟨y, h2, hr⟩ := obind_some hr
    exact ⟨x0, y, x, h0, h2, hr, hw.1, hw.2⟩
theorem held_at {n : Nat} {x : CS} (h : x.held n = true) {k : Nat} (hk : k < 4) : ∃ s, x.ns[k]? = some s ∧ s.lg.length ≤ 1000 ∧ ∀ q, q < n → x.g.shared (k : Int) (((q + 1 : Nat) : Int)) = true → (s.lg.any fun e => decide (e.cipher = ((q + 1 : Nat) : Int))) = true := by
  unfold CS.held at h
  have h1 := (List.all_eq_true.1 h) k (List.mem_range.2 hk)
  cases hs : x.ns[k]? with
  | none => rw [hs] at h1; cases h1
  | some s =>
    rw [hs] at h1
    simp only [Bool.and_eq_true, decide_eq_true_eq] at h1
    refine ⟨s, rfl, h1.1, fun q hq hsh => ?_⟩
    have h2 := (List.all_eq_true.1 h1.2) q (List.mem_range.2 hq)
    rw [hsh] at h2
    simpa using h2
theorem RD_quoK {P : Program} {l : Env} {ty : TypeId} {x y : Operand} {t yt : TypeId} {a b : Int} (q : Nat) (hx : ev l x = some (.int .i64 a)) (hy : ev l y = some (.int .i64 b)) (ha : 0 ≤ a) (h0 : 0 < b) (h : a / b = (q : Int)) (hq : q ≤ 1000) : RD P l (.binOp .quo t x y yt) ty RU (.int .i64 (q : Int)) := by
  have := RD_quo (P := P) (ty := ty) (t := t) (yt := yt) hx hy (by omega)
  rw [Int.tdiv_eq_ediv_of_nonneg ha, h, IntKind.wrap_i64, show ((q : Int) + 9223372036854775808) % 18446744073709551616 - 9223372036854775808 = (q : Int) by omega] at this
  exact this
theorem any_take {l : List EnvD} {i : Nat} {e : EnvD} (h : l[i]? = some e) (p : EnvD → Bool) : (l.take (i + 1)).any p = ((l.take i).any p || p e) := by
  rw [List.take_add_one, h, List.any_append]
  simp

theorem law_TopWindow {W : World} {F : List HProp} [Abs F] (hwk : wakB = true) (hwn : ∀ w n : Nat, 1 ≤ w → w ≤ 4 → 1 ≤ n → n ≤ 8 → winB w n = true) (w0 n0 : Int) :
    CallsK W Tryz.prog 3 #[.int .i64 w0, .int .i64 n0] (F) (fun u L => u = .bool true ∧ Lands L F) := by
  refine CallsK_enter (n := 127) Tryz.func3 rfl rfl rfl ?_
  obtain ⟨w, hw⟩ : ∃ w : Nat, w = (w0 % 4 + 1).toNat := ⟨_, rfl⟩
  obtain ⟨n, hn⟩ : ∃ n : Nat, n = (n0 % 8 + 1).toNat := ⟨_, rfl⟩
  have hwi : w0 % 4 + 1 = (w : Nat) := by omega
  have hni : n0 % 8 + 1 = (n : Nat) := by omega
  have hw4 : 1 ≤ w ∧ w ≤ 4 := by omega
  have hn8 : 1 ≤ n ∧ n ≤ 8 := by omega
  obtain ⟨x0, y, x, h0, h1, h2, h3, h4⟩ := winR_some (hwn w n hw4.1 hw4.2 hn8.1 hn8.2)
  iterate 7 refine Ws ?_
  refine Wc (law_Config) ?_
  refine Wa fun b5 => ?_
  refine SR_ox0 (OX_stA (vs := [.int .i64 1, .int .i64 4, .int .i64 3, .int .i64 10, .int .i64 20, .int .i64 2, .int .i64 6, .int .i64 3]) Tryz.sizeOf23 rfl rfl rfl rfl) ?_
  rintro _ _ rfl
  iterate 5 refine Ws ?_
  refine SR_pu (RD_mask 2 rfl rfl rfl (by decide) 4 rfl) rfl ?_
  iterate 10 refine Ws ?_
  rw [hwi]
  refine Ws ?_
  refine SR_rd (RD_loadA (vs := [.int .i64 1, .int .i64 4, .int .i64 3, .int .i64 10, .int .i64 20, .int .i64 8, .int .i64 16, .int .i64 (w : Nat)]) Tryz.isAgg23 Tryz.sizeOf23 rfl rfl) Has.wh rfl ?_
  refine We (clu_New (winC w) (win_may hw4) (win_need w) x0 h0) ?_
  rintro _ L2 ⟨C, rfl, hCc, hC, hL2⟩
  refine SR.lands hL2 ?_
  iterate 13 refine Ws ?_
  refine SR_yes rfl rfl (rfl) ?_
  refine Ws ?_
  refine SR_yes rfl rfl (rfl) ?_
  refine Ws ?_
  refine SR_pu (RD_pick_f rfl (rfl) rfl) rfl ?_
  refine Ws ?_
  refine SR_yes rfl rfl (rfl) ?_
  refine Ws ?_
  refine SR_yes rfl rfl (rfl) ?_
  refine Wc (CallsK.at (clu_Net C x0)) ?_
  refine SR_yes rfl rfl (rfl) ?_
  refine Ws ?_
  refine SR_pu (RD_pick_f rfl (rfl) rfl) rfl ?_
  refine Ws ?_
  refine SR_yes rfl rfl (rfl) ?_
  refine Ws ?_
  refine SR_yes rfl rfl (rfl) ?_
  refine Wc (CallsK.at (clu_World C x0)) ?_
  refine SR_yes rfl rfl (rfl) ?_
  refine Ws ?_
  refine SR_pu (RD_pick_f rfl (rfl) rfl) rfl ?_
  refine Ws ?_
  refine SR_yes rfl rfl (rfl) ?_
  refine Wc (top_awake hwk) ?_
  refine SR_yes rfl rfl (rfl) ?_
  refine Ws ?_
  refine SR_pu (RD_pick_f rfl (rfl) rfl) rfl ?_
  iterate 2 refine Ws ?_
  refine SC_cond_false rfl (rfl) ?_
  iterate 5 refine Ws ?_
  refine SR_pu (RD_mask 3 rfl rfl rfl (by decide) 8 rfl) rfl ?_
  iterate 11 refine Ws ?_
  rw [hni]
  refine SC_ind (X := Nat × CS) (fun x_ => x_.1 ≤ n ∧ CS.submits (winC w) (n - x_.1) x_.1 x_.2 = some y) (fun x_ => n - x_.1) (fun x_ => [(1, .int .i64 (n : Nat)), (6, .pointer (some ⟨C.p, 0, none⟩)), (8, .int .i64 (x_.1 : Nat))]) (fun x_ => At cluI C x_.2 :: F) ((0, x0)) (⟨Nat.zero_le _, h1⟩) (.cons rfl (.cons rfl (.cons rfl (.nil)))) (.fin) ?_
  intro ⟨i, z⟩ hi ih0
  obtain ⟨hi1, hi2⟩ := hi
  dsimp only at hi1 hi2 ih0 ⊢
  iterate 8 refine Ws ?_
  refine SC_cond rfl (fun hc54 => ?_) (fun hc54 => ?_)
  · have hin : i < n := by have := of_decide_eq_true hc54; omega
    obtain ⟨r, hr⟩ : ∃ r, n - i = r + 1 := ⟨n - i - 1, by omega⟩
    rw [hr] at hi2
    unfold CS.submits at hi2
    obtain ⟨z2, hz1, hz2⟩ := obind_some hi2
    obtain ⟨hz3, hz2⟩ := chk_some hz2
    iterate 8 refine Ws ?_
    refine SR_pu (RD_remk (q := i % 3) rfl rfl (by omega) (by omega) (by omega)) rfl ?_
    refine Ws ?_
    refine SR_pu (RD_quoK (i / 3) rfl rfl (by omega) (by omega) (by omega) (by omega)) rfl ?_
    refine SR_pu (RD_conv64 Tryz.runUnderlying3 Tryz.runUnderlying35 rfl (by omega) (by omega)) rfl ?_
    refine SR_pu (RD_build (.cons rfl (.cons rfl (.cons rfl (.cons rfl (.nil))))) built48_0_1_2_3) rfl ?_
    refine Wc (CallsK.at (clu_Step C z z2 hz3 5 ((i % 3 : Nat) : Int) ((i / 3 : Nat) : Int) 1 none 0 0 (fun b => clu_act5 C hC z z2 ((i % 3 : Nat) : Int) ((i / 3 : Nat) : Int) 1 (by rw [hCc]; exact hz1) none 0 0 [] zz rfl rfl (by omega) rfl rfl zz_bad))) ?_
    iterate 3 refine Ws ?_
    refine SC_cond_false rfl (rfl) ?_
    iterate 8 refine Ws ?_
    refine SC_again (ih0 ((i + 1, z2.seen)) (⟨by dsimp only; omega, by dsimp only; rw [show n - (i + 1) = r by omega]; exact hz2⟩) (by dsimp only; omega)) (.fin) (.cons rfl (.cons rfl (.cons' rfl (ie (by dsimp only; omega)) (.nil))))
  · have hin : i = n := by have := of_decide_eq_false hc54; omega
    rw [hin, Nat.sub_self] at hi2
    cases hi2
    iterate 9 refine Ws ?_
    refine SC_ind (X := Nat × CS) (fun x_ => x_.1 ≤ 30 ∧ CS.roundsH (winC w) n (30 - x_.1) x_.2 = some x) (fun x_ => 30 - x_.1) (fun x_ => [(1, .int .i64 (n : Nat)), (6, .pointer (some ⟨C.p, 0, none⟩)), (9, .int .i64 (x_.1 : Nat))]) (fun x_ => At cluI C x_.2 :: F) ((0, y)) (⟨Nat.zero_le _, h2⟩) (.cons rfl (.cons rfl (.cons rfl (.nil)))) (.fin) ?_
    intro ⟨j, z⟩ hi ih1
    obtain ⟨hj1, hj2⟩ := hi
    dsimp only at hj1 hj2 ih1 ⊢
    iterate 7 refine Ws ?_
    refine SC_cond rfl (fun hc67 => ?_) (fun hc67 => ?_)
    · have hjn : j < 30 := by have := of_decide_eq_true hc67; omega
      obtain ⟨r, hr⟩ : ∃ r, 30 - j = r + 1 := ⟨30 - j - 1, by omega⟩
      rw [hr] at hj2
      unfold CS.roundsH at hj2
      obtain ⟨z2, hz1, hz2⟩ := obind_some hj2
      obtain ⟨hz3, hz2⟩ := chk_some hz2
      simp only [Bool.and_eq_true] at hz3
      obtain ⟨hz4, hz5⟩ := hz3
      have hV := (GS.ok_1 hz4).2
      iterate 7 refine Ws ?_
      refine We (CallsK.at (clu_Round C hC z z2 (by rw [hCc]; exact hz1))) ?_
      rintro _ L5 hL5
      refine SR.lands hL5 ?_
      iterate 8 refine Ws ?_
      refine SC_ind (X := Nat) (fun k => k ≤ 4) (fun k => 4 - k) (fun k => [(1, .int .i64 (n : Nat)), (6, .pointer (some ⟨C.p, 0, none⟩)), (9, .int .i64 (j : Nat)), (10, .int .i64 (k : Nat))]) (fun k => At cluI C z2 :: F) (0) (Nat.zero_le _) (.cons rfl (.cons rfl (.cons rfl (.cons rfl (.nil))))) (.fin) ?_
      intro k hi ih2
      iterate 7 refine Ws ?_
      refine SC_cond rfl (fun hc73 => ?_) (fun hc73 => ?_)
      · have hkn : k < 4 := by have := of_decide_eq_true hc73; omega
        obtain ⟨K, hKi⟩ := hC.get (i := k) (by rw [hCc]; exact hkn)
        obtain ⟨s, hsi, hsl, hsh⟩ := held_at hz5 hkn
        iterate 8 refine Ws ?_
        refine Wc (CallsK.at (clu_Node C hC z2 k K hKi _ rfl)) ?_
        iterate 9 refine Ws ?_
        refine SR_yes rfl rfl (rfl) ?_
        refine Ws ?_
        refine SR_yes rfl rfl (rfl) ?_
        refine Wc (CallsK.at (clu_Reveal C z2 k K s hKi hsi)) ?_
        refine SR_yes rfl rfl (rfl) ?_
        refine Ws ?_
        refine SR_pu (RD_pick_f rfl (rfl) rfl) rfl ?_
        iterate 2 refine Ws ?_
        refine SC_cond_false rfl (rfl) ?_
        iterate 8 refine Ws ?_
        refine SC_ind (X := Nat) (fun q => q ≤ n) (fun q => n - q) (fun q => [(1, .int .i64 (n : Nat)), (6, .pointer (some ⟨C.p, 0, none⟩)), (9, .int .i64 (j : Nat)), (10, .int .i64 (k : Nat)), (11, .pointer (some ⟨K.p, 0, none⟩)), (12, .int .i64 ((q + 1 : Nat) : Int))]) (fun q => At cluI C z2 :: F) (0) (Nat.zero_le _) (.cons rfl (.cons rfl (.cons rfl (.cons rfl (.cons rfl (.cons rfl (.nil))))))) (.fin) ?_
        intro q hi ih3
        iterate 8 refine Ws ?_
        refine SC_cond rfl (fun hc88 => ?_) (fun hc88 => ?_)
        · have hqn : q < n := by have := of_decide_eq_true hc88; omega
          iterate 13 refine Ws ?_
          refine We (CallsK.at (clu_Log C z2 k K s hKi hsi hsl)) ?_
          rintro _ L6 ⟨ea, ec, rfl, hL6⟩
          refine SR.lands hL6 ?_
          iterate 5 refine Ws ?_
          refine SC_ind (X := Nat) (fun m => m ≤ s.lg.length) (fun m => s.lg.length - m) (fun m => [(1, .int .i64 (n : Nat)), (6, .pointer (some ⟨C.p, 0, none⟩)), (9, .int .i64 (j : Nat)), (10, .int .i64 (k : Nat)), (11, .pointer (some ⟨K.p, 0, none⟩)), (12, .int .i64 ((q + 1 : Nat) : Int)), (13, .bool ((s.lg.take m).any fun e => decide (e.cipher = ((q + 1 : Nat) : Int)))), (92, .slice ea s.lg.length ec), (93, .int .i64 (s.lg.length : Nat)), (94, .int .i64 (m : Nat))]) (fun m => rowP 43 4 ea s.lg.length ec (s.lg.flatMap EnvD.cells) :: At cluI C z2 :: F) (0) (Nat.zero_le _) (.cons rfl (.cons rfl (.cons rfl (.cons rfl (.cons rfl (.cons rfl (.cons' rfl (by simp) (.cons rfl (.cons rfl (.cons rfl (.nil))))))))))) (.fin) ?_
          intro m hi ih4
          iterate 6 refine Ws ?_
          refine SC_cond rfl (fun hc95 => ?_) (fun hc95 => ?_)
          · have hmn : m < s.lg.length := by have := of_decide_eq_true hc95; omega
            obtain ⟨e, hem⟩ : ∃ e, s.lg[m]? = some e := ⟨_, List.getElem?_eq_getElem hmn⟩
            have hat := any_take hem (fun e => decide (e.cipher = ((q + 1 : Nat) : Int)))
            iterate 6 refine Ws ?_
            refine SR_rd (RD_ixO (cs := s.lg.flatMap EnvD.cells) Tryz.runUnderlying53 Tryz.sizeOf43 rfl rfl (by rw [env_len]) (by omega) (by omega)) Has.ro rfl ?_
            refine SR_rd (RD_loadAO (vs := e.cells) (cs := s.lg.flatMap EnvD.cells) Tryz.isAgg43 Tryz.sizeOf43 rfl rfl (by decide) (fun o v h => by have ho : o < 4 := (List.getElem?_eq_some_iff.1 h).1; rw [show ((m : Nat) : Int).toNat * (3 + 1) + o = m * 4 + o by omega, env_get hem o ho]; exact h)) Has.ro rfl ?_
            refine Wa fun b15 => ?_
            refine SR_ox0 (OX_stA (vs := e.cells) Tryz.sizeOf43 rfl rfl rfl rfl) ?_
            rintro _ _ rfl
            iterate 5 refine Ws ?_
            refine SR_guard rfl rfl (fun hg29_1 => ?_) (fun hg29_1 => ?_)
            · refine SR_yes rfl rfl (hg29_1) ?_
              refine Ws ?_
              refine SR_yes rfl rfl (hg29_1) ?_
              refine SR_rd (RD_load (v := .int .i64 e.cipher) Tryz.isAgg3 rfl) (Has.ce rfl) rfl ?_
              refine SR_yes rfl rfl (hg29_1) ?_
              refine Ws ?_
              refine SR_yes rfl rfl (hg29_1) ?_
              refine Ws ?_
              refine SR_pu (RD_pick_f rfl (hg29_1) rfl) rfl ?_
              iterate 8 refine Ws ?_
              refine SC_again (ih4 (m + 1) (by omega) (by omega)) (.fin) (.cons rfl (.cons rfl (.cons rfl (.cons rfl (.cons rfl (.cons rfl (.cons' rfl (by rw [hat, hg29_1]; rfl) (.cons rfl (.cons rfl (.cons' rfl (ie (by omega)) (.nil)))))))))))
            · refine SR_no rfl rfl (hg29_1) (lts rfl) ?_
              refine SR_no rfl rfl (hg29_1) (lts rfl) ?_
              refine SR_no rfl rfl (hg29_1) (lts rfl) ?_
              refine SR_no rfl rfl (hg29_1) (lts rfl) ?_
              refine SR_pu (RD_pick_t rfl (hg29_1) rfl) rfl ?_
              iterate 8 refine Ws ?_
              refine SC_again (ih4 (m + 1) (by omega) (by omega)) (.fin) (.cons rfl (.cons rfl (.cons rfl (.cons rfl (.cons rfl (.cons rfl (.cons' rfl (by rw [hat, hg29_1]; rfl) (.cons rfl (.cons rfl (.cons' rfl (ie (by omega)) (.nil)))))))))))
          · have hmn : m = s.lg.length := by have := of_decide_eq_false hc95; omega
            subst hmn
            rw [List.take_length]
            iterate 5 refine Ws ?_
            refine Wc (CallsK.at (clu_World C z2)) ?_
            refine Wc (CallsK.at (clu_Vault C z2)) ?_
            iterate 2 refine Ws ?_
            refine Wc (CallsK.at (clu_Shared C z2 _ _ hV)) ?_
            refine Ws ?_
            refine SR_guard rfl rfl (fun hg31_6 => ?_) (fun hg31_6 => ?_)
            · refine SR_yes rfl rfl (hg31_6) ?_
              refine Ws ?_
              refine SR_yes rfl rfl (hg31_6) ?_
              refine Ws ?_
              refine SR_pu (RD_pick_t rfl (hg31_6) rfl) rfl ?_
              iterate 2 refine Ws ?_
              refine SC_cond_false rfl (by rw [hsh q hqn hg31_6]; rfl) ?_
              iterate 8 refine Ws ?_
              refine SC_again (ih3 (q + 1) (by omega) (by omega)) (.fin) (.cons rfl (.cons rfl (.cons rfl (.cons rfl (.cons rfl (.cons' rfl (ie (by omega)) (.nil)))))))
            · refine SR_no rfl rfl (hg31_6) (lts rfl) ?_
              refine SR_no rfl rfl (hg31_6) (lts rfl) ?_
              refine SR_pu (RD_pick_f rfl (hg31_6) rfl) rfl ?_
              iterate 2 refine Ws ?_
              refine SC_cond_false rfl (rfl) ?_
              iterate 8 refine Ws ?_
              refine SC_again (ih3 (q + 1) (by omega) (by omega)) (.fin) (.cons rfl (.cons rfl (.cons rfl (.cons rfl (.cons rfl (.cons' rfl (ie (by omega)) (.nil)))))))
        · iterate 8 refine Ws ?_
          refine SC_again (ih2 (k + 1) (by omega) (by omega)) (.fin) (.cons rfl (.cons rfl (.cons rfl (.cons' rfl (ie (by omega)) (.nil)))))
      · iterate 8 refine Ws ?_
        refine SC_again (ih1 ((j + 1, z2)) (⟨by dsimp only; omega, by dsimp only; rw [show 30 - (j + 1) = r by omega]; exact hz2⟩) (by dsimp only; omega)) (.fin) (.cons rfl (.cons rfl (.cons' rfl (ie (by dsimp only; omega)) (.nil))))
    · have hjn : j = 30 := by have := of_decide_eq_false hc67; omega
      subst hjn
      cases hj2
      iterate 9 refine Ws ?_
      refine SC_ind (X := Nat) (fun k => k ≤ 4) (fun k => 4 - k) (fun k => [(1, .int .i64 (n : Nat)), (6, .pointer (some ⟨C.p, 0, none⟩)), (16, .int .i64 (k : Nat))]) (fun k => At cluI C x :: F) (0) (Nat.zero_le _) (.cons rfl (.cons rfl (.cons rfl (.nil)))) (.fin) ?_
      intro k hi ih5
      iterate 7 refine Ws ?_
      refine SC_cond rfl (fun hc117 => ?_) (fun hc117 => ?_)
      · have hkn : k < 4 := by have := of_decide_eq_true hc117; omega
        obtain ⟨K, hKi⟩ := hC.get (i := k) (by rw [hCc]; exact hkn)
        obtain ⟨s, hsi, hsm⟩ := get_of (l := x.ns) (i := k) (by omega)
        have hrn := h4 s hsm
        iterate 8 refine Ws ?_
        refine Wc (CallsK.at (clu_Node C hC x k K hKi _ rfl)) ?_
        refine Wc (CallsK.at (clu_Reveal C x k K s hKi hsi)) ?_
        refine Wc (CallsK.at (clu_Cursor C x k K s hKi hsi)) ?_
        iterate 4 refine Ws ?_
        refine SC_cond_false rfl (by rw [hrn]; simp) ?_
        iterate 8 refine Ws ?_
        refine SC_again (ih5 (k + 1) (by omega) (by omega)) (.fin) (.cons rfl (.cons rfl (.cons' rfl (ie (by omega)) (.nil))))
      · iterate 7 refine Ws ?_
        refine SC_ret1 rfl rfl ?_
        exact ⟨rfl, .fin⟩

end Go.Proofs.YtdhpjdhloaoepaaGreat
