/- A block of its own memory; the tree of blocks. -/
import Derived.Test.YtmigjpmadhebfaaTr1
namespace Go.Proofs.Ytmigjpmadhebfaa
open Go Go.Proofs
set_option maxRecDepth 100000
theorem RD_look2S {α : Type} [DecidableEq α] {K : Keyed α} {P : Program} {l : Env} {ty : TypeId} {x y : Operand} {t kt et b : Nat} {m : List (α × Value)} {key : α} {z u : Value} (hu : P.underlying t = some (.map kt et)) (hk : P.underlying kt = some K.desc) (hz : ∀ w, (zeroValue et).run P w = .ok z w)
    (hx : ev l x = some (.map (some b))) (hy : ev l y = some (K.val key)) (h : mget m key = some u) : RD P l (.lookup t x y true) ty (mapF K b m) (.tuple #[u, .bool true]) := by
  have := RD_lookup2 (P := P) (l := l) (ty := ty) (K := K) (m := m) hu hk hz hx hy
  rw [h] at this; exact this
theorem RD_look2No {α : Type} [DecidableEq α] {K : Keyed α} {P : Program} {l : Env} {ty : TypeId} {x y : Operand} {t kt et b : Nat} {m : List (α × Value)} {key : α} {z : Value} (hu : P.underlying t = some (.map kt et)) (hk : P.underlying kt = some K.desc) (hz : ∀ w, (zeroValue et).run P w = .ok z w)
    (hx : ev l x = some (.map (some b))) (hy : ev l y = some (K.val key)) (h : mget m key = none) : RD P l (.lookup t x y true) ty (mapF K b m) (.tuple #[z, .bool false]) := by
  have := RD_lookup2 (P := P) (l := l) (ty := ty) (K := K) (m := m) hu hk hz hx hy
  rw [h] at this; exact this
/-! ### The tree -/
def blkP (b : BlkD) : List HProp := [rowP 3 1 b.by_.a b.by_.n b.by_.c (b.by_.l.map intV), rowP 51 4 b.envs.a b.envs.n b.envs.c (b.envs.l.flatMap EnvD.cells)]
def bigT (T : List (Int × BlkD)) : HProp := fun h => Den (T.flatMap fun t => blkP t.2) h
def entsT (T : List (Int × BlkD)) : List (Int × Value) := T.map fun t => (t.1, .agg t.2.cells.toArray)
def pureT (T : List (Int × BlkD)) : List (Int × Blk) := T.map fun t => (t.1, t.2.pure)
def BlkD.Fit (b : BlkD) : Prop := b.by_.l.length = b.by_.n ∧ b.envs.l.length = b.envs.n ∧ b.by_.n ≤ 10000 ∧ b.envs.n ≤ 10000 ∧ ∀ e ∈ b.envs.l, e.Ok
theorem bigT_flat {T : List (Int × BlkD)} {R : List HProp} {m : Hp} : Den (bigT T :: R) m ↔ Den ((T.flatMap fun t => blkP t.2) ++ R) m := by
  rw [Den_append]
  constructor
  · rintro ⟨m1, m2, d, e, h, r⟩; exact ⟨m1, m2, d, e, h, r⟩
  · rintro ⟨m1, m2, d, e, h, r⟩; exact ⟨m1, m2, d, e, h, r⟩
theorem bigT_put {T : List (Int × BlkD)} {d : Int} {b : BlkD} {R : List HProp} : Lands (rowP 3 1 b.by_.a b.by_.n b.by_.c (b.by_.l.map intV) :: rowP 51 4 b.envs.a b.envs.n b.envs.c (b.envs.l.flatMap EnvD.cells) :: bigT T :: R) (bigT (T ++ [(d, b)]) :: R) := fun m H => by
  have H1 := Den_tail (fun _ h2 => Den_tail (fun _ x => bigT_flat.1 x) h2) H
  refine bigT_flat.2 (Den_perm ?_ m H1)
  rw [List.flatMap_append, List.flatMap_cons, List.flatMap_nil, List.append_nil, List.append_assoc]
  show (blkP b ++ ((T.flatMap fun t => blkP t.2) ++ R)).Perm _
  rw [← List.append_assoc, ← List.append_assoc]
  exact List.Perm.append_right R List.perm_append_comm
theorem mem_split {T : List (Int × BlkD)} {d : Int} {b : BlkD} (h : mget T d = some b) : ∃ A B, T = A ++ (d, b) :: B := by
  induction T with
  | nil => simp [mget] at h
  | cons t T ih =>
    obtain ⟨a, x⟩ := t
    simp only [mget] at h
    split at h
    · rename_i e; cases h; subst e; exact ⟨[], T, rfl⟩
    · obtain ⟨A, B, e⟩ := ih h
      exact ⟨(a, x) :: A, B, by rw [e]; rfl⟩
theorem bigT_take {T : List (Int × BlkD)} {d : Int} {b : BlkD} (h : mget T d = some b) : ∃ R, ∀ m, bigT T m → Den (blkP b ++ R) m := by
  obtain ⟨A, B, rfl⟩ := mem_split h
  refine ⟨(A.flatMap fun t => blkP t.2) ++ (B.flatMap fun t => blkP t.2), fun m H => Den_perm ?_ m (show Den ((A ++ (d, b) :: B).flatMap fun t => blkP t.2) m from H)⟩
  rw [List.flatMap_append, List.flatMap_cons]
  show ((A.flatMap fun t => blkP t.2) ++ (blkP b ++ (B.flatMap fun t => blkP t.2))).Perm _
  rw [← List.append_assoc, ← List.append_assoc]
  exact List.Perm.append_right _ List.perm_append_comm
theorem hasRow_by {T : List (Int × BlkD)} {d : Int} {b : BlkD} (h : mget T d = some b) (R : List HProp) : HasRow (bigT T :: R) b.by_.a (b.by_.l.map intV) := by
  obtain ⟨R0, hR⟩ := bigT_take h
  exact ⟨.head rowR.up fun m H => by
    have H1 := hR m H
    exact (HasRow.row : HasRow (rowP 3 1 b.by_.a b.by_.n b.by_.c (b.by_.l.map intV) :: rowP 51 4 b.envs.a b.envs.n b.envs.c (b.envs.l.flatMap EnvD.cells) :: R0) b.by_.a _).r.2 m H1⟩
theorem hasRow_envs {T : List (Int × BlkD)} {d : Int} {b : BlkD} (h : mget T d = some b) (R : List HProp) : HasRow (bigT T :: R) b.envs.a (b.envs.l.flatMap EnvD.cells) := by
  obtain ⟨R0, hR⟩ := bigT_take h
  exact ⟨.head rowR.up fun m H => by
    have H1 := hR m H
    exact (HasRow.cons (A := rowP 3 1 b.by_.a b.by_.n b.by_.c (b.by_.l.map intV)) (h := (HasRow.row : HasRow (rowP 51 4 b.envs.a b.envs.n b.envs.c (b.envs.l.flatMap EnvD.cells) :: R0) b.envs.a _))).r.2 m H1⟩
structure TS where
  w : Nat
  root : Int
  T : List (Int × Blk)
def treeI (p : Nat) (s : TS) : HProp := fun h => ∃ m T, (pureT T = s.T ∧ ∀ d b, mget T d = some b → b.Fit) ∧ Den [pt p (.cells [.pointer (some ⟨s.w, 0, none⟩), .int .i64 s.root, .map (some m)].toArray 111), mapP intK m (entsT T), bigT T] h
theorem mget_ents (T : List (Int × BlkD)) (d : Int) : mget (entsT T) d = (mget T d).map fun b => .agg b.cells.toArray := by
  induction T with
  | nil => rfl
  | cons t T ih =>
    obtain ⟨a, x⟩ := t
    simp only [entsT, List.map_cons, mget] at ih ⊢
    split
    · rfl
    · exact ih
theorem mget_pure (T : List (Int × BlkD)) (d : Int) : mget (pureT T) d = (mget T d).map BlkD.pure := by
  induction T with
  | nil => rfl
  | cons t T ih =>
    obtain ⟨a, x⟩ := t
    simp only [pureT, List.map_cons, mget] at ih ⊢
    split
    · rfl
    · exact ih
theorem mset_ents {T : List (Int × BlkD)} {d : Int} (h : mget T d = none) (b : BlkD) : mset (entsT T) d (.agg b.cells.toArray) = entsT (T ++ [(d, b)]) := by
  induction T with
  | nil => rfl
  | cons t T ih =>
    obtain ⟨a, x⟩ := t
    simp only [mget] at h
    split at h
    · cases h
    · rename_i e
      have := ih h
      simp only [entsT, List.map_cons, mset, if_neg e, List.cons_append] at this ⊢
      rw [this]
theorem mget_app {α β : Type} [DecidableEq α] (T : List (α × β)) (d e : α) (b : β) (h : mget T d = none) : mget (T ++ [(d, b)]) e = if e = d then some b else mget T e := by
  induction T with
  | nil => rfl
  | cons t T ih =>
    obtain ⟨a, x⟩ := t
    simp only [mget] at h
    split at h
    · cases h
    · rename_i hne
      simp only [List.cons_append, mget, ih h]
      by_cases h1 : e = a
      · subst h1
        have : ¬ e = d := fun h => hne h.symm
        simp [this]
      · simp [h1]

theorem open_tree {p : Nat} {s : TS} : Opens treeI p s (fun x : (Nat) × (List (Int × BlkD)) => (pureT x.2 = s.T ∧ ∀ d b, mget x.2 d = some b → b.Fit)) (fun x R => (pt p (.cells [.pointer (some ⟨s.w, 0, none⟩), .int .i64 s.root, .map (some x.1)].toArray 111)) :: (mapP intK x.1 (entsT x.2)) :: (bigT x.2) :: R) := by
  rintro R m_ ⟨m1, m2, d, e, ⟨m, T, hs, h⟩, r⟩
  exact ⟨(m, T), hs, Den_app d e h r⟩
theorem SC.op_tree {W : World} {P : Program} {L R : List HProp} {n_ : Nat} {c_ : Code} {k_ : Kont} {l_ : Env} {p : Nat} {s : TS} [t_ : TakeAt L treeI p s R] (h_ : ∀ (m : Nat) (T : List (Int × BlkD)), (pureT T = s.T ∧ ∀ d b, mget T d = some b → b.Fit) → SC W P n_ c_ k_ l_ ((pt p (.cells [.pointer (some ⟨s.w, 0, none⟩), .int .i64 s.root, .map (some m)].toArray 111)) :: (mapP intK m (entsT T)) :: (bigT T) :: R)) : SC W P n_ c_ k_ l_ L := SC.opn (open_tree) fun x hx => h_ x.1 x.2 hx
theorem SN.op_tree {W : World} {P : Program} {L R : List HProp} {n_ : Nat} {k_ : Kont} {l_ : Env} {p : Nat} {s : TS} [t_ : TakeAt L treeI p s R] (h_ : ∀ (m : Nat) (T : List (Int × BlkD)), (pureT T = s.T ∧ ∀ d b, mget T d = some b → b.Fit) → SN W P n_ k_ l_ ((pt p (.cells [.pointer (some ⟨s.w, 0, none⟩), .int .i64 s.root, .map (some m)].toArray 111)) :: (mapP intK m (entsT T)) :: (bigT T) :: R)) : SN W P n_ k_ l_ L := SN.opn (open_tree) fun x hx => h_ x.1 x.2 hx
theorem SR.op_tree {W : World} {P : Program} {L R : List HProp} {n_ : Nat} {ops_ : Array Oper} {os_ : List Oper} {k_ : Kont} {l_ : Env} {p : Nat} {s : TS} [t_ : TakeAt L treeI p s R] (h_ : ∀ (m : Nat) (T : List (Int × BlkD)), (pureT T = s.T ∧ ∀ d b, mget T d = some b → b.Fit) → SR W P n_ ops_ os_ k_ l_ ((pt p (.cells [.pointer (some ⟨s.w, 0, none⟩), .int .i64 s.root, .map (some m)].toArray 111)) :: (mapP intK m (entsT T)) :: (bigT T) :: R)) : SR W P n_ ops_ os_ k_ l_ L := SR.opn (open_tree) fun x hx => h_ x.1 x.2 hx
theorem SQ.op_tree {W : World} {P : Program} {L R : List HProp} {n_ : Nat} {ops_ : Array Oper} {r_ : Ord} {Ts_ : Facts} {k_ : Kont} {l_ : Env} {p : Nat} {s : TS} [t_ : TakeAt L treeI p s R] (h_ : ∀ (m : Nat) (T : List (Int × BlkD)), (pureT T = s.T ∧ ∀ d b, mget T d = some b → b.Fit) → SQ W P n_ ops_ r_ Ts_ k_ l_ ((pt p (.cells [.pointer (some ⟨s.w, 0, none⟩), .int .i64 s.root, .map (some m)].toArray 111)) :: (mapP intK m (entsT T)) :: (bigT T) :: R)) : SQ W P n_ ops_ r_ Ts_ k_ l_ L := SQ.opn (open_tree) fun x hx => h_ x.1 x.2 hx
theorem CallsK.op_tree {W : World} {P : Program} {L R : List HProp} {f_ : FuncId} {args_ : Array Value} {K_ : Value → List HProp → Prop} {p : Nat} {s : TS} [t_ : TakeAt L treeI p s R] (h_ : ∀ (m : Nat) (T : List (Int × BlkD)), (pureT T = s.T ∧ ∀ d b, mget T d = some b → b.Fit) → CallsK W P f_ args_ ((pt p (.cells [.pointer (some ⟨s.w, 0, none⟩), .int .i64 s.root, .map (some m)].toArray 111)) :: (mapP intK m (entsT T)) :: (bigT T) :: R) K_) : CallsK W P f_ args_ L K_ := CallsK.opn (open_tree) fun x hx => h_ x.1 x.2 hx
theorem close_tree {L R R1 R2 : List HProp} {p m w : Nat} {root : Int} {T : List (Int × BlkD)} {s : TS} {mm : List (Int × Value)} [t : TakePt L p (.cells [.pointer (some ⟨w, 0, none⟩), .int .i64 root, .map (some m)].toArray 111) R1] [u : TakeMap R1 intK m mm R2] [v : TakeA R2 (bigT T) R]
    (h1 : mm = entsT T) (h2 : pureT T = s.T ∧ ∀ d b, mget T d = some b → b.Fit) (h3 : s.w = w) (h4 : s.root = root) : Lands L (At treeI p s :: R) := fun q H => by
  subst h1; subst h3; subst h4
  obtain ⟨m1, m2, d, e, hq, hr⟩ := Den_perm t.perm q H
  obtain ⟨m3, m4, d2, e2, hm, hs⟩ := Den_perm u.perm m2 hr
  have H2 : Den ([pt p (.cells [.pointer (some ⟨s.w, 0, none⟩), .int .i64 s.root, .map (some m)].toArray 111), mapP intK m (entsT T), bigT T] ++ R) q := ⟨m1, m2, d, e, hq, m3, m4, d2, e2, hm, Den_perm v.perm m4 hs⟩
  exact Lands.wrap (A := At treeI p s) (fun z hz => ⟨m, T, h2, hz⟩) q H2

theorem blok_Still {W : World} {F : List HProp} [Abs F] (b : BlkD) {cs ds : List Value} [HasRow F b.by_.a cs] [HasRow F b.envs.a ds] (hcs : cs = b.by_.l.map intV) (hds : ds = b.envs.l.flatMap EnvD.cells) (hf : b.Fit) :
    CallsK W Try.prog 63 #[b.val] (F) (fun v L => ∃ b' : BlkD, v = b'.val ∧ b'.pure = b.pure ∧ b'.Fit ∧ Lands L (rowP 3 1 b'.by_.a b'.by_.n b'.by_.c (b'.by_.l.map intV) :: rowP 51 4 b'.envs.a b'.envs.n b'.envs.c (b'.envs.l.flatMap EnvD.cells) :: F)) := by
  refine CallsK_enter (n := 14) Try.func63 rfl rfl rfl ?_
  subst hcs
  subst hds
  refine SC_seq ?_
  refine SC_region ?_
  refine SR_ox (OX_box rfl rfl) rfl ?_
  rintro _ _ ⟨b1, rfl, rfl⟩
  refine SR_ox (OX_alloc Try.zeroValue58 rfl) rfl ?_
  rintro _ _ ⟨b2, rfl, rfl⟩
  refine SR_nil ?_
  refine SN.le (l := [(1, _), (2, _)]) ?_ (.cons rfl (.cons rfl (.nil)))
  refine SN_seq ?_
  refine SC_seq ?_
  unfold BlkD.cells
  refine SC_drawn (.cons 0 true (.cons 1 true (.cons 2 true (.cons 4 true (.cons 5 true (.cons 3 false (.cons 7 true (.cons 8 true (.cons 6 false (.cons 9 false (.cons 10 true (.cons 11 false (.nil))))))))))))) (by kernel_rfl) (by kernel_rfl) ?_
  first
    | refine SQ_pu rfl (RD_fieldAddr 2 Try.runUnderlying58 rfl rfl Try.sizeOf26 rfl) rfl ?_
    | refine SQ_rd rfl (RD_fieldAddrO 2 Try.runUnderlying58 rfl rfl Try.sizeOf26 rfl (by simp <;> omega)) Has.ro rfl ?_
  first
    | refine SQ_pu rfl (RD_fieldAddr 2 Try.runUnderlying26 rfl rfl Try.sizeOf24 rfl) rfl ?_
    | refine SQ_rd rfl (RD_fieldAddrO 2 Try.runUnderlying26 rfl rfl Try.sizeOf24 rfl (by simp <;> omega)) Has.ro rfl ?_
  refine SQ_rd rfl (RD_load Try.isAgg24 rfl) (Has.ce rfl) rfl ?_
  first
    | refine SQ_pu rfl (RD_fieldAddr 5 Try.runUnderlying58 rfl rfl Try.sizeOf56 rfl) rfl ?_
    | refine SQ_rd rfl (RD_fieldAddrO 5 Try.runUnderlying58 rfl rfl Try.sizeOf56 rfl (by simp <;> omega)) Has.ro rfl ?_
  refine SQ_rd rfl (RD_load Try.isAgg56 rfl) (Has.ce rfl) rfl ?_
  refine SQ_call rfl Try.call64 (.cons rfl (.nil)) (clone_ints (b.by_.l.map intV) b.by_.a b.by_.n b.by_.c (by simpa using hf.1) (by have := hf.2.2.1; omega)) (lts rfl) ?_
  rintro _ L1 ⟨a6, c6, rfl, hL1⟩
  refine ⟨.lands hL1 (.h (Has.ce rfl) (.w rfl (.nil))), ?_⟩
  refine SQ.lands hL1 ?_
  first
    | refine SQ_pu rfl (RD_fieldAddr 2 Try.runUnderlying58 rfl rfl Try.sizeOf26 rfl) rfl ?_
    | refine SQ_rd rfl (RD_fieldAddrO 2 Try.runUnderlying58 rfl rfl Try.sizeOf26 rfl (by simp <;> omega)) Has.ro rfl ?_
  first
    | refine SQ_pu rfl (RD_fieldAddr 2 Try.runUnderlying26 rfl rfl Try.sizeOf24 rfl) rfl ?_
    | refine SQ_rd rfl (RD_fieldAddrO 2 Try.runUnderlying26 rfl rfl Try.sizeOf24 rfl (by simp <;> omega)) Has.ro rfl ?_
  refine SQ_call rfl Try.call91 (.cons rfl (.nil)) (clone_envs (b.envs.l.flatMap EnvD.cells) b.envs.a b.envs.n b.envs.c (by rw [env_len, hf.2.1]) (by have := hf.2.2.2.1; omega)) (lts rfl) ?_
  rintro _ L2 ⟨a9, c9, rfl, hL2⟩
  refine ⟨.lands hL2 (.w rfl (.h (Has.ce rfl) (.nil))), ?_⟩
  refine SQ.lands hL2 ?_
  refine SQ_ox0 rfl (OX_st Try.sizeOf24 rfl rfl) ?_
  rintro _ _ rfl
  refine ⟨.w rfl (.w rfl (.nil)), ?_⟩
  first
    | refine SQ_pu rfl (RD_fieldAddr 5 Try.runUnderlying58 rfl rfl Try.sizeOf56 rfl) rfl ?_
    | refine SQ_rd rfl (RD_fieldAddrO 5 Try.runUnderlying58 rfl rfl Try.sizeOf56 rfl (by simp <;> omega)) Has.ro rfl ?_
  refine SQ_ox0 rfl (OX_st Try.sizeOf56 rfl rfl) ?_
  rintro _ _ rfl
  refine ⟨.w rfl (.w rfl (.nil)), ?_⟩
  refine SQ_nil ?_
  refine SN.le (l := [(1, _), (2, _)]) ?_ (.cons rfl (.cons rfl (.nil)))
  refine SN_seq ?_
  refine SC_seq ?_
  refine SC_region ?_
  refine SR_rd (RD_loadA Try.isAgg58 Try.sizeOf58 rfl rfl) Has.wh rfl ?_
  refine SR_ox0 (OX_stA Try.sizeOf58 rfl rfl rfl rfl) ?_
  rintro _ _ rfl
  refine SR_nil ?_
  refine SN.le (l := [(2, _)]) ?_ (.cons rfl (.nil))
  refine SN_seq ?_
  refine SC_retC rfl Try.isAgg58 Try.sizeOf58 rfl rfl Has.wh ?_
  exact ⟨⟨b.view, b.author, b.jv, b.jb, ⟨a6, b.by_.n, c6, b.by_.l⟩, ⟨a9, b.envs.n, c9, b.envs.l⟩⟩, rfl, rfl, hf, .fin⟩

end Go.Proofs.Ytmigjpmadhebfaa
