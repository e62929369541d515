/- Part 5 of the proof: lemmas that the walk of TopWindow needs. -/
import Derived.Laws.MakeOwn
import Derived.Laws.CopyRow
import Derived.Laws.Externs
import Derived.Test.YtdhpjdhloaoepaaGreatPw4
set_option linter.unusedSimpArgs false
set_option linter.unusedVariables false
/- The tree's functions. -/
namespace Go.Proofs.YtdhpjdhloaoepaaGreat
open Go Go.Proofs
attribute [local irreducible] SC SN SR SQ SA SO
set_option maxRecDepth 100000
def zBlk : Blk := ⟨0, 0, 0, 0, [], []⟩
def zBlkD : BlkD := ⟨0, 0, 0, 0, noRow, noE⟩
theorem bigT_new (d : Int) {R : List HProp} : Lands (rowP 43 4 none 0 0 [] :: rowP 3 1 none 0 0 [] :: R) (bigT [(d, zBlkD)] :: R) := fun m H => by
  refine bigT_flat.2 ?_
  exact Den_perm (List.Perm.swap _ _ _) m H
theorem zero_fit : zBlkD.Fit := ⟨rfl, rfl, by decide, by decide, fun e he => nomatch he⟩

theorem tree_Has_no {W : World} {F : List HProp} [Abs F] (p : Nat) (s : TS) (m : Nat) (T : List (Int × BlkD)) (hT : pureT T = s.T ∧ ∀ d b, mget T d = some b → b.Fit) (d : Int) (h : mget T d = none) :
    CallsK W Tryz.prog 111 #[.pointer (some ⟨p, 0, none⟩), .int .i64 d] (pt p (.cells [.pointer (some ⟨s.w, 0, none⟩), .int .i64 s.root, .map (some m)].toArray 164) :: mapP intK m (entsT T) :: bigT T :: F) (fun v L => v = .bool ((none : Option Blk)).isSome ∧ Lands L (At treeI p s :: F)) := by
  refine CallsK_enter (n := 17) Tryz.func111 rfl rfl rfl ?_
  iterate 12 refine Ws ?_
  refine SR_rd (RD_look2No (K := intK) (m := entsT T) Tryz.underlying162 Tryz.underlying3 Tryz.zeroValue146 rfl rfl (by rw [mget_ents, h]; rfl)) (Has.ma (K := intK)) rfl ?_
  iterate 3 refine Ws ?_
  refine Wa fun b5 => ?_
  refine SR_ox0 (OX_stA (vs := [.int .i64 0, .int .i64 0, .int .i64 0, .int .i64 0, .slice none 0 0, .slice none 0 0]) Tryz.sizeOf146 rfl rfl rfl rfl) ?_
  rintro _ _ rfl
  iterate 9 refine Ws ?_
  refine SC_ret1 rfl rfl ?_
  exact ⟨rfl, (close_tree (p := p) (T := T) (s := s) rfl hT rfl rfl).trans .fin⟩

theorem tree_Has_yes {W : World} {F : List HProp} [Abs F] (p : Nat) (s : TS) (m : Nat) (T : List (Int × BlkD)) (hT : pureT T = s.T ∧ ∀ d b, mget T d = some b → b.Fit) (d : Int) (b : BlkD) (h : mget T d = some b) :
    CallsK W Tryz.prog 111 #[.pointer (some ⟨p, 0, none⟩), .int .i64 d] (pt p (.cells [.pointer (some ⟨s.w, 0, none⟩), .int .i64 s.root, .map (some m)].toArray 164) :: mapP intK m (entsT T) :: bigT T :: F) (fun v L => v = .bool ((some b.pure)).isSome ∧ Lands L (At treeI p s :: F)) := by
  refine CallsK_enter (n := 17) Tryz.func111 rfl rfl rfl ?_
  iterate 12 refine Ws ?_
  refine SR_rd (RD_look2S (K := intK) (m := entsT T) Tryz.underlying162 Tryz.underlying3 Tryz.zeroValue146 rfl rfl (by rw [mget_ents, h]; rfl)) (Has.ma (K := intK)) rfl ?_
  iterate 3 refine Ws ?_
  refine Wa fun b5 => ?_
  refine SR_ox0 (OX_stA (vs := b.cells) Tryz.sizeOf146 rfl rfl rfl rfl) ?_
  rintro _ _ rfl
  iterate 9 refine Ws ?_
  refine SC_ret1 rfl rfl ?_
  exact ⟨rfl, (close_tree (p := p) (T := T) (s := s) rfl hT rfl rfl).trans .fin⟩

theorem tree_Has {W : World} {F : List HProp} [Abs F] (p : Nat) (s : TS) (d : Int) :
    CallsK W Tryz.prog 111 #[.pointer (some ⟨p, 0, none⟩), .int .i64 d] (At treeI p s :: F) (fun v L => v = .bool ((mget s.T d)).isSome ∧ Lands L (At treeI p s :: F)) := by
  refine CallsK.op_tree (p := p) fun m T hT => ?_
  cases h : mget T d with
  | none =>
    have hs : mget s.T d = none := by rw [← hT.1, mget_pure, h]; rfl
    rw [hs]; exact tree_Has_no p s m T hT d h
  | some b =>
    have hs : mget s.T d = some b.pure := by rw [← hT.1, mget_pure, h]; rfl
    rw [hs]; exact tree_Has_yes p s m T hT d b h

theorem tree_Parent_no {W : World} {F : List HProp} [Abs F] (p : Nat) (s : TS) (m : Nat) (T : List (Int × BlkD)) (hT : pureT T = s.T ∧ ∀ d b, mget T d = some b → b.Fit) (d : Int) (h : mget T d = none) :
    CallsK W Tryz.prog 150 #[.pointer (some ⟨p, 0, none⟩), .int .i64 d] (pt p (.cells [.pointer (some ⟨s.w, 0, none⟩), .int .i64 s.root, .map (some m)].toArray 164) :: mapP intK m (entsT T) :: bigT T :: F) (fun v L => v = .int .i64 (((none : Option Blk)).elim 0 Blk.jb) ∧ Lands L (At treeI p s :: F)) := by
  refine CallsK_enter (n := 13) Tryz.func150 rfl rfl rfl ?_
  iterate 12 refine Ws ?_
  refine SR_rd (RD_lookNo (K := intK) (m := entsT T) Tryz.underlying162 Tryz.underlying3 Tryz.zeroValue146 rfl rfl (by rw [mget_ents, h]; rfl)) (Has.ma (K := intK)) rfl ?_
  refine SR_pu (RD_fieldA (us := #[.int .i64 0, .int .i64 0, .slice none 0 0]) Tryz.runUnderlying146 rfl Tryz.isAgg39 Tryz.sizeOf39 rfl rfl) rfl ?_
  refine SR_pu (RD_field Tryz.runUnderlying39 rfl Tryz.isAgg3 rfl rfl) rfl ?_
  iterate 3 refine Ws ?_
  refine SC_ret1 rfl rfl ?_
  exact ⟨rfl, (close_tree (p := p) (T := T) (s := s) rfl hT rfl rfl).trans .fin⟩

theorem tree_Parent_yes {W : World} {F : List HProp} [Abs F] (p : Nat) (s : TS) (m : Nat) (T : List (Int × BlkD)) (hT : pureT T = s.T ∧ ∀ d b, mget T d = some b → b.Fit) (d : Int) (b : BlkD) (h : mget T d = some b) :
    CallsK W Tryz.prog 150 #[.pointer (some ⟨p, 0, none⟩), .int .i64 d] (pt p (.cells [.pointer (some ⟨s.w, 0, none⟩), .int .i64 s.root, .map (some m)].toArray 164) :: mapP intK m (entsT T) :: bigT T :: F) (fun v L => v = .int .i64 (((some b.pure)).elim 0 Blk.jb) ∧ Lands L (At treeI p s :: F)) := by
  refine CallsK_enter (n := 13) Tryz.func150 rfl rfl rfl ?_
  iterate 12 refine Ws ?_
  refine SR_rd (RD_lookS (K := intK) (m := entsT T) Tryz.underlying162 Tryz.underlying3 Tryz.zeroValue146 rfl rfl (by rw [mget_ents, h]; rfl)) (Has.ma (K := intK)) rfl ?_
  refine SR_pu (RD_fieldA (us := #[.int .i64 b.jv, .int .i64 b.jb, .slice b.by_.a b.by_.n b.by_.c]) Tryz.runUnderlying146 rfl Tryz.isAgg39 Tryz.sizeOf39 rfl rfl) rfl ?_
  refine SR_pu (RD_field Tryz.runUnderlying39 rfl Tryz.isAgg3 rfl rfl) rfl ?_
  iterate 3 refine Ws ?_
  refine SC_ret1 rfl rfl ?_
  exact ⟨rfl, (close_tree (p := p) (T := T) (s := s) rfl hT rfl rfl).trans .fin⟩

theorem tree_Parent {W : World} {F : List HProp} [Abs F] (p : Nat) (s : TS) (d : Int) :
    CallsK W Tryz.prog 150 #[.pointer (some ⟨p, 0, none⟩), .int .i64 d] (At treeI p s :: F) (fun v L => v = .int .i64 (((mget s.T d)).elim 0 Blk.jb) ∧ Lands L (At treeI p s :: F)) := by
  refine CallsK.op_tree (p := p) fun m T hT => ?_
  cases h : mget T d with
  | none =>
    have hs : mget s.T d = none := by rw [← hT.1, mget_pure, h]; rfl
    rw [hs]; exact tree_Parent_no p s m T hT d h
  | some b =>
    have hs : mget s.T d = some b.pure := by rw [← hT.1, mget_pure, h]; rfl
    rw [hs]; exact tree_Parent_yes p s m T hT d b h

def viewOf (o : Option Blk) : Int := o.elim (-1) Blk.view

theorem tree_View_no {W : World} {F : List HProp} [Abs F] (p : Nat) (s : TS) (d : Int) (h : mget s.T d = none) :
    CallsK W Tryz.prog 165 #[.pointer (some ⟨p, 0, none⟩), .int .i64 d] (At treeI p s :: F) (fun v L => v = .int .i64 (-1) ∧ Lands L (At treeI p s :: F)) := by
  refine CallsK_enter (n := 16) Tryz.func165 rfl rfl rfl ?_
  iterate 10 refine Ws ?_
  refine We (CallsK.at (tree_Has p s d)) ?_
  rintro _ L1 ⟨rfl, hL1⟩
  rw [h]
  refine SR.lands hL1 ?_
  iterate 3 refine Ws ?_
  refine SC_cond_true rfl (rfl) ?_
  iterate 5 refine Ws ?_
  refine SC_ret1 rfl rfl ?_
  exact ⟨rfl, .fin⟩

theorem tree_View_yes {W : World} {F : List HProp} [Abs F] (p : Nat) (s : TS) (d : Int) (b0 : Blk) (h : mget s.T d = some b0) :
    CallsK W Tryz.prog 165 #[.pointer (some ⟨p, 0, none⟩), .int .i64 d] (At treeI p s :: F) (fun v L => v = .int .i64 b0.view ∧ Lands L (At treeI p s :: F)) := by
  refine CallsK_enter (n := 16) Tryz.func165 rfl rfl rfl ?_
  iterate 10 refine Ws ?_
  refine We (CallsK.at (tree_Has p s d)) ?_
  rintro _ L1 ⟨rfl, hL1⟩
  rw [h]
  refine SR.lands hL1 ?_
  iterate 3 refine Ws ?_
  refine SC_cond_false rfl (rfl) ?_
  iterate 3 refine Ws ?_
  refine SC.op_tree (p := p) fun m T hT => ?_
  obtain ⟨b, hb, rfl⟩ : ∃ b, mget T d = some b ∧ b.pure = b0 := by
    rw [← hT.1, mget_pure] at h
    cases hm : mget T d with
    | none => rw [hm] at h; cases h
    | some b => rw [hm] at h; exact ⟨b, rfl, Option.some.inj h⟩
  iterate 6 refine Ws ?_
  refine SR_rd (RD_lookS (K := intK) (m := entsT T) Tryz.underlying162 Tryz.underlying3 Tryz.zeroValue146 rfl rfl (by rw [mget_ents, hb]; rfl)) (Has.ma (K := intK)) rfl ?_
  refine SR_pu (RD_field (v := .int .i64 b.view) Tryz.runUnderlying146 rfl Tryz.isAgg3 rfl rfl) rfl ?_
  iterate 3 refine Ws ?_
  refine SC_ret1 rfl rfl ?_
  exact ⟨rfl, (close_tree (p := p) (T := T) (s := s) rfl hT rfl rfl).trans .fin⟩

theorem tree_View {W : World} {F : List HProp} [Abs F] (p : Nat) (s : TS) (d : Int) :
    CallsK W Tryz.prog 165 #[.pointer (some ⟨p, 0, none⟩), .int .i64 d] (At treeI p s :: F) (fun v L => v = .int .i64 (viewOf (mget s.T d)) ∧ Lands L (At treeI p s :: F)) := by
  cases h : mget s.T d with
  | none => exact tree_View_no p s d h
  | some b => exact tree_View_yes p s d b h

theorem tree_Root {W : World} {F : List HProp} [Abs F] (p : Nat) (s : TS) :
    CallsK W Tryz.prog 82 #[.pointer (some ⟨p, 0, none⟩)] (At treeI p s :: F) (fun v L => v = .int .i64 s.root ∧ Lands L (At treeI p s :: F)) := by
  refine CallsK_enter (n := 7) Tryz.func82 rfl rfl rfl ?_
  iterate 6 refine Ws ?_
  refine SC.op_tree (p := p) fun m T hT => ?_
  iterate 8 refine Ws ?_
  refine SC_ret1 rfl rfl ?_
  exact ⟨rfl, (close_tree (p := p) (T := T) (s := s) rfl hT rfl rfl).trans .fin⟩

theorem tree_New {W : World} {F : List HProp} [Abs F] (k : WK) (s : WS) (hl : s.l.length ≤ 1000000000) (l' : List (List UInt8)) (d : Nat) (h1 : dput s.l rootB = l') (h2 : dnum l' rootB = d) :
    CallsK W Tryz.prog 52 #[.pointer (some ⟨k.p, 0, none⟩)] (At worldI k s :: F) (fun v L => ∃ p, v = .pointer (some ⟨p, 0, none⟩) ∧ Lands L (At treeI p ⟨k.p, (d : Nat), [((d : Nat), zBlk)]⟩ :: At worldI k ⟨l', s.S⟩ :: F)) := by
  refine CallsK_enter (n := 14) Tryz.func52 rfl rfl rfl ?_
  iterate 8 refine Ws ?_
  refine Wc (CallsK.at (cert_Root k s hl l' d h1 h2)) ?_
  iterate 7 refine Ws ?_
  refine SR_ox (OX_mk intK) rfl ?_
  rintro _ _ ⟨b8, rfl, rfl⟩
  refine Ws ?_
  refine SR_pu (RD_build (.nil) built146) rfl ?_
  refine SR_ox0 (OX_mi (K := intK) Tryz.underlying162 Tryz.underlying3 rfl rfl rfl) ?_
  rintro _ _ rfl
  refine Ws ?_
  refine SR_pu (RD_build (.cons rfl (.cons rfl (.cons rfl (.nil)))) built164_0_1_2) rfl ?_
  refine Wb fun b13 => ?_
  iterate 3 refine Ws ?_
  refine SC_ret1 rfl rfl ?_
  refine ⟨b13, rfl, ?_⟩
  refine (row_new 3 1 none).trans ((row_new 43 4 none).trans ?_)
  refine (bigT_new (((d : Nat) : Int))).trans ?_
  exact (close_tree (p := b13) (T := [(((d : Nat) : Int), zBlkD)]) (s := ⟨k.p, (d : Nat), [((d : Nat), zBlk)]⟩) rfl ⟨rfl, fun e b h => by simp only [mget] at h; split at h; (cases h; exact zero_fit); cases h⟩ rfl rfl).trans .fin

theorem tree_Block_no {W : World} {F : List HProp} [Abs F] (p : Nat) (s : TS) (m : Nat) (T : List (Int × BlkD)) (hT : pureT T = s.T ∧ ∀ d b, mget T d = some b → b.Fit) (d : Int) (h : mget T d = none) :
    CallsK W Tryz.prog 149 #[.pointer (some ⟨p, 0, none⟩), .int .i64 d] (pt p (.cells [.pointer (some ⟨s.w, 0, none⟩), .int .i64 s.root, .map (some m)].toArray 164) :: mapP intK m (entsT T) :: bigT T :: F) (fun v L => ∃ b' : BlkD, v = .tuple #[b'.val, .bool ((none : Option Blk)).isSome] ∧ b'.pure = ((none : Option Blk)).getD zBlk ∧ b'.Fit ∧ Lands L (rowP 3 1 b'.by_.a b'.by_.n b'.by_.c (b'.by_.l.map intV) :: rowP 43 4 b'.envs.a b'.envs.n b'.envs.c (b'.envs.l.flatMap EnvD.cells) :: At treeI p s :: F)) := by
  refine CallsK_enter (n := 20) Tryz.func149 rfl rfl rfl ?_
  haveI : ∀ R, HasRow R zBlkD.by_.a (zBlkD.by_.l.map intV) := fun R => (HasRow.nil : HasRow R none [])
  haveI : ∀ R, HasRow R zBlkD.envs.a (zBlkD.envs.l.flatMap EnvD.cells) := fun R => (HasRow.nil : HasRow R none [])
  iterate 2 refine Ws ?_
  refine Wa fun b4 => ?_
  iterate 10 refine Ws ?_
  refine SR_rd (RD_look2No (K := intK) (m := entsT T) Tryz.underlying162 Tryz.underlying3 Tryz.zeroValue146 rfl rfl (by rw [mget_ents, h]; rfl)) (Has.ma (K := intK)) rfl ?_
  iterate 3 refine Ws ?_
  refine Wa fun b6 => ?_
  refine SR_ox0 (OX_stA (vs := zBlkD.cells) Tryz.sizeOf146 rfl rfl rfl rfl) ?_
  rintro _ _ rfl
  iterate 6 refine Ws ?_
  refine We (blok_Still zBlkD rfl rfl zero_fit) ?_
  rintro _ L1 ⟨b', rfl, hp', hf', hL1⟩
  refine SR.lands hL1 ?_
  refine Ws ?_
  refine SR_ox0 (OX_stA (vs := b'.cells) Tryz.sizeOf146 rfl rfl rfl rfl) ?_
  rintro _ _ rfl
  iterate 3 refine Ws ?_
  refine SC_retCT rfl Tryz.isAgg146 Tryz.sizeOf146 rfl rfl rfl Has.wh ?_
  exact ⟨b', rfl, hp', hf', (Lands.trans .fin (show Lands (pt p (.cells [.pointer (some ⟨s.w, 0, none⟩), .int .i64 s.root, .map (some m)].toArray 164) :: mapP intK m (entsT T) :: bigT T :: rowP 3 1 b'.by_.a b'.by_.n b'.by_.c (b'.by_.l.map intV) :: rowP 43 4 b'.envs.a b'.envs.n b'.envs.c (b'.envs.l.flatMap EnvD.cells) :: F) (rowP 3 1 b'.by_.a b'.by_.n b'.by_.c (b'.by_.l.map intV) :: rowP 43 4 b'.envs.a b'.envs.n b'.envs.c (b'.envs.l.flatMap EnvD.cells) :: At treeI p s :: F) from (close_tree (p := p) (T := T) (s := s) rfl hT rfl rfl).trans .fin))⟩

theorem tree_Block_yes {W : World} {F : List HProp} [Abs F] (p : Nat) (s : TS) (m : Nat) (T : List (Int × BlkD)) (hT : pureT T = s.T ∧ ∀ d b, mget T d = some b → b.Fit) (d : Int) (b : BlkD) (h : mget T d = some b) :
    CallsK W Tryz.prog 149 #[.pointer (some ⟨p, 0, none⟩), .int .i64 d] (pt p (.cells [.pointer (some ⟨s.w, 0, none⟩), .int .i64 s.root, .map (some m)].toArray 164) :: mapP intK m (entsT T) :: bigT T :: F) (fun v L => ∃ b' : BlkD, v = .tuple #[b'.val, .bool ((some b.pure)).isSome] ∧ b'.pure = ((some b.pure)).getD zBlk ∧ b'.Fit ∧ Lands L (rowP 3 1 b'.by_.a b'.by_.n b'.by_.c (b'.by_.l.map intV) :: rowP 43 4 b'.envs.a b'.envs.n b'.envs.c (b'.envs.l.flatMap EnvD.cells) :: At treeI p s :: F)) := by
  refine CallsK_enter (n := 20) Tryz.func149 rfl rfl rfl ?_
  haveI := hasRow_by h
  haveI := hasRow_envs h
  iterate 2 refine Ws ?_
  refine Wa fun b4 => ?_
  iterate 10 refine Ws ?_
  refine SR_rd (RD_look2S (K := intK) (m := entsT T) Tryz.underlying162 Tryz.underlying3 Tryz.zeroValue146 rfl rfl (by rw [mget_ents, h]; rfl)) (Has.ma (K := intK)) rfl ?_
  iterate 3 refine Ws ?_
  refine Wa fun b6 => ?_
  refine SR_ox0 (OX_stA (vs := b.cells) Tryz.sizeOf146 rfl rfl rfl rfl) ?_
  rintro _ _ rfl
  iterate 6 refine Ws ?_
  refine We (blok_Still b rfl rfl (hT.2 d b h)) ?_
  rintro _ L1 ⟨b', rfl, hp', hf', hL1⟩
  refine SR.lands hL1 ?_
  refine Ws ?_
  refine SR_ox0 (OX_stA (vs := b'.cells) Tryz.sizeOf146 rfl rfl rfl rfl) ?_
  rintro _ _ rfl
  iterate 3 refine Ws ?_
  refine SC_retCT rfl Tryz.isAgg146 Tryz.sizeOf146 rfl rfl rfl Has.wh ?_
  exact ⟨b', rfl, hp', hf', (Lands.trans .fin (show Lands (pt p (.cells [.pointer (some ⟨s.w, 0, none⟩), .int .i64 s.root, .map (some m)].toArray 164) :: mapP intK m (entsT T) :: bigT T :: rowP 3 1 b'.by_.a b'.by_.n b'.by_.c (b'.by_.l.map intV) :: rowP 43 4 b'.envs.a b'.envs.n b'.envs.c (b'.envs.l.flatMap EnvD.cells) :: F) (rowP 3 1 b'.by_.a b'.by_.n b'.by_.c (b'.by_.l.map intV) :: rowP 43 4 b'.envs.a b'.envs.n b'.envs.c (b'.envs.l.flatMap EnvD.cells) :: At treeI p s :: F) from (close_tree (p := p) (T := T) (s := s) rfl hT rfl rfl).trans .fin))⟩

theorem tree_Block {W : World} {F : List HProp} [Abs F] (p : Nat) (s : TS) (d : Int) :
    CallsK W Tryz.prog 149 #[.pointer (some ⟨p, 0, none⟩), .int .i64 d] (At treeI p s :: F) (fun v L => ∃ b' : BlkD, v = .tuple #[b'.val, .bool ((mget s.T d)).isSome] ∧ b'.pure = ((mget s.T d)).getD zBlk ∧ b'.Fit ∧ Lands L (rowP 3 1 b'.by_.a b'.by_.n b'.by_.c (b'.by_.l.map intV) :: rowP 43 4 b'.envs.a b'.envs.n b'.envs.c (b'.envs.l.flatMap EnvD.cells) :: At treeI p s :: F)) := by
  refine CallsK.op_tree (p := p) fun m T hT => ?_
  cases h : mget T d with
  | none =>
    have hs : mget s.T d = none := by rw [← hT.1, mget_pure, h]; rfl
    rw [hs]; exact tree_Block_no p s m T hT d h
  | some b =>
    have hs : mget s.T d = some b.pure := by rw [← hT.1, mget_pure, h]; rfl
    rw [hs]; exact tree_Block_yes p s m T hT d b h

end Go.Proofs.YtdhpjdhloaoepaaGreat

/- Blocks are put in the tree. -/
namespace Go.Proofs.YtdhpjdhloaoepaaGreat
open Go Go.Proofs
attribute [local irreducible] SC SN SR SQ SA SO
set_option maxRecDepth 100000
theorem CallsK.at2 {κ σ κ' σ' : Type} {W : World} {P : Program} {f : FuncId} {args : Array Value} {L R1 R : List HProp} {KK : Value → List HProp → Prop} {I : κ → σ → HProp} {key : κ} {s : σ} {J : κ' → σ' → HProp} {key' : κ'} {s' : σ'} [t : TakeAt L I key s R1] [u : TakeAt R1 J key' s' R] (g : CallsK W P f args (At I key s :: At J key' s' :: R) KK) : CallsK W P f args L KK :=
  g.pre fun m H => Den_tail (fun m2 h2 => Den_perm u.perm m2 h2) (Den_perm t.perm m H)
/-- What comes of a block that is put: its digest and the error; the tree; the arena. -/
def TS.add (s : TS) (l : List (List UInt8)) (b : Blk) : (Int × Int) × TS × List (List UInt8) :=
  match mget s.T b.jb with
  | none => ((0, 12), s, l)
  | some p => if b.jv ≠ p.view ∨ b.view ≤ b.jv then ((0, 13), s, l)
    else if (mget s.T ((blkD l b : Nat) : Int)).isSome then (((blkD l b : Nat), 10), s, blkL l b)
    else (((blkD l b : Nat), 0), ⟨s.w, s.root, s.T ++ [(((blkD l b : Nat) : Int), b)]⟩, blkL l b)

theorem tree_Add {W : World} {F : List HProp} [Abs F] (p : Nat) (s : TS) (k : WK) (hk : s.w = k.p) (z : WS) (b : BlkD) {cs ds : List Value} [HasRow F b.by_.a cs] [HasRow F b.envs.a ds] (hcs : cs = b.by_.l.map intV) (hds : ds = b.envs.l.flatMap EnvD.cells) (hf : b.Fit) (hl : z.l.length ≤ 900000000) :
    CallsK W Tryz.prog 179 #[.pointer (some ⟨p, 0, none⟩), b.val] (At treeI p s :: At worldI k z :: F) (fun v L => v = .tuple #[.int .i64 (s.add z.l b.pure).1.1, .int .i64 (s.add z.l b.pure).1.2] ∧ Lands L (At treeI p (s.add z.l b.pure).2.1 :: At worldI k ⟨(s.add z.l b.pure).2.2, z.S⟩ :: F)) := by
  refine CallsK_enter (n := 50) Tryz.func179 rfl rfl rfl ?_
  subst hcs
  subst hds
  iterate 2 refine Ws ?_
  refine Wb fun b3 => ?_
  iterate 12 refine Ws ?_
  refine Wc (CallsK.at (tree_Has p s b.jb)) ?_
  iterate 4 refine Ws ?_
  refine SC_cond rfl (fun hc7 => ?_) (fun hc7 => ?_)
  · have hp : mget s.T b.jb = none := by simpa using hc7
    have hadd : s.add z.l b.pure = ((0, 12), s, z.l) := by unfold TS.add; rw [show b.pure.jb = b.jb from rfl, hp]
    iterate 6 refine Ws ?_
    refine SC_ret2 rfl rfl rfl ?_
    rw [hadd]
    exact ⟨rfl, .fin⟩
  · obtain ⟨q, hp⟩ : ∃ q, mget s.T b.jb = some q := by
      cases h : mget s.T b.jb with
      | none => rw [h] at hc7; cases hc7
      | some q => exact ⟨q, rfl⟩
    rw [hp]
    refine Ws ?_
    refine Wd [.r 0, .r 1, .r 2, .r 3, .r 4, .r 5, .r 6, .e 7, .r 8, .r 9, .r 10, .r 11, .r 12, .r 13, .r 14, .r 15, .r 16, .r 17] ?_
    iterate 7 refine Wq ?_
    refine SQ_call rfl Tryz.call165 (.cons rfl (.cons rfl (.nil))) (CallsK.at (tree_View p s b.jb)) (lts rfl) ?_
    rintro _ L2 ⟨rfl, hL2⟩
    rw [hp]
    refine ⟨.lands hL2 (.w rfl (.h (Has.ce rfl) (.nil))), ?_⟩
    refine SQ.lands hL2 ?_
    iterate 2 refine Wq ?_
    refine SQ_guard (i := 10) rfl rfl rfl (fun hg3_9 => ?_) (fun hg3_9 => ?_)
    · first
        | refine SQ_pyes rfl rfl rfl (hg3_9) (RD_fieldAddr0 Tryz.runUnderlying146 rfl rfl Tryz.sizeOf3 rfl) rfl ?_
        | refine SQ_yes rfl rfl rfl (hg3_9) (RD_fieldAddrO 0 Tryz.runUnderlying146 rfl rfl Tryz.sizeOf3 rfl (by simp <;> omega)) Has.ro rfl ?_
      refine SQ_yes rfl rfl rfl (hg3_9) (RD_load Tryz.isAgg3 rfl) (Has.ce rfl) rfl ?_
      first
        | refine SQ_pyes rfl rfl rfl (hg3_9) (RD_fieldAddr 2 Tryz.runUnderlying146 rfl rfl Tryz.sizeOf39 rfl) rfl ?_
        | refine SQ_yes rfl rfl rfl (hg3_9) (RD_fieldAddrO 2 Tryz.runUnderlying146 rfl rfl Tryz.sizeOf39 rfl (by simp <;> omega)) Has.ro rfl ?_
      first
        | refine SQ_pyes rfl rfl rfl (hg3_9) (RD_fieldAddr0 Tryz.runUnderlying39 rfl rfl Tryz.sizeOf3 rfl) rfl ?_
        | refine SQ_yes rfl rfl rfl (hg3_9) (RD_fieldAddrO 0 Tryz.runUnderlying39 rfl rfl Tryz.sizeOf3 rfl (by simp <;> omega)) Has.ro rfl ?_
      refine SQ_yes rfl rfl rfl (hg3_9) (RD_load Tryz.isAgg3 rfl) (Has.ce rfl) rfl ?_
      refine SQ_pyes rfl rfl rfl (hg3_9) (RD_leq rfl rfl) rfl ?_
      refine SQ_pu rfl (RD_pick_f rfl (hg3_9) rfl) rfl ?_
      refine Wq ?_
      iterate 2 refine Ws ?_
      refine SC_cond rfl (fun hc14 => ?_) (fun hc14 => ?_)
      · iterate 6 refine Ws ?_
        refine SC_ret2 rfl rfl rfl ?_
        have h2 : b.view ≤ b.jv := by simpa using hc14
        have hadd : s.add z.l b.pure = ((0, 13), s, z.l) := by unfold TS.add; rw [show b.pure.jb = b.jb from rfl, hp]; exact if_pos (.inr h2)
        rw [hadd]
        exact ⟨rfl, .fin⟩
      · iterate 4 refine Ws ?_
        have hjv : b.jv = q.view := by
          have h : decide (b.jv = viewOf (some q)) = true := by cases hd : decide (b.jv = viewOf (some q)) with
            | true => rfl
            | false => rw [hd] at hg3_9; cases hg3_9
          exact of_decide_eq_true h
        have hvw : ¬ b.view ≤ b.jv := by simpa using hc14
        have hno : ¬ (b.pure.jv ≠ q.view ∨ b.pure.view ≤ b.pure.jv) := fun h => h.elim (fun h => h hjv) hvw
        refine SC.op_tree (p := p) fun m T hT => ?_
        rw [hk]
        refine Wd [.r 0, .r 1, .r 2, .r 3, .r 4, .e 5, .r 6] ?_
        iterate 5 refine Wq ?_
        refine SQ_call rfl Tryz.call175 (.cons rfl (.cons rfl (.nil))) (CallsK.at (blok_Digest k z b rfl rfl hf.1 hf.2.1 hf.2.2.2.2 hf.2.2.1 hf.2.2.2.1 hl)) (lts rfl) ?_
        rintro _ L3 ⟨rfl, hL3⟩
        refine ⟨.lands hL3 (.w rfl (.w rfl (.nil))), ?_⟩
        refine SQ.lands hL3 ?_
        refine Wq ?_
        iterate 4 refine Ws ?_
        refine SC.lands ((close_tree (p := p) (T := T) (s := s) rfl hT hk rfl).trans .fin : Lands _ (At treeI p s :: At worldI k ⟨blkL z.l b.pure, z.S⟩ :: pt b3 (.cells b.cells.toArray 146) :: F)) ?_
        iterate 3 refine Ws ?_
        refine Wc (CallsK.at (tree_Has p s _)) ?_
        iterate 2 refine Ws ?_
        refine SC_cond rfl (fun hc40 => ?_) (fun hc40 => ?_)
        · have h4 : (mget s.T ((blkD z.l b.pure : Nat) : Int)).isSome = true := hc40
          have hadd : s.add z.l b.pure = ((((blkD z.l b.pure : Nat) : Int), 10), s, blkL z.l b.pure) := by unfold TS.add; rw [show b.pure.jb = b.jb from rfl, hp]; exact (if_neg hno).trans (if_pos h4)
          iterate 7 refine Ws ?_
          refine SC_ret2 rfl rfl rfl ?_
          rw [hadd]
          exact ⟨rfl, .fin⟩
        · have h4 : ¬ (mget s.T ((blkD z.l b.pure : Nat) : Int)).isSome = true := by rw [hc40]; simp
          have h5 : mget s.T ((blkD z.l b.pure : Nat) : Int) = none := by simpa using hc40
          have hadd : s.add z.l b.pure = ((((blkD z.l b.pure : Nat) : Int), 0), ⟨s.w, s.root, s.T ++ [(((blkD z.l b.pure : Nat) : Int), b.pure)]⟩, blkL z.l b.pure) := by unfold TS.add; rw [show b.pure.jb = b.jb from rfl, hp]; exact (if_neg hno).trans (if_neg h4)
          refine SC.op_tree (p := p) fun m T hT => ?_
          iterate 3 refine Ws ?_
          refine Wd [.r 0, .r 1, .r 2, .r 3, .r 4, .r 5, .e 6, .e 7] ?_
          iterate 6 refine Wq ?_
          refine SQ_call rfl Tryz.call107 (.cons rfl (.nil)) (blok_Still b rfl rfl hf) (lts rfl) ?_
          rintro _ L5 ⟨b', rfl, hp', hf', hL5⟩
          refine ⟨.lands hL5 (.w rfl (.h (Has.ce rfl) (.nil))), ?_⟩
          refine SQ.lands hL5 ?_
          refine SQ_ox0 rfl (OX_mu (K := intK) Tryz.underlying162 Tryz.underlying3 rfl rfl rfl) ?_
          rintro _ _ rfl
          refine ⟨.w rfl (.w rfl (.nil)), ?_⟩
          iterate 9 refine Ws ?_
          refine SC_ret2 rfl rfl rfl ?_
          rw [hadd]
          refine ⟨rfl, ?_⟩
          have h6 : mget T ((blkD z.l b.pure : Nat) : Int) = none := by
            rw [← hT.1, mget_pure] at h5
            cases hm : mget T ((blkD z.l b.pure : Nat) : Int) with
            | none => rfl
            | some x => rw [hm] at h5; cases h5
          have hset : mset (entsT T) ((blkD z.l b.pure : Nat) : Int) b'.val = entsT (T ++ [(((blkD z.l b.pure : Nat) : Int), b')]) := mset_ents h6 b'
          rw [hset]
          refine Lands.trans (show Lands _ (rowP 3 1 b'.by_.a b'.by_.n b'.by_.c (b'.by_.l.map intV) :: rowP 43 4 b'.envs.a b'.envs.n b'.envs.c (b'.envs.l.flatMap EnvD.cells) :: bigT T :: pt p (.cells [.pointer (some ⟨s.w, 0, none⟩), .int .i64 s.root, .map (some m)].toArray 164) :: mapP intK m (entsT (T ++ [(((blkD z.l b.pure : Nat) : Int), b')])) :: At worldI k ⟨blkL z.l b.pure, z.S⟩ :: F) from .fin) ?_
          refine (bigT_put (d := ((blkD z.l b.pure : Nat) : Int))).trans ?_
          refine (close_tree (p := p) (T := T ++ [(((blkD z.l b.pure : Nat) : Int), b')]) (s := ⟨s.w, s.root, s.T ++ [(((blkD z.l b.pure : Nat) : Int), b.pure)]⟩) rfl ⟨?_, ?_⟩ rfl rfl).trans .fin
          · rw [← hT.1, ← hp']; simp [pureT]
          · intro d x hx
            rw [mget_app T _ _ _ h6] at hx
            split at hx
            · cases hx; exact hf'
            · exact hT.2 d x hx
    · refine SQ_no rfl rfl rfl (hg3_9) (lts rfl) ?_
      refine SQ_no rfl rfl rfl (hg3_9) (lts rfl) ?_
      refine SQ_no rfl rfl rfl (hg3_9) (lts rfl) ?_
      refine SQ_no rfl rfl rfl (hg3_9) (lts rfl) ?_
      refine SQ_no rfl rfl rfl (hg3_9) (lts rfl) ?_
      refine SQ_no rfl rfl rfl (hg3_9) (lts rfl) ?_
      refine SQ_pu rfl (RD_pick_t rfl (hg3_9) rfl) rfl ?_
      refine Wq ?_
      iterate 2 refine Ws ?_
      refine SC_cond_true rfl (rfl) ?_
      iterate 6 refine Ws ?_
      refine SC_ret2 rfl rfl rfl ?_
      have h2 : b.jv ≠ q.view := by
        have h : decide (b.jv = viewOf (some q)) = false := by cases hd : decide (b.jv = viewOf (some q)) with
          | false => rfl
          | true => rw [hd] at hg3_9; cases hg3_9
        exact of_decide_eq_false h
      have hadd : s.add z.l b.pure = ((0, 13), s, z.l) := by unfold TS.add; rw [show b.pure.jb = b.jb from rfl, hp]; exact if_pos (.inl h2)
      rw [hadd]
      exact ⟨rfl, .fin⟩

end Go.Proofs.YtdhpjdhloaoepaaGreat

/- Ways in the tree. -/
namespace Go.Proofs.YtdhpjdhloaoepaaGreat
open Go Go.Proofs
attribute [local irreducible] SC SN SR SQ SA SO
set_option maxRecDepth 100000
theorem CallsK.rat {W : World} {P : Program} {f : FuncId} {args : Array Value} {L R : List HProp} {KK : Value → List HProp → Prop} {E z n c : Nat} {a : Option Addr} {cs : List Value} [t : TakeRow L a E z n c cs R] (g : CallsK W P f args (rowP E z a n c cs :: R) KK) : CallsK W P f args L KK := g.pre fun m => Den_perm t.perm m
/-- A row half turned. -/
def turned (l m : List Int) (i : Nat) : Prop := m.length = l.length ∧ ∀ t, t < l.length → m[t]? = if t < i ∨ l.length - 1 - i < t then l[l.length - 1 - t]? else l[t]?
theorem turned_0 (l : List Int) : turned l l 0 := ⟨rfl, fun t ht => by rw [if_neg (by omega)]⟩
theorem turned_end {l m : List Int} {i : Nat} (h : turned l m i) (hi : l.length ≤ 2 * i + 1) : m = l.reverse := by
  apply List.ext_getElem?
  intro t
  by_cases ht : t < l.length
  · rw [h.2 t ht, List.getElem?_reverse ht]
    by_cases h1 : t < i ∨ l.length - 1 - i < t
    · rw [if_pos h1]
    · rw [if_neg h1]; congr 1; omega
  · rw [List.getElem?_eq_none (by rw [h.1]; omega), List.getElem?_eq_none (by simp; omega)]
theorem turned_step {l m : List Int} {i : Nat} (h : turned l m i) (hi : 2 * i + 1 < l.length) {x y : Int} (hx : m[i]? = some x) (hy : m[l.length - 1 - i]? = some y) : turned l ((m.set i y).set (l.length - 1 - i) x) (i + 1) := by
  refine ⟨by simp [h.1], fun t ht => ?_⟩
  have e1 := h.2 i (by omega)
  have e2 := h.2 (l.length - 1 - i) (by omega)
  rw [if_neg (by omega)] at e1 e2
  by_cases t1 : t = l.length - 1 - i
  · subst t1
    rw [List.getElem?_set_self (by simp [h.1]; omega), if_pos (by omega), ← hx, e1]
    congr 1; omega
  · rw [List.getElem?_set_ne (fun e => t1 e.symm)]
    by_cases t2 : t = i
    · subst t2
      rw [List.getElem?_set_self (by rw [h.1]; omega), if_pos (by omega), ← hy, e2]
    · rw [List.getElem?_set_ne (fun e => t2 e.symm), h.2 t ht]
      by_cases h1 : t < i ∨ l.length - 1 - i < t
      · rw [if_pos h1, if_pos (by omega)]
      · rw [if_neg h1, if_neg (by omega)]

theorem ints_Reverse {W : World} {F : List HProp} [Abs F] (a : Option Addr) (n c : Nat) (l : List Int) (hn : l.length = n) (hb : n ≤ 1000000000) :
    CallsK W Tryz.prog 218 #[.slice a n c] (rowP 3 1 a n c (l.map intV) :: F) (fun v L => v = .tuple #[] ∧ Lands L (rowP 3 1 a n c (l.reverse.map intV) :: F)) := by
  refine CallsK_enter (n := 28) Tryz.func218 rfl rfl rfl ?_
  iterate 10 refine Ws ?_
  refine SC_ind (X := Nat × List Int) (fun x => turned l x.2 x.1 ∧ x.1 ≤ n) (fun x => n - x.1) (fun x => [(0, .slice a n c), (2, .int .i64 (x.1 : Nat)), (3, .int .i64 ((n : Int) - 1 - x.1))]) (fun x => rowP 3 1 a n c (x.2.map intV) :: F) ((0, l)) (⟨turned_0 l, by simp⟩) (.cons rfl (.cons rfl (.cons' rfl (ie (by dsimp only; omega)) (.nil)))) (.fin) ?_
  intro ⟨i, m⟩ hi ih
  obtain ⟨ht, hin⟩ := hi
  dsimp only at ht hin ih ⊢
  iterate 8 refine Ws ?_
  refine SC_cond rfl (fun hc9 => ?_) (fun hc9 => ?_)
  · have hlt : 2 * i + 1 < l.length := by simp at hc9; omega
    obtain ⟨x, hx⟩ : ∃ x, m[i]? = some x := ⟨_, List.getElem?_eq_getElem (by rw [ht.1]; omega)⟩
    obtain ⟨y, hy⟩ : ∃ y, m[l.length - 1 - i]? = some y := ⟨_, List.getElem?_eq_getElem (by rw [ht.1]; omega)⟩
    have hst := turned_step ht hlt hx hy
    iterate 4 refine Ws ?_
    refine Wd [.r 0, .r 1, .r 2, .r 3, .r 4, .r 5, .r 6, .r 7, .r 8, .r 9, .r 10, .r 11, .r 12, .e 13, .r 14, .e 15] ?_
    iterate 6 refine Wq ?_
    refine SQ_rd rfl (RD_ixE (i := (l.length - 1 - i : Nat)) Tryz.runUnderlying37 Tryz.sizeOf3 rfl (congrArg some (ie (by omega))) (by omega) (by omega)) (Has.rs (by simp [ht.1]; omega)) rfl ?_
    refine SQ_rd rfl (RD_loadO (v := intV y) (cs := m.map intV) Tryz.isAgg3 rfl (by rw [show (((l.length - 1 - i : Nat) : Int)).toNat * (0 + 1) = l.length - 1 - i by omega]; simp [hy])) Has.ro rfl ?_
    iterate 2 refine Wq ?_
    refine SQ_rd rfl (RD_ixE (i := (i : Nat)) Tryz.runUnderlying37 Tryz.sizeOf3 rfl (congrArg some (ie (by omega))) (by omega) (by omega)) (Has.rs (by simp [ht.1]; omega)) rfl ?_
    refine SQ_rd rfl (RD_loadO (v := intV x) (cs := m.map intV) Tryz.isAgg3 rfl (by rw [show (((i : Nat) : Int)).toNat * (0 + 1) = i by omega]; simp [hx])) Has.ro rfl ?_
    refine SQ_rd rfl (RD_ixE (i := (i : Nat)) Tryz.runUnderlying37 Tryz.sizeOf3 rfl (congrArg some (ie (by omega))) (by omega) (by omega)) (Has.rs (by simp [ht.1]; omega)) rfl ?_
    refine SQ_ox0 rfl (OX_stRow Tryz.sizeOf3 rfl rfl (by simp [ht.1]; omega)) ?_
    rintro _ _ rfl
    refine ⟨.w rfl (.w rfl (.h (Has.rs (by simp [ht.1]; omega)) (.w rfl (.w rfl (.nil))))), ?_⟩
    refine SQ_rd rfl (RD_ixE (i := (l.length - 1 - i : Nat)) Tryz.runUnderlying37 Tryz.sizeOf3 rfl (congrArg some (ie (by omega))) (by omega) (by omega)) (Has.rs (by simp [ht.1]; omega)) rfl ?_
    refine SQ_ox0 rfl (OX_stRow Tryz.sizeOf3 rfl rfl (by simp [ht.1]; omega)) ?_
    rintro _ _ rfl
    refine ⟨.w rfl (.w rfl (.w rfl (.w rfl (.w rfl (.w rfl (.nil)))))), ?_⟩
    iterate 11 refine Ws ?_
    have hr : ((m.map intV).set (((i : Nat) : Int).toNat * (0 + 1)) (intV y)).set ((((l.length - 1 - i : Nat) : Int)).toNat * (0 + 1)) (intV x) = ((m.set i y).set (l.length - 1 - i) x).map intV := by
      rw [List.map_set, List.map_set]
      congr 1
      · congr 1; omega
      · omega
    rw [hr]
    refine SC_again (ih ((i + 1, (m.set i y).set (l.length - 1 - i) x)) (⟨hst, by dsimp only; omega⟩) (by dsimp only; omega)) (.fin) (.cons rfl (.cons' rfl (ie (by dsimp only; omega)) (.cons' rfl (ie (by dsimp only; omega)) (.nil))))
  · have hend := turned_end ht (by simp at hc9; omega)
    subst hend
    refine Ws ?_
    refine SN_stop0 rfl ?_
    exact ⟨rfl, .fin⟩

/-! ### Ways -/
structure TS.Ok (s : TS) : Prop where
  root : ∃ b, mget s.T s.root = some b ∧ b.view = 0 ∧ b.jb = 0
  up : ∀ d b, mget s.T d = some b → d ≠ s.root → ∃ q, mget s.T b.jb = some q ∧ q.view = b.jv ∧ b.jv < b.view
  pos : ∀ d b, mget s.T d = some b → 0 ≤ b.view
  len : s.T.length ≤ 1000000
def wayF (s : TS) : Nat → Int → Int → Option (List Int)
  | 0, _, _ => none
  | n + 1, f, t => if t = f then some [] else if t = s.root then none else
    match mget s.T t with
    | none => none
    | some b => (wayF s n f b.jb).map (· ++ [t])
theorem wayF_more {s : TS} (h : s.Ok) (f : Int) : ∀ (v : Nat) (t : Int) (b : Blk), mget s.T t = some b → b.view.toNat ≤ v → ∀ n m, v < n → v < m → wayF s n f t = wayF s m f t := by
  intro v
  induction v with
  | zero =>
    intro t b hb hv n m hn hm
    obtain ⟨n, rfl⟩ : ∃ n', n = n' + 1 := ⟨n - 1, by omega⟩
    obtain ⟨m, rfl⟩ : ∃ m', m = m' + 1 := ⟨m - 1, by omega⟩
    unfold wayF
    by_cases h1 : t = f
    · rw [if_pos h1, if_pos h1]
    · rw [if_neg h1, if_neg h1]
      by_cases h2 : t = s.root
      · rw [if_pos h2, if_pos h2]
      · obtain ⟨q, h3, h4, h5⟩ := h.up t b hb h2
        have := h.pos _ _ h3
        omega
  | succ v ih =>
    intro t b hb hv n m hn hm
    obtain ⟨n, rfl⟩ : ∃ n', n = n' + 1 := ⟨n - 1, by omega⟩
    obtain ⟨m, rfl⟩ : ∃ m', m = m' + 1 := ⟨m - 1, by omega⟩
    unfold wayF
    by_cases h1 : t = f
    · rw [if_pos h1, if_pos h1]
    · rw [if_neg h1, if_neg h1]
      by_cases h2 : t = s.root
      · rw [if_pos h2, if_pos h2]
      · rw [if_neg h2, if_neg h2, hb]
        obtain ⟨q, h3, h4, h5⟩ := h.up t b hb h2
        have := h.pos _ _ h3
        dsimp only
        rw [ih b.jb q h3 (by omega) n m (by omega) (by omega)]
/-- The way from one to another. -/
def TS.way (s : TS) (f t : Int) : Option (List Int) := wayF s ((viewOf (mget s.T t)).toNat + 1) f t
theorem way_eq {s : TS} (h : s.Ok) {f t : Int} {b : Blk} (hb : mget s.T t = some b) : s.way f t = if t = f then some [] else if t = s.root then none else (s.way f b.jb).map (· ++ [t]) := by
  unfold TS.way
  rw [hb]
  show wayF s (b.view.toNat + 1) f t = _
  by_cases h1 : t = f
  · unfold wayF; rw [if_pos h1, if_pos h1]
  · by_cases h2 : t = s.root
    · unfold wayF; rw [if_neg h1, if_pos h2, if_neg h1, if_pos h2]
    · obtain ⟨q, h3, h4, h5⟩ := h.up t b hb h2
      have := h.pos _ _ h3
      rw [if_neg h1, if_neg h2, h3]
      show wayF s (b.view.toNat + 1) f t = Option.map _ (wayF s (q.view.toNat + 1) f b.jb)
      rw [wayF_more h f q.view.toNat b.jb q h3 (Nat.le_refl _) (q.view.toNat + 1) b.view.toNat (by omega) (by omega)]
      conv => lhs; unfold wayF
      rw [if_neg h1, if_neg h2, hb]

theorem tree_Path_yes {W : World} {F : List HProp} [Abs F] (p : Nat) (s : TS) (hs : s.Ok) (from_ to_ : Int) (hf : ∃ b, mget s.T from_ = some b) (ht : ∃ b, mget s.T to_ = some b) (hv : (viewOf (mget s.T to_)).toNat ≤ 1000000) :
    CallsK W Tryz.prog 186 #[.pointer (some ⟨p, 0, none⟩), .int .i64 from_, .int .i64 to_] (At treeI p s :: F) (fun v L => (∃ a c, v = .tuple #[.slice a ((s.way from_ to_).getD []).length c, .bool (s.way from_ to_).isSome] ∧ Lands L (rowP 3 1 a ((s.way from_ to_).getD []).length c (((s.way from_ to_).getD []).map intV) :: At treeI p s :: F))) := by
  refine CallsK_enter (n := 38) Tryz.func186 rfl rfl rfl ?_
  iterate 11 refine Ws ?_
  refine Wc (CallsK.at (tree_Has p s from_)) ?_
  iterate 2 refine Ws ?_
  refine SR_yes rfl rfl (by obtain ⟨b, e⟩ := hf; rw [e]; rfl) ?_
  refine Ws ?_
  refine SR_yes rfl rfl (by obtain ⟨b, e⟩ := hf; rw [e]; rfl) ?_
  refine Ws ?_
  refine SR_yes rfl rfl (by obtain ⟨b, e⟩ := hf; rw [e]; rfl) ?_
  refine Wc (CallsK.at (tree_Has p s to_)) ?_
  refine SR_yes rfl rfl (by obtain ⟨b, e⟩ := hf; rw [e]; rfl) ?_
  refine Ws ?_
  refine SR_pu (RD_pick_f rfl (by obtain ⟨b, e⟩ := hf; rw [e]; rfl) rfl) rfl ?_
  iterate 2 refine Ws ?_
  refine SC_cond_false rfl (by obtain ⟨b, e⟩ := ht; rw [e]; rfl) ?_
  iterate 9 refine Ws ?_
  refine SC_ind (X := Int × Option Addr × Nat × List Int) (fun x => (∃ b, mget s.T x.1 = some b) ∧ s.way from_ to_ = (s.way from_ x.1).map (· ++ x.2.2.2.reverse) ∧ x.2.2.2.length + (viewOf (mget s.T x.1)).toNat ≤ (viewOf (mget s.T to_)).toNat) (fun x => (viewOf (mget s.T x.1)).toNat) (fun x => [(0, .pointer (some ⟨p, 0, none⟩)), (1, .int .i64 from_), (2, .int .i64 x.1), (8, .slice x.2.1 x.2.2.2.length x.2.2.1)]) (fun x => rowP 3 1 x.2.1 x.2.2.2.length x.2.2.1 (x.2.2.2.map intV) :: At treeI p s :: F) ((to_, none, 0, [])) (⟨ht, by simp, by simp⟩) (.cons rfl (.cons rfl (.cons rfl (.cons rfl (.nil))))) ((row_new 3 1 none).trans (show Lands _ (rowP 3 1 none 0 0 [] :: At treeI p s :: F) from .fin)) ?_
  intro ⟨t, a, c, acc⟩ hi ih
  obtain ⟨⟨b, hb⟩, hw, hlen⟩ := hi
  dsimp only at hb hw hlen ih ⊢
  iterate 8 refine Ws ?_
  refine SC_cond rfl (fun hc21 => ?_) (fun hc21 => ?_)
  · have hne : ¬ t = from_ := by simpa using hc21
    have hwe := way_eq hs (f := from_) hb
    rw [if_neg hne] at hwe
    refine SC.op_tree (p := p) fun m T hT => ?_
    iterate 14 refine Ws ?_

    refine SC_cond rfl (fun hc27 => ?_) (fun hc27 => ?_)
    · have hr : t = s.root := by simpa using hc27
      rw [if_pos hr] at hwe
      rw [hwe] at hw
      have hw2 : s.way from_ to_ = none := by rw [hw]; rfl
      rw [hw2]
      iterate 6 refine Ws ?_
      refine SC_ret2 rfl rfl rfl ?_
      exact ⟨none, 0, rfl, (row_new 3 1 none).trans (Lands.cons ((close_tree (p := p) (T := T) (s := s) rfl hT rfl rfl).trans .fin))⟩
    · have hr : ¬ t = s.root := by simpa using hc27
      rw [if_neg hr] at hwe
      obtain ⟨q, hq, hqv, hlt⟩ := hs.up t b hb hr
      have hq0 := hs.pos _ _ hq
      have hbv : viewOf (mget s.T t) = b.view := by rw [hb]; rfl
      have hqv2 : viewOf (mget s.T b.jb) = q.view := by rw [hq]; rfl
      refine SC.lands ((close_tree (p := p) (T := T) (s := s) rfl hT rfl rfl).trans .fin : Lands _ (rowP 3 1 a acc.length c (acc.map intV) :: At treeI p s :: F)) ?_
      iterate 6 refine Ws ?_
      refine SR_ox (OX_lit1 Tryz.underlying37 Tryz.type3 rfl rfl rfl rfl (.cons rfl (.nil)) (.cons rfl (.nil))) rfl ?_
      rintro _ _ ⟨b30, rfl, rfl⟩
      refine SR_ox (OX_app 1 Tryz.underlying37 Tryz.underlying37 Tryz.type3 rfl rfl rfl rfl rfl (by first | rfl | simp; done | (simp; omega)) 8 rfl (by omega) (by omega)) rfl ?_
      rintro _ _ ⟨a31, c31, rfl, rfl⟩
      iterate 6 refine Ws ?_
      refine We (CallsK.at (tree_Parent p s t)) ?_
      rintro _ L3 ⟨rfl, hL3⟩
      rw [hb]
      refine SR.lands hL3 ?_
      iterate 3 refine Ws ?_
      refine SC_again (ih ((b.jb, a31, c31, acc ++ [t])) (⟨⟨q, hq⟩, by rw [hw, hwe]; simp [Option.map_map, Function.comp_def], by dsimp only; rw [hqv2]; simp; omega⟩) (by dsimp only; rw [hqv2, hbv]; omega)) (by dsimp only; simp only [List.map_append, List.map_cons, List.map_nil, List.length_append, List.length_cons, List.length_nil, Nat.zero_add, intV]; exact .fin) (.cons rfl (.cons rfl (.cons rfl (.cons' rfl (by simp) (.nil)))))
  · have heq : t = from_ := by simpa using hc21
    have hwe := way_eq hs (f := from_) hb
    rw [if_pos heq] at hwe
    rw [hwe] at hw
    have hw2 : s.way from_ to_ = some acc.reverse := by rw [hw]; simp
    rw [hw2]
    iterate 5 refine Ws ?_
    refine Wc (CallsK.rat (ints_Reverse a acc.length c acc rfl (by omega))) ?_
    iterate 9 refine Ws ?_
    refine SC_ret2 rfl rfl rfl ?_
    exact ⟨a, c, by simp, by simp only [Option.getD_some, List.length_reverse]; exact .fin⟩

end Go.Proofs.YtdhpjdhloaoepaaGreat

/- Blocks' bytes tell blocks; what a tree is. Plain Lean. -/
namespace Go.Proofs.YtdhpjdhloaoepaaGreat
open Go Go.Proofs
theorem bei_app' {a b : Int} {r r' : List UInt8} (h : bei a ++ r = bei b ++ r') : a % 18446744073709551616 = b % 18446744073709551616 ∧ r = r' := by
  have hl : (bei a).length = (bei b).length := by rw [bei_length, bei_length]
  obtain ⟨h1, h2⟩ := List.append_inj h hl
  refine ⟨?_, h2⟩
  have hu : ∀ x : Int, unbe (bei x) = (x % 18446744073709551616).toNat := by
    intro x
    have ub : ∀ x : Nat, x < 18446744073709551616 → unbe (be x) = x := by
      intro x h
      simp [be, unbe, List.range_succ, UInt8.toNat_ofNat]
      omega
    unfold bei
    exact ub _ (by have := Int.emod_lt_of_pos x (show (0 : Int) < 18446744073709551616 by decide); have := Int.emod_nonneg x (show (18446744073709551616 : Int) ≠ 0 by decide); omega)
  have e1 := hu a
  have e2 := hu b
  rw [h1, e2] at e1
  have := Int.emod_nonneg a (show (18446744073709551616 : Int) ≠ 0 by decide)
  have := Int.emod_nonneg b (show (18446744073709551616 : Int) ≠ 0 by decide)
  omega
theorem i64_eq {a b : Int} (ha : I64 a) (hb : I64 b) (h : a % 18446744073709551616 = b % 18446744073709551616) : a = b := by
  unfold I64 at ha hb; omega
theorem flat_bei_inj : ∀ (xs ys : List Int), (∀ x ∈ xs, I64 x) → (∀ y ∈ ys, I64 y) → xs.flatMap bei = ys.flatMap bei → xs = ys
  | [], [], _, _, _ => rfl
  | [], y :: ys, _, _, h => by have := congrArg List.length h; simp [bei_length] at this; try omega
  | x :: xs, [], _, _, h => by have := congrArg List.length h; simp [bei_length] at this; try omega
  | x :: xs, y :: ys, hx, hy, h => by
    rw [List.flatMap_cons, List.flatMap_cons] at h
    obtain ⟨h1, h2⟩ := bei_app' h
    rw [i64_eq (hx x (by simp)) (hy y (by simp)) h1, flat_bei_inj xs ys (fun z hz => hx z (by simp [hz])) (fun z hz => hy z (by simp [hz])) h2]
theorem tagB_tag {t t' : List UInt8} {xs ys : List Int} (ht : t.length < 1000) (ht' : t'.length < 1000) (h : tagB t xs = tagB t' ys) : t = t' ∧ xs.flatMap bei = ys.flatMap bei := by
  unfold tagB at h
  rw [List.append_assoc, List.append_assoc] at h
  obtain ⟨h1, h2⟩ := bei_app' h
  exact List.append_inj h2 (by omega)
theorem tagB_inj {t : List UInt8} {xs ys : List Int} (ht : t.length < 1000) (hx : ∀ x ∈ xs, I64 x) (hy : ∀ y ∈ ys, I64 y) (h : tagB t xs = tagB t ys) : xs = ys :=
  flat_bei_inj xs ys hx hy (tagB_tag ht ht h).2
def EnvD.Good (e : EnvD) : Prop := I64 e.client ∧ I64 e.cipher ∧ e.Ok
theorem envB_inj {e f : EnvD} (he : e.Good) (hf : f.Good) (h : envB e = envB f) : e = f := by
  have h2 := (tagB_tag (by decide) (by decide) h).2
  simp only [List.flatMap_cons, List.flatMap_nil] at h2
  obtain ⟨a1, h2⟩ := bei_app' h2
  obtain ⟨a2, h2⟩ := bei_app' h2
  obtain ⟨a3, h2⟩ := bei_app' h2
  obtain ⟨a4, _⟩ := bei_app' h2
  obtain ⟨c, n, f', p⟩ := e
  obtain ⟨c', n', f'', p'⟩ := f
  obtain ⟨b1, b2, ⟨b3, b4⟩, b5, b6⟩ := he
  obtain ⟨d1, d2, ⟨d3, d4⟩, d5, d6⟩ := hf
  simp only [I64] at *
  have e1 : c = c' := by omega
  have e2 : n = n' := by omega
  have e3 : f' = f'' := by omega
  have e4 : p = p' := by omega
  rw [e1, e2, e3, e4]
structure Blk.Good (b : Blk) : Prop where
  view : I64 b.view
  author : I64 b.author
  jv : I64 b.jv
  jb : I64 b.jb
  by_ : ∀ x ∈ b.by_, I64 x
  envs : ∀ e ∈ b.envs, e.Good
  nb : b.by_.length ≤ 10000
  ne : b.envs.length ≤ 10000
theorem dnum_i64 {l : List (List UInt8)} (hl : l.length ≤ 1000000000) (x : List UInt8) : I64 (dnum l x : Nat) := by
  have := dnum_le l x; unfold I64; omega
theorem blkN_i64 {l : List (List UInt8)} (hl : l.length ≤ 1000000000) {b : Blk} (h : b.Good) : ∀ x ∈ blkN l b, I64 x := by
  intro x hx
  unfold blkN numsE at hx
  simp only [List.mem_append, List.mem_cons, List.not_mem_nil, or_false, List.mem_map] at hx
  rcases hx with ((h1 | h1) | h1) | ⟨e, he, h1⟩
  · rcases h1 with h1 | h1 | h1 | h1 | h1 <;> subst h1
    · exact h.view
    · exact h.author
    · exact h.jv
    · exact h.jb
    · have := h.nb; unfold I64; omega
  · exact h.by_ x h1
  · subst h1; have := h.ne; unfold I64; omega
  · subst h1; exact dnum_i64 hl _
theorem numsE_inj {l : List (List UInt8)} : ∀ {es fs : List EnvD}, (∀ e ∈ es, e.Good ∧ envB e ∈ l) → (∀ e ∈ fs, e.Good) → numsE l es = numsE l fs → es = fs
  | [], [], _, _, _ => rfl
  | [], f :: fs, _, _, h => by simp [numsE] at h
  | e :: es, [], _, _, h => by simp [numsE] at h
  | e :: es, f :: fs, he, hf, h => by
    simp only [numsE, List.map_cons, List.cons.injEq] at h
    have h1 := dnum_inj (he e (by simp)).2 (by omega : dnum l (envB e) = dnum l (envB f))
    rw [envB_inj (he e (by simp)).1 (hf f (by simp)) h1, numsE_inj (fun x hx => he x (by simp [hx])) (fun x hx => hf x (by simp [hx])) h.2]
theorem blkB_inj {l : List (List UInt8)} (hl : l.length ≤ 1000000000) {b c : Blk} (hb : b.Good) (hc : c.Good) (he : ∀ e ∈ b.envs, envB e ∈ l) (h : blkB l b = blkB l c) : b = c := by
  have h2 := tagB_inj (by decide) (blkN_i64 hl hb) (blkN_i64 hl hc) h
  obtain ⟨v, a, j, k, by_, es⟩ := b
  obtain ⟨v', a', j', k', by', es'⟩ := c
  unfold blkN at h2
  simp only [List.cons_append, List.nil_append, List.cons.injEq, List.append_assoc] at h2
  obtain ⟨e1, e2, e3, e4, e5, h2⟩ := h2
  obtain ⟨e6, h2⟩ := List.append_inj h2 (by omega)
  simp only [List.cons.injEq] at h2
  have e7 := numsE_inj (fun e h => ⟨hb.envs e h, he e h⟩) hc.envs h2.2
  subst e1; subst e2; subst e3; subst e4; subst e6; subst e7; rfl
theorem blk_root {l : List (List UInt8)} {b : Blk} : blkB l b ≠ rootB := fun h => by
  have := (tagB_tag (by decide) (by decide) h).1
  revert this; decide
/-- The tree's digests are the arena's. -/
structure TL (s : TS) (l : List (List UInt8)) : Prop where
  rmem : rootB ∈ l
  root : s.root = (dnum l rootB : Nat)
  blk : ∀ d b, mget s.T d = some b → d ≠ s.root → b.Good ∧ (∀ e ∈ b.envs, envB e ∈ l) ∧ blkB l b ∈ l ∧ d = (dnum l (blkB l b) : Nat)
theorem blkB_ext {l l' : List (List UInt8)} (e : Ext l l') {b : Blk} (he : ∀ e ∈ b.envs, envB e ∈ l) : blkB l' b = blkB l b := by
  unfold blkB blkN
  rw [numsE_ext e he]
theorem TL.ext {s : TS} {l l' : List (List UInt8)} (h : TL s l) (e : Ext l l') : TL s l' :=
  ⟨e.mem h.rmem, by rw [e.num h.rmem]; exact h.root, fun d b hd hr => by
    obtain ⟨h1, h2, h3, h4⟩ := h.blk d b hd hr
    rw [blkB_ext e h2]
    exact ⟨h1, fun x hx => e.mem (h2 x hx), e.mem h3, by rw [e.num h3]; exact h4⟩⟩
/-- A block that is new: its digest is none's. -/
theorem TL.new {s : TS} {l : List (List UInt8)} (h : TL s l) {b : Blk} (hb : b.Good) (hl : l.length ≤ 900000000) (hnew : ∀ d, mget s.T d = some b → d = s.root) :
    mget s.T ((blkD l b : Nat) : Int) = none ∧ ((blkD l b : Nat) : Int) ≠ s.root := by
  have e1 := digsL_ext b.envs l
  have hl1 := digsL_len b.envs l
  have hne := hb.ne
  have e2 := Ext.put (digsL l b.envs) (blkB (digsL l b.envs) b)
  have hm := dput_mem (digsL l b.envs) (blkB (digsL l b.envs) b)
  have h2 : ((blkD l b : Nat) : Int) ≠ s.root := fun e => by
    rw [h.root, ← (e1.trans e2).num h.rmem] at e
    exact blk_root (dnum_inj hm (by unfold blkD blkL at e; omega))
  refine ⟨?_, h2⟩
  cases hg : mget s.T ((blkD l b : Nat) : Int) with
  | none => rfl
  | some c =>
    obtain ⟨h3, h4, h5, h6⟩ := h.blk _ _ hg h2
    have h7 : dnum (blkL l b) (blkB (digsL l b.envs) b) = dnum (blkL l b) (blkB (digsL l b.envs) c) := by
      rw [blkB_ext e1 h4, show dnum (blkL l b) (blkB l c) = dnum l (blkB l c) from (e1.trans e2).num h5]
      unfold blkD at h6
      omega
    have h8 := dnum_inj hm h7
    have h9 := blkB_inj (by omega) hb h3 (fun e he => digsL_mem he) h8
    subst h9
    exact absurd (hnew _ hg) h2
/-- .. it is put. -/
theorem TL.add {s : TS} {l : List (List UInt8)} (h : TL s l) (ho : s.Ok) {b q : Blk} (hb : b.Good) (hl : l.length ≤ 900000000) (hT : s.T.length ≤ 900000) (hp : mget s.T b.jb = some q) (hv : b.jv = q.view) (hlt : b.jv < b.view)
    (hno : mget s.T ((blkD l b : Nat) : Int) = none) :
    s.add l b = ((((blkD l b : Nat) : Int), 0), ⟨s.w, s.root, s.T ++ [(((blkD l b : Nat) : Int), b)]⟩, blkL l b) ∧ TL ⟨s.w, s.root, s.T ++ [(((blkD l b : Nat) : Int), b)]⟩ (blkL l b) ∧ TS.Ok ⟨s.w, s.root, s.T ++ [(((blkD l b : Nat) : Int), b)]⟩ := by
  have hnr : ((blkD l b : Nat) : Int) ≠ s.root := fun e => by
    obtain ⟨r, h1, _⟩ := ho.root
    rw [e, h1] at hno; cases hno
  have hget : ∀ d, mget (s.T ++ [(((blkD l b : Nat) : Int), b)]) d = if d = ((blkD l b : Nat) : Int) then some b else mget s.T d := fun d => mget_app _ _ _ _ hno
  have hold : ∀ d c, mget s.T d = some c → mget (s.T ++ [(((blkD l b : Nat) : Int), b)]) d = some c := fun d c hc => by
    rw [hget, if_neg (fun e => by rw [e, hno] at hc; cases hc)]; exact hc
  refine ⟨?_, ?_, ?_⟩
  · unfold TS.add
    rw [hp]
    dsimp only
    rw [if_neg (by omega), if_neg (by rw [hno]; simp)]
  · have h2 := h.ext (blkL_ext l b)
    refine ⟨h2.rmem, h2.root, fun d c hd hr => ?_⟩
    rw [hget] at hd
    split at hd
    · rename_i e
      cases hd
      have e2 := Ext.put (digsL l b.envs) (blkB (digsL l b.envs) b)
      have e3 : blkB (blkL l b) b = blkB (digsL l b.envs) b := blkB_ext e2 fun e he => digsL_mem he
      refine ⟨hb, fun e he => e2.mem (digsL_mem he), ?_, ?_⟩
      · rw [e3]; exact dput_mem _ _
      · rw [e3]; exact e
    · exact h2.blk d c hd hr
  · refine ⟨?_, fun d c hd hr => ?_, fun d c hd => ?_, by simp; omega⟩
    · obtain ⟨r, h1, h3⟩ := ho.root
      exact ⟨r, hold _ _ h1, h3⟩
    · rw [hget] at hd
      split at hd
      · cases hd
        exact ⟨q, hold _ _ hp, hv.symm, hlt⟩
      · obtain ⟨r, h1, h3⟩ := ho.up d c hd hr
        exact ⟨r, hold _ _ h1, h3⟩
    · rw [hget] at hd
      split at hd
      · cases hd
        have := ho.pos _ _ hp
        omega
      · exact ho.pos d c hd
end Go.Proofs.YtdhpjdhloaoepaaGreat

/- Trees: what the document fixes. -/
namespace Go.Proofs.YtdhpjdhloaoepaaGreat
open Go Go.Proofs
attribute [local irreducible] SC SN SR SQ SA SO
set_option maxRecDepth 100000
theorem TS.Ok.new (w : Nat) (d : Int) : TS.Ok ⟨w, d, [(d, zBlk)]⟩ :=
  ⟨⟨zBlk, by simp [mget], rfl, rfl⟩, fun e b h hr => (by simp only [mget] at h; rw [if_neg hr] at h; cases h), fun e b h => (by simp only [mget] at h; split at h; (cases h; exact Int.le_refl _); cases h), by simp⟩
theorem TL.start {l : List (List UInt8)} (w : Nat) (h : rootB ∈ l) : TL ⟨w, (dnum l rootB : Nat), [(((dnum l rootB : Nat) : Int), zBlk)]⟩ l :=
  ⟨h, rfl, fun e b hd hr => by simp only [mget] at hd; rw [if_neg hr] at hd; cases hd⟩
end Go.Proofs.YtdhpjdhloaoepaaGreat

/- Messages: what they are, their bytes tell them. Plain Lean. -/
namespace Go.Proofs.YtdhpjdhloaoepaaGreat
open Go Go.Proofs
set_option maxRecDepth 100000
/-- A row of blocks, as a slice tells it. -/
structure BRow where
  a : Option Addr
  n : Nat
  c : Nat
  l : List BlkD
structure MsgD where
  kind : Int
  from_ : Int
  to_ : Int
  view : Int
  num : Int
  qc : QcD
  tc : TcD
  env : EnvD
  bl : BRow
def MsgD.cells (m : MsgD) : List Value := [.int .i64 m.kind, .int .i64 m.from_, .int .i64 m.to_, .int .i64 m.view, .int .i64 m.num, .int .i64 m.qc.view, .int .i64 m.qc.block, .slice m.qc.by_.a m.qc.by_.n m.qc.by_.c, .int .i64 m.tc.view, .slice m.tc.by_.a m.tc.by_.n m.tc.by_.c, .slice m.tc.highs.a m.tc.highs.n m.tc.highs.c, .int .i64 m.tc.high.view, .int .i64 m.tc.high.block, .slice m.tc.high.by_.a m.tc.high.by_.n m.tc.high.by_.c, .int .i64 m.env.client, .int .u64 m.env.nonce, .int .u64 m.env.fee, .int .i64 m.env.cipher, .slice m.bl.a m.bl.n m.bl.c]
def MsgD.val (m : MsgD) : Value := .agg m.cells.toArray
instance onesMsg (m : MsgD) : Ones m.cells := by unfold MsgD.cells; infer_instance
theorem BlkD.cells_len (b : BlkD) : b.cells.length = 6 := rfl
instance onesBlkDs (l : List BlkD) : Ones (l.flatMap BlkD.cells) := ⟨fun v hv => by
  obtain ⟨e, _, he⟩ := List.mem_flatMap.1 hv
  exact (onesBlk e).h v he⟩
theorem blkd_get {l : List BlkD} {i : Nat} {e : BlkD} (h : l[i]? = some e) (o : Nat) (ho : o < 6) : (l.flatMap BlkD.cells)[i * 6 + o]? = e.cells[o]? := by
  induction l generalizing i with
  | nil => simp at h
  | cons x l ih =>
    cases i with
    | zero => simp at h; subst h; rw [List.flatMap_cons, Nat.zero_mul, Nat.zero_add, List.getElem?_append_left (by rw [BlkD.cells_len]; exact ho)]
    | succ i =>
      rw [List.flatMap_cons, List.getElem?_append_right (by rw [BlkD.cells_len]; omega), BlkD.cells_len, show (i + 1) * 6 + o - 6 = i * 6 + o by omega]
      exact ih (by simpa using h)
theorem blkds_len (l : List BlkD) : (l.flatMap BlkD.cells).length = l.length * 6 := by
  induction l with
  | nil => rfl
  | cons x l ih => rw [List.flatMap_cons, List.length_append, ih, BlkD.cells_len, List.length_cons]; omega
/-! ### bytes -/
def intsB (l : List Int) : List UInt8 := bei (l.length : Nat) ++ l.flatMap bei
def qcB (v b : Int) (l : List Int) : List UInt8 := bei v ++ bei b ++ intsB l
def enB (e : EnvD) : List UInt8 := bei e.client ++ bei e.nonce ++ bei e.fee ++ bei e.cipher
def blB (b : Blk) : List UInt8 := bei b.view ++ bei b.author ++ qcB b.jv b.jb b.by_ ++ bei (b.envs.length : Nat) ++ b.envs.flatMap enB
structure PQ where
  view : Int
  block : Int
  by_ : List Int
structure PMsg where
  head : List Int
  qc : PQ
  tv : Int
  tby : List Int
  ths : List Int
  th : PQ
  env : EnvD
  bl : List Blk
def PMsg.bytes (m : PMsg) : List UInt8 := intsB m.head ++ qcB m.qc.view m.qc.block m.qc.by_ ++ bei m.tv ++ intsB m.tby ++ intsB m.ths ++ qcB m.th.view m.th.block m.th.by_ ++ enB m.env ++ bei (m.bl.length : Nat) ++ m.bl.flatMap blB
def QcD.p (q : QcD) : PQ := ⟨q.view, q.block, q.by_.l⟩
def MsgD.p (m : MsgD) : PMsg := ⟨[m.kind, m.from_, m.to_, m.view, m.num], m.qc.p, m.tc.view, m.tc.by_.l, m.tc.highs.l, m.tc.high.p, m.env, m.bl.l.map BlkD.pure⟩
theorem flat_len (l : List Int) : (l.flatMap bei).length = 8 * l.length := by
  induction l with
  | nil => rfl
  | cons x l ih => rw [List.flatMap_cons, List.length_append, ih, bei_length, List.length_cons]; omega
theorem intsB_len (l : List Int) : (intsB l).length = 8 + 8 * l.length := by unfold intsB; rw [List.length_append, bei_length, flat_len]
theorem qcB_len (v b : Int) (l : List Int) : (qcB v b l).length = 24 + 8 * l.length := by unfold qcB; rw [List.length_append, List.length_append, bei_length, bei_length, intsB_len]; omega
theorem enB_len (e : EnvD) : (enB e).length = 32 := by unfold enB; simp [bei_length]
theorem ens_len (l : List EnvD) : (l.flatMap enB).length = 32 * l.length := by
  induction l with
  | nil => rfl
  | cons x l ih => rw [List.flatMap_cons, List.length_append, ih, enB_len, List.length_cons]; omega
theorem blB_len (b : Blk) : (blB b).length = 48 + 8 * b.by_.length + 32 * b.envs.length := by unfold blB; simp only [List.length_append, bei_length, qcB_len, ens_len]; omega
theorem bls_len {l : List Blk} (h : ∀ b ∈ l, b.by_.length ≤ 200 ∧ b.envs.length ≤ 200) : (l.flatMap blB).length ≤ 8100 * l.length := by
  induction l with
  | nil => simp
  | cons x l ih =>
    have := ih fun b hb => h b (by simp [hb])
    have h2 := h x (by simp)
    rw [List.flatMap_cons, List.length_append, blB_len, List.length_cons]; omega
/-! ### .. tell them -/
theorem bei_one {a b : Int} {r r' : List UInt8} (ha : I64 a) (hb : I64 b) (h : bei a ++ r = bei b ++ r') : a = b ∧ r = r' := by
  obtain ⟨h1, h2⟩ := bei_app' h
  exact ⟨i64_eq ha hb h1, h2⟩
theorem bei_u {a b : Int} {r r' : List UInt8} (ha : 0 ≤ a ∧ a < 18446744073709551616) (hb : 0 ≤ b ∧ b < 18446744073709551616) (h : bei a ++ r = bei b ++ r') : a = b ∧ r = r' := by
  obtain ⟨h1, h2⟩ := bei_app' h
  exact ⟨by omega, h2⟩
def Is (l : List Int) : Prop := (∀ x ∈ l, I64 x) ∧ l.length ≤ 1000000
theorem len_i64 {n : Nat} (h : n ≤ 1000000) : I64 (n : Nat) := by unfold I64; omega
theorem ints_one {a b : List Int} {r r' : List UInt8} (ha : Is a) (hb : Is b) (h : intsB a ++ r = intsB b ++ r') : a = b ∧ r = r' := by
  unfold intsB at h
  rw [List.append_assoc, List.append_assoc] at h
  obtain ⟨h1, h2⟩ := bei_one (len_i64 ha.2) (len_i64 hb.2) h
  obtain ⟨h3, h4⟩ := List.append_inj h2 (by rw [flat_len, flat_len]; omega)
  exact ⟨flat_bei_inj a b ha.1 hb.1 h3, h4⟩
structure PQ.Good (q : PQ) : Prop where
  view : I64 q.view
  block : I64 q.block
  by_ : Is q.by_
theorem qc_one {a b : PQ} {r r' : List UInt8} (ha : a.Good) (hb : b.Good) (h : qcB a.view a.block a.by_ ++ r = qcB b.view b.block b.by_ ++ r') : a = b ∧ r = r' := by
  unfold qcB at h
  simp only [List.append_assoc] at h
  obtain ⟨h1, h⟩ := bei_one ha.view hb.view h
  obtain ⟨h2, h⟩ := bei_one ha.block hb.block h
  obtain ⟨h3, hz⟩ := ints_one ha.by_ hb.by_ h
  obtain ⟨a1, a2, a3⟩ := a
  obtain ⟨b1, b2, b3⟩ := b
  dsimp only at h1 h2 h3
  subst h1; subst h2; subst h3
  exact ⟨rfl, hz⟩
theorem en_one {a b : EnvD} {r r' : List UInt8} (ha : a.Good) (hb : b.Good) (h : enB a ++ r = enB b ++ r') : a = b ∧ r = r' := by
  unfold enB at h
  simp only [List.append_assoc] at h
  obtain ⟨a1, a2, a3, a4⟩ := a
  obtain ⟨b1, b2, b3, b4⟩ := b
  obtain ⟨i1, i2, i3, i4⟩ := ha
  obtain ⟨j1, j2, j3, j4⟩ := hb
  obtain ⟨h1, h⟩ := bei_one i1 j1 h
  obtain ⟨h2, h⟩ := bei_u i3 j3 h
  obtain ⟨h3, h⟩ := bei_u i4 j4 h
  obtain ⟨h4, hz⟩ := bei_one i2 j2 h
  dsimp only at h1 h2 h3 h4
  subst h1; subst h2; subst h3; subst h4
  exact ⟨rfl, hz⟩
theorem many_one {X : Type} {f : X → List UInt8} {G : X → Prop} (hf : ∀ a b r r', G a → G b → f a ++ r = f b ++ r' → a = b ∧ r = r') : ∀ {l m : List X} {r r' : List UInt8}, l.length = m.length → (∀ x ∈ l, G x) → (∀ x ∈ m, G x) → l.flatMap f ++ r = m.flatMap f ++ r' → l = m ∧ r = r'
  | [], [], _, _, _, _, _, h => ⟨rfl, h⟩
  | [], _ :: _, _, _, h, _, _, _ => by simp at h
  | _ :: _, [], _, _, h, _, _, _ => by simp at h
  | a :: l, b :: m, r, r', hl, hg, hm, h => by
    rw [List.flatMap_cons, List.flatMap_cons, List.append_assoc, List.append_assoc] at h
    obtain ⟨h1, h2⟩ := hf a b _ _ (hg a (by simp)) (hm b (by simp)) h
    obtain ⟨h3, h4⟩ := many_one hf (by simpa using hl) (fun x hx => hg x (by simp [hx])) (fun x hx => hm x (by simp [hx])) h2
    exact ⟨by rw [h1, h3], h4⟩
theorem bl_one {a b : Blk} {r r' : List UInt8} (ha : a.Good) (hb : b.Good) (h : blB a ++ r = blB b ++ r') : a = b ∧ r = r' := by
  unfold blB at h
  simp only [List.append_assoc] at h
  obtain ⟨h1, h⟩ := bei_one ha.view hb.view h
  obtain ⟨h2, h⟩ := bei_one ha.author hb.author h
  have na := ha.nb; have nb := hb.nb; have ea := ha.ne; have eb := hb.ne
  obtain ⟨h3, h⟩ := qc_one (a := ⟨a.jv, a.jb, a.by_⟩) (b := ⟨b.jv, b.jb, b.by_⟩) ⟨ha.jv, ha.jb, ha.by_, by dsimp only; omega⟩ ⟨hb.jv, hb.jb, hb.by_, by dsimp only; omega⟩ h
  obtain ⟨h4, h⟩ := bei_one (len_i64 (by omega)) (len_i64 (by omega)) h
  obtain ⟨h5, hz⟩ := many_one (G := EnvD.Good) (fun a b r r' => en_one) (by omega) ha.envs hb.envs h
  obtain ⟨a1, a2, a3, a4, a5, a6⟩ := a
  obtain ⟨b1, b2, b3, b4, b5, b6⟩ := b
  dsimp only at h1 h2 h3 h5
  simp only [PQ.mk.injEq] at h3
  obtain ⟨h6, h7, h8⟩ := h3
  subst h1; subst h2; subst h5; subst h6; subst h7; subst h8
  exact ⟨rfl, hz⟩
structure PMsg.Good (m : PMsg) : Prop where
  head : Is m.head
  qc : m.qc.Good
  tv : I64 m.tv
  tby : Is m.tby
  ths : Is m.ths
  th : m.th.Good
  env : m.env.Good
  bl : ∀ b ∈ m.bl, b.Good
  n : m.bl.length ≤ 1000000
theorem msg_one {a b : PMsg} (ha : a.Good) (hb : b.Good) : a.bytes = b.bytes ↔ a = b := by
  constructor
  · intro h
    unfold PMsg.bytes at h
    simp only [List.append_assoc] at h
    obtain ⟨h1, h⟩ := ints_one ha.head hb.head h
    obtain ⟨h2, h⟩ := qc_one ha.qc hb.qc h
    obtain ⟨h3, h⟩ := bei_one ha.tv hb.tv h
    obtain ⟨h4, h⟩ := ints_one ha.tby hb.tby h
    obtain ⟨h5, h⟩ := ints_one ha.ths hb.ths h
    obtain ⟨h6, h⟩ := qc_one ha.th hb.th h
    obtain ⟨h7, h⟩ := en_one ha.env hb.env h
    obtain ⟨h8, h⟩ := bei_one (len_i64 ha.n) (len_i64 hb.n) h
    obtain ⟨h9, _⟩ := many_one (G := Blk.Good) (r := []) (r' := []) (fun a b r r' => bl_one) (by omega) ha.bl hb.bl (by rw [List.append_nil, List.append_nil]; exact h)
    obtain ⟨a1, a2, a3, a4, a5, a6, a7, a8⟩ := a
    obtain ⟨b1, b2, b3, b4, b5, b6, b7, b8⟩ := b
    dsimp only at h1 h2 h3 h4 h5 h6 h7 h9
    subst h1; subst h2; subst h3; subst h4; subst h5; subst h6; subst h7; subst h9
    rfl
  · rintro rfl; rfl
/-! ### A message that may be read -/
structure RIn (F : List HProp) (r : Row) : Prop where
  row : HasRow F r.a (r.l.map intV)
  n : r.l.length = r.n
  i : ∀ x ∈ r.l, I64 x
  s : r.n ≤ 200
structure BIn (F : List HProp) (b : BlkD) : Prop where
  r1 : RIn F b.by_
  r2 : HasRow F b.envs.a (b.envs.l.flatMap EnvD.cells)
  n2 : b.envs.l.length = b.envs.n
  i1 : I64 b.view
  i2 : I64 b.author
  i3 : I64 b.jv
  i4 : I64 b.jb
  e : ∀ e ∈ b.envs.l, e.Good
  s : b.envs.n ≤ 200
class MsgIn (F : List HProp) (m : MsgD) : Prop where
  q : RIn F m.qc.by_
  t : RIn F m.tc.by_
  h : RIn F m.tc.highs
  k : RIn F m.tc.high.by_
  b : HasRow F m.bl.a (m.bl.l.flatMap BlkD.cells)
  n : m.bl.l.length = m.bl.n
  s : m.bl.n ≤ 20
  bs : ∀ b ∈ m.bl.l, BIn F b
  head : ∀ x ∈ [m.kind, m.from_, m.to_, m.view, m.num], I64 x
  q1 : I64 m.qc.view ∧ I64 m.qc.block
  t1 : I64 m.tc.view
  k1 : I64 m.tc.high.view ∧ I64 m.tc.high.block
  e : m.env.Good
theorem RIn.up {F : List HProp} {A : HProp} {r : Row} (h : RIn F r) : RIn (A :: F) r := ⟨haveI := h.row; inferInstance, h.n, h.i, h.s⟩
theorem BIn.up {F : List HProp} {A : HProp} {r : BlkD} (h : BIn F r) : BIn (A :: F) r := ⟨h.r1.up, haveI := h.r2; inferInstance, h.n2, h.i1, h.i2, h.i3, h.i4, h.e, h.s⟩
instance MsgIn.up {F : List HProp} {A : HProp} {m : MsgD} [h : MsgIn F m] : MsgIn (A :: F) m := ⟨h.q.up, h.t.up, h.h.up, h.k.up, haveI := h.b; inferInstance, h.n, h.s, fun b hb => (h.bs b hb).up, h.head, h.q1, h.t1, h.k1, h.e⟩
theorem RIn.is {F : List HProp} {r : Row} (h : RIn F r) : Is r.l := ⟨h.i, by rw [h.n]; have := h.s; omega⟩
theorem BIn.good {F : List HProp} {b : BlkD} (h : BIn F b) : b.pure.Good := ⟨h.i1, h.i2, h.i3, h.i4, h.r1.i, h.e, by show b.by_.l.length ≤ _; rw [h.r1.n]; have := h.r1.s; omega, by show b.envs.l.length ≤ _; rw [h.n2]; have := h.s; omega⟩
theorem MsgIn.good {F : List HProp} {m : MsgD} (h : MsgIn F m) : m.p.Good :=
  ⟨⟨h.head, by show 5 ≤ 1000000; omega⟩, ⟨h.q1.1, h.q1.2, h.q.is⟩, h.t1, h.t.is, h.h.is, ⟨h.k1.1, h.k1.2, h.k.is⟩, h.e, fun b hb => by obtain ⟨x, hx, rfl⟩ := List.mem_map.1 hb; exact (h.bs x hx).good, by show (m.bl.l.map BlkD.pure).length ≤ _; rw [List.length_map, h.n]; have := h.s; omega⟩
noncomputable instance decP : DecidableEq PMsg := fun _ _ => Classical.propDecidable _
end Go.Proofs.YtdhpjdhloaoepaaGreat

/- Messages: their bytes written. -/
namespace Go.Proofs.YtdhpjdhloaoepaaGreat
open Go Go.Proofs
attribute [local irreducible] SC SN SR SQ SA SO
set_option maxRecDepth 100000
set_option linter.unusedSimpArgs false
theorem flat_take {X : Type} {f : X → List UInt8} {l : List X} {i : Nat} {x : X} (h : l[i]? = some x) : (l.take (i + 1)).flatMap f = (l.take i).flatMap f ++ f x := by
  rw [List.take_add_one, h]; simp

theorem mess_ints {W : World} {F : List HProp} [Abs F] (p : Nat) (bs : List UInt8) (a : Option Addr) (n c : Nat) (l : List Int) {cs : List Value} [HasRow F a cs] (hcs : cs = l.map intV) (hn : l.length = n) (hs : n ≤ 1000) (hb : bs.length ≤ 100000000) :
    CallsK W Tryz.prog 140 #[.pointer (some ⟨p, 0, none⟩), .slice a n c] (At writerI p bs :: F) (fun v L => v = .tuple #[] ∧ Lands L (At writerI p (bs ++ intsB l) :: F)) := by
  refine CallsK_enter (n := 20) Tryz.func140 rfl rfl rfl ?_
  subst hcs
  iterate 5 refine Ws ?_
  refine Wc (CallsK.at (wire_Int p (bs) ((n : Nat)) (by (try simp only [List.length_append, bei_length, flat_len, ens_len, intsB_len, qcB_len, enB_len, List.length_take]); omega))) ?_
  iterate 10 refine Ws ?_
  refine SC_ind (X := Nat) (fun i => i ≤ n) (fun i => n - i) (fun i => [(0, .pointer (some ⟨p, 0, none⟩)), (10, .slice a n c), (11, .int .i64 (n : Nat)), (12, .int .i64 (i : Nat))]) (fun i => At writerI p (bs ++ bei (n : Nat) ++ (l.take i).flatMap bei) :: F) (0) (by omega) (.cons rfl (.cons rfl (.cons rfl (.cons rfl (.nil))))) ((by simp only [List.take_zero, List.flatMap_nil, List.append_nil]; exact .fin)) ?_
  intro i hi ih
  iterate 6 refine Ws ?_
  refine SC_cond rfl (fun hc13 => ?_) (fun hc13 => ?_)
  · have hin : i < n := by simp at hc13; omega
    obtain ⟨x, hx⟩ : ∃ x, l[i]? = some x := ⟨_, List.getElem?_eq_getElem (by omega)⟩
    iterate 6 refine Ws ?_
    refine SR_rd (RD_ixO (cs := l.map intV) Tryz.runUnderlying37 Tryz.sizeOf3 rfl rfl (by simp; omega) (by omega) (by omega)) Has.ro rfl ?_
    refine SR_rd (RD_loadO (v := intV x) (cs := l.map intV) Tryz.isAgg3 rfl (by simp [hx])) Has.ro rfl ?_
    iterate 6 refine Ws ?_
    refine Wc (CallsK.at (wire_Int p ((bs ++ bei (n : Nat) ++ (l.take i).flatMap bei)) (x) (by (try simp only [List.length_append, bei_length, flat_len, ens_len, intsB_len, qcB_len, enB_len, List.length_take]); omega))) ?_
    iterate 7 refine Ws ?_
    refine SC_again (ih (i + 1) (by omega) (by omega)) ((by rw [flat_take hx, ← List.append_assoc]; exact .fin)) (.cons rfl (.cons rfl (.cons rfl (.cons' rfl (ie (by omega)) (.nil)))))
  · have hin : i = n := by simp at hc13; omega
    have htk : l.take i = l := by rw [hin, ← hn, List.take_length]
    refine Ws ?_
    refine SN_stop0 rfl ?_
    refine ⟨rfl, ?_⟩
    unfold intsB
    rw [hn, ← List.append_assoc]
    rw [htk]
    exact .fin

theorem mess_qc {W : World} {F : List HProp} [Abs F] (p : Nat) (bs : List UInt8) (q : QcD) {cs : List Value} [HasRow F q.by_.a cs] (hcs : cs = q.by_.l.map intV) (hn : q.by_.l.length = q.by_.n) (hs : q.by_.n ≤ 1000) (hb : bs.length ≤ 90000000) :
    CallsK W Tryz.prog 141 #[.pointer (some ⟨p, 0, none⟩), q.val] (At writerI p bs :: F) (fun v L => v = .tuple #[] ∧ Lands L (At writerI p (bs ++ qcB q.view q.block q.by_.l) :: F)) := by
  refine CallsK_enter (n := 16) Tryz.func141 rfl rfl rfl ?_
  subst hcs
  iterate 2 refine Ws ?_
  refine Wb fun b3 => ?_
  iterate 7 refine Ws ?_
  refine Wc (CallsK.at (wire_Int p (bs) (q.view) (by (try simp only [List.length_append, bei_length, flat_len, ens_len, intsB_len, qcB_len, enB_len, List.length_take]); omega))) ?_
  iterate 7 refine Ws ?_
  refine Wc (CallsK.at (wire_Int p (bs ++ bei q.view) (q.block) (by (try simp only [List.length_append, bei_length, flat_len, ens_len, intsB_len, qcB_len, enB_len, List.length_take]); omega))) ?_
  iterate 6 refine Ws ?_
  refine Wc (CallsK.at (mess_ints p (bs ++ bei q.view ++ bei q.block) q.by_.a q.by_.n q.by_.c q.by_.l rfl hn hs (by simp only [List.length_append, bei_length]; omega))) ?_
  refine Ws ?_
  refine SN_stop0 rfl ?_
  refine ⟨rfl, ?_⟩
  unfold qcB
  rw [← List.append_assoc, ← List.append_assoc]
  exact .fin

theorem mess_env {W : World} {F : List HProp} [Abs F] (p : Nat) (bs : List UInt8) (e : EnvD) (he : e.Good) (hb : bs.length ≤ 100000000) :
    CallsK W Tryz.prog 142 #[.pointer (some ⟨p, 0, none⟩), e.val] (At writerI p bs :: F) (fun v L => v = .tuple #[] ∧ Lands L (At writerI p (bs ++ enB e) :: F)) := by
  refine CallsK_enter (n := 20) Tryz.func142 rfl rfl rfl ?_
  iterate 2 refine Ws ?_
  refine Wb fun b3 => ?_
  iterate 7 refine Ws ?_
  refine Wc (CallsK.at (wire_Int p (bs) (e.client) (by (try simp only [List.length_append, bei_length, flat_len, ens_len, intsB_len, qcB_len, enB_len, List.length_take]); omega))) ?_
  iterate 7 refine Ws ?_
  refine Wc (CallsK.at (wire_Num p (bs ++ bei e.client) (e.nonce) he.2.2.1 (by (try simp only [List.length_append, bei_length, flat_len, ens_len, intsB_len, qcB_len, enB_len, List.length_take]); omega))) ?_
  iterate 7 refine Ws ?_
  refine Wc (CallsK.at (wire_Num p (bs ++ bei e.client ++ bei e.nonce) (e.fee) he.2.2.2 (by (try simp only [List.length_append, bei_length, flat_len, ens_len, intsB_len, qcB_len, enB_len, List.length_take]); omega))) ?_
  iterate 6 refine Ws ?_
  refine Wc (CallsK.at (wire_Int p (bs ++ bei e.client ++ bei e.nonce ++ bei e.fee) (e.cipher) (by (try simp only [List.length_append, bei_length, flat_len, ens_len, intsB_len, qcB_len, enB_len, List.length_take]); omega))) ?_
  refine Ws ?_
  refine SN_stop0 rfl ?_
  refine ⟨rfl, ?_⟩
  unfold enB
  rw [← List.append_assoc, ← List.append_assoc, ← List.append_assoc]
  exact .fin

theorem mess_block {W : World} {F : List HProp} [Abs F] (p : Nat) (bs : List UInt8) (b : BlkD) (hB : BIn F b) (hb : bs.length ≤ 80000000) :
    CallsK W Tryz.prog 143 #[.pointer (some ⟨p, 0, none⟩), b.val] (At writerI p bs :: F) (fun v L => v = .tuple #[] ∧ Lands L (At writerI p (bs ++ blB b.pure) :: F)) := by
  refine CallsK_enter (n := 34) Tryz.func143 rfl rfl rfl ?_
  haveI := hB.r1.row
  haveI := hB.r2
  have hn1 := hB.r1.n
  have hs1 := hB.r1.s
  have hn2 := hB.n2
  have hs2 := hB.s
  iterate 2 refine Ws ?_
  refine Wb fun b3 => ?_
  iterate 7 refine Ws ?_
  refine Wc (CallsK.at (wire_Int p (bs) (b.view) (by (try simp only [List.length_append, bei_length, flat_len, ens_len, intsB_len, qcB_len, enB_len, List.length_take]); omega))) ?_
  iterate 7 refine Ws ?_
  refine Wc (CallsK.at (wire_Int p (bs ++ bei b.view) (b.author) (by (try simp only [List.length_append, bei_length, flat_len, ens_len, intsB_len, qcB_len, enB_len, List.length_take]); omega))) ?_
  iterate 6 refine Ws ?_
  refine SR_rd (RD_loadA (vs := QcD.cells ⟨b.jv, b.jb, b.by_⟩) Tryz.isAgg39 Tryz.sizeOf39 rfl rfl) (Has.ces (cs := b.cells) fun j v h => by rcases j with _ | _ | _ | j <;> simp [QcD.cells, BlkD.cells] at h ⊢ <;> exact h) rfl ?_
  refine We (CallsK.at (mess_qc p (bs ++ bei b.view ++ bei b.author) ⟨b.jv, b.jb, b.by_⟩ rfl hn1 (by dsimp only; omega) (by simp only [List.length_append, bei_length]; omega))) ?_
  rintro _ L3 ⟨rfl, hL3⟩
  dsimp only at hL3
  refine SR.lands hL3 ?_
  iterate 8 refine Ws ?_
  refine Wc (CallsK.at (wire_Int p (bs ++ bei b.view ++ bei b.author ++ qcB b.jv b.jb b.by_.l) ((b.envs.n : Nat)) (by (try simp only [List.length_append, bei_length, flat_len, ens_len, intsB_len, qcB_len, enB_len, List.length_take]); omega))) ?_
  iterate 11 refine Ws ?_
  refine SC_ind (X := Nat) (fun i => i ≤ b.envs.n) (fun i => b.envs.n - i) (fun i => [(0, .pointer (some ⟨p, 0, none⟩)), (24, .slice b.envs.a b.envs.n b.envs.c), (25, .int .i64 (b.envs.n : Nat)), (26, .int .i64 (i : Nat))]) (fun i => At writerI p (bs ++ bei b.view ++ bei b.author ++ qcB b.jv b.jb b.by_.l ++ bei (b.envs.n : Nat) ++ (b.envs.l.take i).flatMap enB) :: F) (0) (by omega) (.cons rfl (.cons rfl (.cons rfl (.cons rfl (.nil))))) ((by simp only [List.take_zero, List.flatMap_nil, List.append_nil]; exact .fin)) ?_
  intro i hi ih
  iterate 6 refine Ws ?_
  refine SC_cond rfl (fun hc27 => ?_) (fun hc27 => ?_)
  · have hin : i < b.envs.n := by simp at hc27; omega
    obtain ⟨e, hx⟩ : ∃ x, b.envs.l[i]? = some x := ⟨_, List.getElem?_eq_getElem (by omega)⟩
    iterate 6 refine Ws ?_
    refine SR_rd (RD_ixO (cs := b.envs.l.flatMap EnvD.cells) Tryz.runUnderlying53 Tryz.sizeOf43 rfl rfl (by rw [env_len, hn2]) (by omega) (by omega)) Has.ro rfl ?_
    refine SR_rd (RD_loadAO (vs := e.cells) (cs := b.envs.l.flatMap EnvD.cells) Tryz.isAgg43 Tryz.sizeOf43 rfl rfl (by decide) (fun o v h => by have ho : o < 4 := (List.getElem?_eq_some_iff.1 h).1; rw [show ((i : Nat) : Int).toNat * (3 + 1) + o = i * 4 + o by omega, env_get hx o ho]; exact h)) Has.ro rfl ?_
    refine Wa fun b5 => ?_
    refine SR_ox0 (OX_stA (vs := e.cells) Tryz.sizeOf43 rfl rfl rfl rfl) ?_
    rintro _ _ rfl
    iterate 4 refine Ws ?_
    refine SR_rd (RD_loadA (vs := e.cells) Tryz.isAgg43 Tryz.sizeOf43 rfl rfl) Has.wh rfl ?_
    refine Wc (CallsK.at (mess_env p (bs ++ bei b.view ++ bei b.author ++ qcB b.jv b.jb b.by_.l ++ bei (b.envs.n : Nat) ++ (b.envs.l.take i).flatMap enB) e (hB.e e (List.mem_of_getElem? hx)) (by simp only [List.length_append, bei_length, qcB_len, ens_len, List.length_take]; omega))) ?_
    iterate 7 refine Ws ?_
    refine SC_again (ih (i + 1) (by omega) (by omega)) ((by rw [flat_take hx, ← List.append_assoc]; exact .fin)) (.cons rfl (.cons rfl (.cons rfl (.cons' rfl (ie (by omega)) (.nil)))))
  · have hin : i = b.envs.n := by simp at hc27; omega
    have htk : b.envs.l.take i = b.envs.l := by rw [hin, ← hn2, List.take_length]
    refine Ws ?_
    refine SN_stop0 rfl ?_
    refine ⟨rfl, ?_⟩
    rw [htk, show blB b.pure = bei b.view ++ bei b.author ++ qcB b.jv b.jb b.by_.l ++ bei (b.envs.n : Nat) ++ b.envs.l.flatMap enB by unfold blB BlkD.pure; dsimp only; rw [hn2]]
    simp only [List.append_assoc]
    exact .fin

theorem mess_all {W : World} {F : List HProp} [Abs F] (m : MsgD) [hM : MsgIn F m] :
    CallsK W Tryz.prog 110 #[m.val] (F) (fun v L => (∃ a c, v = .slice a m.p.bytes.length c ∧ m.p.bytes.length ≤ 1000000 ∧ Lands L (rowP 5 1 a m.p.bytes.length c (m.p.bytes.map byteV) :: F))) := by
  refine CallsK_enter (n := 66) Tryz.func110 rfl rfl rfl ?_
  haveI := hM.q.row
  haveI := hM.t.row
  haveI := hM.h.row
  haveI := hM.k.row
  haveI := hM.b
  have q1 := hM.q.n
  have q2 := hM.q.s
  have t1 := hM.t.n
  have t2 := hM.t.s
  have h1 := hM.h.n
  have h2 := hM.h.s
  have k1 := hM.k.n
  have k2 := hM.k.s
  have nb1 := hM.n
  have nb2 := hM.s
  have hbs : ∀ b ∈ m.bl.l.map BlkD.pure, b.by_.length ≤ 200 ∧ b.envs.length ≤ 200 := fun b hb => by
    obtain ⟨x, hx, rfl⟩ := List.mem_map.1 hb
    have hX := hM.bs x hx
    exact ⟨by show x.by_.l.length ≤ _; rw [hX.r1.n]; exact hX.r1.s, by show x.envs.l.length ≤ _; rw [hX.n2]; exact hX.s⟩
  iterate 2 refine Ws ?_
  refine Wb fun b1 => ?_
  iterate 5 refine Ws ?_
  refine We (wire_New) ?_
  rintro _ L0 ⟨p, rfl, hL0⟩
  refine SR.lands hL0 ?_
  iterate 16 refine Ws ?_
  refine SR_ox (OX_lit1 Tryz.underlying37 Tryz.type3 rfl rfl rfl rfl (.cons rfl (.cons rfl (.cons rfl (.cons rfl (.cons rfl (.nil)))))) (.cons rfl (.cons rfl (.cons rfl (.cons rfl (.cons rfl (.nil))))))) rfl ?_
  rintro _ _ ⟨b18, rfl, rfl⟩
  refine Wc (CallsK.lands (lit_row (E := 3) (z := 1) (cs := [m.kind, m.from_, m.to_, m.view, m.num].map intV) 5 rfl) (CallsK.at (mess_ints p [] _ 5 5 [m.kind, m.from_, m.to_, m.view, m.num] rfl rfl (by omega) (by simp)))) ?_
  iterate 6 refine Ws ?_
  refine SR_rd (RD_loadA (vs := m.qc.cells) Tryz.isAgg39 Tryz.sizeOf39 rfl rfl) (Has.ces (cs := m.cells) fun j v h => by rcases j with _ | _ | _ | j <;> simp [QcD.cells, MsgD.cells] at h ⊢ <;> exact h) rfl ?_
  refine We (CallsK.at (mess_qc p (([] : List UInt8) ++ intsB [m.kind, m.from_, m.to_, m.view, m.num]) m.qc rfl q1 (by omega) (by simp only [List.length_append, List.length_nil, List.length_cons, bei_length, intsB_len, qcB_len, enB_len]; omega))) ?_
  rintro _ L2 ⟨rfl, hL2⟩
  try dsimp only at hL2
  refine SR.lands hL2 ?_
  iterate 8 refine Ws ?_
  refine Wc (CallsK.at (wire_Int p (([] : List UInt8) ++ intsB [m.kind, m.from_, m.to_, m.view, m.num] ++ qcB m.qc.view m.qc.block m.qc.by_.l) m.tc.view (by simp only [List.length_append, List.length_nil, List.length_cons, bei_length, intsB_len, qcB_len, enB_len]; omega))) ?_
  iterate 8 refine Ws ?_
  refine We (CallsK.at (mess_ints p (([] : List UInt8) ++ intsB [m.kind, m.from_, m.to_, m.view, m.num] ++ qcB m.qc.view m.qc.block m.qc.by_.l ++ bei m.tc.view) m.tc.by_.a m.tc.by_.n m.tc.by_.c m.tc.by_.l rfl t1 (by omega) (by simp only [List.length_append, List.length_nil, List.length_cons, bei_length, intsB_len, qcB_len, enB_len]; omega))) ?_
  rintro _ L4 ⟨rfl, hL4⟩
  try dsimp only at hL4
  refine SR.lands hL4 ?_
  iterate 8 refine Ws ?_
  refine We (CallsK.at (mess_ints p (([] : List UInt8) ++ intsB [m.kind, m.from_, m.to_, m.view, m.num] ++ qcB m.qc.view m.qc.block m.qc.by_.l ++ bei m.tc.view ++ intsB m.tc.by_.l) m.tc.highs.a m.tc.highs.n m.tc.highs.c m.tc.highs.l rfl h1 (by omega) (by simp only [List.length_append, List.length_nil, List.length_cons, bei_length, intsB_len, qcB_len, enB_len]; omega))) ?_
  rintro _ L5 ⟨rfl, hL5⟩
  try dsimp only at hL5
  refine SR.lands hL5 ?_
  iterate 7 refine Ws ?_
  refine SR_rd (RD_loadA (vs := m.tc.high.cells) Tryz.isAgg39 Tryz.sizeOf39 rfl rfl) (Has.ces (cs := m.cells) fun j v h => by rcases j with _ | _ | _ | j <;> simp [QcD.cells, MsgD.cells] at h ⊢ <;> exact h) rfl ?_
  refine We (CallsK.at (mess_qc p (([] : List UInt8) ++ intsB [m.kind, m.from_, m.to_, m.view, m.num] ++ qcB m.qc.view m.qc.block m.qc.by_.l ++ bei m.tc.view ++ intsB m.tc.by_.l ++ intsB m.tc.highs.l) m.tc.high rfl k1 (by omega) (by simp only [List.length_append, List.length_nil, List.length_cons, bei_length, intsB_len, qcB_len, enB_len]; omega))) ?_
  rintro _ L6 ⟨rfl, hL6⟩
  try dsimp only at hL6
  refine SR.lands hL6 ?_
  iterate 6 refine Ws ?_
  refine SR_rd (RD_loadA (vs := m.env.cells) Tryz.isAgg43 Tryz.sizeOf43 rfl rfl) (Has.ces (cs := m.cells) fun j v h => by rcases j with _ | _ | _ | _ | j <;> simp [EnvD.cells, MsgD.cells] at h ⊢ <;> exact h) rfl ?_
  refine We (CallsK.at (mess_env p (([] : List UInt8) ++ intsB [m.kind, m.from_, m.to_, m.view, m.num] ++ qcB m.qc.view m.qc.block m.qc.by_.l ++ bei m.tc.view ++ intsB m.tc.by_.l ++ intsB m.tc.highs.l ++ qcB m.tc.high.view m.tc.high.block m.tc.high.by_.l) m.env hM.e (by simp only [List.length_append, List.length_nil, List.length_cons, bei_length, intsB_len, qcB_len, enB_len]; omega))) ?_
  rintro _ L7 ⟨rfl, hL7⟩
  try dsimp only at hL7
  refine SR.lands hL7 ?_
  iterate 8 refine Ws ?_
  refine Wc (CallsK.at (wire_Int p (([] : List UInt8) ++ intsB [m.kind, m.from_, m.to_, m.view, m.num] ++ qcB m.qc.view m.qc.block m.qc.by_.l ++ bei m.tc.view ++ intsB m.tc.by_.l ++ intsB m.tc.highs.l ++ qcB m.tc.high.view m.tc.high.block m.tc.high.by_.l ++ enB m.env) (m.bl.n : Nat) (by simp only [List.length_append, List.length_nil, List.length_cons, bei_length, intsB_len, qcB_len, enB_len]; omega))) ?_
  iterate 12 refine Ws ?_
  refine SC_ind (X := Nat) (fun i => i ≤ m.bl.n) (fun i => m.bl.n - i) (fun i => [(3, .pointer (some ⟨p, 0, none⟩)), (54, .slice m.bl.a m.bl.n m.bl.c), (55, .int .i64 (m.bl.n : Nat)), (56, .int .i64 (i : Nat))]) (fun i => At writerI p ((([] : List UInt8) ++ intsB [m.kind, m.from_, m.to_, m.view, m.num] ++ qcB m.qc.view m.qc.block m.qc.by_.l ++ bei m.tc.view ++ intsB m.tc.by_.l ++ intsB m.tc.highs.l ++ qcB m.tc.high.view m.tc.high.block m.tc.high.by_.l ++ enB m.env ++ bei (m.bl.n : Nat)) ++ ((m.bl.l.map BlkD.pure).take i).flatMap blB) :: F) (0) (by omega) (.cons rfl (.cons rfl (.cons rfl (.cons rfl (.nil))))) ((by simp only [List.take_zero, List.flatMap_nil, List.append_nil]; exact .fin)) ?_
  intro i hi ih
  iterate 6 refine Ws ?_
  refine SC_cond rfl (fun hc57 => ?_) (fun hc57 => ?_)
  · have hin : i < m.bl.n := by simp at hc57; omega
    obtain ⟨x, hx⟩ : ∃ x, m.bl.l[i]? = some x := ⟨_, List.getElem?_eq_getElem (by omega)⟩
    have hxp : (m.bl.l.map BlkD.pure)[i]? = some x.pure := by rw [List.getElem?_map, hx]; rfl
    have hX : BIn F x := hM.bs x (List.mem_of_getElem? hx)
    have hbb : ((([] : List UInt8) ++ intsB [m.kind, m.from_, m.to_, m.view, m.num] ++ qcB m.qc.view m.qc.block m.qc.by_.l ++ bei m.tc.view ++ intsB m.tc.by_.l ++ intsB m.tc.highs.l ++ qcB m.tc.high.view m.tc.high.block m.tc.high.by_.l ++ enB m.env ++ bei (m.bl.n : Nat)) ++ ((m.bl.l.map BlkD.pure).take i).flatMap blB).length ≤ 80000000 := by
      have hbt := bls_len (l := (m.bl.l.map BlkD.pure).take i) (fun b hb => hbs b (List.mem_of_mem_take hb))
      rw [List.length_take, List.length_map] at hbt
      rw [List.length_append]
      have h2 : (([] : List UInt8) ++ intsB [m.kind, m.from_, m.to_, m.view, m.num] ++ qcB m.qc.view m.qc.block m.qc.by_.l ++ bei m.tc.view ++ intsB m.tc.by_.l ++ intsB m.tc.highs.l ++ qcB m.tc.high.view m.tc.high.block m.tc.high.by_.l ++ enB m.env ++ bei (m.bl.n : Nat)).length ≤ 20000 := by
        simp only [List.length_append, List.length_nil, List.length_cons, bei_length, intsB_len, qcB_len, enB_len]
        omega
      omega
    iterate 6 refine Ws ?_
    refine SR_rd (RD_ixO (cs := m.bl.l.flatMap BlkD.cells) Tryz.runUnderlying44 Tryz.sizeOf146 rfl rfl (by rw [blkds_len, nb1]) (by omega) (by omega)) Has.ro rfl ?_
    refine SR_rd (RD_loadAO (vs := x.cells) (cs := m.bl.l.flatMap BlkD.cells) Tryz.isAgg146 Tryz.sizeOf146 rfl rfl (by decide) (fun o v h => by have ho : o < 6 := (List.getElem?_eq_some_iff.1 h).1; rw [show ((i : Nat) : Int).toNat * (5 + 1) + o = i * 6 + o by omega, blkd_get hx o ho]; exact h)) Has.ro rfl ?_
    refine Wa fun b5 => ?_
    refine SR_ox0 (OX_stA (vs := x.cells) Tryz.sizeOf146 rfl rfl rfl rfl) ?_
    rintro _ _ rfl
    iterate 4 refine Ws ?_
    refine SR_rd (RD_loadA (vs := x.cells) Tryz.isAgg146 Tryz.sizeOf146 rfl rfl) Has.wh rfl ?_
    refine Wc (CallsK.at (mess_block p ((([] : List UInt8) ++ intsB [m.kind, m.from_, m.to_, m.view, m.num] ++ qcB m.qc.view m.qc.block m.qc.by_.l ++ bei m.tc.view ++ intsB m.tc.by_.l ++ intsB m.tc.highs.l ++ qcB m.tc.high.view m.tc.high.block m.tc.high.by_.l ++ enB m.env ++ bei (m.bl.n : Nat)) ++ ((m.bl.l.map BlkD.pure).take i).flatMap blB) x (hX.up (A := pt b5 (.cells x.cells.toArray 146))) hbb)) ?_
    iterate 7 refine Ws ?_
    refine SC_again (ih (i + 1) (by omega) (by omega)) ((by rw [flat_take hxp, ← List.append_assoc]; exact .fin)) (.cons rfl (.cons rfl (.cons rfl (.cons' rfl (ie (by omega)) (.nil)))))
  · have hin : i = m.bl.n := by simp at hc57; omega
    have htk : (m.bl.l.map BlkD.pure).take i = m.bl.l.map BlkD.pure := List.take_of_length_le (by rw [List.length_map]; omega)
    have hbt := bls_len hbs
    rw [List.length_map] at hbt
    have hall : (([] : List UInt8) ++ intsB [m.kind, m.from_, m.to_, m.view, m.num] ++ qcB m.qc.view m.qc.block m.qc.by_.l ++ bei m.tc.view ++ intsB m.tc.by_.l ++ intsB m.tc.highs.l ++ qcB m.tc.high.view m.tc.high.block m.tc.high.by_.l ++ enB m.env ++ bei (m.bl.n : Nat)) ++ ((m.bl.l.map BlkD.pure).take i).flatMap blB = m.p.bytes := by
      rw [htk]
      unfold PMsg.bytes MsgD.p QcD.p
      dsimp only
      rw [List.length_map, nb1, List.nil_append]
    have hlen : m.p.bytes.length ≤ 1000000 := by
      rw [← hall, htk]
      simp only [List.length_append, List.length_nil, List.length_cons, bei_length, intsB_len, qcB_len, enB_len]
      omega
    rw [hall]
    clear hall
    iterate 5 refine Ws ?_
    refine We (CallsK.at (wire_Bytes p m.p.bytes (by omega))) ?_
    rintro _ L10 ⟨a10, c10, rfl, hL10⟩
    refine SR.lands hL10 ?_
    iterate 3 refine Ws ?_
    refine SC_ret1 rfl rfl ?_
    exact ⟨a10, c10, rfl, hlen, .fin⟩

theorem go_EqualM {W : World} {F : List HProp} [Abs F] (a : Option Addr) (n c : Nat) (xs : List UInt8) {cs : List Value} [HasRow F a cs] (hcs : cs = xs.map byteV) (hn : xs.length = n) (b : Option Addr) (m d : Nat) (ys : List UInt8) {ds : List Value} [HasRow F b ds] (hds : ds = ys.map byteV) (hm : ys.length = m) :
    CallsK W Tryz.prog 139 #[.slice a n c, .slice b m d] (F) (fun v L => v = .bool (decide (xs = ys)) ∧ Lands L F) := by
  refine CallsK_enter (n := 10) Tryz.func139 rfl rfl rfl ?_
  subst hcs
  subst hds
  iterate 8 refine Ws ?_
  refine SR_rd (RD_b2s (bs := xs) Tryz.underlying36 Tryz.underlying9 Tryz.underlying5 rfl hn) Has.ro rfl ?_
  refine Ws ?_
  refine SR_rd (RD_b2s (bs := ys) Tryz.underlying36 Tryz.underlying9 Tryz.underlying5 rfl hm) Has.ro rfl ?_
  refine SR_pu (RD_eqlS rfl rfl) rfl ?_
  iterate 3 refine Ws ?_
  refine SC_ret1 rfl rfl ?_
  refine ⟨?_, .fin⟩
  simp [bstr_inj]

theorem mess_Same {W : World} {F : List HProp} [Abs F] (m k : MsgD) [hM : MsgIn F m] [hK : MsgIn F k] :
    CallsK W Tryz.prog 109 #[m.val, k.val] (F) (fun v L => v = .bool (decide (m.p = k.p)) ∧ Lands L F) := by
  refine CallsK_enter (n := 10) Tryz.func109 rfl rfl rfl ?_
  iterate 2 refine Ws ?_
  refine Wb fun b2 => ?_
  refine Wb fun b3 => ?_
  iterate 4 refine Ws ?_
  refine Wd [.r 0, .r 2, .e 1, .e 3, .e 4, .r 5] ?_
  refine SQ_rd rfl (RD_loadA (vs := m.cells) Tryz.isAgg46 Tryz.sizeOf46 rfl rfl) Has.wh rfl ?_
  refine SQ_rd rfl (RD_loadA (vs := k.cells) Tryz.isAgg46 Tryz.sizeOf46 rfl rfl) Has.wh rfl ?_
  refine SQ_call rfl Tryz.call110 (.cons rfl (.nil)) (mess_all m) (lts rfl) ?_
  rintro _ L1 ⟨a1, c1, rfl, hl1, hL1⟩
  refine ⟨.lands hL1 (.h Has.wh (.w rfl (.nil))), ?_⟩
  refine SQ.lands hL1 ?_
  refine SQ_call rfl Tryz.call110 (.cons rfl (.nil)) (mess_all k) (lts rfl) ?_
  rintro _ L2 ⟨a2, c2, rfl, hl2, hL2⟩
  refine ⟨.lands hL2 (.w rfl (.h Has.wh (.nil))), ?_⟩
  refine SQ.lands hL2 ?_
  refine SQ_call rfl Tryz.call139 (.cons rfl (.cons rfl (.nil))) (go_EqualM a1 _ c1 m.p.bytes rfl rfl a2 _ c2 k.p.bytes rfl rfl) (lts rfl) ?_
  rintro _ L3 ⟨rfl, hL3⟩
  refine ⟨.lands hL3 (.h Has.wh (.h Has.wh (.nil))), ?_⟩
  refine SQ.lands hL3 ?_
  refine Wq ?_
  iterate 2 refine Ws ?_
  refine SC_ret1 rfl rfl ?_
  exact ⟨congrArg Value.bool (decide_eq_decide.2 (msg_one hM.good hK.good)), .fin⟩

end Go.Proofs.YtdhpjdhloaoepaaGreat

/- Messages: are two the same, as the document says; is one small. -/
namespace Go.Proofs.YtdhpjdhloaoepaaGreat
open Go Go.Proofs
attribute [local irreducible] SC SN SR SQ SA SO
set_option maxRecDepth 100000
noncomputable instance decPQ : DecidableEq PQ := fun _ _ => Classical.propDecidable _

end Go.Proofs.YtdhpjdhloaoepaaGreat

/- Messages: what is read back; what the document fixes. -/
namespace Go.Proofs.YtdhpjdhloaoepaaGreat
open Go Go.Proofs
attribute [local irreducible] SC SN SR SQ SA SO
set_option maxRecDepth 100000
theorem HasRow.empty {L : List HProp} {a : Option Addr} : HasRow L a [] := ⟨⟨rowR.up, fun h _ => by
  unfold rowR
  split
  · intro j v e; simp at e
  · rfl⟩⟩
theorem i0 : I64 0 := by unfold I64; omega
def zR : Row := ⟨none, 0, 0, []⟩
def zQ : QcD := ⟨0, 0, zR⟩
def zT : TcD := ⟨0, zR, zR, zQ⟩
def zE : EnvD := ⟨0, 0, 0, 0⟩
def zB : BRow := ⟨none, 0, 0, []⟩
theorem RIn.empty {F : List HProp} (a : Option Addr) (c : Nat) : RIn F ⟨a, 0, c, []⟩ := ⟨HasRow.empty, rfl, fun x h => (nomatch h), by simp⟩
theorem MsgIn.empty {F : List HProp} {k f t v n : Int} (h : ∀ x ∈ [k, f, t, v, n], I64 x) {e : EnvD} (he : e.Good) (a1 a2 a3 a4 : Option Addr) (c1 c2 c3 c4 : Nat) : MsgIn F ⟨k, f, t, v, n, ⟨0, 0, ⟨a1, 0, c1, []⟩⟩, ⟨0, ⟨a2, 0, c2, []⟩, ⟨a3, 0, c3, []⟩, ⟨0, 0, ⟨a4, 0, c4, []⟩⟩⟩, e, zB⟩ :=
  ⟨RIn.empty _ _, RIn.empty _ _, RIn.empty _ _, RIn.empty _ _, HasRow.empty, rfl, by show 0 ≤ 20; omega, fun b hb => (nomatch hb), h, ⟨i0, i0⟩, i0, ⟨i0, i0⟩, he⟩
theorem zE_good : zE.Good := ⟨i0, i0, by decide, by decide⟩
/-- A message with its head alone. -/
def MsgD.own (m : MsgD) : MsgD := ⟨m.kind, m.from_, m.to_, m.view, m.num, zQ, zT, zE, zB⟩
theorem MsgIn.own {F : List HProp} {m : MsgD} (h : MsgIn F m) : MsgIn F m.own := MsgIn.empty h.head zE_good none none none none 0 0 0 0
/-! ### A message's bytes, read -/
def N0 : List Int := [5, 3, 1, 2, 3, 4, 0, 0, 0, 0, 0, 0, 0, 0, 0, 0, 0, 0, 0, 0]
def st (j : Nat) : List UInt8 × Bool := ((N0.drop j).flatMap bei, false)
def m0 : MsgD := ⟨3, 1, 2, 3, 4, zQ, zT, zE, zB⟩
instance m0_in {F : List HProp} : MsgIn F m0 := MsgIn.empty (by simp [I64]) zE_good none none none none 0 0 0 0

end Go.Proofs.YtdhpjdhloaoepaaGreat

/- What one may vote for: the object and its functions. -/
namespace Go.Proofs.YtdhpjdhloaoepaaGreat
open Go Go.Proofs
attribute [local irreducible] SC SN SR SQ SA SO
set_option maxRecDepth 100000
theorem OX_stAo {W : World} {P : Program} {l : Env} {L R : List HProp} {ty : TypeId} {x y : Operand} {t b off m : Nat} {cs vs cs' : List Value} {T : TypeId} (hz : ∀ w, (sizeOf t).run P w = .ok m w) (hx : ev l x = some (.pointer (some ⟨b, off, none⟩))) (hy : ev l y = some (.agg vs.toArray)) [ho : Ones vs] [tp : TakePt L b (.cells cs.toArray T) R]
    (hm : vs.length = m) (hc : off + m ≤ cs.length) (he : setL cs off vs = cs') : OX W P l L (.store t x y) ty (fun _ L' => L' = pt b (.cells cs'.toArray T) :: R) :=
  (OX.lands (fun m => Den_perm tp.perm m) (OX_storeA hz hm hx hy (fun v hv => (ho.h v hv)) (by omega))).imp fun _ _ e => by rw [e, he]
structure SS where
  t : Nat
  hv : Int
  hb : Int
  lock : Int
  last : Int
def SS.see1 (s : SS) (v b : Int) : SS := if v > s.hv then { s with hv := v, hb := b } else s
def SS.lock2 (s : SS) (st : TS) (b1 : Int) : Int := if viewOf (mget st.T b1) > viewOf (mget st.T s.lock) then b1 else s.lock
def parOf (st : TS) (d : Int) : Int := (mget st.T d).elim 0 Blk.jb
def fixes (st : TS) (b : Int) : Prop := ¬ (b = st.root ∨ parOf st b = st.root ∨ viewOf (mget st.T b) ≠ viewOf (mget st.T (parOf st b)) + 1 ∨ viewOf (mget st.T (parOf st b)) ≠ viewOf (mget st.T (parOf st (parOf st b))) + 1)
instance decFixes (st : TS) (b : Int) : Decidable (fixes st b) := by unfold fixes; infer_instance
/-- What is seen: what is fixed by it, and what one knows then. -/
def SS.see (s : SS) (st : TS) (v b : Int) : Int × SS :=
  if (mget st.T b).isSome = false ∨ v ≠ viewOf (mget st.T b) then (0, s)
  else (if fixes st b then parOf st (parOf st b) else 0, ⟨s.t, (s.see1 v b).hv, (s.see1 v b).hb, s.lock2 st (parOf st b), s.last⟩)

end Go.Proofs.YtdhpjdhloaoepaaGreat

/- More operations: a slice made, cells copied, numbers added with their carry, an array within a row. -/
namespace Go.Proofs.YtdhpjdhloaoepaaGreat
open Go Go.Proofs
set_option maxRecDepth 100000
section
variable {W : World} {P : Program} {n : Nat} {l : Env} {L R : List HProp} {ty : TypeId} {v : Value}
theorem madeCells_all {zc : Array Value} {v : Value} {z : Nat} (hz : zc = Array.replicate z v) (hp : 0 < z) (m : Nat) : madeCells zc m = (List.replicate m v).toArray := by
  subst hz
  apply Array.ext
  · simp [madeCells]
  · intro i h1 h2
    simp [madeCells, Nat.mod_lt _ hp]
theorem OX_mkS {x y : Operand} {t e z m : Nat} {i : TypeInfo} {zv v : Value} {kl kc : IntKind} (ht : P.underlying t = some (.slice e)) (hi : P.info? e = some i) (hz : i.zero = some zv) (hs : i.size = z) (hv : zv.cells = Array.replicate z v) (hp : Nat.blt 0 z = true)
    (hx : ev l x = some (.int kl (m : Int))) (hy : ev l y = some (.int kc (m : Int))) (B : Nat) (hB : i.bytes = B) (hc : m * z ≤ 16777216) (hb : B * m ≤ 281474976710656) (h63 : m ≤ 9223372036854775807) :
    OX W P l L (.makeSlice t x y) ty (fun u L' => ∃ b, u = .slice (some ⟨b, 0, none⟩) m m ∧ L' = pt b (.cells (List.replicate (m * z) v).toArray e) :: L) := fun ρ hρ w hw _ _ _ _ => by
  have hr := run_makeSlice (P := P) (w := w) t e i zv ht hi hz kl kc (m : Int) (m : Int) (by omega) (by omega) (by rw [hs, Int.toNat_natCast]; exact hc) (by rw [hB, ← Int.natCast_mul]; exact Int.ofNat_le.2 hb) (by omega)
  simp only [Int.toNat_natCast, hs] at hr
  rw [madeCells_all hv (Nat.le_of_ble_eq_true hp)] at hr
  exact ⟨.value (.slice (some ⟨w.heap.size, 0, none⟩) m m), _, _, _, by simp only [execOp, hρ x _ hx, hρ y _ hy, Sem.run_bind, hr, Result.andThen, Sem.run_pure]; rfl, .inl rfl, ⟨_, rfl, rfl⟩, hw.new _⟩
theorem EvA.ev {l : Env} {ρ : Operand → Value} (hρ : ∀ x u, ev l x = some u → ρ x = u) : ∀ {xs : List Operand} {vs : List Value}, EvA l xs vs → xs.map ρ = vs
  | _, _, .nil => rfl
  | _, _, .cons h r => by simp [hρ _ _ h, r.ev hρ]
/-- A call that the machine answers at once. -/
theorem RD_ext {f : FuncId} {xs : Array Operand} {ats : Array TypeId} {args : Array Value} (hcall : ∀ w, (callFunc f args).run P w = .ok (.value v) w) (hargs : EvA l xs.toList args.toList) : RD P l (.call ⟨.value (.func f), xs, ats⟩) ty RU v := fun ρ hρ w _ _ _ _ _ => by
  have hm : xs.map ρ = args := Array.ext' (by rw [Array.toList_map]; exact hargs.ev hρ)
  have hf : ρ (.func f) = .func (.func f) #[] #[] := hρ _ _ rfl
  simp only [execOp, resolve, hm, hf, Deferred.ofValue]
  simp [invoke, hcall]
theorem call_add64 (x y : Int) (hx : 0 ≤ x) (hy : 0 ≤ y) (w : World) : (callFunc 168 #[.int .u64 x, .int .u64 y, .int .u64 0]).run Tryz.prog w = .ok (.value (.tuple #[.int .u64 ((x + y) % 18446744073709551616), .int .u64 ((x + y) / 18446744073709551616)])) w := by
  rw [run_callFunc_extern Tryz.func168 (by kernel_rfl) (by kernel_rfl) (by kernel_rfl) (e := add64Entry) (by kernel_rfl), run_add64 x y 0 hx hy (by omega) (by omega)]
  simp only [Result.andThen, Int.add_zero]
/-- An array within a row. -/
theorem RD_ixAO {x y : Operand} {t e n j m : Nat} {k : IntKind} {i : Int} {a : Option Addr} {cs : List Value} (hs : ∀ w, (underlying t).run P w = .ok (.array n e) w) (hz : ∀ w, (sizeOf e).run P w = .ok m w)
    (hx : ev l x = some (.pointer (some (elA a j)))) (hy : ev l y = some (.int k i)) (h0 : 0 ≤ i) (h1 : i < n) (hj : 0 < cs.length) : RD P l (.indexAddr t x y) ty (rowR a cs) (.pointer (some (elA a (j + i.toNat * m)))) := fun ρ hρ w hR _ _ _ _ => by
  obtain ⟨b, off, rfl, _⟩ := hR.some hj
  simp [execOp, hρ x _ hx, hρ y _ hy, Instr.indexAt, asIntOf, hs, hz, h0, h1, Instr.sureAddr, elA_add]
end
end Go.Proofs.YtdhpjdhloaoepaaGreat

/- Rows written in place: a struct stored into a row, a row moved up within itself, its end cleared. -/
namespace Go.Proofs.YtdhpjdhloaoepaaGreat
open Go Go.Proofs
set_option maxRecDepth 100000
section
variable {W : World} {P : Program} {l : Env} {L R : List HProp} {ty : TypeId}
theorem OX_stRA {x y : Operand} {t E z n c j m : Nat} {a : Option Addr} {cs vs : List Value} (hz : ∀ w, (sizeOf t).run P w = .ok m w)
    (hx : ev l x = some (.pointer (some (elA a j)))) (hy : ev l y = some (.agg vs.toArray)) [ho : Ones vs] [tp : TakeRow L a E z n c cs R] (hm : vs.length = m) (hp : 0 < m) (hlt : j + m ≤ cs.length) :
    OX W P l L (.store t x y) ty (fun _ L' => L' = rowP E z a n c (setL cs j vs) :: R) := OX.lands (fun m => Den_perm tp.perm m) <| fun ρ hρ w hw _ _ _ _ => by
  obtain ⟨h1, h2, hdj, e, H, hr⟩ := hw.2.2.2
  rcases H with ⟨_, _, rfl, _⟩ | ⟨b, off, xs, fz, rfl, hp, hl, hnc, hoff, hfz, hcell⟩
  · simp at hlt; omega
  · have hw' : Sat W (pt b (.cells xs.toList.toArray E fz) :: R) w := ⟨hw.1, hw.2.1, hw.2.2.1, h1, h2, hdj, e, by simpa using hp, hr⟩
    have hlast : off + j + vs.length ≤ xs.toList.length := by
      have h3 : n * z ≤ c * z := Nat.mul_le_mul_right _ hnc
      rw [show xs.toList.length = xs.size from Array.length_toList, hm]
      rw [hl] at hlt
      omega
    obtain ⟨w1, hr1, hS⟩ := run_storeCells (P := P) (off := off + j) vs 0 xs.toList w hw' (by simpa using hfz) ho.h hlast
    refine ⟨.skip, w1, undef, _, ?_, .inr ⟨rfl, rfl⟩, rfl, hS.imp ?_⟩
    · simp only [elA] at hx
      simp [execOp, hρ x _ hx, hρ y _ hy, Instr.storeAt, Instr.sureAddr, storeVar, hz, Value.cells, hm, hr1]
    · rintro q ⟨q1, q2, qd, qe, qp, qr⟩
      refine ⟨q1, q2, qd, qe, .inr ⟨b, off, _, fz, rfl, qp, by rw [setL_length]; exact hl, hnc, ?_, ?_, ?_⟩, qr⟩
      · simpa [setL_length] using hoff
      · simpa [setL_length] using hfz
      · intro k u hk
        rw [setL_get vs cs j k (by rw [hm]; exact hlt)] at hk
        simp only [List.getElem?_toArray, Nat.add_zero]
        rw [setL_get vs xs.toList (off + j) (off + k) hlast]
        split at hk
        · rename_i hjk
          rw [if_pos (by omega)]
          rw [← hk]; congr 1; omega
        · rename_i hjk
          rw [if_neg (by omega)]
          simpa using hcell k u hk
/-- The end of a row beyond what one knows, cleared. -/
theorem OX_clr {x : Operand} {t E z k c d m q : Nat} {a : Option Addr} {cs : List Value} {zv : Value} (ht : P.underlying t = some (.slice E)) (hzv : ∀ w, (zeroValue E).run P w = .ok zv w) (hzc : zv.cells.size = z) (hz1 : ∀ v ∈ zv.cells.toList, v.oneCell' = true) (hz0 : 0 < z)
    (hx : ev l x = some (.slice (sBase a d z c) m q)) [tp : TakeRow L a E z k c cs R] (hk : k ≤ d) (hd : d + m ≤ c) :
    OX W P l L (.call ⟨.builtin .clear, #[x], #[t]⟩) ty (fun _ L' => L' = rowP E z a k c cs :: R) := OX.lands (fun m => Den_perm tp.perm m) <| fun ρ hρ w hw _ _ _ _ => by
  have hu : ∀ w, (underlying t).run P w = .ok (.slice E) w := fun w => run_underlying ht w
  by_cases hm : m = 0
  · subst hm
    refine ⟨.value (.tuple #[]), w, .tuple #[], _, ?_, .inl rfl, rfl, hw⟩
    cases hs : sBase a d z c <;> simp [execOp, resolve, hρ x _ hx, invoke, builtin, Builtin.clear_, hu, hs]
  · obtain ⟨h1, h2, hdj, e, H, hr⟩ := hw.2.2.2
    rcases H with ⟨_, rfl, rfl, _⟩ | ⟨b, off, xs, fz, rfl, hp, hl, hnc, hoff, hfz, hcell⟩
    · omega
    · have hw' : Sat W (pt b (.cells xs.toList.toArray E fz) :: R) w := ⟨hw.1, hw.2.1, hw.2.2.1, h1, h2, hdj, e, by simpa using hp, hr⟩
      have hsb : sBase (some ⟨b, off, none⟩) d z c = some ⟨b, off + d * z, none⟩ := by unfold sBase; rw [if_neg (by omega)]; simp [Addr.add_eq]
      rw [hsb] at hx
      have hlen : (Builtin.zeroCells zv.cells m).toList.length = m * z := by rw [Array.length_toList, zeroCells_size, hzc]
      have hone : ∀ v ∈ (Builtin.zeroCells zv.cells m).toList, v.oneCell' = true := by
        intro v hv
        simp only [Builtin.zeroCells, Array.toList_map, List.mem_map] at hv
        obtain ⟨i, _, rfl⟩ := hv
        refine hz1 _ ?_
        have hi : i % zv.cells.size < zv.cells.size := Nat.mod_lt _ (by omega)
        rw [getElem!_pos zv.cells _ hi]
        exact Array.mem_toList_iff.2 (Array.getElem_mem hi)
      have hfit : off + d * z + (Builtin.zeroCells zv.cells m).toList.length ≤ xs.toList.length := by
        rw [hlen, show xs.toList.length = xs.size from Array.length_toList]
        have : (d + m) * z ≤ c * z := Nat.mul_le_mul_right _ hd
        rw [Nat.add_mul] at this; omega
      obtain ⟨w1, hr1, hS⟩ := run_storeCells (P := P) (off := off + d * z) _ 0 xs.toList w hw' (by simpa using hfz) hone (by simpa using hfit)
      refine ⟨.value (.tuple #[]), w1, .tuple #[], _, ?_, .inl rfl, rfl, hS.imp ?_⟩
      · have hm' : ∃ m', m = m' + 1 := ⟨m - 1, by omega⟩
        obtain ⟨m', rfl⟩ := hm'
        simp [execOp, resolve, hρ x _ hx, invoke, builtin, Builtin.clear_, hu, hzv, hr1]
      · rintro y ⟨q1, q2, qd, qe, qp, qr⟩
        refine ⟨q1, q2, qd, qe, .inr ⟨b, off, _, fz, rfl, qp, hl, hnc, ?_, ?_, ?_⟩, qr⟩
        · simpa [setL_length] using hoff
        · simpa [setL_length] using hfz
        · intro j v hv
          have hj := lt_len hv
          have hkd : k * z ≤ d * z := Nat.mul_le_mul_right _ hk
          simp only [List.getElem?_toArray, Nat.add_zero]
          rw [setL_get _ xs.toList (off + d * z) (off + j) (by simpa using hfit), if_neg (by omega)]
          simpa using hcell j v hv
/-- A row's end moved up within it. -/
theorem OX_appS {x y : Operand} {t t2 E z n c i j q : Nat} {a : Option Addr} {cs : List Value} {ti : TypeInfo} (ht : P.underlying t = some (.slice E)) (ht2 : P.underlying t2 = some (.slice E)) (hi : P.info? E = some ti) (hsz : ti.size = z) (h1z : Ones cs)
    (hx : ev l x = some (.slice a i c)) (hy : ev l y = some (.slice (sBase a j z c) (n - j) q)) [tp : TakeRow L a E z n c cs R] (hij : i ≤ j) (hj : j ≤ n) (hn : 0 < n) :
    OX W P l L (.call ⟨.builtin .append, #[x, y], #[t, t2]⟩) ty (fun u L' => u = .slice a (i + (n - j)) c ∧ L' = rowP E z a (i + (n - j)) c (cs.take (i * z) ++ cs.drop (j * z)) :: R) := OX.lands (fun m => Den_perm tp.perm m) <| fun ρ hρ w hw _ _ _ _ => by
  have hu : ∀ w, (underlying t).run P w = .ok (.slice E) w := fun w => run_underlying ht w
  have hu2 : ∀ w, (underlying t2).run P w = .ok (.slice E) w := fun w => run_underlying ht2 w
  have hs : ∀ w, (sizeOf E).run P w = .ok z w := fun w => by simp [sizeOf, typeInfo, hi, hsz]
  obtain ⟨h1, h2, hdj, e, H, hr⟩ := hw.2.2.2
  rcases H with ⟨h0, _, _, _⟩ | ⟨b, off, xs, fz, rfl, hp, hl, hnc, hoff, hfz, hcell⟩
  · omega
  · have hw' : Sat W (pt b (.cells xs.toList.toArray E fz) :: R) w := ⟨hw.1, hw.2.1, hw.2.2.1, h1, h2, hdj, e, by simpa using hp, hr⟩
    have hnz : n * z ≤ c * z := Nat.mul_le_mul_right _ hnc
    have hjz : j * z ≤ n * z := Nat.mul_le_mul_right _ hj
    have hizj : i * z ≤ j * z := Nat.mul_le_mul_right _ hij
    have hds : (cs.drop (j * z)).length = (n - j) * z := by rw [List.length_drop, hl, Nat.sub_mul]
    have hlen : i * z + (n - j) * z ≤ n * z := by rw [Nat.sub_mul]; omega
    have hrow : rowR (sBase (some ⟨b, off, none⟩) j z c) (cs.drop (j * z)) (fun b => w.heap[b]?) := by
      have hw0 : rowR (some ⟨b, off, none⟩) cs (fun b => w.heap[b]?) := fun k v hk => by
        refine ⟨xs.toList.toArray, E, fz, hw'.get, ?_⟩
        simpa using hcell k v hk
      have h3 := rowR_slice hw0 (j * z) ((n - j) * z)
      rw [List.take_of_length_le (by rw [hds]; exact Nat.le_refl _)] at h3
      unfold sBase
      split
      · rename_i hc
        have : n - j = 0 := by omega
        rw [List.drop_eq_nil_of_le (by rw [hl, show n = j by omega]; exact Nat.le_refl _)]
        exact rowR_nil _
      · exact h3
    have hdsr : (Builtin.firstCells z (n - j) (.slice (sBase (some ⟨b, off, none⟩) j z c) (n - j) q)).run P w = .ok (cs.drop (j * z)).toArray w := run_firstCells hds hrow
    have hfit : off + i * z + (cs.drop (j * z)).length ≤ xs.toList.length := by rw [hds, show xs.toList.length = xs.size from Array.length_toList]; omega
    obtain ⟨w1, hr1, hS⟩ := run_storeCells (P := P) (off := off + i * z) (cs.drop (j * z)) 0 xs.toList w hw' (by simpa using hfz) (fun v hv => h1z.h v (List.mem_of_mem_drop hv)) (by simpa using hfit)
    have hroom : i + (n - j) ≤ c := by omega
    refine ⟨_, w1, .slice (some ⟨b, off, none⟩) (i + (n - j)) c, _, ?_, .inl rfl, ⟨rfl, rfl⟩, hS.imp ?_⟩
    · have h0 := hdsr
      simp [execOp, resolve, hρ x _ hx, hρ y _ hy, invoke, builtin, Builtin.append_, hu, hu2, hs, Builtin.lenOf, h0, hroom, Addr.add_eq, hr1]
    · rintro y ⟨q1, q2, qd, qe, qp, qr⟩
      refine ⟨q1, q2, qd, qe, .inr ⟨b, off, _, fz, rfl, qp, ?_, hroom, ?_, ?_, ?_⟩, qr⟩
      · rw [List.length_append, List.length_take, hds, Nat.add_mul, Nat.min_eq_left (by rw [hl]; omega)]
      · simpa [setL_length] using hoff
      · simpa [setL_length] using hfz
      · intro k v hv
        have hg := setL_get (cs.drop (j * z)) xs.toList (off + i * z) (off + k) hfit
        simp only [List.getElem?_toArray, Nat.add_zero]
        rw [hg]
        have htl : (cs.take (i * z)).length = i * z := by rw [List.length_take, hl]; omega
        rw [List.getElem?_append] at hv
        split at hv
        · rename_i hj2
          rw [if_neg (by omega)]
          rw [List.getElem?_take] at hv
          split at hv
          · simpa using hcell k v hv
          · cases hv
        · rename_i hj2
          have hjd := lt_len hv
          rw [if_pos (by omega)]
          rw [← hv]; congr 1; omega
end
end Go.Proofs.YtdhpjdhloaoepaaGreat
