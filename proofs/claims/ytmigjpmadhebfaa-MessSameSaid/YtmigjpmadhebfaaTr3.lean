/- The tree's functions. -/
import Derived.Test.YtmigjpmadhebfaaTr2
import Derived.Test.YtmigjpmadhebfaaCe3
namespace Go.Proofs.Ytmigjpmadhebfaa
open Go Go.Proofs
set_option maxRecDepth 100000
def zBlk : Blk := ⟨0, 0, 0, 0, [], []⟩
def zBlkD : BlkD := ⟨0, 0, 0, 0, noRow, noE⟩
theorem bigT_new (d : Int) {R : List HProp} : Lands (rowP 51 4 none 0 0 [] :: rowP 3 1 none 0 0 [] :: R) (bigT [(d, zBlkD)] :: R) := fun m H => by
  refine bigT_flat.2 ?_
  exact Den_perm (List.Perm.swap _ _ _) m H
theorem zero_fit : zBlkD.Fit := ⟨rfl, rfl, by decide, by decide, fun e he => nomatch he⟩

theorem tree_Has_no {W : World} {F : List HProp} [Abs F] (p : Nat) (s : TS) (m : Nat) (T : List (Int × BlkD)) (hT : pureT T = s.T ∧ ∀ d b, mget T d = some b → b.Fit) (d : Int) (h : mget T d = none) :
    CallsK W Try.prog 61 #[.pointer (some ⟨p, 0, none⟩), .int .i64 d] (pt p (.cells [.pointer (some ⟨s.w, 0, none⟩), .int .i64 s.root, .map (some m)].toArray 111) :: mapP intK m (entsT T) :: bigT T :: F) (fun v L => v = .bool ((none : Option Blk)).isSome ∧ Lands L (At treeI p s :: F)) := by
  refine CallsK_enter (n := 17) Try.func61 rfl rfl rfl ?_
  refine SC_seq ?_
  refine SC_region ?_
  refine SR_pu (RD_assign rfl) rfl ?_
  refine SR_nil ?_
  refine SN.le (l := [(0, _), (1, _)]) ?_ (.cons rfl (.cons rfl (.nil)))
  refine SN_seq ?_
  refine SC_seq ?_
  refine SC_region ?_
  refine SR_pu (RD_move rfl) rfl ?_
  first
    | refine SR_pu (RD_nilCheck rfl) rfl ?_
    | refine SR_pu (RD_nilCheckF rfl) rfl ?_
  first
    | refine SR_pu (RD_fieldAddr 2 Try.runUnderlying111 rfl rfl Try.sizeOf109 rfl) rfl ?_
    | refine SR_rd (RD_fieldAddrO 2 Try.runUnderlying111 rfl rfl Try.sizeOf109 rfl (by simp <;> omega)) Has.ro rfl ?_
  refine SR_rd (RD_load Try.isAgg109 rfl) (Has.ce rfl) rfl ?_
  refine SR_pu (RD_move rfl) rfl ?_
  refine SR_rd (RD_look2No (K := intK) (m := entsT T) Try.underlying109 Try.underlying3 Try.zeroValue58 rfl rfl (by rw [mget_ents, h]; rfl)) (Has.ma (K := intK)) rfl ?_
  refine SR_pu (RD_move rfl) rfl ?_
  refine SR_pu (RD_extract rfl rfl) rfl ?_
  refine SR_pu (RD_extract rfl rfl) rfl ?_
  refine SR_ox (OX_alloc Try.zeroValue58 rfl) rfl ?_
  rintro _ _ ⟨b5, rfl, rfl⟩
  refine SR_ox0 (OX_stA (vs := [.int .i64 0, .int .i64 0, .int .i64 0, .int .i64 0, .slice none 0 0, .slice none 0 0]) Try.sizeOf58 rfl rfl rfl rfl) ?_
  rintro _ _ rfl
  refine SR_pu (RD_assign rfl) rfl ?_
  refine SR_nil ?_
  refine SN.le (l := [(6, _)]) ?_ (.cons rfl (.nil))
  refine SN_seq ?_
  refine SC_seq ?_
  refine SC_region ?_
  refine SR_pu (RD_move rfl) rfl ?_
  refine SR_pu (RD_assign rfl) rfl ?_
  refine SR_nil ?_
  refine SN.le (l := [(4, _)]) ?_ (.cons rfl (.nil))
  refine SN_seq ?_
  refine SC_ret1 rfl rfl ?_
  exact ⟨rfl, (close_tree (p := p) (T := T) (s := s) rfl hT rfl rfl).trans .fin⟩

theorem tree_Has_yes {W : World} {F : List HProp} [Abs F] (p : Nat) (s : TS) (m : Nat) (T : List (Int × BlkD)) (hT : pureT T = s.T ∧ ∀ d b, mget T d = some b → b.Fit) (d : Int) (b : BlkD) (h : mget T d = some b) :
    CallsK W Try.prog 61 #[.pointer (some ⟨p, 0, none⟩), .int .i64 d] (pt p (.cells [.pointer (some ⟨s.w, 0, none⟩), .int .i64 s.root, .map (some m)].toArray 111) :: mapP intK m (entsT T) :: bigT T :: F) (fun v L => v = .bool ((some b.pure)).isSome ∧ Lands L (At treeI p s :: F)) := by
  refine CallsK_enter (n := 17) Try.func61 rfl rfl rfl ?_
  refine SC_seq ?_
  refine SC_region ?_
  refine SR_pu (RD_assign rfl) rfl ?_
  refine SR_nil ?_
  refine SN.le (l := [(0, _), (1, _)]) ?_ (.cons rfl (.cons rfl (.nil)))
  refine SN_seq ?_
  refine SC_seq ?_
  refine SC_region ?_
  refine SR_pu (RD_move rfl) rfl ?_
  first
    | refine SR_pu (RD_nilCheck rfl) rfl ?_
    | refine SR_pu (RD_nilCheckF rfl) rfl ?_
  first
    | refine SR_pu (RD_fieldAddr 2 Try.runUnderlying111 rfl rfl Try.sizeOf109 rfl) rfl ?_
    | refine SR_rd (RD_fieldAddrO 2 Try.runUnderlying111 rfl rfl Try.sizeOf109 rfl (by simp <;> omega)) Has.ro rfl ?_
  refine SR_rd (RD_load Try.isAgg109 rfl) (Has.ce rfl) rfl ?_
  refine SR_pu (RD_move rfl) rfl ?_
  refine SR_rd (RD_look2S (K := intK) (m := entsT T) Try.underlying109 Try.underlying3 Try.zeroValue58 rfl rfl (by rw [mget_ents, h]; rfl)) (Has.ma (K := intK)) rfl ?_
  refine SR_pu (RD_move rfl) rfl ?_
  refine SR_pu (RD_extract rfl rfl) rfl ?_
  refine SR_pu (RD_extract rfl rfl) rfl ?_
  refine SR_ox (OX_alloc Try.zeroValue58 rfl) rfl ?_
  rintro _ _ ⟨b5, rfl, rfl⟩
  refine SR_ox0 (OX_stA (vs := b.cells) Try.sizeOf58 rfl rfl rfl rfl) ?_
  rintro _ _ rfl
  refine SR_pu (RD_assign rfl) rfl ?_
  refine SR_nil ?_
  refine SN.le (l := [(6, _)]) ?_ (.cons rfl (.nil))
  refine SN_seq ?_
  refine SC_seq ?_
  refine SC_region ?_
  refine SR_pu (RD_move rfl) rfl ?_
  refine SR_pu (RD_assign rfl) rfl ?_
  refine SR_nil ?_
  refine SN.le (l := [(4, _)]) ?_ (.cons rfl (.nil))
  refine SN_seq ?_
  refine SC_ret1 rfl rfl ?_
  exact ⟨rfl, (close_tree (p := p) (T := T) (s := s) rfl hT rfl rfl).trans .fin⟩

theorem tree_Has {W : World} {F : List HProp} [Abs F] (p : Nat) (s : TS) (d : Int) :
    CallsK W Try.prog 61 #[.pointer (some ⟨p, 0, none⟩), .int .i64 d] (At treeI p s :: F) (fun v L => v = .bool ((mget s.T d)).isSome ∧ Lands L (At treeI p s :: F)) := by
  refine CallsK.op_tree (p := p) fun m T hT => ?_
  cases h : mget T d with
  | none =>
    have hs : mget s.T d = none := by rw [← hT.1, mget_pure, h]; rfl
    rw [hs]; exact tree_Has_no p s m T hT d h
  | some b =>
    have hs : mget s.T d = some b.pure := by rw [← hT.1, mget_pure, h]; rfl
    rw [hs]; exact tree_Has_yes p s m T hT d b h

theorem tree_Parent_no {W : World} {F : List HProp} [Abs F] (p : Nat) (s : TS) (m : Nat) (T : List (Int × BlkD)) (hT : pureT T = s.T ∧ ∀ d b, mget T d = some b → b.Fit) (d : Int) (h : mget T d = none) :
    CallsK W Try.prog 33 #[.pointer (some ⟨p, 0, none⟩), .int .i64 d] (pt p (.cells [.pointer (some ⟨s.w, 0, none⟩), .int .i64 s.root, .map (some m)].toArray 111) :: mapP intK m (entsT T) :: bigT T :: F) (fun v L => v = .int .i64 (((none : Option Blk)).elim 0 Blk.jb) ∧ Lands L (At treeI p s :: F)) := by
  refine CallsK_enter (n := 13) Try.func33 rfl rfl rfl ?_
  refine SC_seq ?_
  refine SC_region ?_
  refine SR_pu (RD_assign rfl) rfl ?_
  refine SR_nil ?_
  refine SN.le (l := [(0, _), (1, _)]) ?_ (.cons rfl (.cons rfl (.nil)))
  refine SN_seq ?_
  refine SC_seq ?_
  refine SC_region ?_
  refine SR_pu (RD_move rfl) rfl ?_
  first
    | refine SR_pu (RD_nilCheck rfl) rfl ?_
    | refine SR_pu (RD_nilCheckF rfl) rfl ?_
  first
    | refine SR_pu (RD_fieldAddr 2 Try.runUnderlying111 rfl rfl Try.sizeOf109 rfl) rfl ?_
    | refine SR_rd (RD_fieldAddrO 2 Try.runUnderlying111 rfl rfl Try.sizeOf109 rfl (by simp <;> omega)) Has.ro rfl ?_
  refine SR_rd (RD_load Try.isAgg109 rfl) (Has.ce rfl) rfl ?_
  refine SR_pu (RD_move rfl) rfl ?_
  refine SR_rd (RD_lookNo (K := intK) (m := entsT T) Try.underlying109 Try.underlying3 Try.zeroValue58 rfl rfl (by rw [mget_ents, h]; rfl)) (Has.ma (K := intK)) rfl ?_
  refine SR_pu (RD_fieldA (us := #[.int .i64 0, .int .i64 0, .slice none 0 0]) Try.runUnderlying58 rfl Try.isAgg26 Try.sizeOf26 rfl rfl) rfl ?_
  refine SR_pu (RD_field Try.runUnderlying26 rfl Try.isAgg3 rfl rfl) rfl ?_
  refine SR_pu (RD_assign rfl) rfl ?_
  refine SR_nil ?_
  refine SN.le (l := [(4, _)]) ?_ (.cons rfl (.nil))
  refine SN_seq ?_
  refine SC_ret1 rfl rfl ?_
  exact ⟨rfl, (close_tree (p := p) (T := T) (s := s) rfl hT rfl rfl).trans .fin⟩

theorem tree_Parent_yes {W : World} {F : List HProp} [Abs F] (p : Nat) (s : TS) (m : Nat) (T : List (Int × BlkD)) (hT : pureT T = s.T ∧ ∀ d b, mget T d = some b → b.Fit) (d : Int) (b : BlkD) (h : mget T d = some b) :
    CallsK W Try.prog 33 #[.pointer (some ⟨p, 0, none⟩), .int .i64 d] (pt p (.cells [.pointer (some ⟨s.w, 0, none⟩), .int .i64 s.root, .map (some m)].toArray 111) :: mapP intK m (entsT T) :: bigT T :: F) (fun v L => v = .int .i64 (((some b.pure)).elim 0 Blk.jb) ∧ Lands L (At treeI p s :: F)) := by
  refine CallsK_enter (n := 13) Try.func33 rfl rfl rfl ?_
  refine SC_seq ?_
  refine SC_region ?_
  refine SR_pu (RD_assign rfl) rfl ?_
  refine SR_nil ?_
  refine SN.le (l := [(0, _), (1, _)]) ?_ (.cons rfl (.cons rfl (.nil)))
  refine SN_seq ?_
  refine SC_seq ?_
  refine SC_region ?_
  refine SR_pu (RD_move rfl) rfl ?_
  first
    | refine SR_pu (RD_nilCheck rfl) rfl ?_
    | refine SR_pu (RD_nilCheckF rfl) rfl ?_
  first
    | refine SR_pu (RD_fieldAddr 2 Try.runUnderlying111 rfl rfl Try.sizeOf109 rfl) rfl ?_
    | refine SR_rd (RD_fieldAddrO 2 Try.runUnderlying111 rfl rfl Try.sizeOf109 rfl (by simp <;> omega)) Has.ro rfl ?_
  refine SR_rd (RD_load Try.isAgg109 rfl) (Has.ce rfl) rfl ?_
  refine SR_pu (RD_move rfl) rfl ?_
  refine SR_rd (RD_lookS (K := intK) (m := entsT T) Try.underlying109 Try.underlying3 Try.zeroValue58 rfl rfl (by rw [mget_ents, h]; rfl)) (Has.ma (K := intK)) rfl ?_
  refine SR_pu (RD_fieldA (us := #[.int .i64 b.jv, .int .i64 b.jb, .slice b.by_.a b.by_.n b.by_.c]) Try.runUnderlying58 rfl Try.isAgg26 Try.sizeOf26 rfl rfl) rfl ?_
  refine SR_pu (RD_field Try.runUnderlying26 rfl Try.isAgg3 rfl rfl) rfl ?_
  refine SR_pu (RD_assign rfl) rfl ?_
  refine SR_nil ?_
  refine SN.le (l := [(4, _)]) ?_ (.cons rfl (.nil))
  refine SN_seq ?_
  refine SC_ret1 rfl rfl ?_
  exact ⟨rfl, (close_tree (p := p) (T := T) (s := s) rfl hT rfl rfl).trans .fin⟩

theorem tree_Parent {W : World} {F : List HProp} [Abs F] (p : Nat) (s : TS) (d : Int) :
    CallsK W Try.prog 33 #[.pointer (some ⟨p, 0, none⟩), .int .i64 d] (At treeI p s :: F) (fun v L => v = .int .i64 (((mget s.T d)).elim 0 Blk.jb) ∧ Lands L (At treeI p s :: F)) := by
  refine CallsK.op_tree (p := p) fun m T hT => ?_
  cases h : mget T d with
  | none =>
    have hs : mget s.T d = none := by rw [← hT.1, mget_pure, h]; rfl
    rw [hs]; exact tree_Parent_no p s m T hT d h
  | some b =>
    have hs : mget s.T d = some b.pure := by rw [← hT.1, mget_pure, h]; rfl
    rw [hs]; exact tree_Parent_yes p s m T hT d b h

def viewOf (o : Option Blk) : Int := o.elim (-1) Blk.view

theorem tree_View_no {W : World} {F : List HProp} [Abs F] (p : Nat) (s : TS) (d : Int) (h : mget s.T d = none) :
    CallsK W Try.prog 31 #[.pointer (some ⟨p, 0, none⟩), .int .i64 d] (At treeI p s :: F) (fun v L => v = .int .i64 (-1) ∧ Lands L (At treeI p s :: F)) := by
  refine CallsK_enter (n := 16) Try.func31 rfl rfl rfl ?_
  refine SC_seq ?_
  refine SC_region ?_
  refine SR_pu (RD_assign rfl) rfl ?_
  refine SR_nil ?_
  refine SN.le (l := [(0, _), (1, _)]) ?_ (.cons rfl (.cons rfl (.nil)))
  refine SN_seq ?_
  refine SC_seq ?_
  refine SC_seq ?_
  refine SC_region ?_
  refine SR_pu (RD_move rfl) rfl ?_
  refine SR_pu (RD_move rfl) rfl ?_
  refine SR_call Try.call61 (.cons rfl (.cons rfl (.nil))) (CallsK.at (tree_Has p s d)) (lts rfl) ?_
  rintro _ L1 ⟨rfl, hL1⟩
  rw [h]
  refine SR.lands hL1 ?_
  refine SR_pu (RD_not rfl) rfl ?_
  refine SR_nil ?_
  refine SN.le (l := [(0, _), (1, _), (8, _)]) ?_ (.cons rfl (.cons rfl (.cons rfl (.nil))))
  refine SN_seq ?_
  refine SC_cond_true rfl (rfl) ?_
  refine SC_seq ?_
  refine SC_region ?_
  refine SR_pu (RD_assign rfl) rfl ?_
  refine SR_nil ?_
  refine SN.le (l := [(4, _)]) ?_ (.cons rfl (.nil))
  refine SN_seq ?_
  refine SC_ret1 rfl rfl ?_
  exact ⟨rfl, .fin⟩

theorem tree_View_yes {W : World} {F : List HProp} [Abs F] (p : Nat) (s : TS) (d : Int) (b0 : Blk) (h : mget s.T d = some b0) :
    CallsK W Try.prog 31 #[.pointer (some ⟨p, 0, none⟩), .int .i64 d] (At treeI p s :: F) (fun v L => v = .int .i64 b0.view ∧ Lands L (At treeI p s :: F)) := by
  refine CallsK_enter (n := 16) Try.func31 rfl rfl rfl ?_
  refine SC_seq ?_
  refine SC_region ?_
  refine SR_pu (RD_assign rfl) rfl ?_
  refine SR_nil ?_
  refine SN.le (l := [(0, _), (1, _)]) ?_ (.cons rfl (.cons rfl (.nil)))
  refine SN_seq ?_
  refine SC_seq ?_
  refine SC_seq ?_
  refine SC_region ?_
  refine SR_pu (RD_move rfl) rfl ?_
  refine SR_pu (RD_move rfl) rfl ?_
  refine SR_call Try.call61 (.cons rfl (.cons rfl (.nil))) (CallsK.at (tree_Has p s d)) (lts rfl) ?_
  rintro _ L1 ⟨rfl, hL1⟩
  rw [h]
  refine SR.lands hL1 ?_
  refine SR_pu (RD_not rfl) rfl ?_
  refine SR_nil ?_
  refine SN.le (l := [(0, _), (1, _), (8, _)]) ?_ (.cons rfl (.cons rfl (.cons rfl (.nil))))
  refine SN_seq ?_
  refine SC_cond_false rfl (rfl) ?_
  refine SC_skip ?_
  refine SN_seq ?_
  refine SC_seq ?_
  refine SC.op_tree (p := p) fun m T hT => ?_
  obtain ⟨b, hb, rfl⟩ : ∃ b, mget T d = some b ∧ b.pure = b0 := by
    rw [← hT.1, mget_pure] at h
    cases hm : mget T d with
    | none => rw [hm] at h; cases h
    | some b => rw [hm] at h; exact ⟨b, rfl, Option.some.inj h⟩
  refine SC_region ?_
  refine SR_pu (RD_move rfl) rfl ?_
  first
    | refine SR_pu (RD_nilCheck rfl) rfl ?_
    | refine SR_pu (RD_nilCheckF rfl) rfl ?_
  first
    | refine SR_pu (RD_fieldAddr 2 Try.runUnderlying111 rfl rfl Try.sizeOf109 rfl) rfl ?_
    | refine SR_rd (RD_fieldAddrO 2 Try.runUnderlying111 rfl rfl Try.sizeOf109 rfl (by simp <;> omega)) Has.ro rfl ?_
  refine SR_rd (RD_load Try.isAgg109 rfl) (Has.ce rfl) rfl ?_
  refine SR_pu (RD_move rfl) rfl ?_
  refine SR_rd (RD_lookS (K := intK) (m := entsT T) Try.underlying109 Try.underlying3 Try.zeroValue58 rfl rfl (by rw [mget_ents, hb]; rfl)) (Has.ma (K := intK)) rfl ?_
  refine SR_pu (RD_field (v := .int .i64 b.view) Try.runUnderlying58 rfl Try.isAgg3 rfl rfl) rfl ?_
  refine SR_pu (RD_assign rfl) rfl ?_
  refine SR_nil ?_
  refine SN.le (l := [(4, _)]) ?_ (.cons rfl (.nil))
  refine SN_seq ?_
  refine SC_ret1 rfl rfl ?_
  exact ⟨rfl, (close_tree (p := p) (T := T) (s := s) rfl hT rfl rfl).trans .fin⟩

theorem tree_View {W : World} {F : List HProp} [Abs F] (p : Nat) (s : TS) (d : Int) :
    CallsK W Try.prog 31 #[.pointer (some ⟨p, 0, none⟩), .int .i64 d] (At treeI p s :: F) (fun v L => v = .int .i64 (viewOf (mget s.T d)) ∧ Lands L (At treeI p s :: F)) := by
  cases h : mget s.T d with
  | none => exact tree_View_no p s d h
  | some b => exact tree_View_yes p s d b h

theorem tree_Root {W : World} {F : List HProp} [Abs F] (p : Nat) (s : TS) :
    CallsK W Try.prog 60 #[.pointer (some ⟨p, 0, none⟩)] (At treeI p s :: F) (fun v L => v = .int .i64 s.root ∧ Lands L (At treeI p s :: F)) := by
  refine CallsK_enter (n := 7) Try.func60 rfl rfl rfl ?_
  refine SC_seq ?_
  refine SC_region ?_
  refine SR_pu (RD_assign rfl) rfl ?_
  refine SR_nil ?_
  refine SN.le (l := [(0, _)]) ?_ (.cons rfl (.nil))
  refine SN_seq ?_
  refine SC_seq ?_
  refine SC.op_tree (p := p) fun m T hT => ?_
  refine SC_region ?_
  refine SR_pu (RD_move rfl) rfl ?_
  first
    | refine SR_pu (RD_nilCheck rfl) rfl ?_
    | refine SR_pu (RD_nilCheckF rfl) rfl ?_
  first
    | refine SR_pu (RD_fieldAddr 1 Try.runUnderlying111 rfl rfl Try.sizeOf3 rfl) rfl ?_
    | refine SR_rd (RD_fieldAddrO 1 Try.runUnderlying111 rfl rfl Try.sizeOf3 rfl (by simp <;> omega)) Has.ro rfl ?_
  refine SR_rd (RD_load Try.isAgg3 rfl) (Has.ce rfl) rfl ?_
  refine SR_pu (RD_assign rfl) rfl ?_
  refine SR_nil ?_
  refine SN.le (l := [(2, _)]) ?_ (.cons rfl (.nil))
  refine SN_seq ?_
  refine SC_ret1 rfl rfl ?_
  exact ⟨rfl, (close_tree (p := p) (T := T) (s := s) rfl hT rfl rfl).trans .fin⟩

theorem tree_New {W : World} {F : List HProp} [Abs F] (k : WK) (s : WS) (hl : s.l.length ≤ 1000000000) (l' : List (List UInt8)) (d : Nat) (h1 : dput s.l rootB = l') (h2 : dnum l' rootB = d) :
    CallsK W Try.prog 28 #[.pointer (some ⟨k.p, 0, none⟩)] (At worldI k s :: F) (fun v L => ∃ p, v = .pointer (some ⟨p, 0, none⟩) ∧ Lands L (At treeI p ⟨k.p, (d : Nat), [((d : Nat), zBlk)]⟩ :: At worldI k ⟨l', s.S⟩ :: F)) := by
  refine CallsK_enter (n := 14) Try.func28 rfl rfl rfl ?_
  refine SC_seq ?_
  refine SC_region ?_
  refine SR_pu (RD_assign rfl) rfl ?_
  refine SR_nil ?_
  refine SN.le (l := [(0, _)]) ?_ (.cons rfl (.nil))
  refine SN_seq ?_
  refine SC_seq ?_
  refine SC_region ?_
  refine SR_pu (RD_move rfl) rfl ?_
  refine SR_call Try.call19 (.cons rfl (.nil)) (CallsK.at (cert_Root k s hl l' d h1 h2)) (lts rfl) ?_
  rintro _ L1 ⟨rfl, hL1⟩
  refine SR.lands hL1 ?_
  refine SR_pu (RD_assign rfl) rfl ?_
  refine SR_nil ?_
  refine SN.le (l := [(0, _), (3, _)]) ?_ (.cons rfl (.cons rfl (.nil)))
  refine SN_seq ?_
  refine SC_seq ?_
  refine SC_region ?_
  refine SR_pu (RD_move rfl) rfl ?_
  refine SR_pu (RD_move rfl) rfl ?_
  refine SR_ox (OX_mk intK) rfl ?_
  rintro _ _ ⟨b8, rfl, rfl⟩
  refine SR_pu (RD_move rfl) rfl ?_
  refine SR_pu (RD_build (.nil) built58) rfl ?_
  refine SR_ox0 (OX_mi (K := intK) Try.underlying109 Try.underlying3 rfl rfl rfl) ?_
  rintro _ _ rfl
  refine SR_pu (RD_move rfl) rfl ?_
  refine SR_pu (RD_build (.cons rfl (.cons rfl (.cons rfl (.nil)))) built111_0_1_2) rfl ?_
  refine SR_ox (OX_box rfl rfl) rfl ?_
  rintro _ _ ⟨b13, rfl, rfl⟩
  refine SR_pu (RD_assign rfl) rfl ?_
  refine SR_nil ?_
  refine SN.le (l := [(2, _)]) ?_ (.cons rfl (.nil))
  refine SN_seq ?_
  refine SC_ret1 rfl rfl ?_
  refine ⟨b13, rfl, ?_⟩
  refine (row_new 3 1 none).trans ((row_new 51 4 none).trans ?_)
  refine (bigT_new (((d : Nat) : Int))).trans ?_
  exact (close_tree (p := b13) (T := [(((d : Nat) : Int), zBlkD)]) (s := ⟨k.p, (d : Nat), [((d : Nat), zBlk)]⟩) rfl ⟨rfl, fun e b h => by simp only [mget] at h; split at h; (cases h; exact zero_fit); cases h⟩ rfl rfl).trans .fin

theorem tree_Block_no {W : World} {F : List HProp} [Abs F] (p : Nat) (s : TS) (m : Nat) (T : List (Int × BlkD)) (hT : pureT T = s.T ∧ ∀ d b, mget T d = some b → b.Fit) (d : Int) (h : mget T d = none) :
    CallsK W Try.prog 65 #[.pointer (some ⟨p, 0, none⟩), .int .i64 d] (pt p (.cells [.pointer (some ⟨s.w, 0, none⟩), .int .i64 s.root, .map (some m)].toArray 111) :: mapP intK m (entsT T) :: bigT T :: F) (fun v L => ∃ b' : BlkD, v = .tuple #[b'.val, .bool ((none : Option Blk)).isSome] ∧ b'.pure = ((none : Option Blk)).getD zBlk ∧ b'.Fit ∧ Lands L (rowP 3 1 b'.by_.a b'.by_.n b'.by_.c (b'.by_.l.map intV) :: rowP 51 4 b'.envs.a b'.envs.n b'.envs.c (b'.envs.l.flatMap EnvD.cells) :: At treeI p s :: F)) := by
  refine CallsK_enter (n := 20) Try.func65 rfl rfl rfl ?_
  haveI : ∀ R, HasRow R zBlkD.by_.a (zBlkD.by_.l.map intV) := fun R => (HasRow.nil : HasRow R none [])
  haveI : ∀ R, HasRow R zBlkD.envs.a (zBlkD.envs.l.flatMap EnvD.cells) := fun R => (HasRow.nil : HasRow R none [])
  refine SC_seq ?_
  refine SC_region ?_
  refine SR_ox (OX_alloc Try.zeroValue58 rfl) rfl ?_
  rintro _ _ ⟨b4, rfl, rfl⟩
  refine SR_pu (RD_assign rfl) rfl ?_
  refine SR_nil ?_
  refine SN.le (l := [(0, _), (1, _), (4, _)]) ?_ (.cons rfl (.cons rfl (.cons rfl (.nil))))
  refine SN_seq ?_
  refine SC_seq ?_
  refine SC_region ?_
  refine SR_pu (RD_move rfl) rfl ?_
  first
    | refine SR_pu (RD_nilCheck rfl) rfl ?_
    | refine SR_pu (RD_nilCheckF rfl) rfl ?_
  first
    | refine SR_pu (RD_fieldAddr 2 Try.runUnderlying111 rfl rfl Try.sizeOf109 rfl) rfl ?_
    | refine SR_rd (RD_fieldAddrO 2 Try.runUnderlying111 rfl rfl Try.sizeOf109 rfl (by simp <;> omega)) Has.ro rfl ?_
  refine SR_rd (RD_load Try.isAgg109 rfl) (Has.ce rfl) rfl ?_
  refine SR_pu (RD_move rfl) rfl ?_
  refine SR_rd (RD_look2No (K := intK) (m := entsT T) Try.underlying109 Try.underlying3 Try.zeroValue58 rfl rfl (by rw [mget_ents, h]; rfl)) (Has.ma (K := intK)) rfl ?_
  refine SR_pu (RD_move rfl) rfl ?_
  refine SR_pu (RD_extract rfl rfl) rfl ?_
  refine SR_pu (RD_extract rfl rfl) rfl ?_
  refine SR_ox (OX_alloc Try.zeroValue58 rfl) rfl ?_
  rintro _ _ ⟨b6, rfl, rfl⟩
  refine SR_ox0 (OX_stA (vs := zBlkD.cells) Try.sizeOf58 rfl rfl rfl rfl) ?_
  rintro _ _ rfl
  refine SR_pu (RD_assign rfl) rfl ?_
  refine SR_nil ?_
  refine SN.le (l := [(4, _), (6, _), (7, _)]) ?_ (.cons rfl (.cons rfl (.cons rfl (.nil))))
  refine SN_seq ?_
  refine SC_seq ?_
  refine SC_region ?_
  refine SR_rd (RD_loadA Try.isAgg58 Try.sizeOf58 rfl rfl) Has.wh rfl ?_
  refine SR_call Try.call63 (.cons rfl (.nil)) (blok_Still zBlkD rfl rfl zero_fit) (lts rfl) ?_
  rintro _ L1 ⟨b', rfl, hp', hf', hL1⟩
  refine SR.lands hL1 ?_
  refine SR_pu (RD_move rfl) rfl ?_
  refine SR_ox0 (OX_stA (vs := b'.cells) Try.sizeOf58 rfl rfl rfl rfl) ?_
  rintro _ _ rfl
  refine SR_pu (RD_assign rfl) rfl ?_
  refine SR_nil ?_
  refine SN.le (l := [(4, _), (5, _)]) ?_ (.cons rfl (.cons rfl (.nil)))
  refine SN_seq ?_
  refine SC_retCT rfl Try.isAgg58 Try.sizeOf58 rfl rfl rfl Has.wh ?_
  exact ⟨b', rfl, hp', hf', (Lands.trans .fin (show Lands (pt p (.cells [.pointer (some ⟨s.w, 0, none⟩), .int .i64 s.root, .map (some m)].toArray 111) :: mapP intK m (entsT T) :: bigT T :: rowP 3 1 b'.by_.a b'.by_.n b'.by_.c (b'.by_.l.map intV) :: rowP 51 4 b'.envs.a b'.envs.n b'.envs.c (b'.envs.l.flatMap EnvD.cells) :: F) (rowP 3 1 b'.by_.a b'.by_.n b'.by_.c (b'.by_.l.map intV) :: rowP 51 4 b'.envs.a b'.envs.n b'.envs.c (b'.envs.l.flatMap EnvD.cells) :: At treeI p s :: F) from (close_tree (p := p) (T := T) (s := s) rfl hT rfl rfl).trans .fin))⟩

theorem tree_Block_yes {W : World} {F : List HProp} [Abs F] (p : Nat) (s : TS) (m : Nat) (T : List (Int × BlkD)) (hT : pureT T = s.T ∧ ∀ d b, mget T d = some b → b.Fit) (d : Int) (b : BlkD) (h : mget T d = some b) :
    CallsK W Try.prog 65 #[.pointer (some ⟨p, 0, none⟩), .int .i64 d] (pt p (.cells [.pointer (some ⟨s.w, 0, none⟩), .int .i64 s.root, .map (some m)].toArray 111) :: mapP intK m (entsT T) :: bigT T :: F) (fun v L => ∃ b' : BlkD, v = .tuple #[b'.val, .bool ((some b.pure)).isSome] ∧ b'.pure = ((some b.pure)).getD zBlk ∧ b'.Fit ∧ Lands L (rowP 3 1 b'.by_.a b'.by_.n b'.by_.c (b'.by_.l.map intV) :: rowP 51 4 b'.envs.a b'.envs.n b'.envs.c (b'.envs.l.flatMap EnvD.cells) :: At treeI p s :: F)) := by
  refine CallsK_enter (n := 20) Try.func65 rfl rfl rfl ?_
  haveI := hasRow_by h
  haveI := hasRow_envs h
  refine SC_seq ?_
  refine SC_region ?_
  refine SR_ox (OX_alloc Try.zeroValue58 rfl) rfl ?_
  rintro _ _ ⟨b4, rfl, rfl⟩
  refine SR_pu (RD_assign rfl) rfl ?_
  refine SR_nil ?_
  refine SN.le (l := [(0, _), (1, _), (4, _)]) ?_ (.cons rfl (.cons rfl (.cons rfl (.nil))))
  refine SN_seq ?_
  refine SC_seq ?_
  refine SC_region ?_
  refine SR_pu (RD_move rfl) rfl ?_
  first
    | refine SR_pu (RD_nilCheck rfl) rfl ?_
    | refine SR_pu (RD_nilCheckF rfl) rfl ?_
  first
    | refine SR_pu (RD_fieldAddr 2 Try.runUnderlying111 rfl rfl Try.sizeOf109 rfl) rfl ?_
    | refine SR_rd (RD_fieldAddrO 2 Try.runUnderlying111 rfl rfl Try.sizeOf109 rfl (by simp <;> omega)) Has.ro rfl ?_
  refine SR_rd (RD_load Try.isAgg109 rfl) (Has.ce rfl) rfl ?_
  refine SR_pu (RD_move rfl) rfl ?_
  refine SR_rd (RD_look2S (K := intK) (m := entsT T) Try.underlying109 Try.underlying3 Try.zeroValue58 rfl rfl (by rw [mget_ents, h]; rfl)) (Has.ma (K := intK)) rfl ?_
  refine SR_pu (RD_move rfl) rfl ?_
  refine SR_pu (RD_extract rfl rfl) rfl ?_
  refine SR_pu (RD_extract rfl rfl) rfl ?_
  refine SR_ox (OX_alloc Try.zeroValue58 rfl) rfl ?_
  rintro _ _ ⟨b6, rfl, rfl⟩
  refine SR_ox0 (OX_stA (vs := b.cells) Try.sizeOf58 rfl rfl rfl rfl) ?_
  rintro _ _ rfl
  refine SR_pu (RD_assign rfl) rfl ?_
  refine SR_nil ?_
  refine SN.le (l := [(4, _), (6, _), (7, _)]) ?_ (.cons rfl (.cons rfl (.cons rfl (.nil))))
  refine SN_seq ?_
  refine SC_seq ?_
  refine SC_region ?_
  refine SR_rd (RD_loadA Try.isAgg58 Try.sizeOf58 rfl rfl) Has.wh rfl ?_
  refine SR_call Try.call63 (.cons rfl (.nil)) (blok_Still b rfl rfl (hT.2 d b h)) (lts rfl) ?_
  rintro _ L1 ⟨b', rfl, hp', hf', hL1⟩
  refine SR.lands hL1 ?_
  refine SR_pu (RD_move rfl) rfl ?_
  refine SR_ox0 (OX_stA (vs := b'.cells) Try.sizeOf58 rfl rfl rfl rfl) ?_
  rintro _ _ rfl
  refine SR_pu (RD_assign rfl) rfl ?_
  refine SR_nil ?_
  refine SN.le (l := [(4, _), (5, _)]) ?_ (.cons rfl (.cons rfl (.nil)))
  refine SN_seq ?_
  refine SC_retCT rfl Try.isAgg58 Try.sizeOf58 rfl rfl rfl Has.wh ?_
  exact ⟨b', rfl, hp', hf', (Lands.trans .fin (show Lands (pt p (.cells [.pointer (some ⟨s.w, 0, none⟩), .int .i64 s.root, .map (some m)].toArray 111) :: mapP intK m (entsT T) :: bigT T :: rowP 3 1 b'.by_.a b'.by_.n b'.by_.c (b'.by_.l.map intV) :: rowP 51 4 b'.envs.a b'.envs.n b'.envs.c (b'.envs.l.flatMap EnvD.cells) :: F) (rowP 3 1 b'.by_.a b'.by_.n b'.by_.c (b'.by_.l.map intV) :: rowP 51 4 b'.envs.a b'.envs.n b'.envs.c (b'.envs.l.flatMap EnvD.cells) :: At treeI p s :: F) from (close_tree (p := p) (T := T) (s := s) rfl hT rfl rfl).trans .fin))⟩

theorem tree_Block {W : World} {F : List HProp} [Abs F] (p : Nat) (s : TS) (d : Int) :
    CallsK W Try.prog 65 #[.pointer (some ⟨p, 0, none⟩), .int .i64 d] (At treeI p s :: F) (fun v L => ∃ b' : BlkD, v = .tuple #[b'.val, .bool ((mget s.T d)).isSome] ∧ b'.pure = ((mget s.T d)).getD zBlk ∧ b'.Fit ∧ Lands L (rowP 3 1 b'.by_.a b'.by_.n b'.by_.c (b'.by_.l.map intV) :: rowP 51 4 b'.envs.a b'.envs.n b'.envs.c (b'.envs.l.flatMap EnvD.cells) :: At treeI p s :: F)) := by
  refine CallsK.op_tree (p := p) fun m T hT => ?_
  cases h : mget T d with
  | none =>
    have hs : mget s.T d = none := by rw [← hT.1, mget_pure, h]; rfl
    rw [hs]; exact tree_Block_no p s m T hT d h
  | some b =>
    have hs : mget s.T d = some b.pure := by rw [← hT.1, mget_pure, h]; rfl
    rw [hs]; exact tree_Block_yes p s m T hT d b h

end Go.Proofs.Ytmigjpmadhebfaa
