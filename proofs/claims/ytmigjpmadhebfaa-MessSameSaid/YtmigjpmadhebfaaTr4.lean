/- Blocks are put in the tree. -/
import Derived.Test.YtmigjpmadhebfaaTr3
namespace Go.Proofs.Ytmigjpmadhebfaa
open Go Go.Proofs
set_option maxRecDepth 100000
theorem CallsK.at2 {κ σ κ' σ' : Type} {W : World} {P : Program} {f : FuncId} {args : Array Value} {L R1 R : List HProp} {KK : Value → List HProp → Prop} {I : κ → σ → HProp} {key : κ} {s : σ} {J : κ' → σ' → HProp} {key' : κ'} {s' : σ'} [t : TakeAt L I key s R1] [u : TakeAt R1 J key' s' R] (g : CallsK W P f args (At I key s :: At J key' s' :: R) KK) : CallsK W P f args L KK :=
  g.pre fun m H => Den_tail (fun m2 h2 => Den_perm u.perm m2 h2) (Den_perm t.perm m H)
/-- What comes of a block that is put: its digest and the error; the tree; the arena. -/
def TS.add (s : TS) (l : List (List UInt8)) (b : Blk) : (Int × Int) × TS × List (List UInt8) :=
  match mget s.T b.jb with
  | none => ((0, 12), s, l)
  | some p => if b.jv ≠ p.view ∨ b.view ≤ b.jv then ((0, 13), s, l)
    else if (mget s.T ((blkD l b : Nat) : Int)).isSome then (((blkD l b : Nat), 10), s, blkL l b)
    else (((blkD l b : Nat), 0), ⟨s.w, s.root, s.T ++ [(((blkD l b : Nat) : Int), b)]⟩, blkL l b)

theorem tree_Add {W : World} {F : List HProp} [Abs F] (p : Nat) (s : TS) (k : WK) (hk : s.w = k.p) (z : WS) (b : BlkD) {cs ds : List Value} [HasRow F b.by_.a cs] [HasRow F b.envs.a ds] (hcs : cs = b.by_.l.map intV) (hds : ds = b.envs.l.flatMap EnvD.cells) (hf : b.Fit) (hl : z.l.length ≤ 900000000) :
    CallsK W Try.prog 30 #[.pointer (some ⟨p, 0, none⟩), b.val] (At treeI p s :: At worldI k z :: F) (fun v L => v = .tuple #[.int .i64 (s.add z.l b.pure).1.1, .int .i64 (s.add z.l b.pure).1.2] ∧ Lands L (At treeI p (s.add z.l b.pure).2.1 :: At worldI k ⟨(s.add z.l b.pure).2.2, z.S⟩ :: F)) := by
  refine CallsK_enter (n := 50) Try.func30 rfl rfl rfl ?_
  subst hcs
  subst hds
  refine SC_seq ?_
  refine SC_region ?_
  refine SR_ox (OX_box rfl rfl) rfl ?_
  rintro _ _ ⟨b3, rfl, rfl⟩
  refine SR_pu (RD_assign rfl) rfl ?_
  refine SR_pu (RD_assign rfl) rfl ?_
  refine SR_nil ?_
  refine SN.le (l := [(0, _), (3, _)]) ?_ (.cons rfl (.cons rfl (.nil)))
  refine SN_seq ?_
  refine SC_seq ?_
  refine SC_block ?_
  refine SC_seq ?_
  refine SC_region ?_
  refine SR_pu (RD_move rfl) rfl ?_
  first
    | refine SR_pu (RD_fieldAddr 2 Try.runUnderlying58 rfl rfl Try.sizeOf26 rfl) rfl ?_
    | refine SR_rd (RD_fieldAddrO 2 Try.runUnderlying58 rfl rfl Try.sizeOf26 rfl (by simp <;> omega)) Has.ro rfl ?_
  first
    | refine SR_pu (RD_fieldAddr 1 Try.runUnderlying26 rfl rfl Try.sizeOf3 rfl) rfl ?_
    | refine SR_rd (RD_fieldAddrO 1 Try.runUnderlying26 rfl rfl Try.sizeOf3 rfl (by simp <;> omega)) Has.ro rfl ?_
  refine SR_rd (RD_load Try.isAgg3 rfl) (Has.ce rfl) rfl ?_
  refine SR_call Try.call61 (.cons rfl (.cons rfl (.nil))) (CallsK.at (tree_Has p s b.jb)) (lts rfl) ?_
  rintro _ L1 ⟨rfl, hL1⟩
  refine SR.lands hL1 ?_
  refine SR_pu (RD_not rfl) rfl ?_
  refine SR_pu (RD_assign rfl) rfl ?_
  refine SR_nil ?_
  refine SN.le (l := [(0, _), (3, _), (7, _)]) ?_ (.cons rfl (.cons rfl (.cons rfl (.nil))))
  refine SN_seq ?_
  refine SC_cond rfl (fun hc7 => ?_) (fun hc7 => ?_)
  · have hp : mget s.T b.jb = none := by simpa using hc7
    have hadd : s.add z.l b.pure = ((0, 12), s, z.l) := by unfold TS.add; rw [show b.pure.jb = b.jb from rfl, hp]
    refine SC_seq ?_
    refine SC_region ?_
    refine SR_pu (RD_assign rfl) rfl ?_
    refine SR_pu (RD_assign rfl) rfl ?_
    refine SR_nil ?_
    refine SN.le (l := [(4, _), (5, _)]) ?_ (.cons rfl (.cons rfl (.nil)))
    refine SN_seq ?_
    refine SC_ret2 rfl rfl rfl ?_
    rw [hadd]
    exact ⟨rfl, .fin⟩
  · obtain ⟨q, hp⟩ : ∃ q, mget s.T b.jb = some q := by
      cases h : mget s.T b.jb with
      | none => rw [h] at hc7; cases hc7
      | some q => exact ⟨q, rfl⟩
    rw [hp]
    refine SC_seq ?_
    refine SC_drawn (.cons 0 true (.cons 1 true (.cons 2 true (.cons 3 true (.cons 4 true (.cons 5 true (.cons 6 true (.cons 7 false (.cons 8 true (.cons 9 true (.cons 10 true (.cons 11 true (.cons 12 true (.cons 13 true (.cons 14 true (.cons 15 true (.cons 16 true (.cons 17 true (.nil))))))))))))))))))) (by kernel_rfl) (by kernel_rfl) ?_
    first
      | refine SQ_pu rfl (RD_fieldAddr 2 Try.runUnderlying58 rfl rfl Try.sizeOf26 rfl) rfl ?_
      | refine SQ_rd rfl (RD_fieldAddrO 2 Try.runUnderlying58 rfl rfl Try.sizeOf26 rfl (by simp <;> omega)) Has.ro rfl ?_
    first
      | refine SQ_pu rfl (RD_fieldAddr0 Try.runUnderlying26 rfl rfl Try.sizeOf3 rfl) rfl ?_
      | refine SQ_rd rfl (RD_fieldAddrO 0 Try.runUnderlying26 rfl rfl Try.sizeOf3 rfl (by simp <;> omega)) Has.ro rfl ?_
    refine SQ_rd rfl (RD_load Try.isAgg3 rfl) (Has.ce rfl) rfl ?_
    refine SQ_pu rfl (RD_move rfl) rfl ?_
    first
      | refine SQ_pu rfl (RD_fieldAddr 2 Try.runUnderlying58 rfl rfl Try.sizeOf26 rfl) rfl ?_
      | refine SQ_rd rfl (RD_fieldAddrO 2 Try.runUnderlying58 rfl rfl Try.sizeOf26 rfl (by simp <;> omega)) Has.ro rfl ?_
    first
      | refine SQ_pu rfl (RD_fieldAddr 1 Try.runUnderlying26 rfl rfl Try.sizeOf3 rfl) rfl ?_
      | refine SQ_rd rfl (RD_fieldAddrO 1 Try.runUnderlying26 rfl rfl Try.sizeOf3 rfl (by simp <;> omega)) Has.ro rfl ?_
    refine SQ_rd rfl (RD_load Try.isAgg3 rfl) (Has.ce rfl) rfl ?_
    refine SQ_call rfl Try.call31 (.cons rfl (.cons rfl (.nil))) (CallsK.at (tree_View p s b.jb)) (lts rfl) ?_
    rintro _ L2 ⟨rfl, hL2⟩
    rw [hp]
    refine ⟨.lands hL2 (.w rfl (.h (Has.ce rfl) (.nil))), ?_⟩
    refine SQ.lands hL2 ?_
    refine SQ_pu rfl (RD_neq rfl rfl) rfl ?_
    refine SQ_pu rfl (RD_move rfl) rfl ?_
    refine SQ_guard (i := 10) rfl rfl rfl (fun hg3_9 => ?_) (fun hg3_9 => ?_)
    · first
        | refine SQ_pyes rfl rfl rfl (hg3_9) (RD_fieldAddr0 Try.runUnderlying58 rfl rfl Try.sizeOf3 rfl) rfl ?_
        | refine SQ_yes rfl rfl rfl (hg3_9) (RD_fieldAddrO 0 Try.runUnderlying58 rfl rfl Try.sizeOf3 rfl (by simp <;> omega)) Has.ro rfl ?_
      refine SQ_yes rfl rfl rfl (hg3_9) (RD_load Try.isAgg3 rfl) (Has.ce rfl) rfl ?_
      first
        | refine SQ_pyes rfl rfl rfl (hg3_9) (RD_fieldAddr 2 Try.runUnderlying58 rfl rfl Try.sizeOf26 rfl) rfl ?_
        | refine SQ_yes rfl rfl rfl (hg3_9) (RD_fieldAddrO 2 Try.runUnderlying58 rfl rfl Try.sizeOf26 rfl (by simp <;> omega)) Has.ro rfl ?_
      first
        | refine SQ_pyes rfl rfl rfl (hg3_9) (RD_fieldAddr0 Try.runUnderlying26 rfl rfl Try.sizeOf3 rfl) rfl ?_
        | refine SQ_yes rfl rfl rfl (hg3_9) (RD_fieldAddrO 0 Try.runUnderlying26 rfl rfl Try.sizeOf3 rfl (by simp <;> omega)) Has.ro rfl ?_
      refine SQ_yes rfl rfl rfl (hg3_9) (RD_load Try.isAgg3 rfl) (Has.ce rfl) rfl ?_
      refine SQ_pyes rfl rfl rfl (hg3_9) (RD_leq rfl rfl) rfl ?_
      refine SQ_pu rfl (RD_pick_f rfl (hg3_9) rfl) rfl ?_
      refine SQ_pu rfl (RD_assign rfl) rfl ?_
      refine SQ_nil ?_
      refine SN.le (l := [(0, _), (3, _), (14, _)]) ?_ (.cons rfl (.cons rfl (.cons rfl (.nil))))
      refine SN_seq ?_
      refine SC_cond rfl (fun hc14 => ?_) (fun hc14 => ?_)
      · refine SC_seq ?_
        refine SC_region ?_
        refine SR_pu (RD_assign rfl) rfl ?_
        refine SR_pu (RD_assign rfl) rfl ?_
        refine SR_nil ?_
        refine SN.le (l := [(4, _), (5, _)]) ?_ (.cons rfl (.cons rfl (.nil)))
        refine SN_seq ?_
        refine SC_ret2 rfl rfl rfl ?_
        have h2 : b.view ≤ b.jv := by simpa using hc14
        have hadd : s.add z.l b.pure = ((0, 13), s, z.l) := by unfold TS.add; rw [show b.pure.jb = b.jb from rfl, hp]; exact if_pos (.inr h2)
        rw [hadd]
        exact ⟨rfl, .fin⟩
      · refine SC_skip ?_
        refine SN_block ?_
        refine SN_seq ?_
        refine SC_seq ?_
        have hjv : b.jv = q.view := by
          have h : decide (b.jv = viewOf (some q)) = true := by cases hd : decide (b.jv = viewOf (some q)) with
            | true => rfl
            | false => rw [hd] at hg3_9; cases hg3_9
          exact of_decide_eq_true h
        have hvw : ¬ b.view ≤ b.jv := by simpa using hc14
        have hno : ¬ (b.pure.jv ≠ q.view ∨ b.pure.view ≤ b.pure.jv) := fun h => h.elim (fun h => h hjv) hvw
        refine SC.op_tree (p := p) fun m T hT => ?_
        rw [hk]
        refine SC_drawn (.cons 0 true (.cons 1 true (.cons 2 true (.cons 3 true (.cons 4 true (.cons 5 false (.cons 6 true (.nil)))))))) (by kernel_rfl) (by kernel_rfl) ?_
        refine SQ_pu rfl (RD_move rfl) rfl ?_
        first
          | refine SQ_pu rfl (RD_nilCheck rfl) rfl ?_
          | refine SQ_pu rfl (RD_nilCheckF rfl) rfl ?_
        first
          | refine SQ_pu rfl (RD_fieldAddr0 Try.runUnderlying111 rfl rfl Try.sizeOf30 rfl) rfl ?_
          | refine SQ_rd rfl (RD_fieldAddrO 0 Try.runUnderlying111 rfl rfl Try.sizeOf30 rfl (by simp <;> omega)) Has.ro rfl ?_
        refine SQ_rd rfl (RD_load Try.isAgg30 rfl) (Has.ce rfl) rfl ?_
        refine SQ_rd rfl (RD_loadA Try.isAgg58 Try.sizeOf58 rfl rfl) Has.wh rfl ?_
        refine SQ_call rfl Try.call62 (.cons rfl (.cons rfl (.nil))) (CallsK.at (blok_Digest k z b rfl rfl hf.1 hf.2.1 hf.2.2.2.2 hf.2.2.1 hf.2.2.2.1 hl)) (lts rfl) ?_
        rintro _ L3 ⟨rfl, hL3⟩
        refine ⟨.lands hL3 (.w rfl (.w rfl (.nil))), ?_⟩
        refine SQ.lands hL3 ?_
        refine SQ_pu rfl (RD_assign rfl) rfl ?_
        refine SQ_nil ?_
        refine SN.le (l := [(0, _), (3, _), (6, _)]) ?_ (.cons rfl (.cons rfl (.cons rfl (.nil))))
        refine SN_seq ?_
        refine SC_seq ?_
        refine SC_seq ?_
        refine SC.lands ((close_tree (p := p) (T := T) (s := s) rfl hT hk rfl).trans .fin : Lands _ (At treeI p s :: At worldI k ⟨blkL z.l b.pure, z.S⟩ :: pt b3 (.cells b.cells.toArray 58) :: F)) ?_
        refine SC_region ?_
        refine SR_pu (RD_move rfl) rfl ?_
        refine SR_pu (RD_move rfl) rfl ?_
        refine SR_call Try.call61 (.cons rfl (.cons rfl (.nil))) (CallsK.at (tree_Has p s _)) (lts rfl) ?_
        rintro _ L4 ⟨rfl, hL4⟩
        refine SR.lands hL4 ?_
        refine SR_nil ?_
        refine SN.le (l := [(0, _), (3, _), (6, _), (40, _)]) ?_ (.cons rfl (.cons rfl (.cons rfl (.cons rfl (.nil)))))
        refine SN_seq ?_
        refine SC_cond rfl (fun hc40 => ?_) (fun hc40 => ?_)
        · have h4 : (mget s.T ((blkD z.l b.pure : Nat) : Int)).isSome = true := hc40
          have hadd : s.add z.l b.pure = ((((blkD z.l b.pure : Nat) : Int), 10), s, blkL z.l b.pure) := by unfold TS.add; rw [show b.pure.jb = b.jb from rfl, hp]; exact (if_neg hno).trans (if_pos h4)
          refine SC_seq ?_
          refine SC_region ?_
          refine SR_pu (RD_move rfl) rfl ?_
          refine SR_pu (RD_assign rfl) rfl ?_
          refine SR_pu (RD_assign rfl) rfl ?_
          refine SR_nil ?_
          refine SN.le (l := [(4, _), (5, _)]) ?_ (.cons rfl (.cons rfl (.nil)))
          refine SN_seq ?_
          refine SC_ret2 rfl rfl rfl ?_
          rw [hadd]
          exact ⟨rfl, .fin⟩
        · have h4 : ¬ (mget s.T ((blkD z.l b.pure : Nat) : Int)).isSome = true := by rw [hc40]; simp
          have h5 : mget s.T ((blkD z.l b.pure : Nat) : Int) = none := by simpa using hc40
          have hadd : s.add z.l b.pure = ((((blkD z.l b.pure : Nat) : Int), 0), ⟨s.w, s.root, s.T ++ [(((blkD z.l b.pure : Nat) : Int), b.pure)]⟩, blkL z.l b.pure) := by unfold TS.add; rw [show b.pure.jb = b.jb from rfl, hp]; exact (if_neg hno).trans (if_neg h4)
          refine SC.op_tree (p := p) fun m T hT => ?_
          refine SC_skip ?_
          refine SN_seq ?_
          refine SC_seq ?_
          refine SC_drawn (.cons 0 true (.cons 1 true (.cons 2 true (.cons 3 true (.cons 4 true (.cons 5 true (.cons 6 false (.cons 7 false (.nil))))))))) (by kernel_rfl) (by kernel_rfl) ?_
          refine SQ_pu rfl (RD_move rfl) rfl ?_
          first
            | refine SQ_pu rfl (RD_nilCheck rfl) rfl ?_
            | refine SQ_pu rfl (RD_nilCheckF rfl) rfl ?_
          first
            | refine SQ_pu rfl (RD_fieldAddr 2 Try.runUnderlying111 rfl rfl Try.sizeOf109 rfl) rfl ?_
            | refine SQ_rd rfl (RD_fieldAddrO 2 Try.runUnderlying111 rfl rfl Try.sizeOf109 rfl (by simp <;> omega)) Has.ro rfl ?_
          refine SQ_rd rfl (RD_load Try.isAgg109 rfl) (Has.ce rfl) rfl ?_
          refine SQ_pu rfl (RD_move rfl) rfl ?_
          refine SQ_rd rfl (RD_loadA Try.isAgg58 Try.sizeOf58 rfl rfl) Has.wh rfl ?_
          refine SQ_call rfl Try.call63 (.cons rfl (.nil)) (blok_Still b rfl rfl hf) (lts rfl) ?_
          rintro _ L5 ⟨b', rfl, hp', hf', hL5⟩
          refine ⟨.lands hL5 (.w rfl (.h (Has.ce rfl) (.nil))), ?_⟩
          refine SQ.lands hL5 ?_
          refine SQ_ox0 rfl (OX_mu (K := intK) Try.underlying109 Try.underlying3 rfl rfl rfl) ?_
          rintro _ _ rfl
          refine ⟨.w rfl (.w rfl (.nil)), ?_⟩
          refine SQ_nil ?_
          refine SN.le (l := [(6, _)]) ?_ (.cons rfl (.nil))
          refine SN_seq ?_
          refine SC_seq ?_
          refine SC_region ?_
          refine SR_pu (RD_move rfl) rfl ?_
          refine SR_pu (RD_assign rfl) rfl ?_
          refine SR_pu (RD_assign rfl) rfl ?_
          refine SR_nil ?_
          refine SN.le (l := [(4, _), (5, _)]) ?_ (.cons rfl (.cons rfl (.nil)))
          refine SN_seq ?_
          refine SC_ret2 rfl rfl rfl ?_
          rw [hadd]
          refine ⟨rfl, ?_⟩
          have h6 : mget T ((blkD z.l b.pure : Nat) : Int) = none := by
            rw [← hT.1, mget_pure] at h5
            cases hm : mget T ((blkD z.l b.pure : Nat) : Int) with
            | none => rfl
            | some x => rw [hm] at h5; cases h5
          have hset : mset (entsT T) ((blkD z.l b.pure : Nat) : Int) b'.val = entsT (T ++ [(((blkD z.l b.pure : Nat) : Int), b')]) := mset_ents h6 b'
          rw [hset]
          refine Lands.trans (show Lands _ (rowP 3 1 b'.by_.a b'.by_.n b'.by_.c (b'.by_.l.map intV) :: rowP 51 4 b'.envs.a b'.envs.n b'.envs.c (b'.envs.l.flatMap EnvD.cells) :: bigT T :: pt p (.cells [.pointer (some ⟨s.w, 0, none⟩), .int .i64 s.root, .map (some m)].toArray 111) :: mapP intK m (entsT (T ++ [(((blkD z.l b.pure : Nat) : Int), b')])) :: At worldI k ⟨blkL z.l b.pure, z.S⟩ :: F) from .fin) ?_
          refine (bigT_put (d := ((blkD z.l b.pure : Nat) : Int))).trans ?_
          refine (close_tree (p := p) (T := T ++ [(((blkD z.l b.pure : Nat) : Int), b')]) (s := ⟨s.w, s.root, s.T ++ [(((blkD z.l b.pure : Nat) : Int), b.pure)]⟩) rfl ⟨?_, ?_⟩ rfl rfl).trans .fin
          · rw [← hT.1, ← hp']; simp [pureT]
          · intro d x hx
            rw [mget_app T _ _ _ h6] at hx
            split at hx
            · cases hx; exact hf'
            · exact hT.2 d x hx
    · refine SQ_no rfl rfl rfl (hg3_9) (lts rfl) ?_
      refine SQ_no rfl rfl rfl (hg3_9) (lts rfl) ?_
      refine SQ_no rfl rfl rfl (hg3_9) (lts rfl) ?_
      refine SQ_no rfl rfl rfl (hg3_9) (lts rfl) ?_
      refine SQ_no rfl rfl rfl (hg3_9) (lts rfl) ?_
      refine SQ_no rfl rfl rfl (hg3_9) (lts rfl) ?_
      refine SQ_pu rfl (RD_pick_t rfl (hg3_9) rfl) rfl ?_
      refine SQ_pu rfl (RD_assign rfl) rfl ?_
      refine SQ_nil ?_
      refine SN.le (l := [(0, _), (3, _), (14, _)]) ?_ (.cons rfl (.cons rfl (.cons rfl (.nil))))
      refine SN_seq ?_
      refine SC_cond_true rfl (rfl) ?_
      refine SC_seq ?_
      refine SC_region ?_
      refine SR_pu (RD_assign rfl) rfl ?_
      refine SR_pu (RD_assign rfl) rfl ?_
      refine SR_nil ?_
      refine SN.le (l := [(4, _), (5, _)]) ?_ (.cons rfl (.cons rfl (.nil)))
      refine SN_seq ?_
      refine SC_ret2 rfl rfl rfl ?_
      have h2 : b.jv ≠ q.view := by
        have h : decide (b.jv = viewOf (some q)) = false := by cases hd : decide (b.jv = viewOf (some q)) with
          | false => rfl
          | true => rw [hd] at hg3_9; cases hg3_9
        exact of_decide_eq_false h
      have hadd : s.add z.l b.pure = ((0, 13), s, z.l) := by unfold TS.add; rw [show b.pure.jb = b.jb from rfl, hp]; exact if_pos (.inl h2)
      rw [hadd]
      exact ⟨rfl, .fin⟩

end Go.Proofs.Ytmigjpmadhebfaa
