/- Part 9 of the proof: lemmas that the walk of TopWindow needs. -/
import Derived.RangeFuncGives
import Derived.RangeFuncSeq
import Derived.Sort.MapsRangeIn
import Derived.Sort.KeysCollected
import Derived.WalkKit
import Derived.OwnWalkIn
import Derived.TacticsInMore
import Derived.RegionIn
import Derived.LoopNIn
import Derived.LoopIn
import Derived.Maps.AppendAt
import Derived.Shelf.Abstract
import Derived.Lib.SlKeysI
import Derived.Test.YtdhpjdhloaoepaaGreatPw8
set_option linter.unusedSimpArgs false
set_option linter.unusedVariables false
/- New accounts, fees, ledgers. -/
namespace Go.Proofs.YtdhpjdhloaoepaaGreat
open Go Go.Proofs
attribute [local irreducible] SC SN SR SQ SA SO
set_option maxRecDepth 100000
theorem rep_flat (n : Nat) : (List.replicate n ((0 : Int), (0 : Int))).flatMap acC = List.replicate (n * 2) (.int .u64 0) := by
  induction n with
  | zero => rfl
  | succ n ih =>
    rw [List.replicate_succ, List.flatMap_cons, ih, show (n + 1) * 2 = n * 2 + 1 + 1 by omega, List.replicate_succ, List.replicate_succ]
    rfl
def acs0 (n : Nat) : Acs := List.replicate n (0, 0)
theorem acs0_ok {n : Nat} (h : n ≤ 1000) : AcOk (acs0 n) := ⟨by unfold acs0; rw [List.length_replicate]; exact h, fun x hx => by
  rw [List.eq_of_mem_replicate hx]; exact ⟨⟨by omega, by omega⟩, ⟨by omega, by omega⟩⟩⟩
theorem acPut_ok {l : Acs} (h : AcOk l) (c a n : Int) (hn : U64 n) : AcOk (acPut l c a n).2 := by
  unfold acPut
  split
  · rename_i hw
    split
    · have := acP_ok h (acW0.1 hw).1 a.toNat
      exact acSet_ok h (acW0.1 hw).1 _ (by unfold U64 at *; omega)
    · exact h
  · exact h
theorem acPut_len (l : Acs) (c a n : Int) : (acPut l c a n).2.length = l.length := by
  unfold acPut
  split
  · split
    · exact List.length_set
    · rfl
  · rfl
/-- Each of the first n clients gets 1000 of an asset. -/
def giveA (l : Acs) (a : Int) (n : Nat) : Acs := (List.range n).foldl (fun (l : Acs) (c : Nat) => (acPut l (c : Int) a 1000).2) l
theorem giveA_succ (l : Acs) (a : Int) (n : Nat) : giveA l a (n + 1) = (acPut (giveA l a n) (n : Int) a 1000).2 := by unfold giveA; rw [List.range_succ, List.foldl_append]; rfl
theorem giveA_ok {l : Acs} (h : AcOk l) (a : Int) (n : Nat) : AcOk (giveA l a n) ∧ (giveA l a n).length = l.length := by
  induction n with
  | zero => exact ⟨h, rfl⟩
  | succ n ih => rw [giveA_succ]; exact ⟨acPut_ok ih.1 _ _ _ ⟨by omega, by omega⟩, by rw [acPut_len]; exact ih.2⟩
def ledg0 (n : Nat) : LdS := ⟨giveA (giveA (acs0 n) 0 n) 1 n, [], 0, List.replicate n 0⟩
def giveN (n : Nat) : Nat → Acs
  | 0 => acs0 n
  | i + 1 => giveA (giveN n i) (i : Int) n
theorem giveN_ok {n : Nat} (h : n ≤ 1000) (i : Nat) : AcOk (giveN n i) ∧ (giveN n i).length = n := by
  induction i with
  | zero => exact ⟨acs0_ok h, by unfold giveN acs0; rw [List.length_replicate]⟩
  | succ i ih => exact ⟨(giveA_ok ih.1 _ n).1, (giveA_ok ih.1 _ n).2.trans ih.2⟩

theorem act_New {W : World} {F : List HProp} [Abs F] (n : Nat) (hn : n ≤ 1000) :
    CallsK W Tryz.prog 103 #[.int .i64 (n : Int)] (F) (fun u L => ∃ p, u = .pointer (some ⟨p, 0, none⟩) ∧ Lands L (At actI p (acs0 n) :: F)) := by
  refine CallsK_enter (n := 9) Tryz.func103 rfl rfl rfl ?_
  have hmx : (if (1000 : Int) < (if (0 : Int) > (n : Int) then 0 else (n : Int)) then 1000 else if (0 : Int) > (n : Int) then 0 else (n : Int)) = (n : Int) := by (repeat split) <;> omega
  iterate 10 refine Ws ?_
  refine SR_ox (OX_mkS (m := n) (z := 2) Tryz.underlying181 Tryz.type135 rfl rfl rfl rfl (ev_iV rfl (ie hmx)) (ev_iV rfl (ie hmx)) 16 rfl (by omega) (by omega) (by omega)) rfl ?_
  rintro _ _ ⟨b6, rfl, rfl⟩
  refine SR_pu (RD_build (.cons rfl (.nil)) built183_0) rfl ?_
  refine Wb fun b8 => ?_
  iterate 3 refine Ws ?_
  refine SC_ret1 rfl rfl ?_
  refine ⟨_, rfl, ?_⟩
  refine Lands.trans (L := _ :: _ :: _) (Lands.cons (lit_row (z := 2) n (by rw [List.length_replicate]))) ?_
  exact (close_act b8 (acs0 n) (acs0_ok hn) (e0_ := by unfold acs0; rw [List.length_replicate]) (e1_ := by unfold acs0; rw [List.length_replicate]) (e2_ := rep_flat n)).trans .fin

theorem fee_New {W : World} {F : List HProp} [Abs F] (a : Nat) :
    CallsK W Tryz.prog 104 #[.pointer (some ⟨a, 0, none⟩)] (F) (fun u L => ∃ f, u = .pointer (some ⟨f, 0, none⟩) ∧ Lands L (At feeI f ⟨a, [], 0⟩ :: F)) := by
  refine CallsK_enter (n := 7) Tryz.func104 rfl rfl rfl ?_
  iterate 8 refine Ws ?_
  refine SR_ox (OX_mk intK) rfl ?_
  rintro _ _ ⟨b4, rfl, rfl⟩
  refine SR_pu (RD_build (.cons rfl (.cons rfl (.nil))) built222_0_1) rfl ?_
  refine Wb fun b6 => ?_
  iterate 3 refine Ws ?_
  refine SC_ret1 rfl rfl ?_
  exact ⟨_, rfl, (close_fee b6 ⟨a, [], 0⟩ (fun c => ⟨by show (0 : Int) ≤ 0; omega, by show (0 : Int) < _; omega⟩) ⟨by show (0 : Int) ≤ 0; omega, by show (0 : Int) < 18446744073709551616; omega⟩).trans .fin⟩

theorem prio_New {W : World} {F : List HProp} [Abs F] (up : Bool) :
    CallsK W Tryz.prog 167 #[.bool up] (F) (fun u L => (∃ p, u = .pointer (some ⟨p, 0, none⟩)) ∧ Lands L F) := by
  refine CallsK_enter (n := 7) Tryz.func167 rfl rfl rfl ?_
  iterate 8 refine Ws ?_
  refine SR_pu (RD_build (.cons rfl (.nil)) built283_1) rfl ?_
  refine SR_pu (RD_build (.cons rfl (.nil)) built285_0) rfl ?_
  refine Wb fun b6 => ?_
  iterate 3 refine Ws ?_
  refine SC_ret1 rfl rfl ?_
  exact ⟨⟨_, rfl⟩, .fin⟩

theorem book_New {W : World} {F : List HProp} [Abs F] :
    CallsK W Tryz.prog 136 #[] (F) (fun u L => (∃ p, u = .pointer (some ⟨p, 0, none⟩)) ∧ Lands L F) := by
  refine CallsK_enter (n := 5) Tryz.func136 rfl rfl rfl ?_
  iterate 7 refine Ws ?_
  refine We (prio_New false) ?_
  rintro _ L1 ⟨⟨p1, rfl⟩, hL1⟩
  refine SR.lands hL1 ?_
  refine We (prio_New true) ?_
  rintro _ L2 ⟨⟨p2, rfl⟩, hL2⟩
  refine SR.lands hL2 ?_
  refine SR_pu (RD_build (.cons rfl (.cons rfl (.nil))) built251_0_1) rfl ?_
  refine Wb fun b4 => ?_
  iterate 3 refine Ws ?_
  refine SC_ret1 rfl rfl ?_
  exact ⟨⟨_, rfl⟩, .fin⟩

theorem exch_New {W : World} {F : List HProp} [Abs F] (a : Nat) :
    CallsK W Tryz.prog 105 #[.pointer (some ⟨a, 0, none⟩)] (F) (fun u L => (∃ p, u = .pointer (some ⟨p, 0, none⟩)) ∧ Lands L F) := by
  refine CallsK_enter (n := 7) Tryz.func105 rfl rfl rfl ?_
  iterate 8 refine Ws ?_
  refine We (book_New) ?_
  rintro _ L1 ⟨⟨p1, rfl⟩, hL1⟩
  refine SR.lands hL1 ?_
  refine SR_pu (RD_build (.cons rfl (.cons rfl (.nil))) built226_0_1) rfl ?_
  refine Wb fun b6 => ?_
  iterate 3 refine Ws ?_
  refine SC_ret1 rfl rfl ?_
  exact ⟨⟨_, rfl⟩, .fin⟩

theorem OX_stC {W : World} {P : Program} {l : Env} {L R : List HProp} {ty : TypeId} {x y : Operand} {t b off : Nat} {cs cs' : List Value} {T : TypeId} {v : Value} (hz : ∀ w, (sizeOf t).run P w = .ok 1 w)
    (hx : ev l x = some (.pointer (some ⟨b, off, none⟩))) (hy : ev l y = some v) [ho : One v] [tp : TakePt L b (.cells cs.toArray T) R] (hlt : Nat.blt off cs.length = true) (he : cs.set off v = cs') :
    OX W P l L (.store t x y) ty (fun _ L' => L' = pt b (.cells cs'.toArray T) :: R) :=
  (OX.lands (fun m => Den_perm tp.perm m) (OX_store hz hx hy ho.one ho.cells hlt)).imp fun _ _ e => by rw [e, he]

theorem Lands.take {A B : HProp} {L R : List HProp} [t : TakeA L A R] (h : Lands (A :: R) (B :: R)) : Lands L (B :: R) := fun m H => h m (Den_perm t.perm m H)

theorem ldg_New {W : World} {F : List HProp} [Abs F] (n : Nat) (hn : n ≤ 1000) :
    CallsK W Tryz.prog 83 #[.int .i64 (n : Int)] (F) (fun u L => ∃ k : LK, u = .pointer (some ⟨k.g, 0, none⟩) ∧ Lands L (At ldgI k (ledg0 n) :: F)) := by
  refine CallsK_enter (n := 43) Tryz.func83 rfl rfl rfl ?_
  have hmx : (if (1000 : Int) < (if (0 : Int) > (n : Int) then 0 else (n : Int)) then 1000 else if (0 : Int) > (n : Int) then 0 else (n : Int)) = (n : Int) := by (repeat split) <;> omega
  iterate 12 refine Ws ?_
  rw [hmx]
  iterate 4 refine Ws ?_
  refine We (act_New n hn) ?_
  rintro _ L1 ⟨pa, rfl, hL1⟩
  refine SR.lands hL1 ?_
  iterate 4 refine Ws ?_
  refine SC_drawn (.cons 0 true (.cons 1 true (.cons 3 true (.cons 5 true (.alts [2, 6] (fun i => bif Nat.beq i 2 then (.alts [4, 6] (fun i => bif Nat.beq i 4 then (.cons 6 false (.cons 7 true (.goto [true, true, true, true, true, true, true, true, false, false] 2))) else (.cons 4 false (.cons 7 true (.goto [true, true, true, true, true, true, true, true, false, false] 2))))) else (.cons 2 false (.cons 4 false (.cons 7 true (.goto [true, true, true, true, true, true, true, true, false, false] 2)))))))))) (by kernel_rfl) (by kernel_rfl) ?_
  iterate 4 refine Wq ?_
  refine SQ.le (l := [(0, _), (3, _), (12, _), (13, _), (15, _), (17, _)]) ?_ (.cons rfl (.cons rfl (.cons rfl (.cons rfl (.cons rfl (.cons rfl (.nil)))))))
  refine SQ_join (X := Nat × Nat × Nat) (.cons 8 false (.cons 9 true (.nil))) [true, true, true, true, true, true, true, true, false, false] 2 (by kernel_rfl) (fun x => [(19, .agg #[.pointer (some ⟨pa, 0, none⟩), .pointer (some ⟨x.1, 0, none⟩), .pointer (some ⟨x.2.1, 0, none⟩), .slice (some ⟨x.2.2, 0, none⟩) n n, .int .u64 0, .int .u64 0, .int .u64 0, .int .u64 0])]) (fun x => At feeI x.1 ⟨pa, [], 0⟩ :: pt x.2.2 (.cells (List.replicate (n * 1) (.int .u64 0)).toArray 35) :: At actI pa (acs0 n) :: F) (fun x => At feeI x.1 ⟨pa, [], 0⟩ :: pt x.2.2 (.cells (List.replicate (n * 1) (.int .u64 0)).toArray 35) :: At actI pa (acs0 n) :: F) (fun ⟨pf, px, b18⟩ T3 hT3 => ?_) (fun K3 => ?_)
  · refine SQ.le (l := [(19, _), (0, _), (3, _), (12, _), (13, _), (15, _), (17, _)]) ?_ (.cons rfl (.cons rfl (.cons rfl (.cons rfl (.cons rfl (.cons rfl (.cons rfl (.nil))))))))
    dsimp only
    refine SQ_ox rfl (OX_box rfl rfl) rfl ?_
    rintro _ _ ⟨b20, rfl, rfl⟩
    refine ⟨Keeps.lands .fin (Keeps.all hT3), ?_⟩
    refine Wq ?_
    iterate 9 refine Ws ?_
    refine SC_ind (X := Nat × Int × Int) (fun x => x.1 ≤ 2) (fun x => 2 - x.1) (fun x => [(0, .int .i64 (n : Int)), (3, .pointer (some ⟨pa, 0, none⟩)), (4, .pointer (some ⟨b20, 0, none⟩)), (21, .int .i64 (x.1 : Nat))]) (fun x => pt b20 (.cells [.pointer (some ⟨pa, 0, none⟩), .pointer (some ⟨pf, 0, none⟩), .pointer (some ⟨px, 0, none⟩), .slice (some ⟨b18, 0, none⟩) n n, .int .u64 x.2.1, .int .u64 x.2.2, .int .u64 0, .int .u64 0].toArray 137) :: At actI pa (giveN n x.1) :: rowP 35 1 (some ⟨b18, 0, none⟩) n n (List.replicate (n * 1) (.int .u64 0)) :: At feeI pf ⟨pa, [], 0⟩ :: F) ((0, 0, 0)) (by simp) (.cons rfl (.cons rfl (.cons rfl (.cons rfl (.nil))))) (Lands.trans (Lands.take (lit_row (z := 1) (b := b18) (E := 35) (cs := List.replicate (n * 1) (.int .u64 0)) n (by rw [List.length_replicate]))) (by simp only [giveN]; exact .fin)) ?_
    intro ⟨i, g0, g1⟩ hi ih
    dsimp only at hi ih ⊢
    iterate 6 refine Ws ?_
    refine SC_cond rfl (fun hc22 => ?_) (fun hc22 => ?_)
    · have hin : i < 2 := by simp at hc22; omega
      iterate 18 refine Ws ?_
      refine SC_ind (X := Nat) (fun j => j ≤ n) (fun j => n - j) (fun j => [(0, .int .i64 (n : Int)), (3, .pointer (some ⟨pa, 0, none⟩)), (4, .pointer (some ⟨b20, 0, none⟩)), (5, .int .i64 (i : Nat)), (21, .int .i64 (i : Nat)), (24, .int .i64 (n : Nat)), (25, .int .i64 (j : Nat))]) (fun j => pt b20 (.cells [.pointer (some ⟨pa, 0, none⟩), .pointer (some ⟨pf, 0, none⟩), .pointer (some ⟨px, 0, none⟩), .slice (some ⟨b18, 0, none⟩) n n, .int .u64 g0, .int .u64 g1, .int .u64 0, .int .u64 0].toArray 137) :: At actI pa (giveA (giveN n i) (i : Int) j) :: rowP 35 1 (some ⟨b18, 0, none⟩) n n (List.replicate (n * 1) (.int .u64 0)) :: At feeI pf ⟨pa, [], 0⟩ :: F) (0) (by omega) (.cons rfl (.cons rfl (.cons rfl (.cons rfl (.cons rfl (.cons rfl (.cons rfl (.nil)))))))) (by rw [show giveA (giveN n i) (i : Int) 0 = giveN n i from rfl]; exact .fin) ?_
      intro j hi ih2
      skip
      iterate 6 refine Ws ?_
      refine SC_cond rfl (fun hc26 => ?_) (fun hc26 => ?_)
      · have hjn : j < n := by simp at hc26; omega
        iterate 14 refine Ws ?_
        refine We (CallsK.at (act_Put pa (giveA (giveN n i) (i : Int) j) (j : Int) (i : Int) 1000 ⟨by omega, by omega⟩)) ?_
        rintro _ L4 ⟨rfl, hL4⟩
        rw [← giveA_succ] at hL4
        refine SR.lands hL4 ?_
        iterate 7 refine Ws ?_
        refine SC_again (ih2 (j + 1) (by omega) (by omega)) (.fin) (.cons rfl (.cons rfl (.cons rfl (.cons rfl (.cons rfl (.cons rfl (.cons' rfl (ie (by omega)) (.nil))))))))
      · have hjn : n = j := by simp at hc26; omega
        subst hjn
        rcases (by omega : i = 0 ∨ i = 1) with rfl | rfl
        · iterate 6 refine Ws ?_
          first
            | refine SR_pu (RD_conv64 Tryz.runUnderlying3 Tryz.runUnderlying35 rfl (by omega) (by omega)) rfl ?_
            | refine SR_pu (RD_convI Tryz.runUnderlying3 Tryz.runUnderlying35 rfl) rfl ?_
          refine SR_pu (RD_mul rfl rfl) rfl ?_
          iterate 2 refine Ws ?_
          refine SR_pu (RD_indexAddrA Tryz.runUnderlying135 Tryz.sizeOf35 rfl rfl (by omega) (by omega)) rfl ?_
          refine SR_ox0 (OX_stC (cs' := [.pointer (some ⟨pa, 0, none⟩), .pointer (some ⟨pf, 0, none⟩), .pointer (some ⟨px, 0, none⟩), .slice (some ⟨b18, 0, none⟩) n n, .int .u64 (IntKind.u64.wrap ((n : Int) * 1000)), .int .u64 g1, .int .u64 0, .int .u64 0]) Tryz.sizeOf35 rfl rfl rfl rfl) ?_
          rintro _ _ rfl
          iterate 7 refine Ws ?_
          refine SC_again (ih ((1, IntKind.u64.wrap ((n : Int) * 1000), g1)) (by dsimp only; omega) (by dsimp only; omega)) (by
            dsimp only [giveN]
            try simp only [Int.natCast_zero, Int.natCast_one]
            exact .fin) (.cons rfl (.cons rfl (.cons rfl (.cons rfl (.nil)))))
        · iterate 6 refine Ws ?_
          first
            | refine SR_pu (RD_conv64 Tryz.runUnderlying3 Tryz.runUnderlying35 rfl (by omega) (by omega)) rfl ?_
            | refine SR_pu (RD_convI Tryz.runUnderlying3 Tryz.runUnderlying35 rfl) rfl ?_
          refine SR_pu (RD_mul rfl rfl) rfl ?_
          iterate 2 refine Ws ?_
          refine SR_pu (RD_indexAddrA Tryz.runUnderlying135 Tryz.sizeOf35 rfl rfl (by omega) (by omega)) rfl ?_
          refine SR_ox0 (OX_stC (cs' := [.pointer (some ⟨pa, 0, none⟩), .pointer (some ⟨pf, 0, none⟩), .pointer (some ⟨px, 0, none⟩), .slice (some ⟨b18, 0, none⟩) n n, .int .u64 g0, .int .u64 (IntKind.u64.wrap ((n : Int) * 1000)), .int .u64 0, .int .u64 0]) Tryz.sizeOf35 rfl rfl rfl rfl) ?_
          rintro _ _ rfl
          iterate 7 refine Ws ?_
          refine SC_again (ih ((2, g0, IntKind.u64.wrap ((n : Int) * 1000))) (by dsimp only; omega) (by dsimp only; omega)) (by
            dsimp only [giveN]
            try simp only [Int.natCast_zero, Int.natCast_one]
            exact .fin) (.cons rfl (.cons rfl (.cons rfl (.cons rfl (.nil)))))
    · have hin : i = 2 := by simp at hc22; omega
      subst hin
      iterate 8 refine Ws ?_
      refine SC_ret1 rfl rfl ?_
      refine ⟨⟨b20, pa, pf⟩, rfl, ?_⟩
      have hg := giveN_ok hn 2
      change Lands _ (At ldgI ⟨b20, pa, pf⟩ (⟨giveN n 2, [], 0, List.replicate n 0⟩ : LdS) :: F)
      exact (close_ldg ⟨b20, pa, pf⟩ (⟨giveN n 2, [], 0, List.replicate n 0⟩ : LdS) (by dsimp only; rw [List.length_replicate]; exact hg.2.symm) hg.1 (x := px) (e2_ := by dsimp only; rw [List.length_replicate]) (e3_ := by dsimp only; rw [List.length_replicate]) (e4_ := by simp [uV])).trans .fin
  · refine SQ_two ?_ ?_
    · refine SA_call rfl .free Tryz.call104 (.cons rfl (.nil)) (fee_New pa) (lts rfl) ?_
      rintro _ L2 ⟨pf, rfl, hL2⟩
      refine ⟨.nil, ?_⟩
      refine SQ.lands hL2 ?_
      refine SQ_two ?_ ?_
      · refine SA_call rfl .free Tryz.call105 (.cons rfl (.nil)) (exch_New pa) (lts rfl) ?_
        rintro _ L3 ⟨⟨px, rfl⟩, hL3⟩
        refine ⟨.nil, ?_⟩
        refine SQ.lands hL3 ?_
        refine SQ_ox rfl (OX_mkS (m := n) (z := 1) Tryz.underlying134 Tryz.type35 rfl rfl rfl rfl rfl rfl 8 rfl (by omega) (by omega) (by omega)) rfl ?_
        rintro _ _ ⟨b18, rfl, rfl⟩
        refine ⟨.nil, ?_⟩
        refine SQ_pu rfl (RD_build (.cons rfl (.cons rfl (.cons rfl (.cons rfl (.nil))))) built137_0_1_2_3) rfl ?_
        exact K3 ((pf, px, b18)) _ _ _ (.cons rfl (.cons rfl (.cons rfl (.cons rfl (.cons rfl (.cons rfl (.cons rfl (.nil)))))))) (.fin) (.nil)
      · refine SA_ox rfl .free (OX_mkS (m := n) (z := 1) Tryz.underlying134 Tryz.type35 rfl rfl rfl rfl rfl rfl 8 rfl (by omega) (by omega) (by omega)) rfl ?_
        rintro _ _ ⟨b18, rfl, rfl⟩
        refine ⟨.nil, ?_⟩
        refine SQ_call rfl Tryz.call105 (.cons rfl (.nil)) (exch_New pa) (lts rfl) ?_
        rintro _ L3 ⟨⟨px, rfl⟩, hL3⟩
        refine ⟨.nil, ?_⟩
        refine SQ.lands hL3 ?_
        refine SQ_pu rfl (RD_build (.cons rfl (.cons rfl (.cons rfl (.cons rfl (.nil))))) built137_0_1_2_3) rfl ?_
        exact K3 ((pf, px, b18)) _ _ _ (.cons rfl (.cons rfl (.cons rfl (.cons rfl (.cons rfl (.cons rfl (.cons rfl (.nil)))))))) (.fin) (.nil)
    · refine SA_ox rfl .free (OX_mkS (m := n) (z := 1) Tryz.underlying134 Tryz.type35 rfl rfl rfl rfl rfl rfl 8 rfl (by omega) (by omega) (by omega)) rfl ?_
      rintro _ _ ⟨b18, rfl, rfl⟩
      refine ⟨.nil, ?_⟩
      refine SQ_call rfl Tryz.call104 (.cons rfl (.nil)) (fee_New pa) (lts rfl) ?_
      rintro _ L2 ⟨pf, rfl, hL2⟩
      refine ⟨.nil, ?_⟩
      refine SQ.lands hL2 ?_
      refine SQ_call rfl Tryz.call105 (.cons rfl (.nil)) (exch_New pa) (lts rfl) ?_
      rintro _ L3 ⟨⟨px, rfl⟩, hL3⟩
      refine ⟨.nil, ?_⟩
      refine SQ.lands hL3 ?_
      refine SQ_pu rfl (RD_build (.cons rfl (.cons rfl (.cons rfl (.cons rfl (.nil))))) built137_0_1_2_3) rfl ?_
      exact K3 ((pf, px, b18)) _ _ _ (.cons rfl (.cons rfl (.cons rfl (.cons rfl (.cons rfl (.cons rfl (.cons rfl (.nil)))))))) (.fin) (.nil)

end Go.Proofs.YtdhpjdhloaoepaaGreat

/- What is opened and done. -/
namespace Go.Proofs.YtdhpjdhloaoepaaGreat
open Go Go.Proofs
attribute [local irreducible] SC SN SR SQ SA SO
set_option maxRecDepth 100000
structure RK where
  r : Nat
  w : Nat
  L : LK
structure RvS where
  l : List EnvD
  n : Nat
  g : LdS
theorem hasRow_drop {L : List HProp} {a : Option Addr} {cs ds : List Value} [h : HasRow L a cs] (d z c : Nat) (hc : cs.length ≤ c * z) (e : ds = cs.drop (d * z)) : HasRow L (sBase a d z c) ds := ⟨⟨rowR.up, fun q hq => by
  subst e
  have := h.r.2 q hq
  unfold sBase
  split
  · rename_i hcd; subst hcd; rw [List.drop_eq_nil_of_le hc]; exact rowR_nil _
  · have h2 := rowR_slice this (d * z) cs.length
    rwa [List.take_of_length_le (by rw [List.length_drop]; omega)] at h2⟩⟩
/-- A receipt of an entry that trades nothing. -/
structure RcD where
  code : Int
  paid : Int
def RcD.cells (r : RcD) : List Value := [.int .i64 r.code, .int .u64 r.paid, .int .i64 0, .slice none 0 0]
def RcD.val (r : RcD) : Value := .agg r.cells.toArray
instance (r : RcD) : Ones r.cells := by unfold RcD.cells; infer_instance
instance (r : RcD) : SetAt r.cells 3 (.slice none 0 0) r.cells := ⟨rfl, by show 3 < 4; decide⟩

def revI (k : RK) (s : RvS) : HProp := fun h => ∃ (a : Option Addr) (c : Nat) (ra : Option Addr) (rc : Nat) (rs : List RcD), s.n ≤ s.l.length ∧ rs.length = s.n ∧ Den [pt k.r (.cells [.pointer (some ⟨k.w, 0, none⟩), .slice a s.l.length c, .slice ra s.n rc, .pointer (some ⟨k.L.g, 0, none⟩)].toArray 104), rowP 43 4 a s.l.length c (s.l.flatMap EnvD.cells), rowP 278 4 ra s.n rc (rs.flatMap RcD.cells), At ldgI k.L s.g] h
theorem open_rev {k : RK} {s : RvS} : Opens revI k s (fun x : (Option Addr) × (Nat) × (Option Addr) × (Nat) × (List RcD) => (s.n ≤ s.l.length) ∧ (x.2.2.2.2.length = s.n)) (fun x R => (pt k.r (.cells [.pointer (some ⟨k.w, 0, none⟩), .slice x.1 s.l.length x.2.1, .slice x.2.2.1 s.n x.2.2.2.1, .pointer (some ⟨k.L.g, 0, none⟩)].toArray 104)) :: (rowP 43 4 x.1 s.l.length x.2.1 (s.l.flatMap EnvD.cells)) :: (rowP 278 4 x.2.2.1 s.n x.2.2.2.1 (x.2.2.2.2.flatMap RcD.cells)) :: (At ldgI k.L s.g) :: R) := by
  rintro R m_ ⟨m1, m2, d, e, ⟨a, c, ra, rc, rs, f0_, f1_, h_⟩, r⟩
  exact ⟨(a, c, ra, rc, rs), ⟨f0_, f1_⟩, Den_app d e h_ r⟩
theorem close_rev {L R R1_ R2_ R3_ : List HProp} (k : RK) (s : RvS) {a : Option Addr} {c : Nat} {ra : Option Addr} {rc : Nat} {rs : List RcD} {y1_ : Nat} {y2_ : Nat} {y3_ : Nat} {y4_ : Nat} {y5_ : Nat} {y6_ : List Value} {y7_ : Nat} {y8_ : List Value} [t0_ : TakePt L k.r (.cells [.pointer (some ⟨y1_, 0, none⟩), .slice a y2_ c, .slice ra y3_ rc, .pointer (some ⟨y4_, 0, none⟩)].toArray 104) R1_] [t1_ : TakeRow R1_ a 43 4 y5_ c y6_ R2_] [t2_ : TakeRow R2_ ra 278 4 y7_ rc y8_ R3_] [t3_ : TakeA R3_ (At ldgI k.L s.g) R] (f0_ : s.n ≤ s.l.length) (f1_ : rs.length = s.n) (e0_ : k.w = y1_ := by rfl) (e1_ : s.l.length = y2_ := by rfl) (e2_ : s.n = y3_ := by rfl) (e3_ : k.L.g = y4_ := by rfl) (e4_ : s.l.length = y5_ := by rfl) (e5_ : s.l.flatMap EnvD.cells = y6_ := by rfl) (e6_ : s.n = y7_ := by rfl) (e7_ : rs.flatMap RcD.cells = y8_ := by rfl) : Lands L (At revI k s :: R) := fun q_ H_ => by
  subst e0_; subst e1_; subst e2_; subst e3_; subst e4_; subst e5_; subst e6_; subst e7_;
  obtain ⟨a0_, b0_, d0_, i0_, p0_, r0_⟩ := Den_perm t0_.perm q_ H_
  obtain ⟨a1_, b1_, d1_, i1_, p1_, r1_⟩ := Den_perm t1_.perm b0_ r0_
  obtain ⟨a2_, b2_, d2_, i2_, p2_, r2_⟩ := Den_perm t2_.perm b1_ r1_
  obtain ⟨a3_, b3_, d3_, i3_, p3_, r3_⟩ := Den_perm t3_.perm b2_ r2_
  have H2_ : Den ([pt k.r (.cells [.pointer (some ⟨k.w, 0, none⟩), .slice a s.l.length c, .slice ra s.n rc, .pointer (some ⟨k.L.g, 0, none⟩)].toArray 104), rowP 43 4 a s.l.length c (s.l.flatMap EnvD.cells), rowP 278 4 ra s.n rc (rs.flatMap RcD.cells), At ldgI k.L s.g] ++ R) q_ := ⟨a0_, b0_, d0_, i0_, p0_, ⟨a1_, b1_, d1_, i1_, p1_, ⟨a2_, b2_, d2_, i2_, p2_, ⟨a3_, b3_, d3_, i3_, p3_, r3_⟩⟩⟩⟩
  exact Lands.wrap (A := At revI k s) (fun z_ hz_ => ⟨a, c, ra, rc, rs, f0_, f1_, hz_⟩) q_ H2_
theorem rev_cur {W : World} {F : List HProp} [Abs F] (ww : Nat) (k : RK) (a ra : Option Addr) (len c n rc : Nat) :
    CallsK W Tryz.prog 18 #[.pointer (some ⟨k.r, 0, none⟩)] (pt k.r (.cells [.pointer (some ⟨ww, 0, none⟩), .slice a len c, .slice ra n rc, .pointer (some ⟨k.L.g, 0, none⟩)].toArray 104) :: F) (fun u L => u = .int .i64 (n : Nat) ∧ Lands L (pt k.r (.cells [.pointer (some ⟨ww, 0, none⟩), .slice a len c, .slice ra n rc, .pointer (some ⟨k.L.g, 0, none⟩)].toArray 104) :: F)) := by
  refine CallsK_enter (n := 8) Tryz.func18 rfl rfl rfl ?_
  iterate 15 refine Ws ?_
  refine SC_ret1 rfl rfl ?_
  exact ⟨rfl, .fin⟩

theorem rev_Cursor {W : World} {F : List HProp} [Abs F] (k : RK) (s : RvS)  :
    CallsK W Tryz.prog 18 #[.pointer (some ⟨k.r, 0, none⟩)] (At revI k s :: F) (fun u L => u = .int .i64 (s.n : Nat) ∧ Lands L (At revI k s :: F)) := by
  refine CallsK_enter (n := 8) Tryz.func18 rfl rfl rfl ?_
  iterate 6 refine Ws ?_
  refine SC.opn (open_rev (k := k)) fun ⟨a, c, ra, rc, rs⟩ ⟨hle, hrs⟩ => ?_
  dsimp only at hle hrs ⊢
  iterate 9 refine Ws ?_
  refine SC_ret1 rfl rfl ?_
  exact ⟨rfl, (close_rev k s hle hrs).trans .fin⟩

theorem rev_Ledger {W : World} {F : List HProp} [Abs F] (k : RK) (s : RvS)  :
    CallsK W Tryz.prog 32 #[.pointer (some ⟨k.r, 0, none⟩)] (At revI k s :: F) (fun u L => u = .pointer (some ⟨k.L.g, 0, none⟩) ∧ Lands L (At revI k s :: F)) := by
  refine CallsK_enter (n := 7) Tryz.func32 rfl rfl rfl ?_
  iterate 6 refine Ws ?_
  refine SC.opn (open_rev (k := k)) fun ⟨a, c, ra, rc, rs⟩ ⟨hle, hrs⟩ => ?_
  dsimp only at hle hrs ⊢
  iterate 8 refine Ws ?_
  refine SC_ret1 rfl rfl ?_
  exact ⟨rfl, (close_rev k s hle hrs).trans .fin⟩

theorem rev_New {W : World} {F : List HProp} [Abs F] (w : Nat) (n : Nat) (hn : n ≤ 1000) :
    CallsK W Tryz.prog 58 #[.pointer (some ⟨w, 0, none⟩), .int .i64 (n : Int)] (F) (fun u L => ∃ k : RK, u = .pointer (some ⟨k.r, 0, none⟩) ∧ k.w = w ∧ Lands L (At revI k ⟨[], 0, ledg0 n⟩ :: F)) := by
  refine CallsK_enter (n := 10) Tryz.func58 rfl rfl rfl ?_
  iterate 9 refine Ws ?_
  refine We (ldg_New n hn) ?_
  rintro _ L1 ⟨g, rfl, hL1⟩
  refine SR.lands hL1 ?_
  refine SR_pu (RD_build (.cons rfl (.cons rfl (.nil))) built104_0_3) rfl ?_
  refine Wb fun b9 => ?_
  iterate 3 refine Ws ?_
  refine SC_ret1 rfl rfl ?_
  refine ⟨⟨b9, w, g⟩, rfl, rfl, (row_new 278 4 none).trans ((row_new 43 4 none).trans ?_)⟩
  exact (close_rev ⟨b9, w, g⟩ ⟨[], 0, ledg0 n⟩ (rs := []) (Nat.le_refl _) rfl).trans .fin

theorem rev_Grow {W : World} {F : List HProp} [Abs F] (k : RK) (s : RvS) (l : List EnvD) (a2 : Option Addr) (n2 c2 : Nat) {ds : List Value} [HasRow F a2 ds] (hds : ds = l.flatMap EnvD.cells) (hn2 : l.length = n2) (hb : n2 ≤ 1000000) (hs : s.l.length ≤ 1000000) :
    CallsK W Tryz.prog 221 #[.pointer (some ⟨k.r, 0, none⟩), .slice a2 n2 c2] (At revI k s :: F) (fun _ L => Lands L (At revI k ⟨s.l ++ l, s.n, s.g⟩ :: F)) := by
  refine CallsK_enter (n := 13) Tryz.func221 rfl rfl rfl ?_
  subst hds; subst hn2
  refine SC.opn (open_rev (k := k)) fun ⟨a, c, ra, rc, rs⟩ ⟨hle, hrs⟩ => ?_
  dsimp only at hle hrs ⊢
  iterate 7 refine Ws ?_
  refine SR_ox (OX_app 4 Tryz.underlying53 Tryz.underlying53 Tryz.type43 rfl rfl rfl rfl rfl (by rw [env_len]) 32 rfl (by omega) (by omega)) rfl ?_
  rintro _ _ ⟨a10, c10, rfl, rfl⟩
  iterate 4 refine Ws ?_
  refine SN_stop0 rfl ?_
  exact (close_rev k ⟨s.l ++ l, s.n, s.g⟩ (by dsimp only; rw [List.length_append]; omega) hrs (e1_ := by simp) (e4_ := by simp) (e5_ := by simp)).trans .fin

def RvS.wanted (s : RvS) (w : Nat) : List Int := ((s.l.drop s.n).take w).map EnvD.cipher

theorem rev_Wanted {W : World} {F : List HProp} [Abs F] (k : RK) (s : RvS) (w : Nat) (hb : s.l.length ≤ 1000000) :
    CallsK W Tryz.prog 164 #[.pointer (some ⟨k.r, 0, none⟩), .int .i64 (s.n : Nat), .int .i64 (w : Nat)] (At revI k s :: F) (fun u L => ∃ a c, u = .slice a (s.wanted w).length c ∧ Lands L (rowP 3 1 a (s.wanted w).length c ((s.wanted w).map intV) :: At revI k s :: F)) := by
  refine CallsK_enter (n := 40) Tryz.func164 rfl rfl rfl ?_
  iterate 6 refine Ws ?_
  refine SC.opn (open_rev (k := k)) fun ⟨a, c, ra, rc, rs⟩ ⟨hle, hrs⟩ => ?_
  dsimp only at hle hrs ⊢
  refine SC.row_len (a := a) fun hlen hnc => ?_
  iterate 13 refine Ws ?_
  have hmn : (if (s.l.length : Int) < (if (0 : Int) > (s.n : Int) then 0 else (s.n : Int)) then (s.l.length : Int) else (if (0 : Int) > (s.n : Int) then 0 else (s.n : Int))) = (s.n : Nat) := by (repeat split) <;> omega
  rw [hmn]
  iterate 12 refine Ws ?_
  refine SR_pu (RD_cutL Tryz.runUnderlying53 Tryz.sizeOf43 rfl rfl (by omega) (by omega) (by omega)) rfl ?_
  iterate 5 refine Ws ?_
  refine SC_ind (X := Nat × Option Addr × Nat) (fun x => x.1 ≤ w ∧ x.1 ≤ s.l.length - s.n) (fun x => s.l.length - s.n - x.1) (fun x => [(2, .int .i64 (w : Nat)), (7, .slice x.2.1 x.1 x.2.2), (23, .slice (sBase a s.n 4 c) (s.l.length - s.n) (c - s.n)), (24, .int .i64 ((s.l.length - s.n : Nat) : Int)), (25, .int .i64 (x.1 : Nat))]) (fun x => rowP 3 1 x.2.1 x.1 x.2.2 ((((s.l.drop s.n).take x.1).map EnvD.cipher).map intV) :: pt k.r (.cells [.pointer (some ⟨k.w, 0, none⟩), .slice a s.l.length c, .slice ra s.n rc, .pointer (some ⟨k.L.g, 0, none⟩)].toArray 104) :: rowP 43 4 a s.l.length c (s.l.flatMap EnvD.cells) :: rowP 278 4 ra s.n rc (rs.flatMap RcD.cells) :: At ldgI k.L s.g :: F) ((0, none, 0)) (⟨Nat.zero_le _, Nat.zero_le _⟩) (.cons rfl (.cons rfl (.cons rfl (.cons rfl (.cons rfl (.nil)))))) (by simp only [List.take_zero, List.map_nil]; exact (row_new 3 1 none).trans .fin) ?_
  intro ⟨i, oa, oc⟩ hi ih
  obtain ⟨hi1, hi2⟩ := hi
  dsimp only at hi1 hi2 ih ⊢
  iterate 6 refine Ws ?_
  refine SC_cond rfl (fun hc26 => ?_) (fun hc26 => ?_)
  · have hin : i < s.l.length - s.n := by have := of_decide_eq_true hc26; omega
    obtain ⟨e, he⟩ : ∃ e, (s.l.drop s.n)[i]? = some e := ⟨_, List.getElem?_eq_getElem (by rw [List.length_drop]; exact hin)⟩
    iterate 6 refine Ws ?_
    refine SR_rd (RD_ixO (cs := (s.l.drop s.n).flatMap EnvD.cells) Tryz.runUnderlying53 Tryz.sizeOf43 rfl rfl (by rw [env_len, List.length_drop]) (by omega) (by omega)) (Has.ro (h := hasRow_drop (cs := s.l.flatMap EnvD.cells) s.n 4 c (by rw [env_len]; omega) (flat_drop' (C := EnvD.cells) (z := 4) (fun _ => rfl) s.l s.n).symm)) rfl ?_
    refine SR_rd (RD_loadAO (vs := e.cells) (cs := (s.l.drop s.n).flatMap EnvD.cells) Tryz.isAgg43 Tryz.sizeOf43 rfl rfl (by decide) (fun o v h => by have ho : o < 4 := (List.getElem?_eq_some_iff.1 h).1; rw [show ((i : Nat) : Int).toNat * (3 + 1) + o = i * 4 + o by omega, env_get he o ho]; exact h)) (Has.ro (h := hasRow_drop (cs := s.l.flatMap EnvD.cells) s.n 4 c (by rw [env_len]; omega) (flat_drop' (C := EnvD.cells) (z := 4) (fun _ => rfl) s.l s.n).symm)) rfl ?_
    refine Wa fun b9 => ?_
    refine SR_ox0 (OX_stA (vs := e.cells) Tryz.sizeOf43 rfl rfl rfl rfl) ?_
    rintro _ _ rfl
    iterate 11 refine Ws ?_
    refine SC_cond rfl (fun hc32 => ?_) (fun hc32 => ?_)
    · have hiw : i = w := by have := of_decide_eq_true hc32; omega
      have hfin : (s.l.drop s.n).take i = (s.l.drop s.n).take w := by rw [hiw]
      have hlen : i = (s.wanted w).length := by unfold RvS.wanted; rw [List.length_map, List.length_take, List.length_drop]; omega
      iterate 8 refine Ws ?_
      refine SC_ret1 rfl rfl ?_
      refine ⟨_, _, by rw [← hlen], ?_⟩
      rw [← hlen]
      unfold RvS.wanted
      rw [← hfin]
      exact (close_rev k s hle hrs).trans .fin
    · have hiw : i < w := by have := of_decide_eq_false hc32; omega
      have hsn : ((s.l.drop s.n).take (i + 1)).map EnvD.cipher = ((s.l.drop s.n).take i).map EnvD.cipher ++ [e.cipher] := by rw [List.take_add_one, he, List.map_append]; rfl
      iterate 6 refine Ws ?_
      refine SR_ox (OX_lit1 Tryz.underlying37 Tryz.type3 rfl rfl rfl rfl (.cons rfl (.nil)) (.cons rfl (.nil))) rfl ?_
      rintro _ _ ⟨b36, rfl, rfl⟩
      refine SR_ox (OX_app 1 Tryz.underlying37 Tryz.underlying37 Tryz.type3 rfl rfl rfl rfl rfl (by first | rfl | simp; done | (simp; omega)) 8 rfl (by omega) (by omega)) rfl ?_
      rintro _ _ ⟨a37, c37, rfl, rfl⟩
      iterate 8 refine Ws ?_
      refine SC_again (ih ((i + 1, a37, c37)) (⟨by dsimp only; omega, by dsimp only; omega⟩) (by dsimp only; omega)) (by dsimp only; rw [hsn]; simp only [List.map_append, List.map_cons, List.map_nil, intV]; exact .fin) (.cons rfl (.cons rfl (.cons rfl (.cons rfl (.cons' rfl (ie (by dsimp only; omega)) (.nil))))))
  · have hin : i = s.l.length - s.n := by have := of_decide_eq_false hc26; omega
    have hfin : (s.l.drop s.n).take i = (s.l.drop s.n).take w := by rw [List.take_of_length_le (by rw [List.length_drop]; omega), List.take_of_length_le (by rw [List.length_drop]; omega)]
    have hlen : i = (s.wanted w).length := by unfold RvS.wanted; rw [List.length_map, List.length_take, List.length_drop]; omega
    iterate 8 refine Ws ?_
    refine SC_ret1 rfl rfl ?_
    refine ⟨_, _, by rw [← hlen], ?_⟩
    rw [← hlen]
    unfold RvS.wanted
    rw [← hfin]
    exact (close_rev k s hle hrs).trans .fin

theorem clone_trades {W : World} {F : List HProp} [Abs F] :
    CallsK W Tryz.prog 230 #[.slice none 0 0] (F) (fun u L => u = .slice none 0 0 ∧ Lands L F) := by
  refine CallsK_enter (n := 8) Tryz.func230 rfl rfl rfl ?_
  iterate 9 refine Ws ?_
  refine SR_pu (RD_eqlSl Tryz.underlying276 rfl rfl) rfl ?_
  iterate 2 refine Ws ?_
  refine SC_cond_true rfl (rfl) ?_
  iterate 5 refine Ws ?_
  refine SC_ret1 rfl rfl ?_
  exact ⟨rfl, .fin⟩

theorem rev_still {W : World} {F : List HProp} [Abs F] (r : RcD) :
    CallsK W Tryz.prog 192 #[r.val] (F) (fun u L => u = r.val ∧ Lands L F) := by
  refine CallsK_enter (n := 8) Tryz.func192 rfl rfl rfl ?_
  iterate 2 refine Ws ?_
  refine Wb fun b1 => ?_
  refine Wa fun b2 => ?_
  iterate 5 refine Ws ?_
  refine SR_rd (RD_load (v := .slice none 0 0) Tryz.isAgg276 rfl) (Has.ce rfl) rfl ?_
  refine Wc (clone_trades) ?_
  refine Ws ?_
  refine SR_ox0 (OX_st (off := 0 + 3) (cs := r.cells) (cs' := r.cells) (v := .slice none 0 0) (s := ⟨rfl, by show 3 < 4; decide⟩) Tryz.sizeOf276 rfl rfl) ?_
  rintro _ _ rfl
  iterate 4 refine Ws ?_
  refine SR_rd (RD_loadA (vs := r.cells) Tryz.isAgg278 Tryz.sizeOf278 rfl rfl) Has.wh rfl ?_
  refine SR_ox0 (OX_stA (vs := r.cells) Tryz.sizeOf278 rfl rfl rfl rfl) ?_
  rintro _ _ rfl
  iterate 2 refine Ws ?_
  refine SC_retC rfl Tryz.isAgg278 Tryz.sizeOf278 rfl rfl Has.wh ?_
  exact ⟨rfl, .fin⟩

/-- As many as can be opened are done. -/
def stepL (v : VS) : List EnvD → LdS → Nat × LdS
  | [], g => (0, g)
  | e :: l, g => if v.enough e.cipher then ((stepL v l (g.bad e.client e.fee).2).1 + 1, (stepL v l (g.bad e.client e.fee).2).2) else (0, g)
theorem stepL_cons (v : VS) (e : EnvD) (l : List EnvD) (g : LdS) : stepL v (e :: l) g = if v.enough e.cipher then ((stepL v l (g.bad e.client e.fee).2).1 + 1, (stepL v l (g.bad e.client e.fee).2).2) else (0, g) := rfl
theorem ldg_Do_badR {W : World} {F : List HProp} [Abs F] (k : LK) (s : LdS) (v : VS) (e : EnvD) (hx : (v.openE e).good = false) (hfee : U64 e.fee) :
    CallsK W Tryz.prog 191 #[.pointer (some ⟨k.g, 0, none⟩), (v.openE e).val] (At ldgI k s :: F) (fun u L => u = RcD.val ⟨s.badCode e.client, (s.bad e.client e.fee).1⟩ ∧ Lands L (At ldgI k (s.bad e.client e.fee).2 :: F)) := ldg_Do_bad k s (v.openE e) hx hfee
theorem openR_eq (v : VS) (e : EnvD) : v.openR e = if v.enough e.cipher then (v.openE e, true) else (zEnt, false) := rfl
theorem openR_2 (v : VS) (e : EnvD) : (v.openR e).2 = v.enough e.cipher := by unfold VS.openR; cases v.enough e.cipher <;> rfl
structure StX where
  m : Nat
  g : LdS
  ra : Option Addr
  rc : Nat
  rs : List RcD
  oa : Option Addr
  oc : Nat
  os : List RcD

theorem rev_Step {W : World} {F : List HProp} [Abs F] (kw : WK) (z : WS) (v : VS) (hv : v.Fit) (k : RK) (hw : k.w = kw.p) (s : RvS) (hb : s.l.length ≤ 1000000) (hbad : ∀ e ∈ s.l, (v.openE e).good = false) (hfee : ∀ e ∈ s.l, U64 e.fee) :
    CallsK W Tryz.prog 163 #[.pointer (some ⟨k.r, 0, none⟩)] (At revI k s :: At worldI kw z :: At vltI kw.v v :: F) (fun u L => ∃ a c, u = .slice a (stepL v (s.l.drop s.n) s.g).1 c ∧ Lands L (At revI k ⟨s.l, s.n + (stepL v (s.l.drop s.n) s.g).1, (stepL v (s.l.drop s.n) s.g).2⟩ :: At worldI kw z :: At vltI kw.v v :: F)) := by
  refine CallsK_enter (n := 55) Tryz.func163 rfl rfl rfl ?_
  iterate 6 refine Ws ?_
  refine SC.opn (open_rev (k := k)) fun ⟨a, c, ra, rc, rs⟩ ⟨hle, hrs⟩ => ?_
  dsimp only at hle hrs ⊢
  rw [hw]
  iterate 6 refine Ws ?_
  refine SC_ind (X := StX) (fun x => s.n + x.m ≤ s.l.length ∧ x.rs.length = s.n + x.m ∧ x.os.length = x.m ∧ stepL v (s.l.drop s.n) s.g = ((stepL v (s.l.drop (s.n + x.m)) x.g).1 + x.m, (stepL v (s.l.drop (s.n + x.m)) x.g).2)) (fun x => s.l.length - s.n - x.m) (fun x => [(0, .pointer (some ⟨k.r, 0, none⟩)), (3, .slice x.oa x.m x.oc)]) (fun x => rowP 278 4 x.oa x.m x.oc (x.os.flatMap RcD.cells) :: rowP 278 4 x.ra (s.n + x.m) x.rc (x.rs.flatMap RcD.cells) :: pt k.r (.cells [.pointer (some ⟨kw.p, 0, none⟩), .slice a s.l.length c, .slice x.ra (s.n + x.m) x.rc, .pointer (some ⟨k.L.g, 0, none⟩)].toArray 104) :: rowP 43 4 a s.l.length c (s.l.flatMap EnvD.cells) :: At ldgI k.L x.g :: At worldI kw z :: At vltI kw.v v :: F) (⟨0, s.g, ra, rc, rs, none, 0, []⟩) (⟨hle, hrs, rfl, rfl⟩) (.cons rfl (.cons rfl (.nil))) (by simp only [List.flatMap_nil, Nat.add_zero]; exact (row_new 278 4 none).trans .fin) ?_
  intro ⟨m, g, ra, rc, rs, oa, oc, os⟩ hi ih
  obtain ⟨hm, hrs, hos, hst⟩ := hi
  dsimp only at hm hrs hos hst ih ⊢
  iterate 2 refine Ws ?_
  refine Wd [.r 0, .r 2, .r 3, .r 4, .r 5, .r 6, .e 1, .r 7] ?_
  iterate 6 refine Wq ?_
  refine SQ_call rfl Tryz.call18 (.cons rfl (.nil)) (CallsK.atPt (rev_cur kw.p k a ra s.l.length c (s.n + m) rc)) (lts rfl) ?_
  rintro _ L1 ⟨rfl, hL1⟩
  refine ⟨.lands hL1 (.h (Has.ce rfl) (.nil)), ?_⟩
  refine SQ.lands hL1 ?_
  refine Wq ?_
  iterate 2 refine Ws ?_
  refine SC_cond rfl (fun hc14 => ?_) (fun hc14 => ?_)
  · have hin : s.n + m < s.l.length := by have := of_decide_eq_true hc14; omega
    obtain ⟨e, he⟩ : ∃ e, s.l[s.n + m]? = some e := ⟨_, List.getElem?_eq_getElem hin⟩
    have hmem := List.mem_of_getElem? he
    have hdr : s.l.drop (s.n + m) = e :: s.l.drop (s.n + m + 1) := by obtain ⟨h, rfl⟩ := List.getElem?_eq_some_iff.1 he; exact List.drop_eq_getElem_cons h
    rw [hdr, stepL_cons] at hst
    iterate 4 refine Ws ?_
    refine SC_drawn (.cons 0 true (.cons 1 true (.cons 2 true (.cons 3 true (.cons 4 true (.cons 5 true (.cons 6 true (.cons 7 true (.cons 8 true (.alts [9, 16] (fun i => bif Nat.beq i 9 then (.cons 10 true (.cons 11 true (.alts [12, 16] (fun i => bif Nat.beq i 12 then (.cons 13 true (.cons 14 true (.cons 15 true (.cons 16 false (.goto [true, true, true, true, true, true, true, true, true, true, true, true, true, true, true, true, true, false, false] 2))))) else (.cons 12 false (.cons 13 true (.cons 14 true (.cons 15 true (.goto [true, true, true, true, true, true, true, true, true, true, true, true, true, true, true, true, true, false, false] 2))))))))) else (.cons 9 false (.cons 10 true (.cons 11 true (.cons 12 false (.cons 13 true (.cons 14 true (.cons 15 true (.goto [true, true, true, true, true, true, true, true, true, true, true, true, true, true, true, true, true, false, false] 2))))))))))))))))))) (by kernel_rfl) (by kernel_rfl) ?_
    iterate 9 refine Wq ?_
    refine SQ.le (l := [(0, _), (3, _), (19, _), (23, _), (24, _)]) ?_ (.cons rfl (.cons rfl (.cons rfl (.cons rfl (.cons rfl (.nil))))))
    refine SQ_join (X := Nat) (.cons 17 false (.cons 18 true (.nil))) [true, true, true, true, true, true, true, true, true, true, true, true, true, true, true, true, true, false, false] 2 (by kernel_rfl) (fun b => [(4, .pointer (some ⟨b, 0, none⟩)), (29, (v.openR e).1.val), (30, .bool (v.openR e).2)]) (fun b => pt b (.cells [.int .i64 0, .int .u64 0, .int .u64 0, .bool false, .int .i64 0, .int .i64 0, .int .i64 0, .bool false, .int .u64 0, .int .u64 0, .int .i64 0].toArray 273) :: rowP 278 4 oa m oc (os.flatMap RcD.cells) :: rowP 278 4 ra (s.n + m) rc (rs.flatMap RcD.cells) :: pt k.r (.cells [.pointer (some ⟨kw.p, 0, none⟩), .slice a s.l.length c, .slice ra (s.n + m) rc, .pointer (some ⟨k.L.g, 0, none⟩)].toArray 104) :: rowP 43 4 a s.l.length c (s.l.flatMap EnvD.cells) :: At ldgI k.L g :: At worldI kw z :: At vltI kw.v v :: F) (fun b => rowP 278 4 oa m oc (os.flatMap RcD.cells) :: rowP 278 4 ra (s.n + m) rc (rs.flatMap RcD.cells) :: pt k.r (.cells [.pointer (some ⟨kw.p, 0, none⟩), .slice a s.l.length c, .slice ra (s.n + m) rc, .pointer (some ⟨k.L.g, 0, none⟩)].toArray 104) :: rowP 43 4 a s.l.length c (s.l.flatMap EnvD.cells) :: At ldgI k.L g :: At worldI kw z :: At vltI kw.v v :: F) (fun b T3 hT3 => ?_) (fun K3 => ?_)
    · refine SQ.le (l := [(4, _), (29, _), (30, _), (0, _), (3, _), (19, _), (23, _), (24, _)]) ?_ (.cons rfl (.cons rfl (.cons rfl (.cons rfl (.cons rfl (.cons rfl (.cons rfl (.cons rfl (.nil)))))))))
      refine SQ_ox0 rfl (OX_stA (vs := (v.openR e).1.cells) Tryz.sizeOf273 rfl rfl rfl rfl) ?_
      rintro _ _ rfl
      refine ⟨Keeps.lands .fin (Keeps.all hT3), ?_⟩
      refine Wq ?_
      iterate 9 refine Ws ?_
      refine SC_cond rfl (fun hc32 => ?_) (fun hc32 => ?_)
      · have hen : v.enough e.cipher = false := by rw [openR_2] at hc32; simpa using hc32
        have hS : stepL v (s.l.drop s.n) s.g = (m, g) := by rw [hst, hen]; simp
        rw [hS]
        iterate 8 refine Ws ?_
        refine SC_ret1 rfl rfl ?_
        exact ⟨_, _, rfl, (close_rev k ⟨s.l, s.n + m, g⟩ hm hrs (e0_ := hw)).trans .fin⟩
      · have hen : v.enough e.cipher = true := by rw [openR_2] at hc32; simpa using hc32
        have hS : stepL v (s.l.drop s.n) s.g = ((stepL v (s.l.drop (s.n + (m + 1))) (g.bad e.client e.fee).2).1 + (m + 1), (stepL v (s.l.drop (s.n + (m + 1))) (g.bad e.client e.fee).2).2) := by rw [hst, if_pos hen, show s.n + (m + 1) = s.n + m + 1 by omega]; congr 1; omega
        have hOE : (v.openR e).1 = v.openE e := by rw [openR_eq, if_pos hen]
        rw [hOE]
        iterate 3 refine Ws ?_
        refine SC_drawn (.cons 0 true (.cons 1 true (.cons 2 true (.cons 3 true (.cons 4 true (.alts [5, 6] (fun i => bif Nat.beq i 5 then (.cons 6 false (.goto [true, true, true, true, true, true, true, false] 1)) else (.cons 5 false (.goto [true, true, true, true, true, true, true, false] 1))))))))) (by kernel_rfl) (by kernel_rfl) ?_
        iterate 4 refine Wq ?_
        refine SQ_rd rfl (RD_loadA (vs := (v.openE e).cells) Tryz.isAgg273 Tryz.sizeOf273 rfl rfl) Has.wh rfl ?_
        refine SQ.le (l := [(0, _), (3, _), (36, _), (37, _)]) ?_ (.cons rfl (.cons rfl (.cons rfl (.cons rfl (.nil)))))
        refine SQ_join (X := Nat) (.cons 7 false (.nil)) [true, true, true, true, true, true, true, false] 1 (by kernel_rfl) (fun y => [(6, .pointer (some ⟨y, 0, none⟩)), (38, RcD.val ⟨g.badCode e.client, (g.bad e.client e.fee).1⟩)]) (fun y => pt y (.cells [.int .i64 0, .int .u64 0, .int .i64 0, .slice none 0 0].toArray 278) :: pt b (.cells (v.openE e).cells.toArray 273) :: rowP 278 4 oa m oc (os.flatMap RcD.cells) :: rowP 278 4 ra (s.n + m) rc (rs.flatMap RcD.cells) :: pt k.r (.cells [.pointer (some ⟨kw.p, 0, none⟩), .slice a s.l.length c, .slice ra (s.n + m) rc, .pointer (some ⟨k.L.g, 0, none⟩)].toArray 104) :: rowP 43 4 a s.l.length c (s.l.flatMap EnvD.cells) :: At ldgI k.L (g.bad e.client e.fee).2 :: At worldI kw z :: At vltI kw.v v :: F) (fun y => pt b (.cells (v.openE e).cells.toArray 273) :: rowP 278 4 oa m oc (os.flatMap RcD.cells) :: rowP 278 4 ra (s.n + m) rc (rs.flatMap RcD.cells) :: pt k.r (.cells [.pointer (some ⟨kw.p, 0, none⟩), .slice a s.l.length c, .slice ra (s.n + m) rc, .pointer (some ⟨k.L.g, 0, none⟩)].toArray 104) :: rowP 43 4 a s.l.length c (s.l.flatMap EnvD.cells) :: At ldgI k.L (g.bad e.client e.fee).2 :: At worldI kw z :: At vltI kw.v v :: F) (fun y T5 hT5 => ?_) (fun K5 => ?_)
        · refine SQ.le (l := [(6, _), (38, _), (0, _), (3, _), (36, _), (37, _)]) ?_ (.cons rfl (.cons rfl (.cons rfl (.cons rfl (.cons rfl (.cons rfl (.nil)))))))
          refine SQ_ox0 rfl (OX_stA (vs := RcD.cells ⟨g.badCode e.client, (g.bad e.client e.fee).1⟩) Tryz.sizeOf278 rfl rfl rfl rfl) ?_
          rintro _ _ rfl
          refine ⟨Keeps.lands .fin (Keeps.all hT5), ?_⟩
          iterate 3 refine Ws ?_
          refine Wd [.r 0, .r 1, .r 2, .r 3, .r 4, .r 5, .e 6, .e 7, .r 8, .r 9, .e 10] ?_
          iterate 5 refine Wq ?_
          refine SQ_rd rfl (RD_loadA (vs := RcD.cells ⟨g.badCode e.client, (g.bad e.client e.fee).1⟩) Tryz.isAgg278 Tryz.sizeOf278 rfl rfl) Has.wh rfl ?_
          refine SQ_ox rfl (OX_lit Tryz.underlying102 Tryz.type278 rfl rfl rfl rfl (.cons rfl (.nil)) (.cons rfl rfl (.nil))) rfl ?_
          rintro _ _ ⟨b45, rfl, rfl⟩
          refine ⟨.w rfl (.h (Has.ce rfl) (.nil)), ?_⟩
          refine SQ_ox rfl (OX_app 4 Tryz.underlying102 Tryz.underlying102 Tryz.type278 rfl rfl rfl rfl rfl (by first | rfl | simp; done | (simp; omega)) 48 rfl (by omega) (by omega)) rfl ?_
          rintro _ _ ⟨a46, c46, rfl, rfl⟩
          refine ⟨.h Has.wh (.w rfl (.nil)), ?_⟩
          iterate 2 refine Wq ?_
          refine SQ_ox0 rfl (OX_st Tryz.sizeOf102 rfl rfl) ?_
          rintro _ _ rfl
          refine ⟨.w rfl (.w rfl (.nil)), ?_⟩
          iterate 4 refine Ws ?_
          refine SR_rd (RD_loadA (vs := RcD.cells ⟨g.badCode e.client, (g.bad e.client e.fee).1⟩) Tryz.isAgg278 Tryz.sizeOf278 rfl rfl) Has.wh rfl ?_
          refine Wc (rev_still _) ?_
          refine SR_ox (OX_lit Tryz.underlying102 Tryz.type278 rfl rfl rfl rfl (.cons rfl (.nil)) (.cons rfl rfl (.nil))) rfl ?_
          rintro _ _ ⟨b52, rfl, rfl⟩
          refine SR_ox (OX_app 4 Tryz.underlying102 Tryz.underlying102 Tryz.type278 rfl rfl rfl rfl rfl (by first | rfl | simp; done | (simp; omega)) 48 rfl (by omega) (by omega)) rfl ?_
          rintro _ _ ⟨a53, c53, rfl, rfl⟩
          iterate 3 refine Ws ?_
          refine SC_again (ih (⟨m + 1, (g.bad e.client e.fee).2, a46, c46, rs ++ [⟨g.badCode e.client, (g.bad e.client e.fee).1⟩], a53, c53, os ++ [⟨g.badCode e.client, (g.bad e.client e.fee).1⟩]⟩) (⟨by dsimp only; omega, by dsimp only; rw [List.length_append, hrs]; rfl, by dsimp only; rw [List.length_append, hos]; rfl, hS⟩) (by dsimp only; omega)) (by dsimp only; rw [List.flatMap_append, List.flatMap_append, show [(⟨g.badCode e.client, (g.bad e.client e.fee).1⟩ : RcD)].flatMap RcD.cells = RcD.cells ⟨g.badCode e.client, (g.bad e.client e.fee).1⟩ ++ [] from rfl, show s.n + (m + 1) = s.n + m + 1 from rfl]; exact .fin) (.cons rfl (.cons rfl (.nil)))
        · refine SQ_two ?_ ?_
          · refine SA_call rfl .free Tryz.call191 (.cons rfl (.cons rfl (.nil))) (CallsK.at (ldg_Do_badR k.L g v e (hbad e hmem) (hfee e hmem))) (lts rfl) ?_
            rintro _ L3 ⟨rfl, hL3⟩
            refine ⟨.lands hL3 (.w rfl (.w rfl (.nil))), ?_⟩
            refine SQ.lands hL3 ?_
            refine SQ_ox rfl (OX_alloc Tryz.zeroValue278 rfl) rfl ?_
            rintro _ _ ⟨b6, rfl, rfl⟩
            refine ⟨.h Has.wh (.h (Has.ce rfl) (.nil)), ?_⟩
            exact K5 (b6) _ _ _ (.cons rfl (.cons rfl (.cons rfl (.cons rfl (.cons rfl (.cons rfl (.nil))))))) (.fin) (.cons Has.wh (.cons (Has.ce rfl) (.nil)))
          · refine SA_ox rfl .free (OX_alloc Tryz.zeroValue278 rfl) rfl ?_
            rintro _ _ ⟨b6, rfl, rfl⟩
            refine ⟨.h Has.wh (.h (Has.ce rfl) (.nil)), ?_⟩
            refine SQ_call rfl Tryz.call191 (.cons rfl (.cons rfl (.nil))) (CallsK.at (ldg_Do_badR k.L g v e (hbad e hmem) (hfee e hmem))) (lts rfl) ?_
            rintro _ L3 ⟨rfl, hL3⟩
            refine ⟨.lands hL3 (.w rfl (.w rfl (.nil))), ?_⟩
            refine SQ.lands hL3 ?_
            exact K5 (b6) _ _ _ (.cons rfl (.cons rfl (.cons rfl (.cons rfl (.cons rfl (.cons rfl (.nil))))))) (.fin) (.cons Has.wh (.cons (Has.ce rfl) (.nil)))
    · refine SQ_two ?_ ?_
      · refine SA_call rfl .free Tryz.call18 (.cons rfl (.nil)) (CallsK.atPt (rev_cur kw.p k a ra s.l.length c (s.n + m) rc)) (lts rfl) ?_
        rintro _ L1 ⟨rfl, hL1⟩
        refine ⟨.lands hL1 (.h (Has.ce rfl) (.h (Has.ce rfl) (.nil))), ?_⟩
        refine SQ.lands hL1 ?_
        refine SQ_rd rfl (RD_ixO (cs := s.l.flatMap EnvD.cells) Tryz.runUnderlying53 Tryz.sizeOf43 rfl rfl (by rw [env_len]) (by omega) (by omega)) Has.ro rfl ?_
        refine SQ_rd rfl (RD_loadAO (vs := e.cells) (cs := s.l.flatMap EnvD.cells) Tryz.isAgg43 Tryz.sizeOf43 rfl rfl (by decide) (fun o v h => by have ho : o < 4 := (List.getElem?_eq_some_iff.1 h).1; rw [show ((s.n + m : Nat) : Int).toNat * (3 + 1) + o = (s.n + m) * 4 + o by omega, env_get he o ho]; exact h)) Has.ro rfl ?_
        refine SQ_two ?_ ?_
        · refine SA_call rfl .free Tryz.call190 (.cons rfl (.cons rfl (.nil))) (CallsK.at2 (vw_Open kw z v hv e)) (lts rfl) ?_
          rintro _ L2 ⟨rfl, hL2⟩
          refine ⟨.lands hL2 (.w rfl (.h Has.ro (.h (Has.ce rfl) (.w rfl (.nil))))), ?_⟩
          refine SQ.lands hL2 ?_
          refine Wq ?_
          refine SQ_pu rfl (RD_extract (v := (v.openR e).1.val) rfl rfl) rfl ?_
          refine SQ_pu rfl (RD_extract (v := .bool (v.openR e).2) rfl rfl) rfl ?_
          refine SQ_ox rfl (OX_alloc Tryz.zeroValue273 rfl) rfl ?_
          rintro _ _ ⟨b4, rfl, rfl⟩
          refine ⟨.h Has.ro (.h Has.ro (.h (Has.ce rfl) (.h (Has.ce rfl) (.nil)))), ?_⟩
          exact K3 (b4) _ _ _ (.cons rfl (.cons rfl (.cons rfl (.cons rfl (.cons rfl (.cons rfl (.cons rfl (.cons rfl (.nil))))))))) (.fin) (.cons Has.ro (.cons Has.ro (.cons (Has.ce rfl) (.cons (Has.ce rfl) (.nil)))))
        · refine SA_ox rfl .free (OX_alloc Tryz.zeroValue273 rfl) rfl ?_
          rintro _ _ ⟨b4, rfl, rfl⟩
          refine ⟨.h Has.ro (.h Has.ro (.h (Has.ce rfl) (.h (Has.ce rfl) (.nil)))), ?_⟩
          refine SQ_call rfl Tryz.call190 (.cons rfl (.cons rfl (.nil))) (CallsK.at2 (vw_Open kw z v hv e)) (lts rfl) ?_
          rintro _ L2 ⟨rfl, hL2⟩
          refine ⟨.lands hL2 (.w rfl (.h Has.ro (.h (Has.ce rfl) (.w rfl (.nil))))), ?_⟩
          refine SQ.lands hL2 ?_
          refine Wq ?_
          refine SQ_pu rfl (RD_extract (v := (v.openR e).1.val) rfl rfl) rfl ?_
          refine SQ_pu rfl (RD_extract (v := .bool (v.openR e).2) rfl rfl) rfl ?_
          exact K3 (b4) _ _ _ (.cons rfl (.cons rfl (.cons rfl (.cons rfl (.cons rfl (.cons rfl (.cons rfl (.cons rfl (.nil))))))))) (.fin) (.cons Has.ro (.cons Has.ro (.cons (Has.ce rfl) (.cons (Has.ce rfl) (.nil)))))
      · refine SA_ox rfl .free (OX_alloc Tryz.zeroValue273 rfl) rfl ?_
        rintro _ _ ⟨b4, rfl, rfl⟩
        refine ⟨.h (Has.ce rfl) (.h (Has.ce rfl) (.nil)), ?_⟩
        refine SQ_call rfl Tryz.call18 (.cons rfl (.nil)) (CallsK.atPt (rev_cur kw.p k a ra s.l.length c (s.n + m) rc)) (lts rfl) ?_
        rintro _ L1 ⟨rfl, hL1⟩
        refine ⟨.lands hL1 (.h (Has.ce rfl) (.h (Has.ce rfl) (.nil))), ?_⟩
        refine SQ.lands hL1 ?_
        refine SQ_rd rfl (RD_ixO (cs := s.l.flatMap EnvD.cells) Tryz.runUnderlying53 Tryz.sizeOf43 rfl rfl (by rw [env_len]) (by omega) (by omega)) Has.ro rfl ?_
        refine SQ_rd rfl (RD_loadAO (vs := e.cells) (cs := s.l.flatMap EnvD.cells) Tryz.isAgg43 Tryz.sizeOf43 rfl rfl (by decide) (fun o v h => by have ho : o < 4 := (List.getElem?_eq_some_iff.1 h).1; rw [show ((s.n + m : Nat) : Int).toNat * (3 + 1) + o = (s.n + m) * 4 + o by omega, env_get he o ho]; exact h)) Has.ro rfl ?_
        refine SQ_call rfl Tryz.call190 (.cons rfl (.cons rfl (.nil))) (CallsK.at2 (vw_Open kw z v hv e)) (lts rfl) ?_
        rintro _ L2 ⟨rfl, hL2⟩
        refine ⟨.lands hL2 (.w rfl (.h Has.ro (.h (Has.ce rfl) (.w rfl (.nil))))), ?_⟩
        refine SQ.lands hL2 ?_
        refine Wq ?_
        refine SQ_pu rfl (RD_extract (v := (v.openR e).1.val) rfl rfl) rfl ?_
        refine SQ_pu rfl (RD_extract (v := .bool (v.openR e).2) rfl rfl) rfl ?_
        exact K3 (b4) _ _ _ (.cons rfl (.cons rfl (.cons rfl (.cons rfl (.cons rfl (.cons rfl (.cons rfl (.cons rfl (.nil))))))))) (.fin) (.cons Has.ro (.cons Has.ro (.cons (Has.ce rfl) (.cons (Has.ce rfl) (.nil)))))
  · have hin : s.n + m = s.l.length := by have := of_decide_eq_false hc14; omega
    have hS : stepL v (s.l.drop s.n) s.g = (m, g) := by rw [hst, hin, List.drop_length]; simp [stepL]
    rw [hS]
    iterate 8 refine Ws ?_
    refine SC_ret1 rfl rfl ?_
    exact ⟨_, _, rfl, (close_rev k ⟨s.l, s.n + m, g⟩ hm hrs (e0_ := hw)).trans .fin⟩

end Go.Proofs.YtdhpjdhloaoepaaGreat

/- Iterators over a map's keys, collected: by the kit's laws on ranges over functions (turned from its worked proofs). -/
namespace Go.Proofs.YtdhpjdhloaoepaaGreat
open Go Go.Proofs
open Go.RowKit Go.Maps Go.Sort Go.Shelf

set_option maxRecDepth 100000 in
set_option maxHeartbeats 1000000 in
theorem it_keys1N_in {H : Type} (F : Fence) (n : Nat) (h10 : F.fn 243) (hro : F.round = none) (hn : 1 ≤ n) (l Bm b nn : Nat) (D0 : DataW H) (J : List Int → World → Prop)
    (hY : ∀ pre x W, J pre W → pre.length < Maps.size D0 → YieldAt F (n - 1) Tryz.prog l #[encZ x] W fun e W' => e = .returned (.bool true) ∧ J (pre ++ [x]) W' ∧ KeepsWalks W W')
    (W : World) (hJ : AbidesFrom W.heap.size J) (hm : W.cell? ⟨Bm, 0, none⟩ = some (.map (some b))) (hown : W.ownsMap Tryz.prog 3 (plainElem Tryz.prog 3) b nn D0) (h0 : J [] W) :
    CallsIn F n Tryz.prog 243 #[.func (.yield l) #[] #[], .pointer (some ⟨Bm, 0, none⟩)] W fun e W' => (∃ v, e = .returned v) ∧ ∃ ss : List Int, ss.Perm (intKeys D0) ∧ J ss W' := by
  refine callsIn_of_wp Tryz.func243 rfl h10 ?_ hro
  simp only [Tryz.ntmps243, List.size_toArray, List.length_cons, List.length_nil, Nat.reduceAdd, Nat.reduceSub, Array.replicate_succ, Array.replicate_zero, List.push_toArray, List.append_toArray, List.nil_append, List.cons_append]
  gi_wp2_with (first
    | (gi_at_range; refine wpListIn_range_own _ rfl _ 96 rfl 3 3 (int_keyed Tryz.underlying3) Tryz.underlying96 _ b nn _ rfl hown ?_; intro w0 hrg0 hg0 hs0)
    | gi_in)
  go_frame
  gi_loopw [3] (fun _ wr => ∃ (left : Lit → Bool) (cnt : Nat) (ss : List Int), wr.ranges Tryz.prog 3 (plainElem Tryz.prog 3) b W.heap.size nn D0 left cnt ∧ ss.length + cnt ≤ Maps.size D0 ∧ CollectedI D0 left ss ∧ J ss wr)
    (fun _ wr => wr.rangeLeft b W.heap.size)
  case atStart =>
    exact ⟨_, _, [], hrg0, by simp, CollectedI.start D0, hJ [] W w0 none h0 hg0 (fun r e => by cases e)⟩
  case round =>
    obtain ⟨left, cnt, ss, hrg, hcs, hC, hJs⟩ := hrel
    gi_wp2_with (first
      | (gi_at_next; refine wpListIn_next_ranges _ rfl _ rfl 3 (int_keyed Tryz.underlying3) (plainElem Tryz.prog 3) encZ (Value.int .i64) (fun key kl hk => by obtain ⟨x, hx, _⟩ := Maps.keyOf_i64 Tryz.underlying3 hk; exact ⟨x, hx⟩) (fun v y hv => by obtain ⟨c, rfl, _⟩ := plainElem_int_inv Tryz.underlying3 hv; exact ⟨c, rfl⟩) b W.heap.size nn _ _ _ rfl hrg ?_ ?_)
      | gi_in)
    · -- NOTHING IS LEFT
      intro hc0 hl0
      gi_wp2
      go_end0
      exact ⟨⟨_, rfl⟩, ss, hC.perm hown (int_keyed Tryz.underlying3) Tryz.underlying3 hl0, hJs⟩
    · -- AN ENTRY HAS COME: yield(k)
      intro x c kl yd yp w2 cnt2 hkey hlk hv hat hrg2 hlt hg2 hs2 hen
      obtain ⟨x', ex, rfl, _⟩ := Maps.keyOf_i64 Tryz.underlying3 hkey
      obtain rfl : x = x' := encZ_inj ex
      have hJ2 : J ss w2 := hJ ss wr w2 (some W.heap.size) hJs hg2 (fun r e => by cases e; exact ⟨Nat.le_refl _, hrg.iter_walk⟩)
      obtain ⟨fn, tmps, assign, body, hy, hR⟩ := hY ss x w2 hJ2 (by omega)
      clear hs2
      gi_wp2
      refine hR.mono ?_
      rintro e W3 ⟨rfl, hJ3, hk3⟩
      gi_wp2
      have hrg3 := hrg2.of_walks hk3
      go_roundw
      case rel => exact ⟨_, cnt2, ss ++ [x], hrg3, by simp; omega, hC.step hlk hat, hJ3⟩
      case measure => rw [hrg3.left_eq, hrg.left_eq]; exact hlt



theorem it_keys_gives {H : Type} (F : Fence) (n : Nat) (h10 : F.fn 243) (hro : F.round = none) (hn : 1 ≤ n) (Bm b nn : Nat) (D0 : DataW H) (w : World) (hBm : Bm < w.heap.size)
    (hm : w.cell? ⟨Bm, 0, none⟩ = some (.map (some b))) (hown : w.ownsMap Tryz.prog 3 (plainElem Tryz.prog 3) b nn D0) :
    SeqGives F n Tryz.prog 243 #[.pointer (some ⟨Bm, 0, none⟩)] encZ (fun ss => ss.Perm (intKeys D0)) (Maps.size D0) w := fun l J W hW hJ hY h0 => by
  have hown' : W.ownsMap Tryz.prog 3 (plainElem Tryz.prog 3) b nn D0 := by
    have hbl := hown.lt
    obtain ⟨es, clock, hb, Ft, hs, hD⟩ := hown
    exact ⟨es, clock, (hW.block b hbl).trans hb, Ft, hs, hD⟩
  exact it_keys1N_in F n h10 hro hn l Bm b nn D0 J hY W hJ ((hW.cell (p := ⟨Bm, 0, none⟩) hBm).trans hm) hown' h0


/-- The loop's assignment and body, as they stand in slices.AppendSeq. -/
noncomputable def it_parts : Code × Code := match Tryz.f255.body with
  | some (.seq _ (.seq (.seq _ (.block _ (.rangeFunc _ _ a b))) _)) => (a, b)
  | _ => (.skip, .skip)
noncomputable def it_apAssign : Code := it_parts.1
noncomputable def it_apBody : Code := it_parts.2
/-- The loop's record: its temporaries as they stood at the entering. -/
noncomputable def it_apRec (fn : FuncId) (sv : Value) (Bs D : Nat) (st : LoopState) (pend : Option Code) : Loop :=
  { state := st, pending := pend, fn, tmps := #[.slice none 0 0, sv, .pointer (some ⟨Bs, 0, none⟩), undef, .slice none 0 0, undef, sv, undef, undef, undef, undef, undef, undef], params := #[7], assign := it_apAssign, body := it_apBody, defers := D }


structure ItApAt (w0 : World) (fn : FuncId) (sv : Value) (Bs l D : Nat) (ss : List Int) (W : World) : Prop where
  box : ∃ v, W.heap[Bs]? = some (.cells #[v] 37 (0, 0)) ∧ W.ownsRow w0.heap.size 3 1 v ss.length (ss.map encZ) ∧ (v = .slice none 0 0 ↔ ss = [])
  L : W.heap[l]? = some (.loop (it_apRec fn sv Bs D .ready none))
  K : W.heap[D]? = some (.deferred (some []))
  below : Below w0.heap.size w0 W

theorem ownsRow_abides {W W' : World} {row : Option Nat} {base : Nat} {e : TypeId} {size : Nat} {v : Value} {k : Nat} {xs : List Value} (h : W.ownsRow base e size v k xs) (hg : W.grownBy W' row)
    (hrow : ∀ r, row = some r → ∃ o : Obj, W.heap[r]? = some o ∧ o.isWalk = true) : W'.ownsRow base e size v k xs := by
  refine h.kept hg ?_
  rcases h.2 with ⟨rfl, _⟩ | ⟨g, cap, cur, rfl, _, hgb, _⟩
  · exact .inl rfl
  · refine .inr fun e' => ?_
    obtain ⟨o, ho, hw⟩ := hrow g (by simpa [Value.ownBlock] using e'.symm)
    rw [hgb] at ho; cases ho; cases hw

theorem it_ap_abides (w0 : World) (fn : FuncId) (sv : Value) (Bs l D B : Nat) (hB : w0.heap.size ≤ B) : AbidesFrom B (ItApAt w0 fn sv Bs l D) := fun s W W' row h hg hrow => by
  have hrow' : ∀ r, row = some r → ∃ o : Obj, W.heap[r]? = some o ∧ o.isWalk = true := fun r e => (hrow r e).2
  obtain ⟨v, hv, hr, hn⟩ := h.box
  exact ⟨⟨v, (grownBy_keeps hg hrow' hv rfl).trans hv, ownsRow_abides hr hg hrow', hn⟩, (grownBy_keeps hg hrow' h.L rfl).trans h.L, (grownBy_keeps hg hrow' h.K rfl).trans h.K,
    h.below.grown hg h.below.size (fun k e => Nat.le_trans hB (hrow k e).1)⟩

theorem grownBy_putObj (W : World) (l : Nat) (o : Obj) : W.grownBy (W.putObj l o) (some l) :=
  ⟨rfl, rfl, rfl, by simp, fun k _ hk => World.putObj_heap_other (fun e => hk (by rw [e]))⟩
theorem grownBy_setCell0 (W : World) (b : Nat) (v : Value) : W.grownBy (W.setCell ⟨b, 0, none⟩ v) (some b) :=
  ⟨rfl, rfl, rfl, (KeepsWalks.setCell W _ v).size, fun k _ hk => Below.heap_setCell _ _ _ k (fun e => hk (by rw [e]))⟩
theorem ownsRow_ne {W : World} {base : Nat} {e : TypeId} {size : Nat} {v : Value} {k : Nat} {xs : List Value} (h : W.ownsRow base e size v k xs) {j : Nat} {o : Obj} (hj : W.heap[j]? = some o) (hno : ∀ cur, o ≠ .cells cur e (0, 0)) :
    v.ownBlock = none ∨ v.ownBlock ≠ some j := by
  rcases h.2 with ⟨rfl, _⟩ | ⟨g, cap, cur, rfl, _, hgb, _⟩
  · exact .inl rfl
  · refine .inr fun e' => ?_
    have : g = j := by simpa [Value.ownBlock] using e'
    subst this; rw [hgb] at hj; cases hj; exact hno cur rfl
theorem cell_of_box {W : World} {B : Nat} {v : Value} {t : TypeId} (h : W.heap[B]? = some (.cells #[v] t (0, 0))) : W.cell? ⟨B, 0, none⟩ = some v ∧ W.frozen? ⟨B, 0, none⟩ = false := by
  constructor <;> simp [World.cell?, World.frozen?, h]

theorem heap_setCell_box {W : World} {B : Nat} {v : Value} {t : TypeId} (v' : Value) (h : W.heap[B]? = some (.cells #[v] t (0, 0))) : (W.setCell ⟨B, 0, none⟩ v').heap[B]? = some (.cells #[v'] t (0, 0)) := by
  obtain ⟨hlt, hk⟩ := Array.getElem?_eq_some_iff.1 h
  show (W.heap.modify B _)[B]? = _
  rw [Array.getElem?_eq_getElem (by rw [Array.size_modify]; exact hlt), Array.getElem_modify_self, hk]
  rfl
theorem ownsRow_not_walk {W : World} {base : Nat} {e : TypeId} {size : Nat} {v : Value} {k : Nat} {xs : List Value} (h : W.ownsRow base e size v k xs) : ∀ (j : Nat) (o : Obj), v.ownBlock = some j → W.heap[j]? = some o → o.isWalk = false := by
  intro j o hj ho
  rcases h.2 with ⟨rfl, _⟩ | ⟨g, cap, cur, rfl, _, hgb, _⟩
  · simp [Value.ownBlock] at hj
  · have : g = j := by simpa [Value.ownBlock] using hj
    subst this; rw [hgb] at ho; cases ho; rfl


theorem it_info3 : (Tryz.prog.info? 3).map (fun i => (i.zero, i.size, i.bytes)) = some (some (.int .i64 0), 1, 8) := by kernel_rfl

set_option maxRecDepth 100000 in
set_option maxHeartbeats 2000000 in
theorem it_apYield (F : Fence) (m : Nat) (w0 : World) (fn : FuncId) (hfn : F.fn fn) (sv : Value) (Bs l D : Nat) (hBl : Bs ≠ l) (hDl : D ≠ l) (hDB : D ≠ Bs) (h0B : w0.heap.size ≤ Bs) (h0l : w0.heap.size ≤ l)
    (N : Nat) (hN : N ≤ maxLen) (hNb : N * 8 ≤ 140737488355328) (ss : List Int) (x : Int) (W : World) (h : ItApAt w0 fn sv Bs l D ss W) (hlen : ss.length < N) :
    YieldAt F m Tryz.prog l #[encZ x] W fun e W' => e = .returned (.bool true) ∧ ItApAt w0 fn sv Bs l D (ss ++ [x]) W' ∧ KeepsWalks W W' := by
  obtain ⟨i0, hi, hz0, hz1, hz2⟩ := info_parts it_info3
  obtain ⟨v, hv, hrow, _⟩ := h.box
  refine ⟨fn, #[.slice none 0 0, sv, .pointer (some ⟨Bs, 0, none⟩), undef, .slice none 0 0, undef, sv, encZ x, undef, undef, undef, undef, undef], it_apAssign, it_apBody, by simpa [it_apRec] using run_yield (P := Tryz.prog) (args := #[encZ x]) h.L rfl, roundIn_of_wpIn hfn ?_⟩
  have hl : l < W.heap.size := (Array.getElem?_eq_some_iff.1 h.L).1
  have hbr := run_beginRound (P := Tryz.prog) h.L rfl
  obtain ⟨W2, hW2⟩ : ∃ W2, W.putObj l (.loop { it_apRec fn sv Bs D .ready none with state := .busy }) = W2 := ⟨_, rfl⟩
  rw [hW2] at hbr
  have hg2 : W.grownBy W2 (some l) := by rw [← hW2]; exact grownBy_putObj _ _ _
  have hk2 : KeepsWalks W W2 := by rw [← hW2]; exact KeepsWalks.putObj _ h.L rfl
  have hv2 : W2.heap[Bs]? = some (.cells #[v] 37 (0, 0)) := by rw [← hW2]; exact (World.putObj_heap_other hBl).trans hv
  have hK2 : W2.heap[D]? = some (.deferred (some [])) := by rw [← hW2]; exact (World.putObj_heap_other hDl).trans h.K
  have hL2 : W2.heap[l]? = some (.loop { it_apRec fn sv Bs D .ready none with state := .busy }) := by rw [← hW2]; exact World.putObj_heap_same hl
  have hrow2 : W2.ownsRow w0.heap.size 3 1 v ss.length (ss.map encZ) := hrow.kept hg2 (ownsRow_ne hrow h.L (fun cur e => by cases e))
  have hb2 : Below w0.heap.size w0 W2 := h.below.grown hg2 h.below.size (fun k e => by cases e; exact h0l)
  obtain ⟨hc2, hf2⟩ := cell_of_box hv2
  have hBlt : Bs < W2.heap.size := (Array.getElem?_eq_some_iff.1 hv2).1
  have hl2 : l < W2.heap.size := (Array.getElem?_eq_some_iff.1 hL2).1
  have hDlt : D < W2.heap.size := (Array.getElem?_eq_some_iff.1 hK2).1
  have ne_of : ∀ {j : Nat} {o : Obj}, W2.heap[j]? = some o → (∀ cur, o ≠ .cells cur 3 (0, 0)) → some j ≠ v.ownBlock := fun hj hno => by
    rcases ownsRow_ne hrow2 hj hno with e | e
    · rw [e]; simp
    · exact fun e' => e e'.symm
  clear hW2
  unfold it_apAssign it_parts Tryz.f255; dsimp only
  gi_wp2_with (rw [Oper.semAt_eq _ _ _ (fun c h => by cases h)]; go_simp; try go_bits)
  unfold it_apBody it_parts Tryz.f255; dsimp only
  gi_wp2_with (first
    | (gi_at_builtin; refine wpListIn_append_own _ rfl _ _ 37 rfl w0.heap.size 3 i0 (.int .i64 0) 1 8 Tryz.underlying37 hi hz0 hz1 hz2 rfl (by decide) _ _ _ rfl (hrow2.alloc _) ⟨W2.heap.size, 0, none⟩ 1 1 [encZ x] rfl rfl (cell_one_new _ _ _) (by simp [Value.oneCell', encZ]) (by omega) (by omega) (by have := hb2.size; simp; omega) ?_; intro v' w3 hown' hg3 hnil3
       have hv3 : w3.heap[Bs]? = some (.cells #[v] 37 (0, 0)) := (hg3.block Bs (by simp; omega) (ne_of hv2 (fun cur e => by cases e))).trans ((Below.heap_alloc _ _ Bs hBlt).trans hv2)
       obtain ⟨hc3, hf3⟩ := cell_of_box hv3
       obtain ⟨g', cap', cur', rfl, hbase', hgb', hr1, hr2, hr3, hr4⟩ : ∃ g' cap' cur', v' = .slice (some ⟨g', 0, none⟩) (ss.length + 1) cap' ∧ w0.heap.size ≤ g' ∧ w3.heap[g']? = some (.cells cur' 3 (0, 0)) ∧ ss.length + 1 ≤ cap' ∧ cap' ≤ maxLen ∧ cur'.size = cap' * 1 ∧ cur'.toList.take ((ss.length + 1) * 1) = ss.map encZ ++ [encZ x] := by
         rcases hown'.2 with ⟨_, h0⟩ | h'
         · exact absurd h0 (by omega)
         · exact h'
       go_frame)
    | (rw [Oper.semAt_eq _ _ _ (fun c h => by cases h)]; go_simp; try go_bits))
  have hg3' : (W2.alloc (.cells #[encZ x] 3)).grownBy w3 v.ownBlock := hg3
  have hL3 : w3.heap[l]? = some (.loop { it_apRec fn sv Bs D .ready none with state := .busy }) := (hg3'.block l (by simp; omega) (ne_of hL2 (fun cur e => by cases e))).trans ((Below.heap_alloc _ _ l hl2).trans hL2)
  have hK3 : w3.heap[D]? = some (.deferred (some [])) := (hg3'.block D (by simp; omega) (ne_of hK2 (fun cur e => by cases e))).trans ((Below.heap_alloc _ _ D hDlt).trans hK2)
  obtain ⟨w4, hw4⟩ : ∃ w4, w3.setCell ⟨Bs, 0, none⟩ (.slice (some ⟨g', 0, none⟩) (ss.length + 1) cap') = w4 := ⟨_, rfl⟩
  rw [hw4]
  have hg4 : w3.grownBy w4 (some Bs) := by rw [← hw4]; exact grownBy_setCell0 _ _ _
  have hv4 : w4.heap[Bs]? = some (.cells #[.slice (some ⟨g', 0, none⟩) (ss.length + 1) cap'] 37 (0, 0)) := by rw [← hw4]; exact heap_setCell_box _ hv3
  have hL4 : w4.heap[l]? = some (.loop { it_apRec fn sv Bs D .ready none with state := .busy }) := (hg4.block l (Array.getElem?_eq_some_iff.1 hL3).1 (fun e => hBl (by cases e; rfl))).trans hL3
  have hK4 : w4.heap[D]? = some (.deferred (some [])) := (hg4.block D (Array.getElem?_eq_some_iff.1 hK3).1 (fun e => hDB (by cases e; rfl))).trans hK3
  have hrow4 := hown'.kept hg4 (ownsRow_ne hown' hv3 (fun cur e => by cases e))
  have hl4 : l < w4.heap.size := (Array.getElem?_eq_some_iff.1 hL4).1
  have hb3 : Below w0.heap.size w0 w3 := (hb2.alloc hb2.size _).grown hg3' (by have := hb2.size; simp; omega) (fun k e => (hrow2.lt k e).1)
  have hb4 : Below w0.heap.size w0 w4 := hb3.grown hg4 hb3.size (fun k e => by cases e; exact h0B)
  have hk4 : KeepsWalks W w4 := ((hk2.trans (KeepsWalks.alloc _ _)).trans (KeepsWalks.of_grownBy hg3' (ownsRow_not_walk (hrow2.alloc _)))).trans (by rw [← hw4]; exact KeepsWalks.setCell _ _ _)
  clear hw4
  refine ⟨_, _, run_endRound none hL4, rfl, ⟨⟨_, (World.putObj_heap_other hBl).trans hv4, ?_, by simp⟩, World.putObj_heap_same hl4, (World.putObj_heap_other hDl).trans hK4, hb4.grown (grownBy_putObj _ _ _) hb4.size (fun k e => by cases e; exact h0l)⟩, hk4.trans (KeepsWalks.putObj _ hL4 rfl)⟩
  have := hrow4.kept (grownBy_putObj w4 l (.loop { { it_apRec fn sv Bs D .ready none with state := .busy } with state := if (none : Option Code).isNone then .ready else .done, pending := none })) (ownsRow_ne hrow4 hL4 (fun cur e => by cases e))
  simpa using this


set_option maxRecDepth 100000 in
set_option maxHeartbeats 2000000 in
theorem it_appendSeq_in (F : Fence) (n : Nat) (h11 : F.fn 255) (hro : F.round = none) (hn : 2 ≤ n) (g : Nat) (lb : Array Value) (hFg : F.fn g) (eg : ∀ args w, (callFunc g args).run Tryz.prog w = .ok (.enter g args) w)
    (S : List Int → Prop) (N : Nat) (hN : N ≤ maxLen) (hNb : N * 8 ≤ 140737488355328) (w : World) (hseq : SeqGives F (n - 1) Tryz.prog g lb encZ S N w) :
    CallsIn F n Tryz.prog 255 #[.slice none 0 0, .func (.func g) #[] lb] w fun e w' => ∃ (v : Value) (ss : List Int), e = .returned v ∧ S ss ∧ w'.ownsRow w.heap.size 3 1 v ss.length (ss.map encZ) ∧ (v = .slice none 0 0 ↔ ss = []) ∧ Below w.heap.size w w' := by
  have h1 : 1 ≤ n := by omega
  refine callsIn_of_wp_marks Tryz.func255 rfl h11 ?_ hro
  simp only [Tryz.ntmps255, List.size_toArray, List.length_cons, List.length_nil, Nat.reduceAdd, Nat.reduceSub, Array.replicate_succ, Array.replicate_zero, List.push_toArray, List.append_toArray, List.nil_append, List.cons_append]
  gi_wp2
  refine wpIn_rangeFunc ?_
  intro fn hfn
  rw [hro]
  obtain ⟨W0, hW0⟩ : ∃ W0, w.alloc (.cells #[.slice none 0 0] 37) = W0 := ⟨_, rfl⟩
  have hs0 : W0.heap.size = w.heap.size + 1 := by rw [← hW0]; simp
  have hv0 : W0.heap[w.heap.size]? = some (.cells #[.slice none 0 0] 37 (0, 0)) := by rw [← hW0]; exact World.alloc_heap_new w _
  have hb0 : Below w.heap.size w W0 := by rw [← hW0]; exact (Below.refl _ w).alloc (Nat.le_refl _) _
  rw [hW0]
  obtain ⟨W1, hW1⟩ : ∃ W1, (W0.alloc (.deferred (some []))).alloc (.loop (it_apRec fn (.func (.func g) #[] lb) w.heap.size W0.heap.size .ready none)) = W1 := ⟨_, rfl⟩
  have hold : ∀ k, k < W0.heap.size → W1.heap[k]? = W0.heap[k]? := fun k hk => by
    rw [← hW1]; exact (Below.heap_alloc _ _ k (by simp; omega)).trans (Below.heap_alloc _ _ k hk)
  have hb1 : Below w.heap.size w W1 := by rw [← hW1]; exact (hb0.alloc hb0.size _).alloc (by have := hb0.size; simp; omega) _
  have hs1 : W1.heap.size = W0.heap.size + 2 := by rw [← hW1]; simp
  have hM : ItApAt w fn (.func (.func g) #[] lb) w.heap.size (W0.heap.size + 1) W0.heap.size [] W1 :=
    ⟨⟨_, (hold w.heap.size (by omega)).trans hv0, ⟨rfl, .inl ⟨rfl, rfl⟩⟩, by simp⟩,
     by rw [← hW1]; have := World.alloc_heap_new (W0.alloc (.deferred (some []))) (.loop (it_apRec fn (.func (.func g) #[] lb) w.heap.size W0.heap.size .ready none)); rwa [World.size_alloc] at this,
     by rw [← hW1]; exact (Below.heap_alloc _ _ _ (by simp)).trans (World.alloc_heap_new W0 _), hb1⟩
  refine ⟨W0.heap.size + 1, [{ target := .collected W0.heap.size, args := #[] }], W1, { target := .fn (.func g) lb, args := #[.func (.yield (W0.heap.size + 1)) #[] #[]] }, W1, g,
    #[.func (.yield (W0.heap.size + 1)) #[] #[]] ++ lb, W1, ?_, ?_, ?_, ?_, fun _ => h1, ?_⟩
  · rw [← hW1]; exact run_enterLoop_outer _ _ _ _ _
  · simp [resolve, go_sem]
  · intro f' hf'; simp [Target.leads] at hf'; subst hf'; exact hFg
  · simp [invoke, go_sem, eg]
  · refine (hseq (W0.heap.size + 1) (ItApAt w fn (.func (.func g) #[] lb) w.heap.size (W0.heap.size + 1) W0.heap.size) W1 hb1 (it_ap_abides _ _ _ _ _ _ _ hb1.size)
      (fun pre x W hJ hl => it_apYield F (n - 1 - 1) w fn hfn _ w.heap.size (W0.heap.size + 1) W0.heap.size (by omega) (by omega) (by omega) (Nat.le_refl _) (by omega) N hN hNb pre x W hJ hl) hM).mono ?_
    rintro e W2 ⟨⟨v0, rfl⟩, ss, hS, h2⟩
    obtain ⟨v, hv, hrow, hnil⟩ := h2.box
    have hend := run_endLoop (P := Tryz.prog) h2.L (by simp [it_apRec])
    obtain ⟨W3, hW3⟩ : ∃ W3, W2.putObj (W0.heap.size + 1) (.loop { it_apRec fn (.func (.func g) #[] lb) w.heap.size W0.heap.size .ready none with state := .exhausted }) = W3 := ⟨_, rfl⟩
    rw [hW3] at hend
    have hg3 : W2.grownBy W3 (some (W0.heap.size + 1)) := by rw [← hW3]; exact grownBy_putObj _ _ _
    have hv3 : W3.heap[w.heap.size]? = some (.cells #[v] 37 (0, 0)) := by rw [← hW3]; exact (World.putObj_heap_other (by omega)).trans hv
    have hK3 : W3.heap[W0.heap.size]? = some (.deferred (some [])) := by rw [← hW3]; exact (World.putObj_heap_other (by omega)).trans h2.K
    have hrow3 := hrow.kept hg3 (ownsRow_ne hrow h2.L (fun cur e => by cases e))
    have hb3 : Below w.heap.size w W3 := h2.below.grown hg3 h2.below.size (fun k e => by cases e; omega)
    obtain ⟨hc3, hf3⟩ := cell_of_box hv3
    clear hW3
    refine ⟨none, W3, hend, ?_⟩
    gi_wp2
    rw [← hs0]
    refine ⟨by simp, .inl ⟨_, _, rfl, run_takeDeferred hK3, ?_⟩⟩
    exact ⟨_, results_tmp rfl _ _ _, v, ss, rfl, hS, hrow3.kept (grownBy_putObj _ _ _) (ownsRow_ne hrow3 hK3 (fun cur e => by cases e)), hnil, hb3.grown (grownBy_putObj _ _ _) hb3.size (fun k e => by cases e; omega)⟩


set_option maxHeartbeats 1000000 in
theorem it_collect_in (F : Fence) (n : Nat) (h8 : F.fn 242) (h11 : F.fn 255) (hro : F.round = none) (hn : 3 ≤ n) (g : Nat) (lb : Array Value) (hFg : F.fn g) (eg : ∀ args w, (callFunc g args).run Tryz.prog w = .ok (.enter g args) w)
    (S : List Int → Prop) (N : Nat) (hN : N ≤ maxLen) (hNb : N * 8 ≤ 140737488355328) (w : World) (hseq : SeqGives F (n - 1 - 1) Tryz.prog g lb encZ S N w) :
    CallsIn F n Tryz.prog 242 #[.func (.func g) #[] lb] w fun e w' => ∃ (v : Value) (ss : List Int), e = .returned v ∧ S ss ∧ w'.ownsRow w.heap.size 3 1 v ss.length (ss.map encZ) ∧ (v = .slice none 0 0 ↔ ss = []) ∧ Below w.heap.size w w' := by
  have h1 : 1 ≤ n := by omega
  refine callsIn_of_wp Tryz.func242 rfl h8 ?_ hro
  simp only [Tryz.ntmps242, List.size_toArray, List.length_cons, List.length_nil, Nat.reduceAdd, Nat.reduceSub, Array.replicate_succ, Array.replicate_zero, List.push_toArray, List.append_toArray, List.nil_append, List.cons_append]
  gi_wp2_with (gi_at_call 255; refine (it_appendSeq_in F (n - 1) h11 hro (by omega) g lb hFg eg S N hN hNb _ hseq).mono ?_; rintro e w' ⟨v, ss, rfl, hS, hrow, hnil, hb⟩)
  go_ret
  exact ⟨v, ss, rfl, hS, hrow, hnil, hb⟩


end Go.Proofs.YtdhpjdhloaoepaaGreat

/- Envelopes: entries are compared; what the document fixes. -/
namespace Go.Proofs.YtdhpjdhloaoepaaGreat
open Go Go.Proofs
attribute [local irreducible] SC SN SR SQ SA SO
set_option maxRecDepth 100000
def EntD.same (x y : EntD) : Bool := x.client == y.client && (x.nonce == y.nonce && (x.fee == y.fee && (x.good == y.good && x.tx.same y.tx)))
end Go.Proofs.YtdhpjdhloaoepaaGreat

/- Maps whose keys are places: a view and a block. -/
namespace Go.Proofs.YtdhpjdhloaoepaaGreat
open Go Go.Proofs
set_option maxRecDepth 100000

/-- A place as a key. -/
def spotV (k : Int × Int) : Value := .agg #[.int .i64 k.1, .int .i64 k.2]
theorem run_eqSpotN (n : Nat) (s t : Int × Int) (w : World) : (Op.equalIn (n + 2) 301 (spotV s) (spotV t)).run Tryz.prog w = .ok (decide (s = t)) w := by
  have u3 := Tryz.underlying3
  have a3 := Tryz.isAgg3
  have z3 := Tryz.sizeOf3
  have hS : Tryz.prog.underlying 301 = some (.struct (Tryz.prog.fieldsOf 301)) := by kernel_rfl
  have hp : Tryz.prog.stoodInHeld 301 = false := by kernel_rfl
  rw [spotV, spotV, run_equalIn_agg w (n + 1) 301 _ _ hS hp]
  simp only [Program.fieldsOf, Tryz.underlying301]
  go_simp
  obtain ⟨s1, s2⟩ := s
  obtain ⟨t1, t2⟩ := t
  by_cases h1 : s1 = t1 <;> by_cases h2 : s2 = t2 <;> simp [h1, h2]

/-- The find of a key: what is answered, what is set. -/
theorem findSpot (k : Int × Int) : ∀ (es : List MapEntry) (m : List ((Int × Int) × Value)) (i : Nat), es.map (fun e => (e.key, e.val)) = m.map (fun p => (spotV p.1, p.2)) →
    ∃ r, (∀ w, (Instr.findAsking 301 (spotV k) es i).run Tryz.prog w = .ok r w) ∧ r.map (·.2) = mget m k ∧
      (∀ v, (r = none → m.map (fun p => (spotV p.1, p.2)) ++ [(spotV k, v)] = (mset m k v).map (fun p => (spotV p.1, p.2))) ∧
        ∀ j u, r = some (j, u) → i ≤ j ∧ (es[j - i]?).map (·.key) = some (spotV k) ∧ (m.map (fun p => (spotV p.1, p.2))).set (j - i) (spotV k, v) = (mset m k v).map (fun p => (spotV p.1, p.2)))
  | [], m, i, h => by
    cases m with
    | nil => exact ⟨none, fun w => by simp [Instr.findAsking], rfl, fun v => ⟨fun _ => rfl, fun _ _ h => by cases h⟩⟩
    | cons => cases h
  | e :: es, m, i, h => by
    cases m with
    | nil => cases h
    | cons p m =>
      obtain ⟨a, b⟩ := p
      simp only [List.map_cons, List.cons.injEq, Prod.mk.injEq] at h
      obtain ⟨⟨h1, h2⟩, h3⟩ := h
      have hq : ∀ w, (Op.equal 301 (spotV k) e.key).run Tryz.prog w = .ok (decide (k = a)) w := fun w => by rw [h1]; exact run_eqSpotN 9998 k a w
      by_cases hk : k = a
      · subst hk
        refine ⟨some (i, e.val), fun w => by simp [Instr.findAsking, hq], by simp [mget, h2], fun v => ⟨fun h => by simp at h, ?_⟩⟩
        intro j u hj
        simp at hj
        obtain ⟨rfl, rfl⟩ := hj
        simp [mset, h1]
      · obtain ⟨r, hr, hm, hall⟩ := findSpot k es m (i + 1) h3
        refine ⟨r, fun w => by simp [Instr.findAsking, hq, hk, hr], by simp [mget, hk, hm], fun v => ⟨fun hn => ?_, ?_⟩⟩
        · have := (hall v).1 hn
          simp [mset, hk, ← this]
        · intro j u hj
          obtain ⟨g1, g2, g3⟩ := (hall v).2 j u hj
          have : j - i = (j - (i + 1)) + 1 := by omega
          rw [this]
          refine ⟨by omega, by simpa using g2, ?_⟩
          simp [mset, hk, ← g3]
theorem run_findSpot {k : Int × Int} {es : List MapEntry} {m : List ((Int × Int) × Value)} (h : es.map (fun e => (e.key, e.val)) = m.map (fun p => (spotV p.1, p.2))) {r : Option (Nat × Value)} (hr : ∀ w, (Instr.findAsking 301 (spotV k) es 0).run Tryz.prog w = .ok r w) (w : World) :
    (Instr.findKey 301 (spotV k) es).run Tryz.prog w = .ok r w := by
  have hu : Tryz.prog.underlying 301 = some (.struct (Tryz.prog.fieldsOf 301)) := by kernel_rfl
  cases es with
  | nil =>
    have h0 := hr w
    simp [Instr.findAsking] at h0
    subst h0
    simp [Instr.findKey, run_underlying hu, Instr.findNow]
  | cons e es =>
    have hn : Instr.findNow (.struct (Tryz.prog.fieldsOf 301)) (spotV k) (e :: es) 0 = none := by simp [Instr.findNow, Instr.sameNow]
    simp [Instr.findKey, run_underlying hu, hn, hr]
theorem run_checkSpotN (n : Nat) (e : Bool) (k : Int × Int) (w : World) : (Instr.checkKey e (n + 1 + 1) 301 (spotV k)).run Tryz.prog w = .ok () w := by
  have u3 := Tryz.underlying3
  have a3 := Tryz.isAgg3
  have z3 := Tryz.sizeOf3
  have u301 := Tryz.underlying301
  have hI : ∀ x w, (Instr.checkKey e (n + 1) 3 (.int .i64 x)).run Tryz.prog w = .ok () w := fun x w => intK.check Tryz.prog 3 e n x w Tryz.underlying3
  rw [Instr.checkKey.eq_def]
  simp only [spotV]
  go_simp
theorem run_checkSpot (e : Bool) (k : Int × Int) (w : World) : (Instr.checkKey e 10000 301 (spotV k)).run Tryz.prog w = .ok () w := run_checkSpotN 9998 e k w
/-- A map of places of one's own. -/
def mapS (b : Nat) (m : List ((Int × Int) × Value)) : HProp := fun h => ∃ es ck, pt b (.map es ck) h ∧ es.toList.map (fun e => (e.key, e.val)) = m.map (fun p => (spotV p.1, p.2))
def mapSF (b : Nat) (m : List ((Int × Int) × Value)) : Hp → Prop := fun h => ∃ es ck, h b = some (.map es ck) ∧ es.toList.map (fun e => (e.key, e.val)) = m.map (fun p => (spotV p.1, p.2))
theorem Has.ms {W : World} {L R : List HProp} {b : Nat} {m : List ((Int × Int) × Value)} [t : TakeA L (mapS b m) R] : Has W L (mapSF b m) := fun w hw => by
  obtain ⟨h1, ⟨es, ck, hp, hx⟩, s⟩ := Den_head (hw.perm t.perm).2.2.2
  exact ⟨es, ck, s _ _ (pt_get hp), hx⟩
theorem mapSF.up {b : Nat} {m : List ((Int × Int) × Value)} : Up (mapSF b m) := fun _ _ s ⟨es, ck, e, x⟩ => ⟨es, ck, s _ _ e, x⟩
section
variable {W : World} {l : Env} {ty : TypeId} {L R : List HProp}
theorem RD_lookupS {x y : Operand} {b : Nat} {m : List ((Int × Int) × Value)} {k : Int × Int} {v : Value} (hx : ev l x = some (.map (some b))) (hy : ev l y = some (spotV k)) (hv : (mget m k).getD (.map none) = v) : RD Tryz.prog l (.lookup 167 x y false) ty (mapSF b m) v := fun ρ hρ w hR _ _ _ _ => by
  subst hv
  obtain ⟨es, ck, hb, hes⟩ := hR
  obtain ⟨r, hr, hm, _⟩ := findSpot k es.toList m 0 hes
  have hf := run_findSpot hes hr w
  have hg : (getObj b).run Tryz.prog w = .ok (.map es ck) w := by simp only at hb; simp [getObj, Sem.run, hb]
  have hc := run_checkSpot es.isEmpty k w
  have hu := run_underlying Tryz.underlying167
  have hz := Tryz.zeroValue96
  rw [← hm]
  cases r with
  | none => simp [execOp, hρ x _ hx, hρ y _ hy, Instr.lookup, hu, hg, hc, hf, hz]
  | some p => simp [execOp, hρ x _ hx, hρ y _ hy, Instr.lookup, hu, hg, hc, hf]
theorem run_updateS {b : Nat} {m : List ((Int × Int) × Value)} {k : Int × Int} {v : Value} {w : World} (hw : Sat W (mapS b m :: R) w) :
    ∃ w', (Instr.mapUpdate 167 (.map (some b)) (spotV k) v).run Tryz.prog w = .ok () w' ∧ Sat W (mapS b (mset m k v) :: R) w' := by
  obtain ⟨h1, h2, hd, he, ⟨es, ck, hp, hes⟩, hr⟩ := hw.2.2.2
  have hw' : Sat W (pt b (.map es ck) :: R) w := ⟨hw.1, hw.2.1, hw.2.2.1, h1, h2, hd, he, hp, hr⟩
  have hb := hw'.get
  have hg : (getObj b).run Tryz.prog w = .ok (.map es ck) w := by simp [getObj, Sem.run, hb]
  have hset : ∀ o w, Sat W (pt b (.map es ck) :: R) w → (setObj b o).run Tryz.prog w = .ok () { w with heap := w.heap.setIfInBounds b o } := fun o w hw => by simp [setObj, Sem.run, hw.get]
  obtain ⟨r, hrr, hmg, hall⟩ := findSpot k es.toList m 0 hes
  have hf := run_findSpot hes hrr w
  have hc := run_checkSpot false k w
  have hu := run_underlying Tryz.underlying167
  have fin : ∀ es' ck', es'.toList.map (fun e => (e.key, e.val)) = (mset m k v).map (fun p => (spotV p.1, p.2)) → Sat W (mapS b (mset m k v) :: R) { w with heap := w.heap.setIfInBounds b (.map es' ck') } := fun es' ck' h =>
    (hw'.setObj (o' := .map es' ck')).imp fun q ⟨q1, q2, qd, qe, qp, qr⟩ => ⟨q1, q2, qd, qe, ⟨es', ck', qp, h⟩, qr⟩
  cases r with
  | none =>
    refine ⟨_, ?_, fin (es.push { key := spotV k, val := v, born := ck }) (ck + 1) ?_⟩
    · simp [Instr.mapUpdate, hu, hg, hc, hf, hset _ w hw']
    · have := (hall v).1 rfl
      simp [hes, this]
  | some p =>
    obtain ⟨j, u⟩ := p
    obtain ⟨_, g2, g3⟩ := (hall v).2 j u rfl
    simp only [Nat.sub_zero] at g2 g3
    have hkey : ((es[j]?).map (·.key)).getD (spotV k) = spotV k := by
      have : (es[j]?).map (·.key) = some (spotV k) := by simpa using g2
      rw [this]; rfl
    have hbits : Instr.sameBits 10000 (spotV k) (spotV k) = true := by simp [Instr.sameBits, spotV]
    refine ⟨_, ?_, fin (es.modify j fun e => { e with key := spotV k, val := v }) ck ?_⟩
    · simp [Instr.mapUpdate, hu, hg, hc, hf, hkey, Instr.keyThatStays, hbits, hset _ w hw']
    · rw [← g3, ← hes]
      apply List.ext_getElem?
      intro i
      simp only [List.getElem?_map, Array.getElem?_toList, Array.getElem?_modify, List.getElem?_set]
      by_cases hij : j = i
      · subst hij
        have hj : j < es.size := by
          rcases Nat.lt_or_ge j es.size with h | h
          · exact h
          · simp [Array.getElem?_eq_none h] at g2
        simp [hj]
      · simp [hij]
theorem OX_updateS {x y z : Operand} {b : Nat} {m : List ((Int × Int) × Value)} {k : Int × Int} {v : Value} [t : TakeA L (mapS b m) R] (hx : ev l x = some (.map (some b))) (hy : ev l y = some (spotV k)) (hz : ev l z = some v) :
    OX W Tryz.prog l L (.mapUpdate 167 x y z) ty (fun _ L' => L' = mapS b (mset m k v) :: R) := OX.lands (fun q => Den_perm t.perm q) (fun ρ hρ w hw _ _ _ _ => by
  obtain ⟨w', hr, hS⟩ := run_updateS (k := k) (v := v) hw
  exact ⟨.skip, w', undef, _, by simp [execOp, hρ x _ hx, hρ y _ hy, hρ z _ hz, hr], .inr ⟨rfl, rfl⟩, rfl, hS⟩)
theorem mapS_new {b : Nat} : Lands (pt b (.map #[] 0) :: R) (mapS b [] :: R) := fun m ⟨m1, m2, d, e, h, r⟩ => ⟨m1, m2, d, e, ⟨#[], 0, h, rfl⟩, r⟩
end
end Go.Proofs.YtdhpjdhloaoepaaGreat

/- The keys of a set, collected and sorted. -/
namespace Go.Proofs.YtdhpjdhloaoepaaGreat
open Go Go.Proofs
open Go.RowKit Go.Maps Go.Sort Go.Shelf
set_option maxRecDepth 100000

/-- A set of numbers as a map. -/
def setV (ks : List Int) : List (Int × Value) := ks.map fun x => (x, .int .i64 1)

theorem Sat.more {W : World} {L : List HProp} [ha : Abs L] {w w' : World} (H : Sat W L w) (hb : Below w.heap.size w w') {g : Nat} {o : Obj} (hg : w.heap.size ≤ g) (ho : w'.heap[g]? = some o) : Sat W (pt g o :: L) w' := by
  refine ⟨hb.os.trans H.1, hb.tape.trans H.2.1, hb.output.trans H.2.2.1, ?_⟩
  -- the old blocks, the new ones but g, and g
  have hD : Den ((fun h => ∀ b, h b = if b < w.heap.size ∨ b = g then none else w'.heap[b]?) :: L) (fun b => if b = g then none else w'.heap[b]?) := by
    refine ⟨fun b => if b < w.heap.size ∨ b = g then none else w'.heap[b]?, fun b => w.heap[b]?, ?_, ?_, fun b => rfl, H.2.2.2⟩
    · intro b
      by_cases h : b < w.heap.size
      · left; simp [h]
      · right; exact Array.getElem?_eq_none (by omega)
    · funext b
      simp only [join]
      by_cases h : b < w.heap.size
      · have hne : b ≠ g := by omega
        simp only [hne, if_false, h, true_or, if_true, Option.none_or]
        exact hb.block b h
      · by_cases he : b = g
        · simp [he, Array.getElem?_eq_none (show w.heap.size ≤ g by omega)]
        · simp [h, he, Array.getElem?_eq_none (show w.heap.size ≤ b by omega)]
  refine ⟨fun b => if b = g then some o else none, fun b => if b = g then none else w'.heap[b]?, ?_, ?_, fun k => rfl, ha.h _ _ hD⟩
  · intro b
    by_cases h : b = g
    · right; simp [h]
    · left; simp [h]
  · funext b
    by_cases h : b = g
    · subst h; simp [join, ho]
    · simp [join, h]
theorem Sat.more0 {W : World} {L : List HProp} [ha : Abs L] {w w' : World} (H : Sat W L w) (hb : Below w.heap.size w w') : Sat W L w' := by
  refine ⟨hb.os.trans H.1, hb.tape.trans H.2.1, hb.output.trans H.2.2.1, ?_⟩
  refine ha.h (fun h => ∀ b, h b = if b < w.heap.size then none else w'.heap[b]?) _ ⟨fun b => if b < w.heap.size then none else w'.heap[b]?, fun b => w.heap[b]?, ?_, ?_, fun b => rfl, H.2.2.2⟩
  · intro b
    by_cases h : b < w.heap.size
    · left; simp [h]
    · right; exact Array.getElem?_eq_none (by omega)
  · funext b
    simp only [join]
    by_cases h : b < w.heap.size
    · simp only [h, if_true, Option.none_or]; exact hb.block b h
    · simp [h, Array.getElem?_eq_none (show w.heap.size ≤ b by omega)]

theorem rg_set {es : List MapEntry} {ks : List Int} (h : es.map (fun e => (e.key, e.val)) = (setV ks).map fun p => (intV p.1, p.2)) (hi : ∀ x ∈ ks, I64 x) :
    es.map (Go.WideElems.rg (H := Unit) Tryz.prog 3 (plainElem Tryz.prog 3)) = ks.map (fun x => (Lit.int .i64 x, DataW.lit (.int .i64 1))) ∧ ∀ x ∈ es, ∃ y, Go.WideElems.rd (H := Unit) Tryz.prog 3 (plainElem Tryz.prog 3) x = some y := by
  induction es generalizing ks with
  | nil => cases ks with
    | nil => exact ⟨rfl, fun x hx => nomatch hx⟩
    | cons => cases h
  | cons e es ih => cases ks with
    | nil => cases h
    | cons x ks =>
      simp only [setV, List.map_cons, List.cons.injEq, Prod.mk.injEq] at h
      obtain ⟨⟨h1, h2⟩, h3⟩ := h
      obtain ⟨g1, g2⟩ := ih (ks := ks) h3 (fun y hy => hi y (by simp [hy]))
      have hx := hi x (by simp)
      unfold I64 at hx
      have hw : (Lit.int .i64 x).wf = true := by
        simp only [Lit.wf, Bool.and_eq_true, decide_eq_true_eq]
        exact hx
      have hk : keyOf Tryz.prog 3 e.key = some (.int .i64 x) := by rw [h1]; simp [keyOf, mapKey, Tryz.underlying3, intV, hw]
      have hv : plainElem (H := Unit) Tryz.prog 3 e.val = some (.lit (.int .i64 1), []) := by rw [h2]; exact plainElem_int Tryz.underlying3 (by decide)
      have hrd : Go.WideElems.rd (H := Unit) Tryz.prog 3 (plainElem Tryz.prog 3) e = some (.int .i64 x, .lit (.int .i64 1)) := by simp [Go.WideElems.rd, hk, hv]
      refine ⟨by rw [List.map_cons, List.map_cons, g1, Go.WideElems.rg_of hrd], fun y hy => ?_⟩
      rcases List.mem_cons.1 hy with rfl | hy
      · exact ⟨_, hrd⟩
      · exact g2 y hy
theorem go_Collect {W : World} {F : List HProp} [Abs F] (B b : Nat) (ks : List Int) (hn : ks.length ≤ 1000000) (hi : ∀ x ∈ ks, I64 x) :
    CallsK W Tryz.prog 242 #[.func (.func 243) #[] #[.pointer (some ⟨B, 0, none⟩)]] (pt B (.cells [.map (some b)].toArray 96) :: mapP intK b (setV ks) :: F)
      (fun u L => ∃ (ss : List Int) (a : Option Addr) (c : Nat), ss.Perm ks ∧ u = .slice a ss.length c ∧ Lands L (rowP 3 1 a ss.length c (ss.map intV) :: pt B (.cells [.map (some b)].toArray 96) :: mapP intK b (setV ks) :: F)) := by
  intro w hw
  have hB := hw.get
  have hBl : B < w.heap.size := (Array.getElem?_eq_some_iff.1 hB).1
  obtain ⟨h1, h2, hd, he, hp1, k1, k2, hd2, he2, ⟨es, ck, hp, hes, hst⟩, hr⟩ := hw.2.2.2
  have hb : w.heap[b]? = some (.map es ck) := by
    have h3 : k1 b = some (.map es ck) := pt_get hp
    have h4 : h2 b = some (.map es ck) := by rw [he2]; simp [join, h3]
    have h5 : h1 b = none := by rcases hd b with e | e; exact e; rw [h4] at e; cases e
    have := congrFun he b
    rw [this]; simp [join, h5, h4]
  obtain ⟨hrg, hrd⟩ := rg_set hes hi
  have hsz : es.size = ks.length := by have := congrArg List.length hes; simpa [setV] using this
  have hown : w.ownsMap (H := Unit) Tryz.prog 3 (plainElem Tryz.prog 3) b ks.length (.map ((es.toList.map (Go.WideElems.rg Tryz.prog 3 (plainElem Tryz.prog 3))).foldr DataW.insert [])) :=
    ⟨es, ck, hb, ⟨by rw [hsz]; unfold maxLen; omega, hst, hrd⟩, by omega, rfl⟩
  have hsize : Maps.size (.map ((es.toList.map (Go.WideElems.rg (H := Unit) Tryz.prog 3 (plainElem Tryz.prog 3))).foldr DataW.insert [])) = ks.length := by
    rw [Maps.size_eq, (Go.WideShapes.sorted_perm _).length_eq, hrg, List.length_map]
  have hc : w.cell? ⟨B, 0, none⟩ = some (.map (some b)) := by simp [World.cell?, hB]
  have hseq := it_keys_gives Fence.wide 3 trivial rfl (by omega) B b ks.length _ w hBl hc hown
  rw [hsize] at hseq
  have hcc := it_collect_in Fence.wide 5 trivial trivial rfl (by omega) 243 #[.pointer (some ⟨B, 0, none⟩)] trivial (enters_of Tryz.func243 (by kernel_rfl) rfl) _ ks.length (by unfold maxLen; omega) (by omega) w hseq
  refine (callsIn_wide.1 hcc).mono ?_
  rintro e w' ⟨v, ss, rfl, hS, hrow, _, hbl⟩
  have hperm : ss.Perm ks := by
    refine hS.trans ?_
    show (((es.toList.map (Go.WideElems.rg (H := Unit) Tryz.prog 3 (plainElem Tryz.prog 3))).foldr DataW.insert []).map fun p => intOf p.1).Perm ks
    refine ((Go.WideShapes.sorted_perm _).map _).trans ?_
    rw [hrg, List.map_map]
    have : (fun x : Int => x) = ((fun p : Lit × DataW Unit => intOf p.1) ∘ fun x => (Lit.int .i64 x, DataW.lit (.int .i64 1))) := by funext x; rfl
    rw [← this, List.map_id']
  obtain ⟨hx, hrow⟩ := hrow
  rcases hrow with ⟨rfl, h0⟩ | ⟨g, cap, cur, rfl, hg, hgb, r1, r2, r3, r4⟩
  · have hss : ss = [] := List.eq_nil_of_length_eq_zero h0
    subst hss
    exact ⟨_, _, rfl, ⟨[], none, 0, hperm, rfl, fun q hq => (row_new 3 1 none) q hq⟩, hw.more0 hbl⟩
  · refine ⟨_, pt g (.cells cur 3) :: pt B (.cells [.map (some b)].toArray 96) :: mapP intK b (setV ks) :: F, rfl, ⟨ss, some ⟨g, 0, none⟩, cap, hperm, rfl, fun q hq => ?_⟩, hw.more hbl hg hgb⟩
    obtain ⟨q1, q2, d, e, hpt, r⟩ := hq
    refine ⟨q1, q2, d, e, .inr ⟨g, 0, cur, (0, 0), rfl, hpt, by simp, r1, by omega, .inl rfl, fun j u hj => ?_⟩, r⟩
    rw [Nat.zero_add]
    have hlt : j < ss.length := by have := (List.getElem?_eq_some_iff.1 hj).1; simpa using this
    have h3 : (cur.toList.take (ss.length * 1))[j]? = some u := by rw [r4]; exact hj
    rw [List.getElem?_take_of_lt (by omega)] at h3
    simpa using h3
end Go.Proofs.YtdhpjdhloaoepaaGreat
