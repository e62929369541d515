/- Envelopes are made: the vault by its count. -/
import Derived.Test.YtnifaajdiolbjaaTr4
namespace Go.Proofs.Ytnifaajdiolbjaa
open Go Go.Proofs
set_option maxRecDepth 100000
/-- A vault of so many ciphers. -/
def vaultI (q : Nat) (n : Nat) : HProp := fun h => ∃ need a c cs, Den [pt q (.cells [.int .i64 need, .slice a n c].toArray 142), rowP 139 3 a n c cs] h

theorem open_vault {q : Nat} {n : Nat} : Opens vaultI q n (fun x : (Int) × (Option Addr) × (Nat) × (List Value) => (x.2.2.2.length = n * 3)) (fun x R => (pt q (.cells [.int .i64 x.1, .slice x.2.1 n x.2.2.1].toArray 142)) :: (rowP 139 3 x.2.1 n x.2.2.1 x.2.2.2) :: R) := by
  rintro R m_ ⟨m1, m2, d, e, ⟨need, a, c, cs, h⟩, r⟩
  refine ⟨(need, a, c, cs), ?_, Den_app d e h r⟩
  obtain ⟨_, _, _, _, _, h1, h2, _, _, hr, _⟩ := h
  exact (rowP_len hr).1
theorem SC.op_vault {W : World} {P : Program} {L R : List HProp} {n_ : Nat} {c_ : Code} {k_ : Kont} {l_ : Env} {q : Nat} {n : Nat} [t_ : TakeAt L vaultI q n R] (h_ : ∀ (need : Int) (a : Option Addr) (c : Nat) (cs : List Value), (cs.length = n * 3) → SC W P n_ c_ k_ l_ ((pt q (.cells [.int .i64 need, .slice a n c].toArray 142)) :: (rowP 139 3 a n c cs) :: R)) : SC W P n_ c_ k_ l_ L := SC.opn (open_vault) fun x hx => h_ x.1 x.2.1 x.2.2.1 x.2.2.2 hx
theorem SN.op_vault {W : World} {P : Program} {L R : List HProp} {n_ : Nat} {k_ : Kont} {l_ : Env} {q : Nat} {n : Nat} [t_ : TakeAt L vaultI q n R] (h_ : ∀ (need : Int) (a : Option Addr) (c : Nat) (cs : List Value), (cs.length = n * 3) → SN W P n_ k_ l_ ((pt q (.cells [.int .i64 need, .slice a n c].toArray 142)) :: (rowP 139 3 a n c cs) :: R)) : SN W P n_ k_ l_ L := SN.opn (open_vault) fun x hx => h_ x.1 x.2.1 x.2.2.1 x.2.2.2 hx
theorem SR.op_vault {W : World} {P : Program} {L R : List HProp} {n_ : Nat} {ops_ : Array Oper} {os_ : List Oper} {k_ : Kont} {l_ : Env} {q : Nat} {n : Nat} [t_ : TakeAt L vaultI q n R] (h_ : ∀ (need : Int) (a : Option Addr) (c : Nat) (cs : List Value), (cs.length = n * 3) → SR W P n_ ops_ os_ k_ l_ ((pt q (.cells [.int .i64 need, .slice a n c].toArray 142)) :: (rowP 139 3 a n c cs) :: R)) : SR W P n_ ops_ os_ k_ l_ L := SR.opn (open_vault) fun x hx => h_ x.1 x.2.1 x.2.2.1 x.2.2.2 hx
theorem SQ.op_vault {W : World} {P : Program} {L R : List HProp} {n_ : Nat} {ops_ : Array Oper} {r_ : Ord} {Ts_ : Facts} {k_ : Kont} {l_ : Env} {q : Nat} {n : Nat} [t_ : TakeAt L vaultI q n R] (h_ : ∀ (need : Int) (a : Option Addr) (c : Nat) (cs : List Value), (cs.length = n * 3) → SQ W P n_ ops_ r_ Ts_ k_ l_ ((pt q (.cells [.int .i64 need, .slice a n c].toArray 142)) :: (rowP 139 3 a n c cs) :: R)) : SQ W P n_ ops_ r_ Ts_ k_ l_ L := SQ.opn (open_vault) fun x hx => h_ x.1 x.2.1 x.2.2.1 x.2.2.2 hx
theorem CallsK.op_vault {W : World} {P : Program} {L R : List HProp} {f_ : FuncId} {args_ : Array Value} {K_ : Value → List HProp → Prop} {q : Nat} {n : Nat} [t_ : TakeAt L vaultI q n R] (h_ : ∀ (need : Int) (a : Option Addr) (c : Nat) (cs : List Value), (cs.length = n * 3) → CallsK W P f_ args_ ((pt q (.cells [.int .i64 need, .slice a n c].toArray 142)) :: (rowP 139 3 a n c cs) :: R) K_) : CallsK W P f_ args_ L K_ := CallsK.opn (open_vault) fun x hx => h_ x.1 x.2.1 x.2.2.1 x.2.2.2 hx
theorem close_vault {L R R1 : List HProp} {q n c : Nat} {need : Int} {a : Option Addr} {cs : List Value} [t : TakePt L q (.cells [.int .i64 need, .slice a n c].toArray 142) R1] [u : TakeRow R1 a 139 3 n c cs R] : Lands L (At vaultI q n :: R) := fun m H => by
  obtain ⟨m1, m2, d, e, hq, hr⟩ := Den_perm t.perm m H
  have H2 : Den ([pt q (.cells [.int .i64 need, .slice a n c].toArray 142), rowP 139 3 a n c cs] ++ R) m := ⟨m1, m2, d, e, hq, Den_perm u.perm m2 hr⟩
  exact Lands.wrap (A := At vaultI q n) (fun z hz => ⟨need, a, c, cs, hz⟩) m H2
theorem vault_new {q : Nat} {need : Int} {R : List HProp} : Lands (pt q (.cells [.int .i64 need, .slice none 0 0].toArray 142) :: R) (At vaultI q 0 :: R) :=
  (row_new 139 3 none).trans (close_vault (q := q) (n := 0) (need := need) (a := none) (c := 0) (cs := []))

theorem seal_Seal {W : World} {F : List HProp} [Abs F] (q n : Nat) (hn : n ≤ 1000000) (lb : Int) (a0 : Option Addr) (n0 c0 : Nat) (cs0 : List Value) [Ones cs0] [HasRow F a0 cs0] (h0 : cs0.length = n0 * 1) (hb : n0 ≤ 1000000) :
    CallsK W Try.prog 76 #[.pointer (some ⟨q, 0, none⟩), .int .i64 lb, .slice a0 n0 c0] (At vaultI q n :: F) (fun v L => v = .int .i64 ((n + 1 : Nat) : Int) ∧ Lands L (At vaultI q (n + 1) :: F)) := by
  refine CallsK_enter (n := 26) Try.func76 rfl rfl rfl ?_
  refine SC_seq ?_
  refine SC_region ?_
  refine SR_pu (RD_assign rfl) rfl ?_
  refine SR_nil ?_
  refine SN.le (l := [(0, _), (1, _), (2, _)]) ?_ (.cons rfl (.cons rfl (.cons rfl (.nil))))
  refine SN_seq ?_
  refine SC_seq ?_
  refine SC.op_vault (q := q) fun need a c cs hcs => ?_
  refine SC_drawn (.cons 0 true (.cons 1 true (.cons 2 true (.cons 3 true (.cons 4 true (.cons 5 true (.cons 6 true (.alts [7, 8] (fun i => bif Nat.beq i 7 then (.cons 8 false (.cons 9 true (.cons 10 false (.cons 11 false (.cons 12 true (.cons 13 true (.cons 14 false (.nil)))))))) else (.cons 7 false (.cons 9 true (.cons 10 false (.cons 11 false (.cons 12 true (.cons 13 true (.cons 14 false (.nil))))))))))))))))) (by kernel_rfl) (by kernel_rfl) ?_
  refine SQ_pu rfl (RD_move rfl) rfl ?_
  refine SQ_pu rfl (RD_move rfl) rfl ?_
  first
    | refine SQ_pu rfl (RD_nilCheck rfl) rfl ?_
    | refine SQ_pu rfl (RD_nilCheckF rfl) rfl ?_
  first
    | refine SQ_pu rfl (RD_fieldAddr 1 Try.runUnderlying142 rfl rfl Try.sizeOf140 rfl) rfl ?_
    | refine SQ_rd rfl (RD_fieldAddrO 1 Try.runUnderlying142 rfl rfl Try.sizeOf140 rfl (by simp <;> omega)) Has.ro rfl ?_
  refine SQ_rd rfl (RD_load Try.isAgg140 rfl) (Has.ce rfl) rfl ?_
  refine SQ_pu rfl (RD_move rfl) rfl ?_
  refine SQ_pu rfl (RD_move rfl) rfl ?_
  refine SQ_two ?_ ?_
  · refine SA_call rfl .free Try.call93 (.cons rfl (.nil)) (clone_bytes cs0 a0 n0 c0 h0 (by omega)) (lts rfl) ?_
    rintro _ L1 ⟨a14, c14, rfl, hL1⟩
    refine ⟨.lands hL1 (.h (Has.ce rfl) (.nil)), ?_⟩
    refine SQ.lands hL1 ?_
    refine SQ_ox rfl (OX_mk intK) rfl ?_
    rintro _ _ ⟨b15, rfl, rfl⟩
    refine ⟨.h (Has.ce rfl) (.nil), ?_⟩
    refine SQ_pu rfl (RD_build (.cons rfl (.cons rfl (.cons rfl (.nil)))) built139_0_1_2) rfl ?_
    refine SQ_ox rfl (OX_lit Try.underlying140 Try.type139 rfl rfl rfl rfl (.cons rfl (.nil)) (.cons rfl rfl (.nil))) rfl ?_
    rintro _ _ ⟨b17, rfl, rfl⟩
    refine ⟨.h (Has.ce rfl) (.nil), ?_⟩
    refine SQ_ox rfl (OX_app 3 Try.underlying140 Try.underlying140 Try.type139 rfl rfl rfl rfl rfl (by first | rfl | simp; done | (simp; omega)) 40 rfl (by omega) (by omega)) rfl ?_
    rintro _ _ ⟨a18, c18, rfl, rfl⟩
    refine ⟨.w rfl (.nil), ?_⟩
    first
      | refine SQ_pu rfl (RD_nilCheck rfl) rfl ?_
      | refine SQ_pu rfl (RD_nilCheckF rfl) rfl ?_
    first
      | refine SQ_pu rfl (RD_fieldAddr 1 Try.runUnderlying142 rfl rfl Try.sizeOf140 rfl) rfl ?_
      | refine SQ_rd rfl (RD_fieldAddrO 1 Try.runUnderlying142 rfl rfl Try.sizeOf140 rfl (by simp <;> omega)) Has.ro rfl ?_
    refine SQ_ox0 rfl (OX_st Try.sizeOf140 rfl rfl) ?_
    rintro _ _ rfl
    refine ⟨.w rfl (.nil), ?_⟩
    refine SQ_nil ?_
    refine SN.le (l := [(0, _)]) ?_ (.cons rfl (.nil))
    refine SN_seq ?_
    refine SC_seq ?_
    refine SC_region ?_
    refine SR_pu (RD_move rfl) rfl ?_
    first
      | refine SR_pu (RD_nilCheck rfl) rfl ?_
      | refine SR_pu (RD_nilCheckF rfl) rfl ?_
    first
      | refine SR_pu (RD_fieldAddr 1 Try.runUnderlying142 rfl rfl Try.sizeOf140 rfl) rfl ?_
      | refine SR_rd (RD_fieldAddrO 1 Try.runUnderlying142 rfl rfl Try.sizeOf140 rfl (by simp <;> omega)) Has.ro rfl ?_
    refine SR_rd (RD_load Try.isAgg140 rfl) (Has.ce rfl) rfl ?_
    refine SR_pu (RD_len Try.runUnderlying140 rfl) rfl ?_
    refine SR_pu (RD_assign rfl) rfl ?_
    refine SR_nil ?_
    refine SN.le (l := [(6, _)]) ?_ (.cons rfl (.nil))
    refine SN_seq ?_
    refine SC_ret1 rfl rfl ?_
    exact ⟨rfl, (close_vault (q := q) (n := n + 1)).trans .fin⟩
  · refine SA_ox rfl .free (OX_mk intK) rfl ?_
    rintro _ _ ⟨b15, rfl, rfl⟩
    refine ⟨.h (Has.ce rfl) (.nil), ?_⟩
    refine SQ_call rfl Try.call93 (.cons rfl (.nil)) (clone_bytes cs0 a0 n0 c0 h0 (by omega)) (lts rfl) ?_
    rintro _ L1 ⟨a14, c14, rfl, hL1⟩
    refine ⟨.lands hL1 (.h (Has.ce rfl) (.nil)), ?_⟩
    refine SQ.lands hL1 ?_
    refine SQ_pu rfl (RD_build (.cons rfl (.cons rfl (.cons rfl (.nil)))) built139_0_1_2) rfl ?_
    refine SQ_ox rfl (OX_lit Try.underlying140 Try.type139 rfl rfl rfl rfl (.cons rfl (.nil)) (.cons rfl rfl (.nil))) rfl ?_
    rintro _ _ ⟨b17, rfl, rfl⟩
    refine ⟨.h (Has.ce rfl) (.nil), ?_⟩
    refine SQ_ox rfl (OX_app 3 Try.underlying140 Try.underlying140 Try.type139 rfl rfl rfl rfl rfl (by first | rfl | simp; done | (simp; omega)) 40 rfl (by omega) (by omega)) rfl ?_
    rintro _ _ ⟨a18, c18, rfl, rfl⟩
    refine ⟨.w rfl (.nil), ?_⟩
    first
      | refine SQ_pu rfl (RD_nilCheck rfl) rfl ?_
      | refine SQ_pu rfl (RD_nilCheckF rfl) rfl ?_
    first
      | refine SQ_pu rfl (RD_fieldAddr 1 Try.runUnderlying142 rfl rfl Try.sizeOf140 rfl) rfl ?_
      | refine SQ_rd rfl (RD_fieldAddrO 1 Try.runUnderlying142 rfl rfl Try.sizeOf140 rfl (by simp <;> omega)) Has.ro rfl ?_
    refine SQ_ox0 rfl (OX_st Try.sizeOf140 rfl rfl) ?_
    rintro _ _ rfl
    refine ⟨.w rfl (.nil), ?_⟩
    refine SQ_nil ?_
    refine SN.le (l := [(0, _)]) ?_ (.cons rfl (.nil))
    refine SN_seq ?_
    refine SC_seq ?_
    refine SC_region ?_
    refine SR_pu (RD_move rfl) rfl ?_
    first
      | refine SR_pu (RD_nilCheck rfl) rfl ?_
      | refine SR_pu (RD_nilCheckF rfl) rfl ?_
    first
      | refine SR_pu (RD_fieldAddr 1 Try.runUnderlying142 rfl rfl Try.sizeOf140 rfl) rfl ?_
      | refine SR_rd (RD_fieldAddrO 1 Try.runUnderlying142 rfl rfl Try.sizeOf140 rfl (by simp <;> omega)) Has.ro rfl ?_
    refine SR_rd (RD_load Try.isAgg140 rfl) (Has.ce rfl) rfl ?_
    refine SR_pu (RD_len Try.runUnderlying140 rfl) rfl ?_
    refine SR_pu (RD_assign rfl) rfl ?_
    refine SR_nil ?_
    refine SN.le (l := [(6, _)]) ?_ (.cons rfl (.nil))
    refine SN_seq ?_
    refine SC_ret1 rfl rfl ?_
    exact ⟨rfl, (close_vault (q := q) (n := n + 1)).trans .fin⟩

theorem w_Make {W : World} {F : List HProp} [Abs F] (k : WK) (s : WS) (n : Nat) (hn : n ≤ 1000000) (cl nc fe : Int) (hc : 0 ≤ cl ∧ cl ≤ 999) (h1 : 0 ≤ nc ∧ nc < 18446744073709551616) (h2 : 0 ≤ fe ∧ fe < 18446744073709551616) (a0 : Option Addr) (n0 c0 : Nat) (cs0 : List Value) [Ones cs0] [HasRow F a0 cs0] (h0 : cs0.length = n0 * 1) (hb : n0 ≤ 1000000) (hl : s.l.length ≤ 1000000000) :
    CallsK W Try.prog 35 #[.pointer (some ⟨k.p, 0, none⟩), .int .i64 cl, .int .u64 nc, .int .u64 fe, .slice a0 n0 c0] (At worldI k s :: At vaultI k.v n :: F) (fun v L => v = (EnvD.mk cl nc fe ((n + 1 : Nat) : Int)).val ∧ Lands L (At worldI k ⟨dput s.l (envB ⟨cl, nc, fe, ((n + 1 : Nat) : Int)⟩), (addTo s.S (1000 + cl) (dnum (dput s.l (envB ⟨cl, nc, fe, ((n + 1 : Nat) : Int)⟩)) (envB ⟨cl, nc, fe, ((n + 1 : Nat) : Int)⟩) : Nat))⟩ :: At vaultI k.v (n + 1) :: F)) := by
  refine CallsK_enter (n := 41) Try.func35 rfl rfl rfl ?_
  refine SC_seq ?_
  refine SC_region ?_
  refine SR_ox (OX_alloc Try.zeroValue39 rfl) rfl ?_
  rintro _ _ ⟨b10, rfl, rfl⟩
  refine SR_nil ?_
  refine SN.le (l := [(0, _), (1, _), (2, _), (3, _), (4, _), (10, _)]) ?_ (.cons rfl (.cons rfl (.cons rfl (.cons rfl (.cons rfl (.cons rfl (.nil)))))))
  refine SN_seq ?_
  refine SC_seq ?_
  refine SC_seq ?_
  refine SC_region ?_
  refine SR_pu (RD_move rfl) rfl ?_
  refine SR_pu (RD_lss rfl rfl) rfl ?_
  refine SR_pu (RD_move rfl) rfl ?_
  refine SR_yes rfl rfl (decide_eq_false (by omega)) ?_
  refine SR_pu (RD_move rfl) rfl ?_
  refine SR_yes rfl rfl (decide_eq_false (by omega)) ?_
  refine SR_pu (RD_gtr rfl rfl) rfl ?_
  refine SR_pu (RD_pick_f rfl (decide_eq_false (by omega)) rfl) rfl ?_
  refine SR_nil ?_
  refine SN.le (l := [(0, _), (1, _), (2, _), (3, _), (4, _), (10, _), (17, _)]) ?_ (.cons rfl (.cons rfl (.cons rfl (.cons rfl (.cons rfl (.cons rfl (.cons rfl (.nil))))))))
  refine SN_seq ?_
  refine SC_cond_false rfl (decide_eq_false (by omega)) ?_
  refine SC_skip ?_
  refine SN_seq ?_
  refine SC_seq ?_
  refine SC.lands (Lands.op_world (k := k) (s := s)) ?_
  refine SC_region ?_
  refine SR_pu (RD_move rfl) rfl ?_
  refine SR_pu (RD_move rfl) rfl ?_
  refine SR_pu (RD_move rfl) rfl ?_
  refine SR_pu (RD_move rfl) rfl ?_
  first
    | refine SR_pu (RD_nilCheck rfl) rfl ?_
    | refine SR_pu (RD_nilCheckF rfl) rfl ?_
  first
    | refine SR_pu (RD_fieldAddr 2 Try.runUnderlying102 rfl rfl Try.sizeOf83 rfl) rfl ?_
    | refine SR_rd (RD_fieldAddrO 2 Try.runUnderlying102 rfl rfl Try.sizeOf83 rfl (by simp <;> omega)) Has.ro rfl ?_
  refine SR_rd (RD_load Try.isAgg83 rfl) (Has.ce rfl) rfl ?_
  refine SR_pu (RD_move rfl) rfl ?_
  refine SR_pu (RD_move rfl) rfl ?_
  refine SR_call Try.call76 (.cons rfl (.cons rfl (.cons rfl (.nil)))) (CallsK.at (seal_Seal k.v n hn cl a0 n0 c0 cs0 h0 hb)) (lts rfl) ?_
  rintro _ L1 ⟨rfl, hL1⟩
  refine SR.lands hL1 ?_
  refine SR_pu (RD_build (.cons rfl (.cons rfl (.cons rfl (.cons rfl (.nil))))) built39_0_1_2_3) rfl ?_
  refine SR_ox (OX_alloc Try.zeroValue39 rfl) rfl ?_
  rintro _ _ ⟨b11, rfl, rfl⟩
  refine SR_ox0 (OX_stA (vs := EnvD.cells ⟨cl, nc, fe, ((n + 1 : Nat) : Int)⟩) Try.sizeOf39 rfl rfl rfl rfl) ?_
  rintro _ _ rfl
  refine SR_nil ?_
  refine SN.le (l := [(0, _), (1, _), (10, _), (11, _)]) ?_ (.cons rfl (.cons rfl (.cons rfl (.cons rfl (.nil)))))
  refine SN_seq ?_
  refine SC_seq ?_
  
  refine SC_drawn (.cons 0 true (.cons 1 true (.cons 2 true (.cons 3 true (.cons 4 true (.cons 5 true (.cons 6 true (.cons 7 true (.cons 8 false (.cons 9 false (.nil))))))))))) (by kernel_rfl) (by kernel_rfl) ?_
  refine SQ_pu rfl (RD_move rfl) rfl ?_
  first
    | refine SQ_pu rfl (RD_nilCheck rfl) rfl ?_
    | refine SQ_pu rfl (RD_nilCheckF rfl) rfl ?_
  first
    | refine SQ_pu rfl (RD_fieldAddr 1 Try.runUnderlying102 rfl rfl Try.sizeOf47 rfl) rfl ?_
    | refine SQ_rd rfl (RD_fieldAddrO 1 Try.runUnderlying102 rfl rfl Try.sizeOf47 rfl (by simp <;> omega)) Has.ro rfl ?_
  refine SQ_rd rfl (RD_load Try.isAgg47 rfl) (Has.ce rfl) rfl ?_
  refine SQ_pu rfl (RD_move rfl) rfl ?_
  refine SQ_pu rfl (RD_addi rfl rfl (by omega) (by omega)) rfl ?_
  refine SQ_pu rfl (RD_move rfl) rfl ?_
  refine SQ_rd rfl (RD_loadA Try.isAgg39 Try.sizeOf39 rfl rfl) Has.wh rfl ?_
  refine SQ_call rfl Try.call29 (.cons rfl (.cons rfl (.nil))) (CallsK.lands ((close_world (k := k) (l := s.l) (S := s.S)).trans .fin : Lands _ (At worldI k s :: pt b11 (.cells (EnvD.cells ⟨cl, nc, fe, ((n + 1 : Nat) : Int)⟩).toArray 39) :: pt b10 (.cells [.int .i64 0, .int .u64 0, .int .u64 0, .int .i64 0].toArray 39) :: At vaultI k.v (n + 1) :: F)) (w_EnvDigest k s ⟨cl, nc, fe, ((n + 1 : Nat) : Int)⟩ ⟨h1, h2⟩ hl _ _ rfl rfl)) (lts rfl) ?_
  rintro _ L2 ⟨rfl, hL2⟩
  have hL2b := hL2.trans open_world
  dsimp only at hL2b
  refine ⟨.lands hL2b (.w rfl (.h (Has.ce rfl) (.nil))), ?_⟩
  refine SQ.lands hL2b ?_
  refine SQ_call rfl Try.call51 (.cons rfl (.cons rfl (.cons rfl (.nil)))) (CallsK.at (book_Sign k.b s.S (1000 + cl) _)) (lts rfl) ?_
  rintro _ L3 ⟨rfl, hL3⟩
  refine ⟨.lands hL3 (.h Has.wh (.w rfl (.nil))), ?_⟩
  refine SQ.lands hL3 ?_
  refine SQ_nil ?_
  refine SN.le (l := [(10, _), (11, _)]) ?_ (.cons rfl (.cons rfl (.nil)))
  refine SN_seq ?_
  refine SC_seq ?_
  refine SC_region ?_
  refine SR_rd (RD_loadA Try.isAgg39 Try.sizeOf39 rfl rfl) Has.wh rfl ?_
  refine SR_ox0 (OX_stA (vs := EnvD.cells ⟨cl, nc, fe, ((n + 1 : Nat) : Int)⟩) Try.sizeOf39 rfl rfl rfl rfl) ?_
  rintro _ _ rfl
  refine SR_nil ?_
  refine SN.le (l := [(10, _)]) ?_ (.cons rfl (.nil))
  refine SN_seq ?_
  refine SC_retC rfl Try.isAgg39 Try.sizeOf39 rfl rfl Has.wh ?_
  exact ⟨rfl, (close_world (k := k)).trans .fin⟩

end Go.Proofs.Ytnifaajdiolbjaa
