/- Messages: their bytes written. -/
import Derived.Test.YtmigjpmadhebfaaMg1
namespace Go.Proofs.Ytmigjpmadhebfaa
open Go Go.Proofs
set_option maxRecDepth 100000
set_option linter.unusedSimpArgs false
theorem flat_take {X : Type} {f : X → List UInt8} {l : List X} {i : Nat} {x : X} (h : l[i]? = some x) : (l.take (i + 1)).flatMap f = (l.take i).flatMap f ++ f x := by
  rw [List.take_add_one, h]; simp

theorem mess_ints {W : World} {F : List HProp} [Abs F] (p : Nat) (bs : List UInt8) (a : Option Addr) (n c : Nat) (l : List Int) {cs : List Value} [HasRow F a cs] (hcs : cs = l.map intV) (hn : l.length = n) (hs : n ≤ 1000) (hb : bs.length ≤ 100000000) :
    CallsK W Try.prog 84 #[.pointer (some ⟨p, 0, none⟩), .slice a n c] (At writerI p bs :: F) (fun v L => v = .tuple #[] ∧ Lands L (At writerI p (bs ++ intsB l) :: F)) := by
  refine CallsK_enter (n := 20) Try.func84 rfl rfl rfl ?_
  subst hcs
  refine SC_seq ?_
  refine SC_region ?_
  refine SR_pu (RD_move rfl) rfl ?_
  refine SR_pu (RD_move rfl) rfl ?_
  refine SR_pu (RD_len Try.runUnderlying24 rfl) rfl ?_
  refine SR_call Try.call74 (.cons rfl (.cons rfl (.nil))) (CallsK.at (wire_Int p (bs) ((n : Nat)) (by (try simp only [List.length_append, bei_length, flat_len, ens_len, intsB_len, qcB_len, enB_len, List.length_take]); omega))) (lts rfl) ?_
  rintro _ L1 ⟨rfl, hL1⟩
  refine SR.lands hL1 ?_
  refine SR_nil ?_
  refine SN.le (l := [(0, _), (1, _)]) ?_ (.cons rfl (.cons rfl (.nil)))
  refine SN_seq ?_
  refine SC_seq ?_
  refine SC_region ?_
  refine SR_pu (RD_move rfl) rfl ?_
  refine SR_pu (RD_len Try.runUnderlying24 rfl) rfl ?_
  refine SR_pu (RD_move rfl) rfl ?_
  refine SR_nil ?_
  refine SN.le (l := [(0, _), (10, _), (11, _), (12, _)]) ?_ (.cons rfl (.cons rfl (.cons rfl (.cons rfl (.nil)))))
  refine SN_seq ?_
  refine SC_block ?_
  refine SC_ind (X := Nat) (fun i => i ≤ n) (fun i => n - i) (fun i => [(0, .pointer (some ⟨p, 0, none⟩)), (10, .slice a n c), (11, .int .i64 (n : Nat)), (12, .int .i64 (i : Nat))]) (fun i => At writerI p (bs ++ bei (n : Nat) ++ (l.take i).flatMap bei) :: F) (0) (by omega) (.cons rfl (.cons rfl (.cons rfl (.cons rfl (.nil))))) ((by simp only [List.take_zero, List.flatMap_nil, List.append_nil]; exact .fin)) ?_
  intro i hi ih
  refine SC_seq ?_
  refine SC_region ?_
  refine SR_pu (RD_lss rfl rfl) rfl ?_
  refine SR_nil ?_
  refine SN.le (l := [(0, _), (10, _), (11, _), (12, _), (13, _)]) ?_ (.cons rfl (.cons rfl (.cons rfl (.cons rfl (.cons rfl (.nil))))))
  refine SN_seq ?_
  refine SC_seq ?_
  refine SC_cond rfl (fun hc13 => ?_) (fun hc13 => ?_)
  · have hin : i < n := by simp at hc13; omega
    obtain ⟨x, hx⟩ : ∃ x, l[i]? = some x := ⟨_, List.getElem?_eq_getElem (by omega)⟩
    refine SC_skip ?_
    refine SN_seq ?_
    refine SC_seq ?_
    refine SC_block ?_
    refine SC_seq ?_
    refine SC_region ?_
    refine SR_rd (RD_ixO (cs := l.map intV) Try.runUnderlying24 Try.sizeOf3 rfl rfl (by simp; omega) (by omega) (by omega)) Has.ro rfl ?_
    refine SR_rd (RD_loadO (v := intV x) (cs := l.map intV) Try.isAgg3 rfl (by simp [hx])) Has.ro rfl ?_
    refine SR_pu (RD_assign rfl) rfl ?_
    refine SR_nil ?_
    refine SN.le (l := [(0, _), (5, _), (10, _), (11, _), (12, _)]) ?_ (.cons rfl (.cons rfl (.cons rfl (.cons rfl (.cons rfl (.nil))))))
    refine SN_seq ?_
    refine SC_region ?_
    refine SR_pu (RD_move rfl) rfl ?_
    refine SR_pu (RD_move rfl) rfl ?_
    refine SR_call Try.call74 (.cons rfl (.cons rfl (.nil))) (CallsK.at (wire_Int p ((bs ++ bei (n : Nat) ++ (l.take i).flatMap bei)) (x) (by (try simp only [List.length_append, bei_length, flat_len, ens_len, intsB_len, qcB_len, enB_len, List.length_take]); omega))) (lts rfl) ?_
    rintro _ L2 ⟨rfl, hL2⟩
    refine SR.lands hL2 ?_
    refine SR_nil ?_
    refine SN.le (l := [(0, _), (10, _), (11, _), (12, _)]) ?_ (.cons rfl (.cons rfl (.cons rfl (.cons rfl (.nil)))))
    refine SN_block ?_
    refine SN_seq ?_
    refine SC_region ?_
    refine SR_pu (RD_addi rfl rfl (by omega) (by omega)) rfl ?_
    refine SR_pu (RD_move rfl) rfl ?_
    refine SR_nil ?_
    refine SN.le (l := [(0, _), (10, _), (11, _), (12, _)]) ?_ (.cons rfl (.cons rfl (.cons rfl (.cons rfl (.nil)))))
    refine SC_again (ih (i + 1) (by omega) (by omega)) ((by rw [flat_take hx, ← List.append_assoc]; exact .fin)) (.cons rfl (.cons rfl (.cons rfl (.cons' rfl (ie (by omega)) (.nil)))))
  · have hin : i = n := by simp at hc13; omega
    have htk : l.take i = l := by rw [hin, ← hn, List.take_length]
    refine SC_exit rfl ?_
    refine SN_stop0 rfl ?_
    refine ⟨rfl, ?_⟩
    unfold intsB
    rw [hn, ← List.append_assoc]
    rw [htk]
    exact .fin

theorem mess_qc {W : World} {F : List HProp} [Abs F] (p : Nat) (bs : List UInt8) (q : QcD) {cs : List Value} [HasRow F q.by_.a cs] (hcs : cs = q.by_.l.map intV) (hn : q.by_.l.length = q.by_.n) (hs : q.by_.n ≤ 1000) (hb : bs.length ≤ 90000000) :
    CallsK W Try.prog 85 #[.pointer (some ⟨p, 0, none⟩), q.val] (At writerI p bs :: F) (fun v L => v = .tuple #[] ∧ Lands L (At writerI p (bs ++ qcB q.view q.block q.by_.l) :: F)) := by
  refine CallsK_enter (n := 16) Try.func85 rfl rfl rfl ?_
  subst hcs
  refine SC_seq ?_
  refine SC_region ?_
  refine SR_ox (OX_box rfl rfl) rfl ?_
  rintro _ _ ⟨b3, rfl, rfl⟩
  refine SR_nil ?_
  refine SN.le (l := [(0, _), (3, _)]) ?_ (.cons rfl (.cons rfl (.nil)))
  refine SN_seq ?_
  refine SC_seq ?_
  refine SC_region ?_
  refine SR_pu (RD_move rfl) rfl ?_
  first
    | refine SR_pu (RD_fieldAddr0 Try.runUnderlying26 rfl rfl Try.sizeOf3 rfl) rfl ?_
    | refine SR_rd (RD_fieldAddrO 0 Try.runUnderlying26 rfl rfl Try.sizeOf3 rfl (by simp <;> omega)) Has.ro rfl ?_
  refine SR_rd (RD_load Try.isAgg3 rfl) (Has.ce rfl) rfl ?_
  refine SR_call Try.call74 (.cons rfl (.cons rfl (.nil))) (CallsK.at (wire_Int p (bs) (q.view) (by (try simp only [List.length_append, bei_length, flat_len, ens_len, intsB_len, qcB_len, enB_len, List.length_take]); omega))) (lts rfl) ?_
  rintro _ L1 ⟨rfl, hL1⟩
  refine SR.lands hL1 ?_
  refine SR_nil ?_
  refine SN.le (l := [(0, _), (3, _)]) ?_ (.cons rfl (.cons rfl (.nil)))
  refine SN_seq ?_
  refine SC_seq ?_
  refine SC_region ?_
  refine SR_pu (RD_move rfl) rfl ?_
  first
    | refine SR_pu (RD_fieldAddr 1 Try.runUnderlying26 rfl rfl Try.sizeOf3 rfl) rfl ?_
    | refine SR_rd (RD_fieldAddrO 1 Try.runUnderlying26 rfl rfl Try.sizeOf3 rfl (by simp <;> omega)) Has.ro rfl ?_
  refine SR_rd (RD_load Try.isAgg3 rfl) (Has.ce rfl) rfl ?_
  refine SR_call Try.call74 (.cons rfl (.cons rfl (.nil))) (CallsK.at (wire_Int p (bs ++ bei q.view) (q.block) (by (try simp only [List.length_append, bei_length, flat_len, ens_len, intsB_len, qcB_len, enB_len, List.length_take]); omega))) (lts rfl) ?_
  rintro _ L2 ⟨rfl, hL2⟩
  refine SR.lands hL2 ?_
  refine SR_nil ?_
  refine SN.le (l := [(0, _), (3, _)]) ?_ (.cons rfl (.cons rfl (.nil)))
  refine SN_seq ?_
  refine SC_region ?_
  refine SR_pu (RD_move rfl) rfl ?_
  first
    | refine SR_pu (RD_fieldAddr 2 Try.runUnderlying26 rfl rfl Try.sizeOf24 rfl) rfl ?_
    | refine SR_rd (RD_fieldAddrO 2 Try.runUnderlying26 rfl rfl Try.sizeOf24 rfl (by simp <;> omega)) Has.ro rfl ?_
  refine SR_rd (RD_load Try.isAgg24 rfl) (Has.ce rfl) rfl ?_
  refine SR_call Try.call84 (.cons rfl (.cons rfl (.nil))) (CallsK.at (mess_ints p (bs ++ bei q.view ++ bei q.block) q.by_.a q.by_.n q.by_.c q.by_.l rfl hn hs (by simp only [List.length_append, bei_length]; omega))) (lts rfl) ?_
  rintro _ L3 ⟨rfl, hL3⟩
  refine SR.lands hL3 ?_
  refine SR_nil ?_
  refine SN.le (l := []) ?_ (.nil)
  refine SN_stop0 rfl ?_
  refine ⟨rfl, ?_⟩
  unfold qcB
  rw [← List.append_assoc, ← List.append_assoc]
  exact .fin

theorem mess_env {W : World} {F : List HProp} [Abs F] (p : Nat) (bs : List UInt8) (e : EnvD) (he : e.Good) (hb : bs.length ≤ 100000000) :
    CallsK W Try.prog 86 #[.pointer (some ⟨p, 0, none⟩), e.val] (At writerI p bs :: F) (fun v L => v = .tuple #[] ∧ Lands L (At writerI p (bs ++ enB e) :: F)) := by
  refine CallsK_enter (n := 20) Try.func86 rfl rfl rfl ?_
  refine SC_seq ?_
  refine SC_region ?_
  refine SR_ox (OX_box rfl rfl) rfl ?_
  rintro _ _ ⟨b3, rfl, rfl⟩
  refine SR_nil ?_
  refine SN.le (l := [(0, _), (3, _)]) ?_ (.cons rfl (.cons rfl (.nil)))
  refine SN_seq ?_
  refine SC_seq ?_
  refine SC_region ?_
  refine SR_pu (RD_move rfl) rfl ?_
  first
    | refine SR_pu (RD_fieldAddr0 Try.runUnderlying51 rfl rfl Try.sizeOf3 rfl) rfl ?_
    | refine SR_rd (RD_fieldAddrO 0 Try.runUnderlying51 rfl rfl Try.sizeOf3 rfl (by simp <;> omega)) Has.ro rfl ?_
  refine SR_rd (RD_load Try.isAgg3 rfl) (Has.ce rfl) rfl ?_
  refine SR_call Try.call74 (.cons rfl (.cons rfl (.nil))) (CallsK.at (wire_Int p (bs) (e.client) (by (try simp only [List.length_append, bei_length, flat_len, ens_len, intsB_len, qcB_len, enB_len, List.length_take]); omega))) (lts rfl) ?_
  rintro _ L1 ⟨rfl, hL1⟩
  refine SR.lands hL1 ?_
  refine SR_nil ?_
  refine SN.le (l := [(0, _), (3, _)]) ?_ (.cons rfl (.cons rfl (.nil)))
  refine SN_seq ?_
  refine SC_seq ?_
  refine SC_region ?_
  refine SR_pu (RD_move rfl) rfl ?_
  first
    | refine SR_pu (RD_fieldAddr 1 Try.runUnderlying51 rfl rfl Try.sizeOf49 rfl) rfl ?_
    | refine SR_rd (RD_fieldAddrO 1 Try.runUnderlying51 rfl rfl Try.sizeOf49 rfl (by simp <;> omega)) Has.ro rfl ?_
  refine SR_rd (RD_load Try.isAgg49 rfl) (Has.ce rfl) rfl ?_
  refine SR_call Try.call92 (.cons rfl (.cons rfl (.nil))) (CallsK.at (wire_Num p (bs ++ bei e.client) (e.nonce) he.2.2.1 (by (try simp only [List.length_append, bei_length, flat_len, ens_len, intsB_len, qcB_len, enB_len, List.length_take]); omega))) (lts rfl) ?_
  rintro _ L2 ⟨rfl, hL2⟩
  refine SR.lands hL2 ?_
  refine SR_nil ?_
  refine SN.le (l := [(0, _), (3, _)]) ?_ (.cons rfl (.cons rfl (.nil)))
  refine SN_seq ?_
  refine SC_seq ?_
  refine SC_region ?_
  refine SR_pu (RD_move rfl) rfl ?_
  first
    | refine SR_pu (RD_fieldAddr 2 Try.runUnderlying51 rfl rfl Try.sizeOf49 rfl) rfl ?_
    | refine SR_rd (RD_fieldAddrO 2 Try.runUnderlying51 rfl rfl Try.sizeOf49 rfl (by simp <;> omega)) Has.ro rfl ?_
  refine SR_rd (RD_load Try.isAgg49 rfl) (Has.ce rfl) rfl ?_
  refine SR_call Try.call92 (.cons rfl (.cons rfl (.nil))) (CallsK.at (wire_Num p (bs ++ bei e.client ++ bei e.nonce) (e.fee) he.2.2.2 (by (try simp only [List.length_append, bei_length, flat_len, ens_len, intsB_len, qcB_len, enB_len, List.length_take]); omega))) (lts rfl) ?_
  rintro _ L3 ⟨rfl, hL3⟩
  refine SR.lands hL3 ?_
  refine SR_nil ?_
  refine SN.le (l := [(0, _), (3, _)]) ?_ (.cons rfl (.cons rfl (.nil)))
  refine SN_seq ?_
  refine SC_region ?_
  refine SR_pu (RD_move rfl) rfl ?_
  first
    | refine SR_pu (RD_fieldAddr 3 Try.runUnderlying51 rfl rfl Try.sizeOf3 rfl) rfl ?_
    | refine SR_rd (RD_fieldAddrO 3 Try.runUnderlying51 rfl rfl Try.sizeOf3 rfl (by simp <;> omega)) Has.ro rfl ?_
  refine SR_rd (RD_load Try.isAgg3 rfl) (Has.ce rfl) rfl ?_
  refine SR_call Try.call74 (.cons rfl (.cons rfl (.nil))) (CallsK.at (wire_Int p (bs ++ bei e.client ++ bei e.nonce ++ bei e.fee) (e.cipher) (by (try simp only [List.length_append, bei_length, flat_len, ens_len, intsB_len, qcB_len, enB_len, List.length_take]); omega))) (lts rfl) ?_
  rintro _ L4 ⟨rfl, hL4⟩
  refine SR.lands hL4 ?_
  refine SR_nil ?_
  refine SN.le (l := []) ?_ (.nil)
  refine SN_stop0 rfl ?_
  refine ⟨rfl, ?_⟩
  unfold enB
  rw [← List.append_assoc, ← List.append_assoc, ← List.append_assoc]
  exact .fin

theorem mess_block {W : World} {F : List HProp} [Abs F] (p : Nat) (bs : List UInt8) (b : BlkD) (hB : BIn F b) (hb : bs.length ≤ 80000000) :
    CallsK W Try.prog 87 #[.pointer (some ⟨p, 0, none⟩), b.val] (At writerI p bs :: F) (fun v L => v = .tuple #[] ∧ Lands L (At writerI p (bs ++ blB b.pure) :: F)) := by
  refine CallsK_enter (n := 34) Try.func87 rfl rfl rfl ?_
  haveI := hB.r1.row
  haveI := hB.r2
  have hn1 := hB.r1.n
  have hs1 := hB.r1.s
  have hn2 := hB.n2
  have hs2 := hB.s
  refine SC_seq ?_
  refine SC_region ?_
  refine SR_ox (OX_box rfl rfl) rfl ?_
  rintro _ _ ⟨b3, rfl, rfl⟩
  refine SR_nil ?_
  refine SN.le (l := [(0, _), (3, _)]) ?_ (.cons rfl (.cons rfl (.nil)))
  refine SN_seq ?_
  refine SC_seq ?_
  refine SC_region ?_
  refine SR_pu (RD_move rfl) rfl ?_
  first
    | refine SR_pu (RD_fieldAddr0 Try.runUnderlying58 rfl rfl Try.sizeOf3 rfl) rfl ?_
    | refine SR_rd (RD_fieldAddrO 0 Try.runUnderlying58 rfl rfl Try.sizeOf3 rfl (by simp <;> omega)) Has.ro rfl ?_
  refine SR_rd (RD_load Try.isAgg3 rfl) (Has.ce rfl) rfl ?_
  refine SR_call Try.call74 (.cons rfl (.cons rfl (.nil))) (CallsK.at (wire_Int p (bs) (b.view) (by (try simp only [List.length_append, bei_length, flat_len, ens_len, intsB_len, qcB_len, enB_len, List.length_take]); omega))) (lts rfl) ?_
  rintro _ L1 ⟨rfl, hL1⟩
  refine SR.lands hL1 ?_
  refine SR_nil ?_
  refine SN.le (l := [(0, _), (3, _)]) ?_ (.cons rfl (.cons rfl (.nil)))
  refine SN_seq ?_
  refine SC_seq ?_
  refine SC_region ?_
  refine SR_pu (RD_move rfl) rfl ?_
  first
    | refine SR_pu (RD_fieldAddr 1 Try.runUnderlying58 rfl rfl Try.sizeOf3 rfl) rfl ?_
    | refine SR_rd (RD_fieldAddrO 1 Try.runUnderlying58 rfl rfl Try.sizeOf3 rfl (by simp <;> omega)) Has.ro rfl ?_
  refine SR_rd (RD_load Try.isAgg3 rfl) (Has.ce rfl) rfl ?_
  refine SR_call Try.call74 (.cons rfl (.cons rfl (.nil))) (CallsK.at (wire_Int p (bs ++ bei b.view) (b.author) (by (try simp only [List.length_append, bei_length, flat_len, ens_len, intsB_len, qcB_len, enB_len, List.length_take]); omega))) (lts rfl) ?_
  rintro _ L2 ⟨rfl, hL2⟩
  refine SR.lands hL2 ?_
  refine SR_nil ?_
  refine SN.le (l := [(0, _), (3, _)]) ?_ (.cons rfl (.cons rfl (.nil)))
  refine SN_seq ?_
  refine SC_seq ?_
  refine SC_region ?_
  refine SR_pu (RD_move rfl) rfl ?_
  first
    | refine SR_pu (RD_fieldAddr 2 Try.runUnderlying58 rfl rfl Try.sizeOf26 rfl) rfl ?_
    | refine SR_rd (RD_fieldAddrO 2 Try.runUnderlying58 rfl rfl Try.sizeOf26 rfl (by simp <;> omega)) Has.ro rfl ?_
  refine SR_rd (RD_loadA (vs := QcD.cells ⟨b.jv, b.jb, b.by_⟩) Try.isAgg26 Try.sizeOf26 rfl rfl) (Has.ces (cs := b.cells) fun j v h => by rcases j with _ | _ | _ | j <;> simp [QcD.cells, BlkD.cells] at h ⊢ <;> exact h) rfl ?_
  refine SR_call Try.call85 (.cons rfl (.cons rfl (.nil))) (CallsK.at (mess_qc p (bs ++ bei b.view ++ bei b.author) ⟨b.jv, b.jb, b.by_⟩ rfl hn1 (by dsimp only; omega) (by simp only [List.length_append, bei_length]; omega))) (lts rfl) ?_
  rintro _ L3 ⟨rfl, hL3⟩
  dsimp only at hL3
  refine SR.lands hL3 ?_
  refine SR_nil ?_
  refine SN.le (l := [(0, _), (3, _)]) ?_ (.cons rfl (.cons rfl (.nil)))
  refine SN_seq ?_
  refine SC_seq ?_
  refine SC_region ?_
  refine SR_pu (RD_move rfl) rfl ?_
  first
    | refine SR_pu (RD_fieldAddr 5 Try.runUnderlying58 rfl rfl Try.sizeOf56 rfl) rfl ?_
    | refine SR_rd (RD_fieldAddrO 5 Try.runUnderlying58 rfl rfl Try.sizeOf56 rfl (by simp <;> omega)) Has.ro rfl ?_
  refine SR_rd (RD_load Try.isAgg56 rfl) (Has.ce rfl) rfl ?_
  refine SR_pu (RD_len Try.runUnderlying56 rfl) rfl ?_
  refine SR_call Try.call74 (.cons rfl (.cons rfl (.nil))) (CallsK.at (wire_Int p (bs ++ bei b.view ++ bei b.author ++ qcB b.jv b.jb b.by_.l) ((b.envs.n : Nat)) (by (try simp only [List.length_append, bei_length, flat_len, ens_len, intsB_len, qcB_len, enB_len, List.length_take]); omega))) (lts rfl) ?_
  rintro _ L4 ⟨rfl, hL4⟩
  refine SR.lands hL4 ?_
  refine SR_nil ?_
  refine SN.le (l := [(0, _), (3, _)]) ?_ (.cons rfl (.cons rfl (.nil)))
  refine SN_seq ?_
  refine SC_seq ?_
  refine SC_region ?_
  first
    | refine SR_pu (RD_fieldAddr 5 Try.runUnderlying58 rfl rfl Try.sizeOf56 rfl) rfl ?_
    | refine SR_rd (RD_fieldAddrO 5 Try.runUnderlying58 rfl rfl Try.sizeOf56 rfl (by simp <;> omega)) Has.ro rfl ?_
  refine SR_rd (RD_load Try.isAgg56 rfl) (Has.ce rfl) rfl ?_
  refine SR_pu (RD_len Try.runUnderlying56 rfl) rfl ?_
  refine SR_pu (RD_move rfl) rfl ?_
  refine SR_nil ?_
  refine SN.le (l := [(0, _), (24, _), (25, _), (26, _)]) ?_ (.cons rfl (.cons rfl (.cons rfl (.cons rfl (.nil)))))
  refine SN_seq ?_
  refine SC_block ?_
  refine SC_ind (X := Nat) (fun i => i ≤ b.envs.n) (fun i => b.envs.n - i) (fun i => [(0, .pointer (some ⟨p, 0, none⟩)), (24, .slice b.envs.a b.envs.n b.envs.c), (25, .int .i64 (b.envs.n : Nat)), (26, .int .i64 (i : Nat))]) (fun i => At writerI p (bs ++ bei b.view ++ bei b.author ++ qcB b.jv b.jb b.by_.l ++ bei (b.envs.n : Nat) ++ (b.envs.l.take i).flatMap enB) :: F) (0) (by omega) (.cons rfl (.cons rfl (.cons rfl (.cons rfl (.nil))))) ((by simp only [List.take_zero, List.flatMap_nil, List.append_nil]; exact .fin)) ?_
  intro i hi ih
  refine SC_seq ?_
  refine SC_region ?_
  refine SR_pu (RD_lss rfl rfl) rfl ?_
  refine SR_nil ?_
  refine SN.le (l := [(0, _), (24, _), (25, _), (26, _), (27, _)]) ?_ (.cons rfl (.cons rfl (.cons rfl (.cons rfl (.cons rfl (.nil))))))
  refine SN_seq ?_
  refine SC_seq ?_
  refine SC_cond rfl (fun hc27 => ?_) (fun hc27 => ?_)
  · have hin : i < b.envs.n := by simp at hc27; omega
    obtain ⟨e, hx⟩ : ∃ x, b.envs.l[i]? = some x := ⟨_, List.getElem?_eq_getElem (by omega)⟩
    refine SC_skip ?_
    refine SN_seq ?_
    refine SC_seq ?_
    refine SC_block ?_
    refine SC_seq ?_
    refine SC_region ?_
    refine SR_rd (RD_ixO (cs := b.envs.l.flatMap EnvD.cells) Try.runUnderlying56 Try.sizeOf51 rfl rfl (by rw [env_len, hn2]) (by omega) (by omega)) Has.ro rfl ?_
    refine SR_rd (RD_loadAO (vs := e.cells) (cs := b.envs.l.flatMap EnvD.cells) Try.isAgg51 Try.sizeOf51 rfl rfl (by decide) (fun o v h => by have ho : o < 4 := (List.getElem?_eq_some_iff.1 h).1; rw [show ((i : Nat) : Int).toNat * (3 + 1) + o = i * 4 + o by omega, env_get hx o ho]; exact h)) Has.ro rfl ?_
    refine SR_ox (OX_alloc Try.zeroValue51 rfl) rfl ?_
    rintro _ _ ⟨b5, rfl, rfl⟩
    refine SR_ox0 (OX_stA (vs := e.cells) Try.sizeOf51 rfl rfl rfl rfl) ?_
    rintro _ _ rfl
    refine SR_nil ?_
    refine SN.le (l := [(0, _), (5, _), (24, _), (25, _), (26, _)]) ?_ (.cons rfl (.cons rfl (.cons rfl (.cons rfl (.cons rfl (.nil))))))
    refine SN_seq ?_
    refine SC_region ?_
    refine SR_pu (RD_move rfl) rfl ?_
    refine SR_rd (RD_loadA (vs := e.cells) Try.isAgg51 Try.sizeOf51 rfl rfl) Has.wh rfl ?_
    refine SR_call Try.call86 (.cons rfl (.cons rfl (.nil))) (CallsK.at (mess_env p (bs ++ bei b.view ++ bei b.author ++ qcB b.jv b.jb b.by_.l ++ bei (b.envs.n : Nat) ++ (b.envs.l.take i).flatMap enB) e (hB.e e (List.mem_of_getElem? hx)) (by simp only [List.length_append, bei_length, qcB_len, ens_len, List.length_take]; omega))) (lts rfl) ?_
    rintro _ L5 ⟨rfl, hL5⟩
    refine SR.lands hL5 ?_
    refine SR_nil ?_
    refine SN.le (l := [(0, _), (24, _), (25, _), (26, _)]) ?_ (.cons rfl (.cons rfl (.cons rfl (.cons rfl (.nil)))))
    refine SN_block ?_
    refine SN_seq ?_
    refine SC_region ?_
    refine SR_pu (RD_addi rfl rfl (by omega) (by omega)) rfl ?_
    refine SR_pu (RD_move rfl) rfl ?_
    refine SR_nil ?_
    refine SN.le (l := [(0, _), (24, _), (25, _), (26, _)]) ?_ (.cons rfl (.cons rfl (.cons rfl (.cons rfl (.nil)))))
    refine SC_again (ih (i + 1) (by omega) (by omega)) ((by rw [flat_take hx, ← List.append_assoc]; exact .fin)) (.cons rfl (.cons rfl (.cons rfl (.cons' rfl (ie (by omega)) (.nil)))))
  · have hin : i = b.envs.n := by simp at hc27; omega
    have htk : b.envs.l.take i = b.envs.l := by rw [hin, ← hn2, List.take_length]
    refine SC_exit rfl ?_
    refine SN_stop0 rfl ?_
    refine ⟨rfl, ?_⟩
    rw [htk, show blB b.pure = bei b.view ++ bei b.author ++ qcB b.jv b.jb b.by_.l ++ bei (b.envs.n : Nat) ++ b.envs.l.flatMap enB by unfold blB BlkD.pure; dsimp only; rw [hn2]]
    simp only [List.append_assoc]
    exact .fin

theorem mess_all {W : World} {F : List HProp} [Abs F] (m : MsgD) [hM : MsgIn F m] :
    CallsK W Try.prog 56 #[m.val] (F) (fun v L => (∃ a c, v = .slice a m.p.bytes.length c ∧ m.p.bytes.length ≤ 1000000 ∧ Lands L (rowP 5 1 a m.p.bytes.length c (m.p.bytes.map byteV) :: F))) := by
  refine CallsK_enter (n := 66) Try.func56 rfl rfl rfl ?_
  haveI := hM.q.row
  haveI := hM.t.row
  haveI := hM.h.row
  haveI := hM.k.row
  haveI := hM.b
  have q1 := hM.q.n
  have q2 := hM.q.s
  have t1 := hM.t.n
  have t2 := hM.t.s
  have h1 := hM.h.n
  have h2 := hM.h.s
  have k1 := hM.k.n
  have k2 := hM.k.s
  have nb1 := hM.n
  have nb2 := hM.s
  have hbs : ∀ b ∈ m.bl.l.map BlkD.pure, b.by_.length ≤ 200 ∧ b.envs.length ≤ 200 := fun b hb => by
    obtain ⟨x, hx, rfl⟩ := List.mem_map.1 hb
    have hX := hM.bs x hx
    exact ⟨by show x.by_.l.length ≤ _; rw [hX.r1.n]; exact hX.r1.s, by show x.envs.l.length ≤ _; rw [hX.n2]; exact hX.s⟩
  refine SC_seq ?_
  refine SC_region ?_
  refine SR_ox (OX_box rfl rfl) rfl ?_
  rintro _ _ ⟨b1, rfl, rfl⟩
  refine SR_pu (RD_assign rfl) rfl ?_
  refine SR_nil ?_
  refine SN.le (l := [(1, _)]) ?_ (.cons rfl (.nil))
  refine SN_seq ?_
  refine SC_seq ?_
  refine SC_region ?_
  refine SR_call Try.call72 (.nil) (wire_New) (lts rfl) ?_
  rintro _ L0 ⟨p, rfl, hL0⟩
  refine SR.lands hL0 ?_
  refine SR_pu (RD_assign rfl) rfl ?_
  refine SR_nil ?_
  refine SN.le (l := [(1, _), (3, _)]) ?_ (.cons rfl (.cons rfl (.nil)))
  refine SN_seq ?_
  refine SC_seq ?_
  refine SC_region ?_
  refine SR_pu (RD_move rfl) rfl ?_
  first
    | refine SR_pu (RD_fieldAddr0 Try.runUnderlying54 rfl rfl Try.sizeOf3 rfl) rfl ?_
    | refine SR_rd (RD_fieldAddrO 0 Try.runUnderlying54 rfl rfl Try.sizeOf3 rfl (by simp <;> omega)) Has.ro rfl ?_
  refine SR_rd (RD_load Try.isAgg3 rfl) (Has.ce rfl) rfl ?_
  first
    | refine SR_pu (RD_fieldAddr 1 Try.runUnderlying54 rfl rfl Try.sizeOf3 rfl) rfl ?_
    | refine SR_rd (RD_fieldAddrO 1 Try.runUnderlying54 rfl rfl Try.sizeOf3 rfl (by simp <;> omega)) Has.ro rfl ?_
  refine SR_rd (RD_load Try.isAgg3 rfl) (Has.ce rfl) rfl ?_
  first
    | refine SR_pu (RD_fieldAddr 2 Try.runUnderlying54 rfl rfl Try.sizeOf3 rfl) rfl ?_
    | refine SR_rd (RD_fieldAddrO 2 Try.runUnderlying54 rfl rfl Try.sizeOf3 rfl (by simp <;> omega)) Has.ro rfl ?_
  refine SR_rd (RD_load Try.isAgg3 rfl) (Has.ce rfl) rfl ?_
  first
    | refine SR_pu (RD_fieldAddr 3 Try.runUnderlying54 rfl rfl Try.sizeOf3 rfl) rfl ?_
    | refine SR_rd (RD_fieldAddrO 3 Try.runUnderlying54 rfl rfl Try.sizeOf3 rfl (by simp <;> omega)) Has.ro rfl ?_
  refine SR_rd (RD_load Try.isAgg3 rfl) (Has.ce rfl) rfl ?_
  first
    | refine SR_pu (RD_fieldAddr 4 Try.runUnderlying54 rfl rfl Try.sizeOf3 rfl) rfl ?_
    | refine SR_rd (RD_fieldAddrO 4 Try.runUnderlying54 rfl rfl Try.sizeOf3 rfl (by simp <;> omega)) Has.ro rfl ?_
  refine SR_rd (RD_load Try.isAgg3 rfl) (Has.ce rfl) rfl ?_
  refine SR_ox (OX_lit1 Try.underlying24 Try.type3 rfl rfl rfl rfl (.cons rfl (.cons rfl (.cons rfl (.cons rfl (.cons rfl (.nil)))))) (.cons rfl (.cons rfl (.cons rfl (.cons rfl (.cons rfl (.nil))))))) rfl ?_
  rintro _ _ ⟨b18, rfl, rfl⟩
  refine SR_call Try.call84 (.cons rfl (.cons rfl (.nil))) (CallsK.lands (lit_row (E := 3) (z := 1) (cs := [m.kind, m.from_, m.to_, m.view, m.num].map intV) 5 rfl) (CallsK.at (mess_ints p [] _ 5 5 [m.kind, m.from_, m.to_, m.view, m.num] rfl rfl (by omega) (by simp)))) (lts rfl) ?_
  rintro _ L1 ⟨rfl, hL1⟩
  refine SR.lands hL1 ?_
  refine SR_nil ?_
  refine SN.le (l := [(1, _), (3, _)]) ?_ (.cons rfl (.cons rfl (.nil)))
  refine SN_seq ?_
  refine SC_seq ?_
  refine SC_region ?_
  refine SR_pu (RD_move rfl) rfl ?_
  first
    | refine SR_pu (RD_fieldAddr 5 Try.runUnderlying54 rfl rfl Try.sizeOf26 rfl) rfl ?_
    | refine SR_rd (RD_fieldAddrO 5 Try.runUnderlying54 rfl rfl Try.sizeOf26 rfl (by simp <;> omega)) Has.ro rfl ?_
  refine SR_rd (RD_loadA (vs := m.qc.cells) Try.isAgg26 Try.sizeOf26 rfl rfl) (Has.ces (cs := m.cells) fun j v h => by rcases j with _ | _ | _ | j <;> simp [QcD.cells, MsgD.cells] at h ⊢ <;> exact h) rfl ?_
  refine SR_call Try.call85 (.cons rfl (.cons rfl (.nil))) (CallsK.at (mess_qc p (([] : List UInt8) ++ intsB [m.kind, m.from_, m.to_, m.view, m.num]) m.qc rfl q1 (by omega) (by simp only [List.length_append, List.length_nil, List.length_cons, bei_length, intsB_len, qcB_len, enB_len]; omega))) (lts rfl) ?_
  rintro _ L2 ⟨rfl, hL2⟩
  try dsimp only at hL2
  refine SR.lands hL2 ?_
  refine SR_nil ?_
  refine SN.le (l := [(1, _), (3, _)]) ?_ (.cons rfl (.cons rfl (.nil)))
  refine SN_seq ?_
  refine SC_seq ?_
  refine SC_region ?_
  refine SR_pu (RD_move rfl) rfl ?_
  first
    | refine SR_pu (RD_fieldAddr 8 Try.runUnderlying54 rfl rfl Try.sizeOf28 rfl) rfl ?_
    | refine SR_rd (RD_fieldAddrO 8 Try.runUnderlying54 rfl rfl Try.sizeOf28 rfl (by simp <;> omega)) Has.ro rfl ?_
  first
    | refine SR_pu (RD_fieldAddr0 Try.runUnderlying28 rfl rfl Try.sizeOf3 rfl) rfl ?_
    | refine SR_rd (RD_fieldAddrO 0 Try.runUnderlying28 rfl rfl Try.sizeOf3 rfl (by simp <;> omega)) Has.ro rfl ?_
  refine SR_rd (RD_load Try.isAgg3 rfl) (Has.ce rfl) rfl ?_
  refine SR_call Try.call74 (.cons rfl (.cons rfl (.nil))) (CallsK.at (wire_Int p (([] : List UInt8) ++ intsB [m.kind, m.from_, m.to_, m.view, m.num] ++ qcB m.qc.view m.qc.block m.qc.by_.l) m.tc.view (by simp only [List.length_append, List.length_nil, List.length_cons, bei_length, intsB_len, qcB_len, enB_len]; omega))) (lts rfl) ?_
  rintro _ L3 ⟨rfl, hL3⟩
  refine SR.lands hL3 ?_
  refine SR_nil ?_
  refine SN.le (l := [(1, _), (3, _)]) ?_ (.cons rfl (.cons rfl (.nil)))
  refine SN_seq ?_
  refine SC_seq ?_
  refine SC_region ?_
  refine SR_pu (RD_move rfl) rfl ?_
  first
    | refine SR_pu (RD_fieldAddr 8 Try.runUnderlying54 rfl rfl Try.sizeOf28 rfl) rfl ?_
    | refine SR_rd (RD_fieldAddrO 8 Try.runUnderlying54 rfl rfl Try.sizeOf28 rfl (by simp <;> omega)) Has.ro rfl ?_
  first
    | refine SR_pu (RD_fieldAddr 1 Try.runUnderlying28 rfl rfl Try.sizeOf24 rfl) rfl ?_
    | refine SR_rd (RD_fieldAddrO 1 Try.runUnderlying28 rfl rfl Try.sizeOf24 rfl (by simp <;> omega)) Has.ro rfl ?_
  refine SR_rd (RD_load Try.isAgg24 rfl) (Has.ce rfl) rfl ?_
  refine SR_call Try.call84 (.cons rfl (.cons rfl (.nil))) (CallsK.at (mess_ints p (([] : List UInt8) ++ intsB [m.kind, m.from_, m.to_, m.view, m.num] ++ qcB m.qc.view m.qc.block m.qc.by_.l ++ bei m.tc.view) m.tc.by_.a m.tc.by_.n m.tc.by_.c m.tc.by_.l rfl t1 (by omega) (by simp only [List.length_append, List.length_nil, List.length_cons, bei_length, intsB_len, qcB_len, enB_len]; omega))) (lts rfl) ?_
  rintro _ L4 ⟨rfl, hL4⟩
  try dsimp only at hL4
  refine SR.lands hL4 ?_
  refine SR_nil ?_
  refine SN.le (l := [(1, _), (3, _)]) ?_ (.cons rfl (.cons rfl (.nil)))
  refine SN_seq ?_
  refine SC_seq ?_
  refine SC_region ?_
  refine SR_pu (RD_move rfl) rfl ?_
  first
    | refine SR_pu (RD_fieldAddr 8 Try.runUnderlying54 rfl rfl Try.sizeOf28 rfl) rfl ?_
    | refine SR_rd (RD_fieldAddrO 8 Try.runUnderlying54 rfl rfl Try.sizeOf28 rfl (by simp <;> omega)) Has.ro rfl ?_
  first
    | refine SR_pu (RD_fieldAddr 2 Try.runUnderlying28 rfl rfl Try.sizeOf24 rfl) rfl ?_
    | refine SR_rd (RD_fieldAddrO 2 Try.runUnderlying28 rfl rfl Try.sizeOf24 rfl (by simp <;> omega)) Has.ro rfl ?_
  refine SR_rd (RD_load Try.isAgg24 rfl) (Has.ce rfl) rfl ?_
  refine SR_call Try.call84 (.cons rfl (.cons rfl (.nil))) (CallsK.at (mess_ints p (([] : List UInt8) ++ intsB [m.kind, m.from_, m.to_, m.view, m.num] ++ qcB m.qc.view m.qc.block m.qc.by_.l ++ bei m.tc.view ++ intsB m.tc.by_.l) m.tc.highs.a m.tc.highs.n m.tc.highs.c m.tc.highs.l rfl h1 (by omega) (by simp only [List.length_append, List.length_nil, List.length_cons, bei_length, intsB_len, qcB_len, enB_len]; omega))) (lts rfl) ?_
  rintro _ L5 ⟨rfl, hL5⟩
  try dsimp only at hL5
  refine SR.lands hL5 ?_
  refine SR_nil ?_
  refine SN.le (l := [(1, _), (3, _)]) ?_ (.cons rfl (.cons rfl (.nil)))
  refine SN_seq ?_
  refine SC_seq ?_
  refine SC_region ?_
  refine SR_pu (RD_move rfl) rfl ?_
  first
    | refine SR_pu (RD_fieldAddr 8 Try.runUnderlying54 rfl rfl Try.sizeOf28 rfl) rfl ?_
    | refine SR_rd (RD_fieldAddrO 8 Try.runUnderlying54 rfl rfl Try.sizeOf28 rfl (by simp <;> omega)) Has.ro rfl ?_
  first
    | refine SR_pu (RD_fieldAddr 3 Try.runUnderlying28 rfl rfl Try.sizeOf26 rfl) rfl ?_
    | refine SR_rd (RD_fieldAddrO 3 Try.runUnderlying28 rfl rfl Try.sizeOf26 rfl (by simp <;> omega)) Has.ro rfl ?_
  refine SR_rd (RD_loadA (vs := m.tc.high.cells) Try.isAgg26 Try.sizeOf26 rfl rfl) (Has.ces (cs := m.cells) fun j v h => by rcases j with _ | _ | _ | j <;> simp [QcD.cells, MsgD.cells] at h ⊢ <;> exact h) rfl ?_
  refine SR_call Try.call85 (.cons rfl (.cons rfl (.nil))) (CallsK.at (mess_qc p (([] : List UInt8) ++ intsB [m.kind, m.from_, m.to_, m.view, m.num] ++ qcB m.qc.view m.qc.block m.qc.by_.l ++ bei m.tc.view ++ intsB m.tc.by_.l ++ intsB m.tc.highs.l) m.tc.high rfl k1 (by omega) (by simp only [List.length_append, List.length_nil, List.length_cons, bei_length, intsB_len, qcB_len, enB_len]; omega))) (lts rfl) ?_
  rintro _ L6 ⟨rfl, hL6⟩
  try dsimp only at hL6
  refine SR.lands hL6 ?_
  refine SR_nil ?_
  refine SN.le (l := [(1, _), (3, _)]) ?_ (.cons rfl (.cons rfl (.nil)))
  refine SN_seq ?_
  refine SC_seq ?_
  refine SC_region ?_
  refine SR_pu (RD_move rfl) rfl ?_
  first
    | refine SR_pu (RD_fieldAddr 14 Try.runUnderlying54 rfl rfl Try.sizeOf51 rfl) rfl ?_
    | refine SR_rd (RD_fieldAddrO 14 Try.runUnderlying54 rfl rfl Try.sizeOf51 rfl (by simp <;> omega)) Has.ro rfl ?_
  refine SR_rd (RD_loadA (vs := m.env.cells) Try.isAgg51 Try.sizeOf51 rfl rfl) (Has.ces (cs := m.cells) fun j v h => by rcases j with _ | _ | _ | _ | j <;> simp [EnvD.cells, MsgD.cells] at h ⊢ <;> exact h) rfl ?_
  refine SR_call Try.call86 (.cons rfl (.cons rfl (.nil))) (CallsK.at (mess_env p (([] : List UInt8) ++ intsB [m.kind, m.from_, m.to_, m.view, m.num] ++ qcB m.qc.view m.qc.block m.qc.by_.l ++ bei m.tc.view ++ intsB m.tc.by_.l ++ intsB m.tc.highs.l ++ qcB m.tc.high.view m.tc.high.block m.tc.high.by_.l) m.env hM.e (by simp only [List.length_append, List.length_nil, List.length_cons, bei_length, intsB_len, qcB_len, enB_len]; omega))) (lts rfl) ?_
  rintro _ L7 ⟨rfl, hL7⟩
  try dsimp only at hL7
  refine SR.lands hL7 ?_
  refine SR_nil ?_
  refine SN.le (l := [(1, _), (3, _)]) ?_ (.cons rfl (.cons rfl (.nil)))
  refine SN_seq ?_
  refine SC_seq ?_
  refine SC_region ?_
  refine SR_pu (RD_move rfl) rfl ?_
  first
    | refine SR_pu (RD_fieldAddr 18 Try.runUnderlying54 rfl rfl Try.sizeOf52 rfl) rfl ?_
    | refine SR_rd (RD_fieldAddrO 18 Try.runUnderlying54 rfl rfl Try.sizeOf52 rfl (by simp <;> omega)) Has.ro rfl ?_
  refine SR_rd (RD_load Try.isAgg52 rfl) (Has.ce rfl) rfl ?_
  refine SR_pu (RD_len Try.runUnderlying52 rfl) rfl ?_
  refine SR_call Try.call74 (.cons rfl (.cons rfl (.nil))) (CallsK.at (wire_Int p (([] : List UInt8) ++ intsB [m.kind, m.from_, m.to_, m.view, m.num] ++ qcB m.qc.view m.qc.block m.qc.by_.l ++ bei m.tc.view ++ intsB m.tc.by_.l ++ intsB m.tc.highs.l ++ qcB m.tc.high.view m.tc.high.block m.tc.high.by_.l ++ enB m.env) (m.bl.n : Nat) (by simp only [List.length_append, List.length_nil, List.length_cons, bei_length, intsB_len, qcB_len, enB_len]; omega))) (lts rfl) ?_
  rintro _ L8 ⟨rfl, hL8⟩
  refine SR.lands hL8 ?_
  refine SR_nil ?_
  refine SN.le (l := [(1, _), (3, _)]) ?_ (.cons rfl (.cons rfl (.nil)))
  refine SN_seq ?_
  refine SC_seq ?_
  refine SC_seq ?_
  refine SC_region ?_
  first
    | refine SR_pu (RD_fieldAddr 18 Try.runUnderlying54 rfl rfl Try.sizeOf52 rfl) rfl ?_
    | refine SR_rd (RD_fieldAddrO 18 Try.runUnderlying54 rfl rfl Try.sizeOf52 rfl (by simp <;> omega)) Has.ro rfl ?_
  refine SR_rd (RD_load Try.isAgg52 rfl) (Has.ce rfl) rfl ?_
  refine SR_pu (RD_len Try.runUnderlying52 rfl) rfl ?_
  refine SR_pu (RD_move rfl) rfl ?_
  refine SR_nil ?_
  refine SN.le (l := [(3, _), (54, _), (55, _), (56, _)]) ?_ (.cons rfl (.cons rfl (.cons rfl (.cons rfl (.nil)))))
  refine SN_seq ?_
  refine SC_block ?_
  refine SC_ind (X := Nat) (fun i => i ≤ m.bl.n) (fun i => m.bl.n - i) (fun i => [(3, .pointer (some ⟨p, 0, none⟩)), (54, .slice m.bl.a m.bl.n m.bl.c), (55, .int .i64 (m.bl.n : Nat)), (56, .int .i64 (i : Nat))]) (fun i => At writerI p ((([] : List UInt8) ++ intsB [m.kind, m.from_, m.to_, m.view, m.num] ++ qcB m.qc.view m.qc.block m.qc.by_.l ++ bei m.tc.view ++ intsB m.tc.by_.l ++ intsB m.tc.highs.l ++ qcB m.tc.high.view m.tc.high.block m.tc.high.by_.l ++ enB m.env ++ bei (m.bl.n : Nat)) ++ ((m.bl.l.map BlkD.pure).take i).flatMap blB) :: F) (0) (by omega) (.cons rfl (.cons rfl (.cons rfl (.cons rfl (.nil))))) ((by simp only [List.take_zero, List.flatMap_nil, List.append_nil]; exact .fin)) ?_
  intro i hi ih
  refine SC_seq ?_
  refine SC_region ?_
  refine SR_pu (RD_lss rfl rfl) rfl ?_
  refine SR_nil ?_
  refine SN.le (l := [(3, _), (54, _), (55, _), (56, _), (57, _)]) ?_ (.cons rfl (.cons rfl (.cons rfl (.cons rfl (.cons rfl (.nil))))))
  refine SN_seq ?_
  refine SC_seq ?_
  refine SC_cond rfl (fun hc57 => ?_) (fun hc57 => ?_)
  · have hin : i < m.bl.n := by simp at hc57; omega
    obtain ⟨x, hx⟩ : ∃ x, m.bl.l[i]? = some x := ⟨_, List.getElem?_eq_getElem (by omega)⟩
    have hxp : (m.bl.l.map BlkD.pure)[i]? = some x.pure := by rw [List.getElem?_map, hx]; rfl
    have hX : BIn F x := hM.bs x (List.mem_of_getElem? hx)
    have hbb : ((([] : List UInt8) ++ intsB [m.kind, m.from_, m.to_, m.view, m.num] ++ qcB m.qc.view m.qc.block m.qc.by_.l ++ bei m.tc.view ++ intsB m.tc.by_.l ++ intsB m.tc.highs.l ++ qcB m.tc.high.view m.tc.high.block m.tc.high.by_.l ++ enB m.env ++ bei (m.bl.n : Nat)) ++ ((m.bl.l.map BlkD.pure).take i).flatMap blB).length ≤ 80000000 := by
      have hbt := bls_len (l := (m.bl.l.map BlkD.pure).take i) (fun b hb => hbs b (List.mem_of_mem_take hb))
      rw [List.length_take, List.length_map] at hbt
      rw [List.length_append]
      have h2 : (([] : List UInt8) ++ intsB [m.kind, m.from_, m.to_, m.view, m.num] ++ qcB m.qc.view m.qc.block m.qc.by_.l ++ bei m.tc.view ++ intsB m.tc.by_.l ++ intsB m.tc.highs.l ++ qcB m.tc.high.view m.tc.high.block m.tc.high.by_.l ++ enB m.env ++ bei (m.bl.n : Nat)).length ≤ 20000 := by
        simp only [List.length_append, List.length_nil, List.length_cons, bei_length, intsB_len, qcB_len, enB_len]
        omega
      omega
    refine SC_skip ?_
    refine SN_seq ?_
    refine SC_seq ?_
    refine SC_block ?_
    refine SC_seq ?_
    refine SC_region ?_
    refine SR_rd (RD_ixO (cs := m.bl.l.flatMap BlkD.cells) Try.runUnderlying52 Try.sizeOf58 rfl rfl (by rw [blkds_len, nb1]) (by omega) (by omega)) Has.ro rfl ?_
    refine SR_rd (RD_loadAO (vs := x.cells) (cs := m.bl.l.flatMap BlkD.cells) Try.isAgg58 Try.sizeOf58 rfl rfl (by decide) (fun o v h => by have ho : o < 6 := (List.getElem?_eq_some_iff.1 h).1; rw [show ((i : Nat) : Int).toNat * (5 + 1) + o = i * 6 + o by omega, blkd_get hx o ho]; exact h)) Has.ro rfl ?_
    refine SR_ox (OX_alloc Try.zeroValue58 rfl) rfl ?_
    rintro _ _ ⟨b5, rfl, rfl⟩
    refine SR_ox0 (OX_stA (vs := x.cells) Try.sizeOf58 rfl rfl rfl rfl) ?_
    rintro _ _ rfl
    refine SR_nil ?_
    refine SN.le (l := [(3, _), (5, _), (54, _), (55, _), (56, _)]) ?_ (.cons rfl (.cons rfl (.cons rfl (.cons rfl (.cons rfl (.nil))))))
    refine SN_seq ?_
    refine SC_region ?_
    refine SR_pu (RD_move rfl) rfl ?_
    refine SR_rd (RD_loadA (vs := x.cells) Try.isAgg58 Try.sizeOf58 rfl rfl) Has.wh rfl ?_
    refine SR_call Try.call87 (.cons rfl (.cons rfl (.nil))) (CallsK.at (mess_block p ((([] : List UInt8) ++ intsB [m.kind, m.from_, m.to_, m.view, m.num] ++ qcB m.qc.view m.qc.block m.qc.by_.l ++ bei m.tc.view ++ intsB m.tc.by_.l ++ intsB m.tc.highs.l ++ qcB m.tc.high.view m.tc.high.block m.tc.high.by_.l ++ enB m.env ++ bei (m.bl.n : Nat)) ++ ((m.bl.l.map BlkD.pure).take i).flatMap blB) x (hX.up (A := pt b5 (.cells x.cells.toArray 58))) hbb)) (lts rfl) ?_
    rintro _ L9 ⟨rfl, hL9⟩
    refine SR.lands hL9 ?_
    refine SR_nil ?_
    refine SN.le (l := [(3, _), (54, _), (55, _), (56, _)]) ?_ (.cons rfl (.cons rfl (.cons rfl (.cons rfl (.nil)))))
    refine SN_block ?_
    refine SN_seq ?_
    refine SC_region ?_
    refine SR_pu (RD_addi rfl rfl (by omega) (by omega)) rfl ?_
    refine SR_pu (RD_move rfl) rfl ?_
    refine SR_nil ?_
    refine SN.le (l := [(3, _), (54, _), (55, _), (56, _)]) ?_ (.cons rfl (.cons rfl (.cons rfl (.cons rfl (.nil)))))
    refine SC_again (ih (i + 1) (by omega) (by omega)) ((by rw [flat_take hxp, ← List.append_assoc]; exact .fin)) (.cons rfl (.cons rfl (.cons rfl (.cons' rfl (ie (by omega)) (.nil)))))
  · have hin : i = m.bl.n := by simp at hc57; omega
    have htk : (m.bl.l.map BlkD.pure).take i = m.bl.l.map BlkD.pure := List.take_of_length_le (by rw [List.length_map]; omega)
    have hbt := bls_len hbs
    rw [List.length_map] at hbt
    have hall : (([] : List UInt8) ++ intsB [m.kind, m.from_, m.to_, m.view, m.num] ++ qcB m.qc.view m.qc.block m.qc.by_.l ++ bei m.tc.view ++ intsB m.tc.by_.l ++ intsB m.tc.highs.l ++ qcB m.tc.high.view m.tc.high.block m.tc.high.by_.l ++ enB m.env ++ bei (m.bl.n : Nat)) ++ ((m.bl.l.map BlkD.pure).take i).flatMap blB = m.p.bytes := by
      rw [htk]
      unfold PMsg.bytes MsgD.p QcD.p
      dsimp only
      rw [List.length_map, nb1, List.nil_append]
    have hlen : m.p.bytes.length ≤ 1000000 := by
      rw [← hall, htk]
      simp only [List.length_append, List.length_nil, List.length_cons, bei_length, intsB_len, qcB_len, enB_len]
      omega
    rw [hall]
    clear hall
    refine SC_exit rfl ?_
    refine SN_seq ?_
    refine SC_seq ?_
    refine SC_region ?_
    refine SR_pu (RD_move rfl) rfl ?_
    refine SR_call Try.call75 (.cons rfl (.nil)) (CallsK.at (wire_Bytes p m.p.bytes (by omega))) (lts rfl) ?_
    rintro _ L10 ⟨a10, c10, rfl, hL10⟩
    refine SR.lands hL10 ?_
    refine SR_pu (RD_assign rfl) rfl ?_
    refine SR_nil ?_
    refine SN.le (l := [(2, _)]) ?_ (.cons rfl (.nil))
    refine SN_seq ?_
    refine SC_ret1 rfl rfl ?_
    exact ⟨a10, c10, rfl, hlen, .fin⟩

theorem go_EqualM {W : World} {F : List HProp} [Abs F] (a : Option Addr) (n c : Nat) (xs : List UInt8) {cs : List Value} [HasRow F a cs] (hcs : cs = xs.map byteV) (hn : xs.length = n) (b : Option Addr) (m d : Nat) (ys : List UInt8) {ds : List Value} [HasRow F b ds] (hds : ds = ys.map byteV) (hm : ys.length = m) :
    CallsK W Try.prog 55 #[.slice a n c, .slice b m d] (F) (fun v L => v = .bool (decide (xs = ys)) ∧ Lands L F) := by
  refine CallsK_enter (n := 10) Try.func55 rfl rfl rfl ?_
  subst hcs
  subst hds
  refine SC_seq ?_
  refine SC_region ?_
  refine SR_pu (RD_assign rfl) rfl ?_
  refine SR_nil ?_
  refine SN.le (l := [(0, _), (1, _)]) ?_ (.cons rfl (.cons rfl (.nil)))
  refine SN_seq ?_
  refine SC_seq ?_
  refine SC_region ?_
  refine SR_pu (RD_move rfl) rfl ?_
  refine SR_rd (RD_b2s (bs := xs) Try.underlying39 Try.underlying9 Try.underlying5 rfl hn) Has.ro rfl ?_
  refine SR_pu (RD_move rfl) rfl ?_
  refine SR_rd (RD_b2s (bs := ys) Try.underlying39 Try.underlying9 Try.underlying5 rfl hm) Has.ro rfl ?_
  refine SR_pu (RD_eqlS rfl rfl) rfl ?_
  refine SR_pu (RD_assign rfl) rfl ?_
  refine SR_nil ?_
  refine SN.le (l := [(4, _)]) ?_ (.cons rfl (.nil))
  refine SN_seq ?_
  refine SC_ret1 rfl rfl ?_
  refine ⟨?_, .fin⟩
  simp [bstr_inj]

theorem mess_Same {W : World} {F : List HProp} [Abs F] (m k : MsgD) [hM : MsgIn F m] [hK : MsgIn F k] :
    CallsK W Try.prog 26 #[m.val, k.val] (F) (fun v L => v = .bool (decide (m.p = k.p)) ∧ Lands L F) := by
  refine CallsK_enter (n := 10) Try.func26 rfl rfl rfl ?_
  refine SC_seq ?_
  refine SC_region ?_
  refine SR_ox (OX_box rfl rfl) rfl ?_
  rintro _ _ ⟨b2, rfl, rfl⟩
  refine SR_ox (OX_box rfl rfl) rfl ?_
  rintro _ _ ⟨b3, rfl, rfl⟩
  refine SR_pu (RD_assign rfl) rfl ?_
  refine SR_nil ?_
  refine SN.le (l := [(2, _), (3, _)]) ?_ (.cons rfl (.cons rfl (.nil)))
  refine SN_seq ?_
  refine SC_seq ?_
  refine SC_drawn (.cons 0 true (.cons 2 true (.cons 1 false (.cons 3 false (.cons 4 false (.cons 5 true (.nil))))))) (by kernel_rfl) (by kernel_rfl) ?_
  refine SQ_rd rfl (RD_loadA (vs := m.cells) Try.isAgg54 Try.sizeOf54 rfl rfl) Has.wh rfl ?_
  refine SQ_rd rfl (RD_loadA (vs := k.cells) Try.isAgg54 Try.sizeOf54 rfl rfl) Has.wh rfl ?_
  refine SQ_call rfl Try.call56 (.cons rfl (.nil)) (mess_all m) (lts rfl) ?_
  rintro _ L1 ⟨a1, c1, rfl, hl1, hL1⟩
  refine ⟨.lands hL1 (.h Has.wh (.w rfl (.nil))), ?_⟩
  refine SQ.lands hL1 ?_
  refine SQ_call rfl Try.call56 (.cons rfl (.nil)) (mess_all k) (lts rfl) ?_
  rintro _ L2 ⟨a2, c2, rfl, hl2, hL2⟩
  refine ⟨.lands hL2 (.w rfl (.h Has.wh (.nil))), ?_⟩
  refine SQ.lands hL2 ?_
  refine SQ_call rfl Try.call55 (.cons rfl (.cons rfl (.nil))) (go_EqualM a1 _ c1 m.p.bytes rfl rfl a2 _ c2 k.p.bytes rfl rfl) (lts rfl) ?_
  rintro _ L3 ⟨rfl, hL3⟩
  refine ⟨.lands hL3 (.h Has.wh (.h Has.wh (.nil))), ?_⟩
  refine SQ.lands hL3 ?_
  refine SQ_pu rfl (RD_assign rfl) rfl ?_
  refine SQ_nil ?_
  refine SN.le (l := [(4, _)]) ?_ (.cons rfl (.nil))
  refine SN_seq ?_
  refine SC_ret1 rfl rfl ?_
  exact ⟨congrArg Value.bool (decide_eq_decide.2 (msg_one hM.good hK.good)), .fin⟩

end Go.Proofs.Ytmigjpmadhebfaa
