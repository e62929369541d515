/- The writer's and the reader's functions. -/
import Derived.Test.YtmigjpmadhebfaaOb1
namespace Go.Proofs.Ytmigjpmadhebfaa
open Go Go.Proofs
set_option maxRecDepth 100000

theorem wire_New {W : World} {F : List HProp} [Abs F] :
    CallsK W Try.prog 72 #[] (F) (fun v L => ∃ p, v = .pointer (some ⟨p, 0, none⟩) ∧ Lands L (At writerI p [] :: F)) := by
  refine CallsK_enter (n := 3) Try.func72 rfl rfl rfl ?_
  refine SC_seq ?_
  refine SC_region ?_
  refine SR_pu (RD_assign rfl) rfl ?_
  refine SR_nil ?_
  refine SN.le (l := []) ?_ (.nil)
  refine SN_seq ?_
  refine SC_seq ?_
  refine SC_region ?_
  refine SR_pu (RD_build (.nil) built148) rfl ?_
  refine SR_ox (OX_box rfl rfl) rfl ?_
  rintro _ _ ⟨b2, rfl, rfl⟩
  refine SR_pu (RD_assign rfl) rfl ?_
  refine SR_nil ?_
  refine SN.le (l := [(0, _)]) ?_ (.cons rfl (.nil))
  refine SN_seq ?_
  refine SC_ret1 rfl rfl ?_
  refine ⟨_, rfl, ?_⟩
  refine (row_new 5 1 none).trans ?_
  exact (close_writer (p := b2) (bs := []) rfl).trans .fin

theorem wire_Num {W : World} {F : List HProp} [Abs F] (p : Nat) (bs : List UInt8) (x : Int) (hx : 0 ≤ x ∧ x < 18446744073709551616) (hb : bs.length ≤ 1000000000000) :
    CallsK W Try.prog 92 #[.pointer (some ⟨p, 0, none⟩), .int .u64 x] (At writerI p bs :: F) (fun v L => v = .tuple #[] ∧ Lands L (At writerI p (bs ++ bei x) :: F)) := by
  refine CallsK_enter (n := 22) Try.func92 rfl rfl rfl ?_
  refine SC_seq ?_
  refine SC_region ?_
  refine SR_pu (RD_assign rfl) rfl ?_
  refine SR_nil ?_
  refine SN.le (l := [(0, _), (1, _), (4, _)]) ?_ (.cons rfl (.cons rfl (.cons rfl (.nil))))
  refine SN_seq ?_
  refine SC_block ?_
  refine SC_ind (X := Nat) (fun i => i ≤ 8) (fun i => 8 - i) (fun i => [(0, .pointer (some ⟨p, 0, none⟩)), (1, .int .u64 x), (4, .int .i64 (56 - 8 * i))]) (fun i => At writerI p (bs ++ (be x.toNat).take i) :: F) (0) (by omega) (.cons rfl (.cons rfl (.cons rfl (.nil)))) (by simpa using Lands.fin) ?_
  intro i hi ih
  refine SC_seq ?_
  refine SC_seq ?_
  refine SC_region ?_
  refine SR_pu (RD_move rfl) rfl ?_
  refine SR_pu (RD_geq rfl rfl) rfl ?_
  refine SR_nil ?_
  refine SN.le (l := [(0, _), (1, _), (4, _), (6, _)]) ?_ (.cons rfl (.cons rfl (.cons rfl (.cons rfl (.nil)))))
  refine SN_seq ?_
  refine SC_cond rfl (fun hc6 => ?_) (fun hc6 => ?_)
  · have hi8 : i < 8 := by simp at hc6; omega
    refine SC_skip ?_
    refine SN_seq ?_
    refine SC_seq ?_
    refine SC_block ?_
    refine SC.op_writer (p := p) fun a n c hn => ?_
    have hn2 : n = bs.length + i := by rw [← hn]; simp [be_length]; omega
    refine SC_drawn (.cons 0 true (.cons 1 true (.cons 2 true (.cons 3 true (.cons 4 true (.cons 5 true (.cons 6 true (.cons 7 true (.cons 8 true (.cons 9 false (.cons 10 false (.cons 11 true (.cons 12 true (.cons 13 false (.nil))))))))))))))) (by kernel_rfl) (by kernel_rfl) ?_
    refine SQ_pu rfl (RD_move rfl) rfl ?_
    refine SQ_pu rfl (RD_move rfl) rfl ?_
    first
      | refine SQ_pu rfl (RD_nilCheck rfl) rfl ?_
      | refine SQ_pu rfl (RD_nilCheckF rfl) rfl ?_
    first
      | refine SQ_pu rfl (RD_fieldAddr0 Try.runUnderlying148 rfl rfl Try.sizeOf39 rfl) rfl ?_
      | refine SQ_rd rfl (RD_fieldAddrO 0 Try.runUnderlying148 rfl rfl Try.sizeOf39 rfl (by simp <;> omega)) Has.ro rfl ?_
    refine SQ_rd rfl (RD_load Try.isAgg39 rfl) (Has.ce rfl) rfl ?_
    refine SQ_pu rfl (RD_move rfl) rfl ?_
    refine SQ_pu rfl (RD_move rfl) rfl ?_
    refine SQ_pu rfl (RD_shr rfl rfl (by omega)) rfl ?_
    refine SQ_pu rfl (RD_convI Try.runUnderlying49 Try.runUnderlying5 rfl) rfl ?_
    refine SQ_ox rfl (OX_lit1 Try.underlying39 Try.type5 rfl rfl rfl rfl (.cons rfl (.nil)) (.cons rfl (.nil))) rfl ?_
    rintro _ _ ⟨b18, rfl, rfl⟩
    refine ⟨.h (Has.ce rfl) (.nil), ?_⟩
    refine SQ_ox rfl (OX_app 1 Try.underlying39 Try.underlying39 Try.type5 rfl rfl rfl rfl rfl (by first | rfl | simp; done | (simp; omega)) 1 rfl (by omega) (by omega)) rfl ?_
    rintro _ _ ⟨a19, c19, rfl, rfl⟩
    refine ⟨.w rfl (.nil), ?_⟩
    first
      | refine SQ_pu rfl (RD_nilCheck rfl) rfl ?_
      | refine SQ_pu rfl (RD_nilCheckF rfl) rfl ?_
    first
      | refine SQ_pu rfl (RD_fieldAddr0 Try.runUnderlying148 rfl rfl Try.sizeOf39 rfl) rfl ?_
      | refine SQ_rd rfl (RD_fieldAddrO 0 Try.runUnderlying148 rfl rfl Try.sizeOf39 rfl (by simp <;> omega)) Has.ro rfl ?_
    refine SQ_ox0 rfl (OX_st Try.sizeOf39 rfl rfl) ?_
    rintro _ _ rfl
    refine ⟨.w rfl (.nil), ?_⟩
    refine SQ_nil ?_
    refine SN.le (l := [(0, _), (1, _), (4, _)]) ?_ (.cons rfl (.cons rfl (.cons rfl (.nil))))
    refine SN_block ?_
    refine SN_seq ?_
    refine SC_region ?_
    refine SR_pu (RD_move rfl) rfl ?_
    refine SR_pu (RD_subi rfl rfl (by omega) (by omega)) rfl ?_
    refine SR_pu (RD_assign rfl) rfl ?_
    refine SR_nil ?_
    refine SN.le (l := [(0, _), (1, _), (4, _)]) ?_ (.cons rfl (.cons rfl (.cons rfl (.nil))))
    refine SC_again (ih (i + 1) (by omega) (by omega)) (?_) (.cons rfl (.cons rfl (.cons' rfl (ie (by omega)) (.nil))))
    refine (close_writer (p := p) (bs := bs ++ (be x.toNat).take (i + 1)) ?_).trans .fin
    rw [be_take _ i hi8, num_byte x hx.1 i hi8]; simp
  · have hi8 : i = 8 := by simp at hc6; omega
    subst hi8
    refine SC_exit rfl ?_
    refine SN_stop0 rfl ?_
    exact ⟨rfl, by rw [bei_in hx.1 hx.2, be_all]; exact .fin⟩

theorem wire_Int {W : World} {F : List HProp} [Abs F] (p : Nat) (bs : List UInt8) (x : Int) (hb : bs.length ≤ 1000000000000) :
    CallsK W Try.prog 74 #[.pointer (some ⟨p, 0, none⟩), .int .i64 x] (At writerI p bs :: F) (fun v L => v = .tuple #[] ∧ Lands L (At writerI p (bs ++ bei x) :: F)) := by
  refine CallsK_enter (n := 8) Try.func74 rfl rfl rfl ?_
  refine SC_region ?_
  refine SR_pu (RD_move rfl) rfl ?_
  refine SR_pu (RD_move rfl) rfl ?_
  refine SR_pu (RD_convI Try.runUnderlying3 Try.runUnderlying49 rfl) rfl ?_
  refine SR_call Try.call92 (.cons rfl (.cons rfl (.nil))) (CallsK.at (wire_Num p bs (IntKind.u64.wrap x) (by rw [IntKind.wrap_u64]; omega) hb)) (lts rfl) ?_
  rintro _ L1 ⟨rfl, hL1⟩
  refine SR_nil ?_
  refine SN.le (l := []) ?_ (.nil)
  refine SN_stop0 rfl ?_
  exact ⟨rfl, by rw [bei_wrap] at hL1; exact hL1⟩

theorem wire_Text {W : World} {F : List HProp} [Abs F] (p : Nat) (bs ds : List UInt8) (a : Option Addr) (n c : Nat) {cs : List Value} [HasRow F a cs] (hcs : cs = ds.map byteV) (hn : ds.length = n) (hb : bs.length + n ≤ 1000000000000 - 8) :
    CallsK W Try.prog 73 #[.pointer (some ⟨p, 0, none⟩), .slice a n c] (At writerI p bs :: F) (fun v L => v = .tuple #[] ∧ Lands L (At writerI p (bs ++ (bei n ++ ds)) :: F)) := by
  refine CallsK_enter (n := 17) Try.func73 rfl rfl rfl ?_
  subst hcs
  refine SC_seq ?_
  refine SC_region ?_
  refine SR_pu (RD_move rfl) rfl ?_
  refine SR_pu (RD_move rfl) rfl ?_
  refine SR_pu (RD_len Try.runUnderlying39 rfl) rfl ?_
  refine SR_call Try.call74 (.cons rfl (.cons rfl (.nil))) (CallsK.at (wire_Int p bs n (by omega))) (lts rfl) ?_
  rintro _ L1 ⟨rfl, hL1⟩
  refine SR.lands hL1 ?_
  refine SR_nil ?_
  refine SN.le (l := [(0, _), (1, _)]) ?_ (.cons rfl (.cons rfl (.nil)))
  refine SN_seq ?_
  refine SC.op_writer (p := p) fun a1 n1 c1 hn1 => ?_
  have hn2 : n1 = bs.length + 8 := by rw [← hn1]; simp [bei_length]
  refine SC_region ?_
  refine SR_pu (RD_move rfl) rfl ?_
  refine SR_pu (RD_move rfl) rfl ?_
  first
    | refine SR_pu (RD_nilCheck rfl) rfl ?_
    | refine SR_pu (RD_nilCheckF rfl) rfl ?_
  first
    | refine SR_pu (RD_fieldAddr0 Try.runUnderlying148 rfl rfl Try.sizeOf39 rfl) rfl ?_
    | refine SR_rd (RD_fieldAddrO 0 Try.runUnderlying148 rfl rfl Try.sizeOf39 rfl (by simp <;> omega)) Has.ro rfl ?_
  refine SR_rd (RD_load Try.isAgg39 rfl) (Has.ce rfl) rfl ?_
  refine SR_pu (RD_move rfl) rfl ?_
  refine SR_ox (OX_app 1 Try.underlying39 Try.underlying39 Try.type5 rfl rfl rfl rfl rfl (by simpa using hn) 1 rfl (by omega) (by omega)) rfl ?_
  rintro _ _ ⟨a14, c14, rfl, rfl⟩
  first
    | refine SR_pu (RD_nilCheck rfl) rfl ?_
    | refine SR_pu (RD_nilCheckF rfl) rfl ?_
  first
    | refine SR_pu (RD_fieldAddr0 Try.runUnderlying148 rfl rfl Try.sizeOf39 rfl) rfl ?_
    | refine SR_rd (RD_fieldAddrO 0 Try.runUnderlying148 rfl rfl Try.sizeOf39 rfl (by simp <;> omega)) Has.ro rfl ?_
  refine SR_ox0 (OX_st Try.sizeOf39 rfl rfl) ?_
  rintro _ _ rfl
  refine SR_nil ?_
  refine SN.le (l := []) ?_ (.nil)
  refine SN_stop0 rfl ?_
  refine ⟨rfl, (close_writer (p := p) (bs := bs ++ (bei n ++ ds)) ?_).trans .fin⟩
  simp

theorem clone_bytes {W : World} {F : List HProp} [Abs F] (cs : List Value) [Ones cs] (a : Option Addr) (n c : Nat) [HasRow F a cs] (hn : cs.length = n * 1) (hb : n ≤ 1000000000000) :
    CallsK W Try.prog 93 #[.slice a n c] (F) (fun v L => ∃ a1 c1, v = .slice a1 n c1 ∧ Lands L (rowP 5 1 a1 n c1 cs :: F)) := by
  refine CallsK_enter (n := 8) Try.func93 rfl rfl rfl ?_
  refine SC_seq ?_
  refine SC_region ?_
  refine SR_pu (RD_assign rfl) rfl ?_
  refine SR_nil ?_
  refine SN.le (l := [(0, _)]) ?_ (.cons rfl (.nil))
  refine SN_seq ?_
  refine SC_seq ?_
  refine SC_seq ?_
  refine SC_region ?_
  refine SR_pu (RD_move rfl) rfl ?_
  refine SR_pu (RD_eqlSl Try.underlying39 rfl rfl) rfl ?_
  refine SR_nil ?_
  refine SN.le (l := [(0, _), (4, _)]) ?_ (.cons rfl (.cons rfl (.nil)))
  refine SN_seq ?_
  refine SC_cond rfl (fun hc4 => ?_) (fun hc4 => ?_)
  · obtain rfl : a = none := by simpa using hc4
    refine SC.row_none (cs := cs) fun hcs => ?_
    subst hcs
    obtain rfl : n = 0 := by simp at hn; omega
    refine SC_seq ?_
    refine SC_region ?_
    refine SR_pu (RD_assign rfl) rfl ?_
    refine SR_nil ?_
    refine SN.le (l := [(2, _)]) ?_ (.cons rfl (.nil))
    refine SN_seq ?_
    refine SC_ret1 rfl rfl ?_
    exact ⟨_, _, rfl, (row_new 5 1 none).trans .fin⟩
  · refine SC_skip ?_
    refine SN_seq ?_
    refine SC_seq ?_
    refine SC_region ?_
    refine SR_ox (OX_buildSlice0 Try.runUnderlying39 Try.sizeOf5) rfl ?_
    rintro _ _ ⟨b5, rfl, rfl⟩
    refine SR_pu (RD_move rfl) rfl ?_
    refine SR_ox (OX_app0 1 Try.underlying39 Try.underlying39 Try.type5 rfl rfl rfl rfl rfl (by simpa using hn) 1 rfl (by omega) (by omega)) rfl ?_
    rintro _ _ ⟨a7, c7, rfl, rfl⟩
    refine SR_pu (RD_assign rfl) rfl ?_
    refine SR_nil ?_
    refine SN.le (l := [(2, _)]) ?_ (.cons rfl (.nil))
    refine SN_seq ?_
    refine SC_ret1 rfl rfl ?_
    exact ⟨_, _, rfl, .fin⟩

theorem wire_Bytes {W : World} {F : List HProp} [Abs F] (p : Nat) (bs : List UInt8) (hb : bs.length ≤ 1000000000000) :
    CallsK W Try.prog 75 #[.pointer (some ⟨p, 0, none⟩)] (At writerI p bs :: F) (fun v L => ∃ a c, v = .slice a bs.length c ∧ Lands L (rowP 5 1 a bs.length c (bs.map byteV) :: At writerI p bs :: F)) := by
  refine CallsK_enter (n := 8) Try.func75 rfl rfl rfl ?_
  refine SC_seq ?_
  refine SC_region ?_
  refine SR_pu (RD_assign rfl) rfl ?_
  refine SR_nil ?_
  refine SN.le (l := [(0, _)]) ?_ (.cons rfl (.nil))
  refine SN_seq ?_
  refine SC_seq ?_
  refine SC.op_writer (p := p) fun a n c hn => ?_
  subst hn
  refine SC_region ?_
  refine SR_pu (RD_move rfl) rfl ?_
  first
    | refine SR_pu (RD_nilCheck rfl) rfl ?_
    | refine SR_pu (RD_nilCheckF rfl) rfl ?_
  first
    | refine SR_pu (RD_fieldAddr0 Try.runUnderlying148 rfl rfl Try.sizeOf39 rfl) rfl ?_
    | refine SR_rd (RD_fieldAddrO 0 Try.runUnderlying148 rfl rfl Try.sizeOf39 rfl (by simp <;> omega)) Has.ro rfl ?_
  refine SR_rd (RD_load Try.isAgg39 rfl) (Has.ce rfl) rfl ?_
  refine SR_call Try.call93 (.cons rfl (.nil)) (clone_bytes (bs.map byteV) _ _ _ (by simp) hb) (lts rfl) ?_
  rintro _ L1 ⟨a7, c7, rfl, hL1⟩
  refine SR_pu (RD_assign rfl) rfl ?_
  refine SR_nil ?_
  refine SN.le (l := [(2, _)]) ?_ (.cons rfl (.nil))
  refine SN_seq ?_
  refine SC_ret1 rfl rfl ?_
  refine ⟨_, _, rfl, hL1.trans (Lands.cons ?_)⟩
  exact (close_writer (p := p) (bs := bs) rfl).trans .fin

theorem wire_Read {W : World} {F : List HProp} [Abs F] (bs : List UInt8) (a : Option Addr) (n c : Nat) {cs : List Value} [HasRow F a cs] (hcs : cs = bs.map byteV) (hn : bs.length = n) (hb : n ≤ 1000000000000) :
    CallsK W Try.prog 77 #[.slice a n c] (F) (fun v L => ∃ p, v = .pointer (some ⟨p, 0, none⟩) ∧ Lands L (At readerI p (bs, false) :: F)) := by
  refine CallsK_enter (n := 7) Try.func77 rfl rfl rfl ?_
  subst hcs
  refine SC_seq ?_
  refine SC_region ?_
  refine SR_pu (RD_assign rfl) rfl ?_
  refine SR_nil ?_
  refine SN.le (l := [(0, _)]) ?_ (.cons rfl (.nil))
  refine SN_seq ?_
  refine SC_seq ?_
  refine SC_region ?_
  refine SR_pu (RD_move rfl) rfl ?_
  refine SR_call Try.call93 (.cons rfl (.nil)) (clone_bytes (bs.map byteV) _ _ _ (by simpa using hn) hb) (lts rfl) ?_
  rintro _ L1 ⟨a4, c4, rfl, hL1⟩
  refine SR.lands hL1 ?_
  refine SR_pu (RD_build (.cons rfl (.nil)) built151_0) rfl ?_
  refine SR_ox (OX_box rfl rfl) rfl ?_
  rintro _ _ ⟨b6, rfl, rfl⟩
  refine SR_pu (RD_assign rfl) rfl ?_
  refine SR_nil ?_
  refine SN.le (l := [(2, _)]) ?_ (.cons rfl (.nil))
  refine SN_seq ?_
  refine SC_ret1 rfl rfl ?_
  refine ⟨_, rfl, ?_⟩
  exact (close_reader (p := b6) (bs := bs) rfl).trans .fin

theorem wire_take_bad {W : World} {F : List HProp} [Abs F] (p : Nat) (bs : List UInt8) (k : Nat) (hx : k < 18446744073709551616) (hb : bs.length ≤ 1000000000000)  :
    CallsK W Try.prog 95 #[.pointer (some ⟨p, 0, none⟩), .int .u64 k] (At readerI p (bs, true) :: F) (fun v L => v = .slice none 0 0 ∧ Lands L (At readerI p (bs, true) :: F)) := by
  refine CallsK_enter (n := 40) Try.func95 rfl rfl rfl ?_
  refine SC_seq ?_
  refine SC_region ?_
  refine SR_pu (RD_assign rfl) rfl ?_
  refine SR_nil ?_
  refine SN.le (l := [(0, _), (1, _)]) ?_ (.cons rfl (.cons rfl (.nil)))
  refine SN_seq ?_
  refine SC_seq ?_
  refine SC_seq ?_
  refine SC.op_reader (p := p) fun a n c hn hc => ?_
  have hn : bs.length = n := hn
  refine SC_region ?_
  refine SR_pu (RD_move rfl) rfl ?_
  first
    | refine SR_pu (RD_nilCheck rfl) rfl ?_
    | refine SR_pu (RD_nilCheckF rfl) rfl ?_
  first
    | refine SR_pu (RD_fieldAddr 1 Try.runUnderlying151 rfl rfl Try.sizeOf4 rfl) rfl ?_
    | refine SR_rd (RD_fieldAddrO 1 Try.runUnderlying151 rfl rfl Try.sizeOf4 rfl (by simp <;> omega)) Has.ro rfl ?_
  refine SR_rd (RD_load Try.isAgg4 rfl) (Has.ce rfl) rfl ?_
  refine SR_pu (RD_move rfl) rfl ?_
  refine SR_no rfl rfl (rfl) (lts rfl) ?_
  refine SR_no rfl rfl (rfl) (lts rfl) ?_
  refine SR_no rfl rfl (rfl) (lts rfl) ?_
  refine SR_no rfl rfl (rfl) (lts rfl) ?_
  refine SR_no rfl rfl (rfl) (lts rfl) ?_
  refine SR_no rfl rfl (rfl) (lts rfl) ?_
  refine SR_no rfl rfl (rfl) (lts rfl) ?_
  refine SR_no rfl rfl (rfl) (lts rfl) ?_
  refine SR_pu (RD_pick_t rfl (rfl) rfl) rfl ?_
  refine SR_nil ?_
  refine SN.le (l := [(0, _), (1, _), (19, _)]) ?_ (.cons rfl (.cons rfl (.cons rfl (.nil))))
  refine SN_seq ?_
  refine SC_cond_true rfl (rfl) ?_
  refine SC_seq ?_
  refine SC_region ?_
  refine SR_pu (RD_move rfl) rfl ?_
  first
    | refine SR_pu (RD_nilCheck rfl) rfl ?_
    | refine SR_pu (RD_nilCheckF rfl) rfl ?_
  first
    | refine SR_pu (RD_fieldAddr 1 Try.runUnderlying151 rfl rfl Try.sizeOf4 rfl) rfl ?_
    | refine SR_rd (RD_fieldAddrO 1 Try.runUnderlying151 rfl rfl Try.sizeOf4 rfl (by simp <;> omega)) Has.ro rfl ?_
  refine SR_ox0 (OX_st Try.sizeOf4 rfl rfl) ?_
  rintro _ _ rfl
  refine SR_nil ?_
  refine SN.le (l := []) ?_ (.nil)
  refine SN_seq ?_
  refine SC_seq ?_
  refine SC_region ?_
  refine SR_pu (RD_assign rfl) rfl ?_
  refine SR_nil ?_
  refine SN.le (l := [(4, _)]) ?_ (.cons rfl (.nil))
  refine SN_seq ?_
  refine SC_ret1 rfl rfl ?_
  refine ⟨rfl, ?_⟩
  exact (close_reader (p := p) (bs := bs) rfl).trans .fin

theorem wire_take_short {W : World} {F : List HProp} [Abs F] (p : Nat) (bs : List UInt8) (k : Nat) (hx : k < 18446744073709551616) (hb : bs.length ≤ 1000000000000) (hs : bs.length < k) :
    CallsK W Try.prog 95 #[.pointer (some ⟨p, 0, none⟩), .int .u64 k] (At readerI p (bs, false) :: F) (fun v L => v = .slice none 0 0 ∧ Lands L (At readerI p (bs, true) :: F)) := by
  refine CallsK_enter (n := 40) Try.func95 rfl rfl rfl ?_
  refine SC_seq ?_
  refine SC_region ?_
  refine SR_pu (RD_assign rfl) rfl ?_
  refine SR_nil ?_
  refine SN.le (l := [(0, _), (1, _)]) ?_ (.cons rfl (.cons rfl (.nil)))
  refine SN_seq ?_
  refine SC_seq ?_
  refine SC_seq ?_
  refine SC.op_reader (p := p) fun a n c hn hc => ?_
  have hn : bs.length = n := hn
  refine SC_region ?_
  refine SR_pu (RD_move rfl) rfl ?_
  first
    | refine SR_pu (RD_nilCheck rfl) rfl ?_
    | refine SR_pu (RD_nilCheckF rfl) rfl ?_
  first
    | refine SR_pu (RD_fieldAddr 1 Try.runUnderlying151 rfl rfl Try.sizeOf4 rfl) rfl ?_
    | refine SR_rd (RD_fieldAddrO 1 Try.runUnderlying151 rfl rfl Try.sizeOf4 rfl (by simp <;> omega)) Has.ro rfl ?_
  refine SR_rd (RD_load Try.isAgg4 rfl) (Has.ce rfl) rfl ?_
  refine SR_pu (RD_move rfl) rfl ?_
  refine SR_yes rfl rfl (rfl) ?_
  refine SR_pu (RD_move rfl) rfl ?_
  refine SR_yes rfl rfl (rfl) ?_
  refine SR_pu (RD_move rfl) rfl ?_
  refine SR_yes rfl rfl (rfl) ?_
  first
    | refine SR_pu (RD_nilCheck rfl) rfl ?_
    | refine SR_pu (RD_nilCheckF rfl) rfl ?_
  refine SR_yes rfl rfl (rfl) ?_
  first
    | refine SR_pu (RD_fieldAddr0 Try.runUnderlying151 rfl rfl Try.sizeOf39 rfl) rfl ?_
    | refine SR_rd (RD_fieldAddrO 0 Try.runUnderlying151 rfl rfl Try.sizeOf39 rfl (by simp <;> omega)) Has.ro rfl ?_
  refine SR_yes rfl rfl (rfl) ?_
  refine SR_rd (RD_load Try.isAgg39 rfl) (Has.ce rfl) rfl ?_
  refine SR_yes rfl rfl (rfl) ?_
  refine SR_pu (RD_len Try.runUnderlying39 rfl) rfl ?_
  refine SR_yes rfl rfl (rfl) ?_
  first
    | refine SR_pu (RD_conv64 Try.runUnderlying3 Try.runUnderlying49 rfl (by omega) (by omega)) rfl ?_
    | refine SR_pu (RD_convI Try.runUnderlying3 Try.runUnderlying49 rfl) rfl ?_
  refine SR_yes rfl rfl (rfl) ?_
  refine SR_pu (RD_gtr rfl rfl) rfl ?_
  refine SR_pu (RD_pick_f rfl (rfl) rfl) rfl ?_
  refine SR_nil ?_
  refine SN.le (l := [(0, _), (1, _), (19, _)]) ?_ (.cons rfl (.cons rfl (.cons rfl (.nil))))
  refine SN_seq ?_
  refine SC_cond_true rfl (by simp; omega) ?_
  refine SC_seq ?_
  refine SC_region ?_
  refine SR_pu (RD_move rfl) rfl ?_
  first
    | refine SR_pu (RD_nilCheck rfl) rfl ?_
    | refine SR_pu (RD_nilCheckF rfl) rfl ?_
  first
    | refine SR_pu (RD_fieldAddr 1 Try.runUnderlying151 rfl rfl Try.sizeOf4 rfl) rfl ?_
    | refine SR_rd (RD_fieldAddrO 1 Try.runUnderlying151 rfl rfl Try.sizeOf4 rfl (by simp <;> omega)) Has.ro rfl ?_
  refine SR_ox0 (OX_st Try.sizeOf4 rfl rfl) ?_
  rintro _ _ rfl
  refine SR_nil ?_
  refine SN.le (l := []) ?_ (.nil)
  refine SN_seq ?_
  refine SC_seq ?_
  refine SC_region ?_
  refine SR_pu (RD_assign rfl) rfl ?_
  refine SR_nil ?_
  refine SN.le (l := [(4, _)]) ?_ (.cons rfl (.nil))
  refine SN_seq ?_
  refine SC_ret1 rfl rfl ?_
  refine ⟨rfl, ?_⟩
  exact (close_reader (p := p) (bs := bs) rfl).trans .fin

theorem wire_take_ok {W : World} {F : List HProp} [Abs F] (p : Nat) (bs : List UInt8) (k : Nat) (hx : k < 18446744073709551616) (hb : bs.length ≤ 1000000000000) (hs : k ≤ bs.length) :
    CallsK W Try.prog 95 #[.pointer (some ⟨p, 0, none⟩), .int .u64 k] (At readerI p (bs, false) :: F) (fun v L => ∃ a c, v = .slice a k k ∧ bs.length ≤ c ∧ Lands L (pt p (.cells [.slice (sBase a k 1 c) (bs.length - k) (c - k), .bool false].toArray 151) :: rowP 5 1 a bs.length c (bs.map byteV) :: F)) := by
  refine CallsK_enter (n := 40) Try.func95 rfl rfl rfl ?_
  refine SC_seq ?_
  refine SC_region ?_
  refine SR_pu (RD_assign rfl) rfl ?_
  refine SR_nil ?_
  refine SN.le (l := [(0, _), (1, _)]) ?_ (.cons rfl (.cons rfl (.nil)))
  refine SN_seq ?_
  refine SC_seq ?_
  refine SC_seq ?_
  refine SC.op_reader (p := p) fun a n c hn hc => ?_
  have hn : bs.length = n := hn
  refine SC_region ?_
  refine SR_pu (RD_move rfl) rfl ?_
  first
    | refine SR_pu (RD_nilCheck rfl) rfl ?_
    | refine SR_pu (RD_nilCheckF rfl) rfl ?_
  first
    | refine SR_pu (RD_fieldAddr 1 Try.runUnderlying151 rfl rfl Try.sizeOf4 rfl) rfl ?_
    | refine SR_rd (RD_fieldAddrO 1 Try.runUnderlying151 rfl rfl Try.sizeOf4 rfl (by simp <;> omega)) Has.ro rfl ?_
  refine SR_rd (RD_load Try.isAgg4 rfl) (Has.ce rfl) rfl ?_
  refine SR_pu (RD_move rfl) rfl ?_
  refine SR_yes rfl rfl (rfl) ?_
  refine SR_pu (RD_move rfl) rfl ?_
  refine SR_yes rfl rfl (rfl) ?_
  refine SR_pu (RD_move rfl) rfl ?_
  refine SR_yes rfl rfl (rfl) ?_
  first
    | refine SR_pu (RD_nilCheck rfl) rfl ?_
    | refine SR_pu (RD_nilCheckF rfl) rfl ?_
  refine SR_yes rfl rfl (rfl) ?_
  first
    | refine SR_pu (RD_fieldAddr0 Try.runUnderlying151 rfl rfl Try.sizeOf39 rfl) rfl ?_
    | refine SR_rd (RD_fieldAddrO 0 Try.runUnderlying151 rfl rfl Try.sizeOf39 rfl (by simp <;> omega)) Has.ro rfl ?_
  refine SR_yes rfl rfl (rfl) ?_
  refine SR_rd (RD_load Try.isAgg39 rfl) (Has.ce rfl) rfl ?_
  refine SR_yes rfl rfl (rfl) ?_
  refine SR_pu (RD_len Try.runUnderlying39 rfl) rfl ?_
  refine SR_yes rfl rfl (rfl) ?_
  first
    | refine SR_pu (RD_conv64 Try.runUnderlying3 Try.runUnderlying49 rfl (by omega) (by omega)) rfl ?_
    | refine SR_pu (RD_convI Try.runUnderlying3 Try.runUnderlying49 rfl) rfl ?_
  refine SR_yes rfl rfl (rfl) ?_
  refine SR_pu (RD_gtr rfl rfl) rfl ?_
  refine SR_pu (RD_pick_f rfl (rfl) rfl) rfl ?_
  refine SR_nil ?_
  refine SN.le (l := [(0, _), (1, _), (19, _)]) ?_ (.cons rfl (.cons rfl (.cons rfl (.nil))))
  refine SN_seq ?_
  refine SC_cond_false rfl (by simp; omega) ?_
  refine SC_skip ?_
  refine SN_seq ?_
  refine SC_seq ?_
  refine SC_region ?_
  refine SR_pu (RD_move rfl) rfl ?_
  first
    | refine SR_pu (RD_nilCheck rfl) rfl ?_
    | refine SR_pu (RD_nilCheckF rfl) rfl ?_
  first
    | refine SR_pu (RD_fieldAddr0 Try.runUnderlying151 rfl rfl Try.sizeOf39 rfl) rfl ?_
    | refine SR_rd (RD_fieldAddrO 0 Try.runUnderlying151 rfl rfl Try.sizeOf39 rfl (by simp <;> omega)) Has.ro rfl ?_
  refine SR_rd (RD_load Try.isAgg39 rfl) (Has.ce rfl) rfl ?_
  refine SR_pu (RD_move rfl) rfl ?_
  refine SR_pu (RD_move rfl) rfl ?_
  refine SR_pu (RD_cutHMn Try.runUnderlying39 Try.sizeOf5 rfl rfl rfl (by omega)) rfl ?_
  refine SR_pu (RD_assign rfl) rfl ?_
  refine SR_nil ?_
  refine SN.le (l := [(0, _), (1, _), (5, _)]) ?_ (.cons rfl (.cons rfl (.cons rfl (.nil))))
  refine SN_seq ?_
  refine SC_seq ?_
  refine SC_region ?_
  refine SR_pu (RD_move rfl) rfl ?_
  refine SR_pu (RD_move rfl) rfl ?_
  first
    | refine SR_pu (RD_nilCheck rfl) rfl ?_
    | refine SR_pu (RD_nilCheckF rfl) rfl ?_
  first
    | refine SR_pu (RD_fieldAddr0 Try.runUnderlying151 rfl rfl Try.sizeOf39 rfl) rfl ?_
    | refine SR_rd (RD_fieldAddrO 0 Try.runUnderlying151 rfl rfl Try.sizeOf39 rfl (by simp <;> omega)) Has.ro rfl ?_
  refine SR_rd (RD_load Try.isAgg39 rfl) (Has.ce rfl) rfl ?_
  refine SR_pu (RD_move rfl) rfl ?_
  refine SR_pu (RD_cutLn Try.runUnderlying39 Try.sizeOf5 rfl rfl (by omega) (by omega)) rfl ?_
  first
    | refine SR_pu (RD_nilCheck rfl) rfl ?_
    | refine SR_pu (RD_nilCheckF rfl) rfl ?_
  first
    | refine SR_pu (RD_fieldAddr0 Try.runUnderlying151 rfl rfl Try.sizeOf39 rfl) rfl ?_
    | refine SR_rd (RD_fieldAddrO 0 Try.runUnderlying151 rfl rfl Try.sizeOf39 rfl (by simp <;> omega)) Has.ro rfl ?_
  refine SR_ox0 (OX_st Try.sizeOf39 rfl rfl) ?_
  rintro _ _ rfl
  refine SR_nil ?_
  refine SN.le (l := [(5, _)]) ?_ (.cons rfl (.nil))
  refine SN_seq ?_
  refine SC_seq ?_
  refine SC_region ?_
  refine SR_pu (RD_move rfl) rfl ?_
  refine SR_pu (RD_assign rfl) rfl ?_
  refine SR_nil ?_
  refine SN.le (l := [(4, _)]) ?_ (.cons rfl (.nil))
  refine SN_seq ?_
  refine SC_ret1 rfl rfl ?_
  subst hn
  exact ⟨_, _, rfl, hc, .fin⟩

theorem reader_Num_ok {W : World} {F : List HProp} [Abs F] (p : Nat) (bs : List UInt8) (h8 : 8 ≤ bs.length) (hb : bs.length ≤ 1000000000000) :
    CallsK W Try.prog 94 #[.pointer (some ⟨p, 0, none⟩)] (At readerI p (bs, false) :: F) (fun v L => v = .int .u64 (unbe (bs.take 8) : Nat) ∧ Lands L (At readerI p (bs.drop 8, false) :: F)) := by
  refine CallsK_enter (n := 20) Try.func94 rfl rfl rfl ?_
  refine SC_seq ?_
  refine SC_region ?_
  refine SR_pu (RD_assign rfl) rfl ?_
  refine SR_nil ?_
  refine SN.le (l := [(0, _)]) ?_ (.cons rfl (.nil))
  refine SN_seq ?_
  refine SC_seq ?_
  refine SC_region ?_
  refine SR_pu (RD_assign rfl) rfl ?_
  refine SR_nil ?_
  refine SN.le (l := [(0, _), (3, _)]) ?_ (.cons rfl (.cons rfl (.nil)))
  refine SN_seq ?_
  refine SC_seq ?_
  refine SC_seq ?_
  refine SC_region ?_
  refine SR_pu (RD_move rfl) rfl ?_
  refine SR_call Try.call95 (.cons rfl (.cons rfl (.nil))) (CallsK.at (wire_take_ok p bs 8 (by omega) hb h8)) (lts rfl) ?_
  rintro _ L1 ⟨a7, c7, rfl, hc, hL1⟩
  refine SR.lands hL1 ?_
  refine SR_pu (RD_len Try.runUnderlying39 rfl) rfl ?_
  refine SR_pu (RD_move rfl) rfl ?_
  refine SR_nil ?_
  refine SN.le (l := [(3, _), (7, _), (8, _), (9, _)]) ?_ (.cons rfl (.cons rfl (.cons rfl (.cons rfl (.nil)))))
  refine SN_seq ?_
  refine SC_block ?_
  refine SC_ind (X := Nat) (fun i => i ≤ 8) (fun i => 8 - i) (fun i => [(3, .int .u64 (unbe (bs.take i) : Nat)), (7, .slice a7 8 8), (8, .int .i64 8), (9, .int .i64 i)]) (fun i => pt p (.cells [.slice (sBase a7 8 1 c7) (bs.length - 8) (c7 - 8), .bool false].toArray 151) :: rowP 5 1 a7 bs.length c7 (bs.map byteV) :: F) (0) (by omega) (.cons rfl (.cons rfl (.cons rfl (.cons rfl (.nil))))) (.fin) ?_
  intro i hi ih
  refine SC_seq ?_
  refine SC_region ?_
  refine SR_pu (RD_lss rfl rfl) rfl ?_
  refine SR_nil ?_
  refine SN.le (l := [(3, _), (7, _), (8, _), (9, _), (10, _)]) ?_ (.cons rfl (.cons rfl (.cons rfl (.cons rfl (.cons rfl (.nil))))))
  refine SN_seq ?_
  refine SC_seq ?_
  refine SC_cond rfl (fun hc10 => ?_) (fun hc10 => ?_)
  · have hi8 : i < 8 := by simp at hc10; omega
    have hib : i < bs.length := by omega
    have hby := (bs[i]).toNat_lt
    have hlt := unbe_lt i (bs.take i) (by simp; omega)
    have hlt2 : unbe (bs.take i) < 72057594037927936 := Nat.lt_of_lt_of_le hlt (by have := Nat.pow_le_pow_right (show 0 < 256 by decide) (show i ≤ 7 by omega); simpa using this)
    refine SC_skip ?_
    refine SN_seq ?_
    refine SC_seq ?_
    refine SC_block ?_
    refine SC_seq ?_
    refine SC_region ?_
    refine SR_rd (RD_ix8 (cs := bs.map byteV) Try.runUnderlying39 Try.sizeOf5 rfl rfl (by simp; omega) (by omega) (by omega)) Has.ro rfl ?_
    refine SR_rd (RD_loadO (v := byteV bs[i]) Try.isAgg5 rfl (by simp [hib])) Has.ro rfl ?_
    refine SR_pu (RD_assign rfl) rfl ?_
    refine SR_nil ?_
    refine SN.le (l := [(3, _), (5, _), (7, _), (8, _), (9, _)]) ?_ (.cons rfl (.cons rfl (.cons rfl (.cons rfl (.cons rfl (.nil))))))
    refine SN_seq ?_
    refine SC_region ?_
    refine SR_pu (RD_move rfl) rfl ?_
    refine SR_pu (RD_shl rfl rfl (by omega)) rfl ?_
    refine SR_pu (RD_move rfl) rfl ?_
    first
      | refine SR_pu (RD_conv64 Try.runUnderlying5 Try.runUnderlying49 rfl (by omega) (by omega)) rfl ?_
      | refine SR_pu (RD_convI Try.runUnderlying5 Try.runUnderlying49 rfl) rfl ?_
    refine SR_pu (RD_or rfl rfl) rfl ?_
    refine SR_pu (RD_assign rfl) rfl ?_
    refine SR_nil ?_
    refine SN.le (l := [(3, _), (7, _), (8, _), (9, _)]) ?_ (.cons rfl (.cons rfl (.cons rfl (.cons rfl (.nil)))))
    refine SN_block ?_
    refine SN_seq ?_
    refine SC_region ?_
    refine SR_pu (RD_addi rfl rfl (by omega) (by omega)) rfl ?_
    refine SR_pu (RD_move rfl) rfl ?_
    refine SR_nil ?_
    refine SN.le (l := [(3, _), (7, _), (8, _), (9, _)]) ?_ (.cons rfl (.cons rfl (.cons rfl (.cons rfl (.nil)))))
    refine SC_again (ih (i + 1) (by omega) (by omega)) (.fin) (.cons' rfl (ie ?_) (.cons rfl (.cons rfl (.cons' rfl (ie (by omega)) (.nil)))))
    rw [List.take_add_one, List.getElem?_eq_getElem hib]; exact (or_byte _ _ hlt2).trans (by rw [← unbe_snoc]; rfl)
  · obtain rfl : i = 8 := by simp at hc10; omega
    refine SC_exit rfl ?_
    refine SN_seq ?_
    refine SC_seq ?_
    refine SC_region ?_
    refine SR_pu (RD_move rfl) rfl ?_
    refine SR_pu (RD_assign rfl) rfl ?_
    refine SR_nil ?_
    refine SN.le (l := [(2, _)]) ?_ (.cons rfl (.nil))
    refine SN_seq ?_
    refine SC_ret1 rfl rfl ?_
    refine ⟨rfl, ?_⟩
    refine Lands.trans (Lands.cons (row_cut 8 h8)) ?_
    exact (close_reader (p := p) (bs := bs.drop 8) (by simp)).trans .fin

theorem reader_Num_bad {W : World} {F : List HProp} [Abs F] (p : Nat) (bs : List UInt8) (hb : bs.length ≤ 1000000000000) :
    CallsK W Try.prog 94 #[.pointer (some ⟨p, 0, none⟩)] (At readerI p (bs, true) :: F) (fun v L => v = .int .u64 0 ∧ Lands L (At readerI p (bs, true) :: F)) := by
  refine CallsK_enter (n := 20) Try.func94 rfl rfl rfl ?_
  refine SC_seq ?_
  refine SC_region ?_
  refine SR_pu (RD_assign rfl) rfl ?_
  refine SR_nil ?_
  refine SN.le (l := [(0, _)]) ?_ (.cons rfl (.nil))
  refine SN_seq ?_
  refine SC_seq ?_
  refine SC_region ?_
  refine SR_pu (RD_assign rfl) rfl ?_
  refine SR_nil ?_
  refine SN.le (l := [(0, _), (3, _)]) ?_ (.cons rfl (.cons rfl (.nil)))
  refine SN_seq ?_
  refine SC_seq ?_
  refine SC_seq ?_
  refine SC_region ?_
  refine SR_pu (RD_move rfl) rfl ?_
  refine SR_call Try.call95 (.cons rfl (.cons rfl (.nil))) (CallsK.at (wire_take_bad p bs 8 (by omega) hb)) (lts rfl) ?_
  rintro _ L1 ⟨rfl, hL1⟩
  refine SR.lands hL1 ?_
  refine SR_pu (RD_len Try.runUnderlying39 rfl) rfl ?_
  refine SR_pu (RD_move rfl) rfl ?_
  refine SR_nil ?_
  refine SN.le (l := [(3, _), (7, _), (8, _), (9, _)]) ?_ (.cons rfl (.cons rfl (.cons rfl (.cons rfl (.nil)))))
  refine SN_seq ?_
  refine SC_block ?_
  refine SC_loop ?_
  refine SC_seq ?_
  refine SC_region ?_
  refine SR_pu (RD_lss rfl rfl) rfl ?_
  refine SR_nil ?_
  refine SN.le (l := [(3, _), (7, _), (8, _), (9, _), (10, _)]) ?_ (.cons rfl (.cons rfl (.cons rfl (.cons rfl (.cons rfl (.nil))))))
  refine SN_seq ?_
  refine SC_seq ?_
  refine SC_cond_false rfl (rfl) ?_
  refine SC_exit rfl ?_
  refine SN_seq ?_
  refine SC_seq ?_
  refine SC_region ?_
  refine SR_pu (RD_move rfl) rfl ?_
  refine SR_pu (RD_assign rfl) rfl ?_
  refine SR_nil ?_
  refine SN.le (l := [(2, _)]) ?_ (.cons rfl (.nil))
  refine SN_seq ?_
  refine SC_ret1 rfl rfl ?_
  exact ⟨rfl, .fin⟩

theorem reader_Num_short {W : World} {F : List HProp} [Abs F] (p : Nat) (bs : List UInt8) (h8 : bs.length < 8) (hb : bs.length ≤ 1000000000000) :
    CallsK W Try.prog 94 #[.pointer (some ⟨p, 0, none⟩)] (At readerI p (bs, false) :: F) (fun v L => v = .int .u64 0 ∧ Lands L (At readerI p (bs, true) :: F)) := by
  refine CallsK_enter (n := 20) Try.func94 rfl rfl rfl ?_
  refine SC_seq ?_
  refine SC_region ?_
  refine SR_pu (RD_assign rfl) rfl ?_
  refine SR_nil ?_
  refine SN.le (l := [(0, _)]) ?_ (.cons rfl (.nil))
  refine SN_seq ?_
  refine SC_seq ?_
  refine SC_region ?_
  refine SR_pu (RD_assign rfl) rfl ?_
  refine SR_nil ?_
  refine SN.le (l := [(0, _), (3, _)]) ?_ (.cons rfl (.cons rfl (.nil)))
  refine SN_seq ?_
  refine SC_seq ?_
  refine SC_seq ?_
  refine SC_region ?_
  refine SR_pu (RD_move rfl) rfl ?_
  refine SR_call Try.call95 (.cons rfl (.cons rfl (.nil))) (CallsK.at (wire_take_short p bs 8 (by omega) hb h8)) (lts rfl) ?_
  rintro _ L1 ⟨rfl, hL1⟩
  refine SR.lands hL1 ?_
  refine SR_pu (RD_len Try.runUnderlying39 rfl) rfl ?_
  refine SR_pu (RD_move rfl) rfl ?_
  refine SR_nil ?_
  refine SN.le (l := [(3, _), (7, _), (8, _), (9, _)]) ?_ (.cons rfl (.cons rfl (.cons rfl (.cons rfl (.nil)))))
  refine SN_seq ?_
  refine SC_block ?_
  refine SC_loop ?_
  refine SC_seq ?_
  refine SC_region ?_
  refine SR_pu (RD_lss rfl rfl) rfl ?_
  refine SR_nil ?_
  refine SN.le (l := [(3, _), (7, _), (8, _), (9, _), (10, _)]) ?_ (.cons rfl (.cons rfl (.cons rfl (.cons rfl (.cons rfl (.nil))))))
  refine SN_seq ?_
  refine SC_seq ?_
  refine SC_cond_false rfl (rfl) ?_
  refine SC_exit rfl ?_
  refine SN_seq ?_
  refine SC_seq ?_
  refine SC_region ?_
  refine SR_pu (RD_move rfl) rfl ?_
  refine SR_pu (RD_assign rfl) rfl ?_
  refine SR_nil ?_
  refine SN.le (l := [(2, _)]) ?_ (.cons rfl (.nil))
  refine SN_seq ?_
  refine SC_ret1 rfl rfl ?_
  exact ⟨rfl, .fin⟩

/-- What a reader answers when asked for a number, and what is left. -/
def rdNum (s : List UInt8 × Bool) : Nat × (List UInt8 × Bool) := if s.2 = true ∨ s.1.length < 8 then (0, (s.1, true)) else (unbe (s.1.take 8), (s.1.drop 8, false))
theorem reader_Num {W : World} {F : List HProp} [Abs F] (p : Nat) (s : List UInt8 × Bool) (hb : s.1.length ≤ 1000000000000) :
    CallsK W Try.prog 94 #[.pointer (some ⟨p, 0, none⟩)] (At readerI p s :: F) (fun v L => v = .int .u64 ((rdNum s).1 : Nat) ∧ Lands L (At readerI p (rdNum s).2 :: F)) := by
  obtain ⟨bs, b⟩ := s
  cases b with
  | true => exact (reader_Num_bad p bs hb).imp fun v L h => by simpa [rdNum] using h
  | false =>
    by_cases h8 : bs.length < 8
    · exact (reader_Num_short p bs h8 hb).imp fun v L h => by simpa [rdNum, h8] using h
    · exact (reader_Num_ok p bs (by omega) hb).imp fun v L h => by simpa [rdNum, h8] using h
theorem rdNum_lt (s : List UInt8 × Bool) : (rdNum s).1 < 18446744073709551616 := by
  unfold rdNum; split
  · show 0 < _; omega
  · rename_i h
    have := unbe_lt 8 (s.1.take 8) (by simp; omega)
    simpa using this
theorem rdNum_len (s : List UInt8 × Bool) : (rdNum s).2.1.length ≤ s.1.length := by unfold rdNum; split <;> simp

theorem reader_Int {W : World} {F : List HProp} [Abs F] (p : Nat) (s : List UInt8 × Bool) (hb : s.1.length ≤ 1000000000000) :
    CallsK W Try.prog 80 #[.pointer (some ⟨p, 0, none⟩)] (At readerI p s :: F) (fun v L => v = .int .i64 (IntKind.i64.wrap (rdNum s).1) ∧ Lands L (At readerI p (rdNum s).2 :: F)) := by
  refine CallsK_enter (n := 6) Try.func80 rfl rfl rfl ?_
  refine SC_seq ?_
  refine SC_region ?_
  refine SR_pu (RD_assign rfl) rfl ?_
  refine SR_nil ?_
  refine SN.le (l := [(0, _)]) ?_ (.cons rfl (.nil))
  refine SN_seq ?_
  refine SC_seq ?_
  refine SC_region ?_
  refine SR_pu (RD_move rfl) rfl ?_
  refine SR_call Try.call94 (.cons rfl (.nil)) (CallsK.at (reader_Num p s hb)) (lts rfl) ?_
  rintro _ L1 ⟨rfl, hL1⟩
  refine SR_pu (RD_convI Try.runUnderlying49 Try.runUnderlying3 rfl) rfl ?_
  refine SR_pu (RD_assign rfl) rfl ?_
  refine SR_nil ?_
  refine SN.le (l := [(2, _)]) ?_ (.cons rfl (.nil))
  refine SN_seq ?_
  refine SC_ret1 rfl rfl ?_
  exact ⟨rfl, hL1⟩

/-- .. for a text. -/
def rdText (s : List UInt8 × Bool) : List UInt8 × (List UInt8 × Bool) := let r := rdNum s; if r.2.2 = true ∨ r.2.1.length < r.1 then ([], (r.2.1, true)) else (r.2.1.take r.1, (r.2.1.drop r.1, false))

