/- The document's bytes of a block, a Config of numbers. -/
import Derived.Test.YtnifaajdiolbjaaBx
namespace Go.Proofs.Ytnifaajdiolbjaa
open Go Go.Proofs
set_option maxRecDepth 100000
def TBk : List UInt8 := [98, 108, 111, 99, 107]
def Blk.hd (b : Blk) : List Int := [b.view, b.author, b.jv, b.jb, ((b.by_.length : Nat) : Int)]

theorem ref_Int2 {W : World} {F : List HProp} [Abs F] (x : Int) :
    CallsK W Try.prog 26 #[.int .i64 x] (F) (fun v L => ∃ a c, v = .slice a 8 c ∧ Lands L (rowP 5 1 a 8 c ((bei x).map byteV) :: F)) := by
  refine CallsK_enter (n := 6) Try.func26 rfl rfl rfl ?_
  refine SC_seq ?_
  refine SC_region ?_
  refine SR_pu (RD_assign rfl) rfl ?_
  refine SR_nil ?_
  refine SN.le (l := [(0, _)]) ?_ (.cons rfl (.nil))
  refine SN_seq ?_
  refine SC_seq ?_
  refine SC_region ?_
  refine SR_pu (RD_move rfl) rfl ?_
  refine SR_pu (RD_convI Try.runUnderlying3 Try.runUnderlying37 rfl) rfl ?_
  refine SR_call Try.call63 (.cons rfl (.nil)) (ref_Num (IntKind.u64.wrap x) (by rw [IntKind.wrap_u64]; omega)) (lts rfl) ?_
  rintro _ L1 ⟨na, nc, rfl, hL1⟩
  rw [bei_wrap] at hL1
  refine SR.lands hL1 ?_
  refine SR_pu (RD_assign rfl) rfl ?_
  refine SR_nil ?_
  refine SN.le (l := [(2, _)]) ?_ (.cons rfl (.nil))
  refine SN_seq ?_
  refine SC_ret1 rfl rfl ?_
  exact ⟨na, nc, rfl, .fin⟩

theorem law15_Config {W : World} {F : List HProp} [Abs F] (n : Int) :
    CallsK W Try.prog 20 #[.int .i64 n] (F) (fun v L => ∃ c : CfgD, v = c.val ∧ (c.f = n % 4 ∧ c.n = 3 * (n % 4) + 1 ∧ 1 ≤ c.bt ∧ c.bt ≤ 4) ∧ Lands L F) := by
  refine CallsK_enter (n := 37) Try.func20 rfl rfl rfl ?_
  refine SC_seq ?_
  refine SC_region ?_
  refine SR_ox (OX_alloc Try.zeroValue24 rfl) rfl ?_
  rintro _ _ ⟨b2, rfl, rfl⟩
  refine SR_nil ?_
  refine SN.le (l := [(0, _), (2, _)]) ?_ (.cons rfl (.cons rfl (.nil)))
  refine SN_seq ?_
  refine SC_seq ?_
  refine SC_region ?_
  refine SR_pu (RD_move rfl) rfl ?_
  refine SR_pu (RD_mask 2 rfl rfl rfl (by decide) 4 rfl) rfl ?_
  refine SR_pu (RD_assign rfl) rfl ?_
  refine SR_nil ?_
  refine SN.le (l := [(0, _), (2, _), (3, _)]) ?_ (.cons rfl (.cons rfl (.cons rfl (.nil))))
  refine SN_seq ?_
  refine SC_seq ?_
  refine SC_region ?_
  refine SR_pu (RD_move rfl) rfl ?_
  refine SR_pu (RD_move rfl) rfl ?_
  refine SR_pu (RD_muli rfl rfl (by omega) (by omega)) rfl ?_
  refine SR_pu (RD_addi rfl rfl (by omega) (by omega)) rfl ?_
  refine SR_pu (RD_move rfl) rfl ?_
  refine SR_pu (RD_shr rfl rfl (by omega)) rfl ?_
  refine SR_pu (RD_mask 2 rfl rfl rfl (by decide) 4 rfl) rfl ?_
  refine SR_pu (RD_addi rfl rfl (by omega) (by omega)) rfl ?_
  refine SR_pu (RD_move rfl) rfl ?_
  refine SR_pu (RD_shr rfl rfl (by omega)) rfl ?_
  refine SR_pu (RD_mask 2 rfl rfl rfl (by decide) 4 rfl) rfl ?_
  refine SR_pu (RD_addi rfl rfl (by omega) (by omega)) rfl ?_
  refine SR_pu (RD_move rfl) rfl ?_
  refine SR_pu (RD_shr rfl rfl (by omega)) rfl ?_
  refine SR_pu (RD_mask 3 rfl rfl rfl (by decide) 8 rfl) rfl ?_
  refine SR_pu (RD_addi rfl rfl (by omega) (by omega)) rfl ?_
  refine SR_pu (RD_move rfl) rfl ?_
  refine SR_pu (RD_shr rfl rfl (by omega)) rfl ?_
  refine SR_pu (RD_mask 2 rfl rfl rfl (by decide) 4 rfl) rfl ?_
  refine SR_pu (RD_addi rfl rfl (by omega) (by omega)) rfl ?_
  refine SR_pu (RD_move rfl) rfl ?_
  refine SR_pu (RD_shr rfl rfl (by omega)) rfl ?_
  refine SR_pu (RD_mask 3 rfl rfl rfl (by decide) 8 rfl) rfl ?_
  refine SR_pu (RD_addi rfl rfl (by omega) (by omega)) rfl ?_
  refine SR_pu (RD_move rfl) rfl ?_
  refine SR_pu (RD_shr rfl rfl (by omega)) rfl ?_
  refine SR_pu (RD_mask 2 rfl rfl rfl (by decide) 4 rfl) rfl ?_
  refine SR_pu (RD_addi rfl rfl (by omega) (by omega)) rfl ?_
  refine SR_pu (RD_build (.cons rfl (.cons rfl (.cons rfl (.cons rfl (.cons rfl (.cons rfl (.cons rfl (.cons rfl (.nil))))))))) built24_0_1_2_3_4_5_6_7) rfl ?_
  refine SR_ox (OX_alloc Try.zeroValue24 rfl) rfl ?_
  rintro _ _ ⟨b4, rfl, rfl⟩
  refine SR_ox0 (OX_stA (vs := CfgD.cells ⟨n % 4, 3 * (n % 4) + 1, n.fdiv (2 ^ min (2 : Int).toNat IntKind.i64.bits) % 4 + 1, 10 + n.fdiv (2 ^ min (4 : Int).toNat IntKind.i64.bits) % 4, 14 + n.fdiv (2 ^ min (6 : Int).toNat IntKind.i64.bits) % 8, n.fdiv (2 ^ min (9 : Int).toNat IntKind.i64.bits) % 4 + 1, n.fdiv (2 ^ min (11 : Int).toNat IntKind.i64.bits) % 8 + 2, n.fdiv (2 ^ min (14 : Int).toNat IntKind.i64.bits) % 4 + 1⟩) Try.sizeOf24 rfl rfl rfl rfl) ?_
  rintro _ _ rfl
  refine SR_nil ?_
  refine SN.le (l := [(2, _), (4, _)]) ?_ (.cons rfl (.cons rfl (.nil)))
  refine SN_seq ?_
  refine SC_seq ?_
  refine SC_region ?_
  refine SR_rd (RD_loadA (vs := CfgD.cells ⟨n % 4, 3 * (n % 4) + 1, n.fdiv (2 ^ min (2 : Int).toNat IntKind.i64.bits) % 4 + 1, 10 + n.fdiv (2 ^ min (4 : Int).toNat IntKind.i64.bits) % 4, 14 + n.fdiv (2 ^ min (6 : Int).toNat IntKind.i64.bits) % 8, n.fdiv (2 ^ min (9 : Int).toNat IntKind.i64.bits) % 4 + 1, n.fdiv (2 ^ min (11 : Int).toNat IntKind.i64.bits) % 8 + 2, n.fdiv (2 ^ min (14 : Int).toNat IntKind.i64.bits) % 4 + 1⟩) Try.isAgg24 Try.sizeOf24 rfl rfl) Has.wh rfl ?_
  refine SR_ox0 (OX_stA (vs := CfgD.cells ⟨n % 4, 3 * (n % 4) + 1, n.fdiv (2 ^ min (2 : Int).toNat IntKind.i64.bits) % 4 + 1, 10 + n.fdiv (2 ^ min (4 : Int).toNat IntKind.i64.bits) % 4, 14 + n.fdiv (2 ^ min (6 : Int).toNat IntKind.i64.bits) % 8, n.fdiv (2 ^ min (9 : Int).toNat IntKind.i64.bits) % 4 + 1, n.fdiv (2 ^ min (11 : Int).toNat IntKind.i64.bits) % 8 + 2, n.fdiv (2 ^ min (14 : Int).toNat IntKind.i64.bits) % 4 + 1⟩) Try.sizeOf24 rfl rfl rfl rfl) ?_
  rintro _ _ rfl
  refine SR_nil ?_
  refine SN.le (l := [(2, _)]) ?_ (.cons rfl (.nil))
  refine SN_seq ?_
  refine SC_retC rfl Try.isAgg24 Try.sizeOf24 rfl rfl Has.wh ?_
  exact ⟨⟨n % 4, 3 * (n % 4) + 1, n.fdiv (2 ^ min (2 : Int).toNat IntKind.i64.bits) % 4 + 1, 10 + n.fdiv (2 ^ min (4 : Int).toNat IntKind.i64.bits) % 4, 14 + n.fdiv (2 ^ min (6 : Int).toNat IntKind.i64.bits) % 8, n.fdiv (2 ^ min (9 : Int).toNat IntKind.i64.bits) % 4 + 1, n.fdiv (2 ^ min (11 : Int).toNat IntKind.i64.bits) % 8 + 2, n.fdiv (2 ^ min (14 : Int).toNat IntKind.i64.bits) % 4 + 1⟩, rfl, ⟨rfl, rfl, by dsimp only; omega, by dsimp only; omega⟩, .fin⟩

theorem law16_Bytes {W : World} {F : List HProp} [Abs F] (k : WK) (s : WS) (b : BlkD) [HasRow F b.by_.a (b.by_.l.map intV)] [HasRow F b.envs.a (b.envs.l.flatMap EnvD.cells)] (hf : b.Fit) (hm : ∀ e ∈ b.envs.l, envB e ∈ s.l) (hl : s.l.length ≤ 900000000) :
    CallsK W Try.prog 32 #[.pointer (some ⟨k.p, 0, none⟩), b.val] (At worldI k s :: F) (fun v L => ∃ a c, v = .slice a (blkB s.l b.pure).length c ∧ Lands L (rowP 5 1 a (blkB s.l b.pure).length c ((blkB s.l b.pure).map byteV) :: At worldI k s :: F)) := by
  refine CallsK_enter (n := 78) Try.func32 rfl rfl rfl ?_
  obtain ⟨hf1, hf2, hf3, hf4, hf5⟩ := hf
  refine SC_seq ?_
  refine SC_region ?_
  refine SR_ox (OX_box rfl rfl) rfl ?_
  rintro _ _ ⟨b3, rfl, rfl⟩
  refine SR_pu (RD_assign rfl) rfl ?_
  refine SR_nil ?_
  refine SN.le (l := [(0, _), (3, _)]) ?_ (.cons rfl (.cons rfl (.nil)))
  refine SN_seq ?_
  refine SC_seq ?_
  refine SC_drawn (.cons 3 true (.cons 4 true (.cons 0 false (.cons 1 false (.cons 2 false (.cons 5 false (.cons 6 false (.cons 7 true (.nil))))))))) (by kernel_rfl) (by kernel_rfl) ?_
  first
    | refine SQ_pu rfl (RD_fieldAddr0 Try.runUnderlying33 rfl rfl Try.sizeOf3 rfl) rfl ?_
    | refine SQ_rd rfl (RD_fieldAddrO 0 Try.runUnderlying33 rfl rfl Try.sizeOf3 rfl (by simp <;> omega)) Has.ro rfl ?_
  refine SQ_rd rfl (RD_load Try.isAgg3 rfl) (Has.ce rfl) rfl ?_
  refine SQ_ox rfl (OX_lit1 Try.underlying53 Try.type5 rfl rfl rfl rfl (.cons rfl (.cons rfl (.cons rfl (.cons rfl (.cons rfl (.nil)))))) (.cons rfl (.cons rfl (.cons rfl (.cons rfl (.cons rfl (.nil))))))) rfl ?_
  rintro _ _ ⟨b8, rfl, rfl⟩
  refine ⟨.h (Has.ce rfl) (.nil), ?_⟩
  refine SQ_ox rfl (OX_mark Try.underlying53 Try.underlying5 rfl) rfl ?_
  rintro _ _ ⟨fz9, rfl, rfl⟩
  refine ⟨.h (Has.ce rfl) (.nil), ?_⟩
  refine SQ_call rfl Try.call25 (.cons rfl (.nil)) (ref_Text (some ⟨b8, 0, none⟩) 5 5 TBk (cs := [.int .u8 98, .int .u8 108, .int .u8 111, .int .u8 99, .int .u8 107]) rfl rfl (by omega)) (lts rfl) ?_
  rintro _ L1 ⟨ta, tc, rfl, hL1⟩
  refine ⟨.lands hL1 (.h (Has.ce rfl) (.nil)), ?_⟩
  refine SQ.lands hL1 ?_
  refine SQ_call rfl Try.call26 (.cons rfl (.nil)) (ref_Int2 b.view) (lts rfl) ?_
  rintro _ L2 ⟨na2, nc2, rfl, hL2⟩
  refine ⟨.lands hL2 (.w rfl (.nil)), ?_⟩
  refine SQ.lands hL2 ?_
  refine SQ_ox rfl (OX_app 1 Try.underlying53 Try.underlying53 Try.type5 rfl rfl rfl rfl rfl (by first | rfl | simp; done | (simp; omega)) 1 rfl (by omega) (by omega)) rfl ?_
  rintro _ _ ⟨a14, c14, rfl, rfl⟩
  refine ⟨.h (Has.ce rfl) (.nil), ?_⟩
  refine SQ_pu rfl (RD_assign rfl) rfl ?_
  refine SQ_nil ?_
  refine SN.le (l := [(0, _), (3, _), (5, _)]) ?_ (.cons rfl (.cons rfl (.cons rfl (.nil))))
  refine SN_seq ?_
  refine SC_seq ?_
  refine SC_drawn (.cons 0 true (.cons 1 true (.cons 2 true (.cons 5 true (.cons 6 true (.cons 7 true (.cons 3 false (.cons 4 false (.cons 8 false (.cons 9 false (.cons 10 true (.nil)))))))))))) (by kernel_rfl) (by kernel_rfl) ?_
  refine SQ_pu rfl (RD_move rfl) rfl ?_
  first
    | refine SQ_pu rfl (RD_fieldAddr 1 Try.runUnderlying33 rfl rfl Try.sizeOf3 rfl) rfl ?_
    | refine SQ_rd rfl (RD_fieldAddrO 1 Try.runUnderlying33 rfl rfl Try.sizeOf3 rfl (by simp <;> omega)) Has.ro rfl ?_
  refine SQ_rd rfl (RD_load Try.isAgg3 rfl) (Has.ce rfl) rfl ?_
  first
    | refine SQ_pu rfl (RD_fieldAddr 2 Try.runUnderlying33 rfl rfl Try.sizeOf30 rfl) rfl ?_
    | refine SQ_rd rfl (RD_fieldAddrO 2 Try.runUnderlying33 rfl rfl Try.sizeOf30 rfl (by simp <;> omega)) Has.ro rfl ?_
  first
    | refine SQ_pu rfl (RD_fieldAddr0 Try.runUnderlying30 rfl rfl Try.sizeOf3 rfl) rfl ?_
    | refine SQ_rd rfl (RD_fieldAddrO 0 Try.runUnderlying30 rfl rfl Try.sizeOf3 rfl (by simp <;> omega)) Has.ro rfl ?_
  refine SQ_rd rfl (RD_load Try.isAgg3 rfl) (Has.ce rfl) rfl ?_
  refine SQ_call rfl Try.call26 (.cons rfl (.nil)) (ref_Int2 b.author) (lts rfl) ?_
  rintro _ L3 ⟨na3, nc3, rfl, hL3⟩
  refine ⟨.lands hL3 (.h (Has.ce rfl) (.w rfl (.nil))), ?_⟩
  refine SQ.lands hL3 ?_
  refine SQ_ox rfl (OX_app 1 Try.underlying53 Try.underlying53 Try.type5 rfl rfl rfl rfl rfl (by first | rfl | simp; done | (simp; omega)) 1 rfl (by omega) (by omega)) rfl ?_
  rintro _ _ ⟨a19, c19, rfl, rfl⟩
  refine ⟨.h (Has.ce rfl) (.h (Has.ce rfl) (.nil)), ?_⟩
  refine SQ_call rfl Try.call26 (.cons rfl (.nil)) (ref_Int2 b.jv) (lts rfl) ?_
  rintro _ L4 ⟨na4, nc4, rfl, hL4⟩
  refine ⟨.lands hL4 (.w rfl (.h (Has.ce rfl) (.nil))), ?_⟩
  refine SQ.lands hL4 ?_
  refine SQ_ox rfl (OX_app 1 Try.underlying53 Try.underlying53 Try.type5 rfl rfl rfl rfl rfl (by first | rfl | simp; done | (simp; omega)) 1 rfl (by omega) (by omega)) rfl ?_
  rintro _ _ ⟨a24, c24, rfl, rfl⟩
  refine ⟨.h (Has.ce rfl) (.h (Has.ce rfl) (.nil)), ?_⟩
  refine SQ_pu rfl (RD_assign rfl) rfl ?_
  refine SQ_nil ?_
  refine SN.le (l := [(0, _), (3, _), (5, _)]) ?_ (.cons rfl (.cons rfl (.cons rfl (.nil))))
  refine SN_seq ?_
  refine SC_seq ?_
  refine SC_drawn (.cons 0 true (.cons 1 true (.cons 2 true (.cons 3 true (.cons 6 true (.cons 7 true (.cons 8 true (.cons 9 true (.cons 4 false (.cons 5 false (.cons 10 false (.cons 11 false (.cons 12 true (.nil)))))))))))))) (by kernel_rfl) (by kernel_rfl) ?_
  refine SQ_pu rfl (RD_move rfl) rfl ?_
  first
    | refine SQ_pu rfl (RD_fieldAddr 2 Try.runUnderlying33 rfl rfl Try.sizeOf30 rfl) rfl ?_
    | refine SQ_rd rfl (RD_fieldAddrO 2 Try.runUnderlying33 rfl rfl Try.sizeOf30 rfl (by simp <;> omega)) Has.ro rfl ?_
  first
    | refine SQ_pu rfl (RD_fieldAddr 1 Try.runUnderlying30 rfl rfl Try.sizeOf3 rfl) rfl ?_
    | refine SQ_rd rfl (RD_fieldAddrO 1 Try.runUnderlying30 rfl rfl Try.sizeOf3 rfl (by simp <;> omega)) Has.ro rfl ?_
  refine SQ_rd rfl (RD_load Try.isAgg3 rfl) (Has.ce rfl) rfl ?_
  first
    | refine SQ_pu rfl (RD_fieldAddr 2 Try.runUnderlying33 rfl rfl Try.sizeOf30 rfl) rfl ?_
    | refine SQ_rd rfl (RD_fieldAddrO 2 Try.runUnderlying33 rfl rfl Try.sizeOf30 rfl (by simp <;> omega)) Has.ro rfl ?_
  first
    | refine SQ_pu rfl (RD_fieldAddr 2 Try.runUnderlying30 rfl rfl Try.sizeOf22 rfl) rfl ?_
    | refine SQ_rd rfl (RD_fieldAddrO 2 Try.runUnderlying30 rfl rfl Try.sizeOf22 rfl (by simp <;> omega)) Has.ro rfl ?_
  refine SQ_rd rfl (RD_load Try.isAgg22 rfl) (Has.ce rfl) rfl ?_
  refine SQ_pu rfl (RD_len Try.runUnderlying22 rfl) rfl ?_
  refine SQ_call rfl Try.call26 (.cons rfl (.nil)) (ref_Int2 b.jb) (lts rfl) ?_
  rintro _ L5 ⟨na5, nc5, rfl, hL5⟩
  refine ⟨.lands hL5 (.h (Has.ce rfl) (.w rfl (.nil))), ?_⟩
  refine SQ.lands hL5 ?_
  refine SQ_ox rfl (OX_app 1 Try.underlying53 Try.underlying53 Try.type5 rfl rfl rfl rfl rfl (by first | rfl | simp; done | (simp; omega)) 1 rfl (by omega) (by omega)) rfl ?_
  rintro _ _ ⟨a30, c30, rfl, rfl⟩
  refine ⟨.h (Has.ce rfl) (.h (Has.ce rfl) (.nil)), ?_⟩
  refine SQ_call rfl Try.call26 (.cons rfl (.nil)) (ref_Int2 ((b.by_.n : Nat) : Int)) (lts rfl) ?_
  rintro _ L6 ⟨na6, nc6, rfl, hL6⟩
  refine ⟨.lands hL6 (.h (Has.ce rfl) (.h (Has.ce rfl) (.nil))), ?_⟩
  refine SQ.lands hL6 ?_
  refine SQ_ox rfl (OX_app 1 Try.underlying53 Try.underlying53 Try.type5 rfl rfl rfl rfl rfl (by first | rfl | simp; done | (simp; omega)) 1 rfl (by omega) (by omega)) rfl ?_
  rintro _ _ ⟨a36, c36, rfl, rfl⟩
  refine ⟨.h (Has.ce rfl) (.h (Has.ce rfl) (.nil)), ?_⟩
  refine SQ_pu rfl (RD_assign rfl) rfl ?_
  refine SQ_nil ?_
  refine SN.le (l := [(0, _), (3, _), (5, _)]) ?_ (.cons rfl (.cons rfl (.cons rfl (.nil))))
  refine SN_seq ?_
  refine SC_seq ?_
  refine SC_seq ?_
  refine SC_region ?_
  refine SR_pu (RD_assign rfl) rfl ?_
  refine SR_nil ?_
  refine SN.le (l := [(0, _), (3, _), (5, _), (6, _)]) ?_ (.cons rfl (.cons rfl (.cons rfl (.cons rfl (.nil)))))
  refine SN_seq ?_
  refine SC_block ?_
  have hcs0 : (bei ((5 : Nat) : Int) ++ TBk).map byteV ++ (bei b.view).map byteV ++ (bei b.author).map byteV ++ (bei b.jv).map byteV ++ (bei b.jb).map byteV ++ (bei ((b.by_.n : Nat) : Int)).map byteV = (tagB TBk (b.pure.hd ++ b.by_.l.take 0)).map byteV := by simp [tagB, TBk, Blk.hd, BlkD.pure, hf1]
  refine SC_ind (X := Nat × Option Addr × Nat) (fun x => x.1 ≤ b.by_.n) (fun x => b.by_.n - x.1) (fun x => [(0, .pointer (some ⟨k.p, 0, none⟩)), (3, .pointer (some ⟨b3, 0, none⟩)), (5, .slice x.2.1 (53 + 8 * x.1) x.2.2), (6, .int .i64 (x.1 : Nat))]) (fun x => rowP 5 1 x.2.1 (53 + 8 * x.1) x.2.2 ((tagB TBk (b.pure.hd ++ b.by_.l.take x.1)).map byteV) :: pt b3 (.cells b.cells.toArray 33) :: At worldI k s :: F) ((0, a36, c36)) (by simp) (.cons rfl (.cons rfl (.cons rfl (.cons rfl (.nil))))) ((by dsimp only; rw [← hcs0]; exact (show Lands _ (rowP 5 1 a36 (8 + 5 + 8 + 8 + 8 + 8 + 8) c36 ((bei ((5 : Nat) : Int) ++ TBk).map byteV ++ (bei b.view).map byteV ++ (bei b.author).map byteV ++ (bei b.jv).map byteV ++ (bei b.jb).map byteV ++ (bei ((b.by_.n : Nat) : Int)).map byteV) :: pt b3 (.cells b.cells.toArray 33) :: At worldI k s :: F) from .fin))) ?_
  intro ⟨i, oa, oc⟩ hi ih
  dsimp only at hi ih ⊢
  refine SC_seq ?_
  refine SC_seq ?_
  refine SC_region ?_
  refine SR_pu (RD_move rfl) rfl ?_
  first
    | refine SR_pu (RD_fieldAddr 2 Try.runUnderlying33 rfl rfl Try.sizeOf30 rfl) rfl ?_
    | refine SR_rd (RD_fieldAddrO 2 Try.runUnderlying33 rfl rfl Try.sizeOf30 rfl (by simp <;> omega)) Has.ro rfl ?_
  first
    | refine SR_pu (RD_fieldAddr 2 Try.runUnderlying30 rfl rfl Try.sizeOf22 rfl) rfl ?_
    | refine SR_rd (RD_fieldAddrO 2 Try.runUnderlying30 rfl rfl Try.sizeOf22 rfl (by simp <;> omega)) Has.ro rfl ?_
  refine SR_rd (RD_load Try.isAgg22 rfl) (Has.ce rfl) rfl ?_
  refine SR_pu (RD_len Try.runUnderlying22 rfl) rfl ?_
  refine SR_pu (RD_lss rfl rfl) rfl ?_
  refine SR_nil ?_
  refine SN.le (l := [(0, _), (3, _), (5, _), (6, _), (42, _)]) ?_ (.cons rfl (.cons rfl (.cons rfl (.cons rfl (.cons rfl (.nil))))))
  refine SN_seq ?_
  refine SC_cond rfl (fun hc42 => ?_) (fun hc42 => ?_)
  · have hin : i < b.by_.n := by simp at hc42; omega
    obtain ⟨x, hx⟩ : ∃ x, b.by_.l[i]? = some x := ⟨_, List.getElem?_eq_getElem (by omega)⟩
    have htk : b.by_.l.take (i + 1) = b.by_.l.take i ++ [x] := by rw [List.take_add_one, hx]; rfl
    refine SC_skip ?_
    refine SN_seq ?_
    refine SC_seq ?_
    refine SC_block ?_
    refine SC_region ?_
    refine SR_pu (RD_move rfl) rfl ?_
    first
      | refine SR_pu (RD_fieldAddr 2 Try.runUnderlying33 rfl rfl Try.sizeOf30 rfl) rfl ?_
      | refine SR_rd (RD_fieldAddrO 2 Try.runUnderlying33 rfl rfl Try.sizeOf30 rfl (by simp <;> omega)) Has.ro rfl ?_
    first
      | refine SR_pu (RD_fieldAddr 2 Try.runUnderlying30 rfl rfl Try.sizeOf22 rfl) rfl ?_
      | refine SR_rd (RD_fieldAddrO 2 Try.runUnderlying30 rfl rfl Try.sizeOf22 rfl (by simp <;> omega)) Has.ro rfl ?_
    refine SR_rd (RD_load Try.isAgg22 rfl) (Has.ce rfl) rfl ?_
    refine SR_pu (RD_move rfl) rfl ?_
    refine SR_rd (RD_ixO (i := (i : Nat)) (cs := b.by_.l.map intV) Try.runUnderlying22 Try.sizeOf3 rfl rfl (by simpa using hf1) (by omega) (by omega)) Has.ro rfl ?_
    refine SR_rd (RD_loadO (v := intV x) (cs := b.by_.l.map intV) Try.isAgg3 rfl (by simp [hx])) Has.ro rfl ?_
    refine SR_call Try.call26 (.cons rfl (.nil)) (ref_Int2 x) (lts rfl) ?_
    rintro _ L7 ⟨na7, nc7, rfl, hL7⟩
    refine SR.lands hL7 ?_
    refine SR_ox (OX_app 1 Try.underlying53 Try.underlying53 Try.type5 rfl rfl rfl rfl rfl (by first | rfl | simp; done | (simp [bei_length]; omega) | (rw [List.length_map, tagB_len]; simp [TBk, Blk.hd, numsE]; omega)) 1 rfl (by omega) (by omega)) rfl ?_
    rintro _ _ ⟨a53, c53, rfl, rfl⟩
    refine SR_pu (RD_assign rfl) rfl ?_
    refine SR_nil ?_
    refine SN.le (l := [(0, _), (3, _), (5, _), (6, _)]) ?_ (.cons rfl (.cons rfl (.cons rfl (.cons rfl (.nil)))))
    refine SN_block ?_
    refine SN_seq ?_
    refine SC_region ?_
    refine SR_pu (RD_move rfl) rfl ?_
    refine SR_pu (RD_addi rfl rfl (by omega) (by omega)) rfl ?_
    refine SR_pu (RD_assign rfl) rfl ?_
    refine SR_nil ?_
    refine SN.le (l := [(0, _), (3, _), (5, _), (6, _)]) ?_ (.cons rfl (.cons rfl (.cons rfl (.cons rfl (.nil)))))
    refine SC_again (ih ((i + 1, a53, c53)) (by dsimp only; omega) (by dsimp only; omega)) (by dsimp only; rw [htk, ← List.append_assoc, tagB_snoc, List.map_append, show 53 + 8 * (i + 1) = 53 + 8 * i + 8 by omega]; exact .fin) (.cons rfl (.cons rfl (.cons' rfl (by dsimp only; rw [show 53 + 8 * (i + 1) = 53 + 8 * i + 8 by omega]) (.cons' rfl (ie (by dsimp only; omega)) (.nil)))))
  · have hin : i = b.by_.n := by simp at hc42; omega
    clear ih
    have htl : b.by_.l.take i = b.by_.l := by rw [hin, ← hf1, List.take_length]
    rw [htl]
    subst hin
    refine SC_exit rfl ?_
    refine SN_seq ?_
    refine SC_seq ?_
    refine SC_region ?_
    refine SR_pu (RD_move rfl) rfl ?_
    first
      | refine SR_pu (RD_fieldAddr 5 Try.runUnderlying33 rfl rfl Try.sizeOf31 rfl) rfl ?_
      | refine SR_rd (RD_fieldAddrO 5 Try.runUnderlying33 rfl rfl Try.sizeOf31 rfl (by simp <;> omega)) Has.ro rfl ?_
    refine SR_rd (RD_load Try.isAgg31 rfl) (Has.ce rfl) rfl ?_
    refine SR_pu (RD_len Try.runUnderlying31 rfl) rfl ?_
    refine SR_call Try.call26 (.cons rfl (.nil)) (ref_Int2 ((b.envs.n : Nat) : Int)) (lts rfl) ?_
    rintro _ L8 ⟨na8, nc8, rfl, hL8⟩
    refine SR.lands hL8 ?_
    refine SR_ox (OX_app 1 Try.underlying53 Try.underlying53 Try.type5 rfl rfl rfl rfl rfl (by first | rfl | simp; done | (simp [bei_length]; omega) | (rw [List.length_map, tagB_len]; simp [TBk, Blk.hd, numsE]; omega)) 1 rfl (by omega) (by omega)) rfl ?_
    rintro _ _ ⟨a59, c59, rfl, rfl⟩
    refine SR_pu (RD_assign rfl) rfl ?_
    refine SR_nil ?_
    refine SN.le (l := [(0, _), (3, _), (5, _)]) ?_ (.cons rfl (.cons rfl (.cons rfl (.nil))))
    refine SN_seq ?_
    refine SC_seq ?_
    refine SC_seq ?_
    refine SC_region ?_
    refine SR_pu (RD_assign rfl) rfl ?_
    refine SR_nil ?_
    refine SN.le (l := [(0, _), (3, _), (5, _), (7, _)]) ?_ (.cons rfl (.cons rfl (.cons rfl (.cons rfl (.nil)))))
    refine SN_seq ?_
    refine SC_block ?_
    have hcs1 : (tagB TBk (b.pure.hd ++ b.by_.l)).map byteV ++ (bei ((b.envs.n : Nat) : Int)).map byteV = (tagB TBk (b.pure.hd ++ b.by_.l ++ [((b.envs.n : Nat) : Int)] ++ numsE s.l (b.envs.l.take 0))).map byteV := by simp [tagB, numsE]
    refine SC_ind (X := Nat × Option Addr × Nat) (fun x => x.1 ≤ b.envs.n) (fun x => b.envs.n - x.1) (fun x => [(0, .pointer (some ⟨k.p, 0, none⟩)), (3, .pointer (some ⟨b3, 0, none⟩)), (5, .slice x.2.1 (53 + 8 * b.by_.n + 8 + 8 * x.1) x.2.2), (7, .int .i64 (x.1 : Nat))]) (fun x => rowP 5 1 x.2.1 (53 + 8 * b.by_.n + 8 + 8 * x.1) x.2.2 ((tagB TBk (b.pure.hd ++ b.by_.l ++ [((b.envs.n : Nat) : Int)] ++ numsE s.l (b.envs.l.take x.1))).map byteV) :: pt b3 (.cells b.cells.toArray 33) :: At worldI k s :: F) ((0, a59, c59)) (by simp) (.cons rfl (.cons rfl (.cons rfl (.cons rfl (.nil))))) ((by dsimp only; rw [← hcs1]; exact .fin)) ?_
    intro ⟨j, oa2, oc2⟩ hi ih2
    dsimp only at hi ih2 ⊢
    refine SC_seq ?_
    refine SC_seq ?_
    refine SC_region ?_
    refine SR_pu (RD_move rfl) rfl ?_
    first
      | refine SR_pu (RD_fieldAddr 5 Try.runUnderlying33 rfl rfl Try.sizeOf31 rfl) rfl ?_
      | refine SR_rd (RD_fieldAddrO 5 Try.runUnderlying33 rfl rfl Try.sizeOf31 rfl (by simp <;> omega)) Has.ro rfl ?_
    refine SR_rd (RD_load Try.isAgg31 rfl) (Has.ce rfl) rfl ?_
    refine SR_pu (RD_len Try.runUnderlying31 rfl) rfl ?_
    refine SR_pu (RD_lss rfl rfl) rfl ?_
    refine SR_nil ?_
    refine SN.le (l := [(0, _), (3, _), (5, _), (7, _), (64, _)]) ?_ (.cons rfl (.cons rfl (.cons rfl (.cons rfl (.cons rfl (.nil))))))
    refine SN_seq ?_
    refine SC_cond rfl (fun hc64 => ?_) (fun hc64 => ?_)
    · have hjn : j < b.envs.n := by simp at hc64; omega
      obtain ⟨e, he⟩ : ∃ e, b.envs.l[j]? = some e := ⟨_, List.getElem?_eq_getElem (by omega)⟩
      have hem := hm e (List.mem_of_getElem? he)
      have htk : numsE s.l (b.envs.l.take (j + 1)) = numsE s.l (b.envs.l.take j) ++ [((dnum s.l (envB e) : Nat) : Int)] := by rw [List.take_add_one, he]; simp [numsE]
      refine SC_skip ?_
      refine SN_seq ?_
      refine SC_seq ?_
      refine SC_block ?_
      refine SC_region ?_
      refine SR_pu (RD_move rfl) rfl ?_
      refine SR_pu (RD_move rfl) rfl ?_
      first
        | refine SR_pu (RD_fieldAddr 5 Try.runUnderlying33 rfl rfl Try.sizeOf31 rfl) rfl ?_
        | refine SR_rd (RD_fieldAddrO 5 Try.runUnderlying33 rfl rfl Try.sizeOf31 rfl (by simp <;> omega)) Has.ro rfl ?_
      refine SR_rd (RD_load Try.isAgg31 rfl) (Has.ce rfl) rfl ?_
      refine SR_pu (RD_move rfl) rfl ?_
      refine SR_rd (RD_ixO (i := (j : Nat)) (cs := b.envs.l.flatMap EnvD.cells) Try.runUnderlying31 Try.sizeOf39 rfl rfl (by rw [env_len, hf2]) (by omega) (by omega)) Has.ro rfl ?_
      refine SR_rd (RD_loadAO (vs := EnvD.cells e) (cs := b.envs.l.flatMap EnvD.cells) Try.isAgg39 Try.sizeOf39 rfl rfl (by decide) (fun o v h => by have ho : o < 4 := (List.getElem?_eq_some_iff.1 h).1; rw [show ((j : Nat) : Int).toNat * (3 + 1) + o = j * 4 + o by omega, env_get he o ho]; exact h)) Has.ro rfl ?_
      refine SR_call Try.call29 (.cons rfl (.cons rfl (.nil))) (CallsK.at (w_EnvDigest k s e (hf5 e (List.mem_of_getElem? he)) (by omega) s.l _ (dput_idem hem) rfl)) (lts rfl) ?_
      rintro _ L9 ⟨rfl, hL9⟩
      refine SR.lands hL9 ?_
      refine SR_call Try.call26 (.cons rfl (.nil)) (ref_Int2 ((dnum s.l (envB e) : Nat) : Int)) (lts rfl) ?_
      rintro _ L10 ⟨na10, nc10, rfl, hL10⟩
      refine SR.lands hL10 ?_
      refine SR_ox (OX_app 1 Try.underlying53 Try.underlying53 Try.type5 rfl rfl rfl rfl rfl (by first | rfl | simp; done | (simp [bei_length]; omega) | (rw [List.length_map, tagB_len]; simp [TBk, Blk.hd, numsE]; omega)) 1 rfl (by omega) (by omega)) rfl ?_
      rintro _ _ ⟨a76, c76, rfl, rfl⟩
      refine SR_pu (RD_assign rfl) rfl ?_
      refine SR_nil ?_
      refine SN.le (l := [(0, _), (3, _), (5, _), (7, _)]) ?_ (.cons rfl (.cons rfl (.cons rfl (.cons rfl (.nil)))))
      refine SN_block ?_
      refine SN_seq ?_
      refine SC_region ?_
      refine SR_pu (RD_move rfl) rfl ?_
      refine SR_pu (RD_addi rfl rfl (by omega) (by omega)) rfl ?_
      refine SR_pu (RD_assign rfl) rfl ?_
      refine SR_nil ?_
      refine SN.le (l := [(0, _), (3, _), (5, _), (7, _)]) ?_ (.cons rfl (.cons rfl (.cons rfl (.cons rfl (.nil)))))
      refine SC_again (ih2 ((j + 1, a76, c76)) (by dsimp only; omega) (by dsimp only; omega)) (by dsimp only; rw [htk, ← List.append_assoc, tagB_snoc, List.map_append, show 53 + 8 * b.by_.n + 8 + 8 * (j + 1) = 53 + 8 * b.by_.n + 8 + 8 * j + 8 by omega]; exact .fin) (.cons rfl (.cons rfl (.cons' rfl (by dsimp only; rw [show 53 + 8 * b.by_.n + 8 + 8 * (j + 1) = 53 + 8 * b.by_.n + 8 + 8 * j + 8 by omega]) (.cons' rfl (ie (by dsimp only; omega)) (.nil)))))
    · have hjn : j = b.envs.n := by simp at hc64; omega
      clear ih2
      have htl : b.envs.l.take j = b.envs.l := by rw [hjn, ← hf2, List.take_length]
      rw [htl]
      subst hjn
      have hbb : tagB TBk (b.pure.hd ++ b.by_.l ++ [((b.envs.n : Nat) : Int)] ++ numsE s.l b.envs.l) = blkB s.l b.pure := by unfold blkB blkN Blk.hd; simp [TBk, BlkD.pure, hf2]
      have hlen : (blkB s.l b.pure).length = 53 + 8 * b.by_.n + 8 + 8 * b.envs.n := by rw [← hbb, tagB_len]; simp [TBk, Blk.hd, numsE, hf1, hf2]; omega
      rw [hbb]
      refine SC_exit rfl ?_
      refine SN_seq ?_
      refine SC_seq ?_
      refine SC_region ?_
      refine SR_pu (RD_move rfl) rfl ?_
      refine SR_pu (RD_assign rfl) rfl ?_
      refine SR_nil ?_
      refine SN.le (l := [(4, _)]) ?_ (.cons rfl (.nil))
      refine SN_seq ?_
      refine SC_ret1 rfl rfl ?_
      rw [hlen]
      exact ⟨oa2, oc2, rfl, .fin⟩

end Go.Proofs.Ytnifaajdiolbjaa
