/- More of the writer's and the reader's functions; the document's own. -/
import Derived.Test.YtmigjpmadhebfaaWi1
import Derived.Test.YtmigjpmadhebfaaSl13
namespace Go.Proofs.Ytmigjpmadhebfaa
open Go Go.Proofs
set_option maxRecDepth 100000

/-- A reader has read all, and well. -/
def rdDone (s : List UInt8 × Bool) : Bool := !s.2 && decide ((s.1.length : Int) = 0)
theorem RD_ixAk {P : Program} {l : Env} {ty : TypeId} {x y : Operand} {t e b off n m : Nat} {k : IntKind} {i : Int} (d : Nat) (hs : ∀ w, (underlying t).run P w = .ok (.array n e) w) (hz : ∀ w, (sizeOf e).run P w = .ok m w)
    (hx : ev l x = some (.pointer (some ⟨b, off, none⟩))) (hy : ev l y = some (.int k i)) (h0 : 0 ≤ i) (h1 : i < n) (hd : off + i.toNat * m = d) : RD P l (.indexAddr t x y) ty RU (.pointer (some ⟨b, d, none⟩)) := hd ▸ RD_indexAddrA hs hz hx hy h0 h1

/-- Bytes out of a text. -/
theorem OX_s2bb {W : World} {P : Program} {l : Env} {L : List HProp} {ty : TypeId} {x : Operand} {src dst e : TypeId} {bs : List UInt8} {d : TypeDesc} (hs : P.underlying src = some d) (hd : P.underlying dst = some (.slice e)) (he : P.underlying e = some (.int .u8)) (hx : ev l x = some (.string (bstr bs))) :
    OX W P l L (.convert src dst x) ty (fun u L' => ∃ b c, u = .slice (some ⟨b, 0, none⟩) bs.length c ∧ L' = rowP e 1 (some ⟨b, 0, none⟩) bs.length c (bs.map byteV) :: L) := OX_s2b hs hd he hx

theorem ref_Num {W : World} {F : List HProp} [Abs F] (x : Int) (hx : 0 ≤ x ∧ x < 18446744073709551616) :
    CallsK W Try.prog 52 #[.int .u64 x] (F) (fun v L => ∃ a c, v = .slice a 8 c ∧ Lands L (rowP 5 1 a 8 c ((bei x).map byteV) :: F)) := by
  refine CallsK_enter (n := 19) Try.func52 rfl rfl rfl ?_
  refine SC_seq ?_
  refine SC_region ?_
  refine SR_pu (RD_assign rfl) rfl ?_
  refine SR_nil ?_
  refine SN.le (l := [(0, _)]) ?_ (.cons rfl (.nil))
  refine SN_seq ?_
  refine SC_seq ?_
  refine SC_region ?_
  refine SR_pu (RD_assign rfl) rfl ?_
  refine SR_nil ?_
  refine SN.le (l := [(0, _), (3, _)]) ?_ (.cons rfl (.cons rfl (.nil)))
  refine SN_seq ?_
  refine SC_seq ?_
  refine SC_seq ?_
  refine SC_region ?_
  refine SR_pu (RD_assign rfl) rfl ?_
  refine SR_nil ?_
  refine SN.le (l := [(0, _), (3, _), (4, _)]) ?_ (.cons rfl (.cons rfl (.cons rfl (.nil))))
  refine SN_seq ?_
  refine SC_block ?_
  refine SC_ind (X := Option Addr × Nat × Nat × Nat) (fun y => y.2.1 ≤ 8) (fun y => 8 - y.2.1) (fun y => [(0, .int .u64 x), (3, .slice y.1 y.2.1 y.2.2.1), (4, .int .i64 (7 - y.2.1))]) (fun y => rowP 5 1 y.1 y.2.1 y.2.2.1 (((be x.toNat).take y.2.1).map byteV) :: F) ((none, 0, 0, 0)) (by show 0 ≤ 8; omega) (.cons rfl (.cons rfl (.cons rfl (.nil)))) ((show Lands _ (rowP 5 1 none 0 0 [] :: F) from (row_new 5 1 none).trans .fin)) ?_
  intro y hi ih
  obtain ⟨a, i, c, u⟩ := y
  dsimp only at hi ih ⊢
  refine SC_seq ?_
  refine SC_seq ?_
  refine SC_region ?_
  refine SR_pu (RD_move rfl) rfl ?_
  refine SR_pu (RD_geq rfl rfl) rfl ?_
  refine SR_nil ?_
  refine SN.le (l := [(0, _), (3, _), (4, _), (6, _)]) ?_ (.cons rfl (.cons rfl (.cons rfl (.cons rfl (.nil)))))
  refine SN_seq ?_
  refine SC_cond rfl (fun hc6 => ?_) (fun hc6 => ?_)
  · have hi8 : i < 8 := by simp at hc6; omega
    refine SC_skip ?_
    refine SN_seq ?_
    refine SC_seq ?_
    refine SC_block ?_
    refine SC_region ?_
    refine SR_pu (RD_move rfl) rfl ?_
    refine SR_pu (RD_move rfl) rfl ?_
    refine SR_pu (RD_move rfl) rfl ?_
    refine SR_pu (RD_muli rfl rfl (by omega) (by omega)) rfl ?_
    first
      | refine SR_pu (RD_conv64 Try.runUnderlying3 Try.runUnderlying44 rfl (by omega) (by omega)) rfl ?_
      | refine SR_pu (RD_convI Try.runUnderlying3 Try.runUnderlying44 rfl) rfl ?_
    refine SR_pu (RD_shr rfl rfl (by omega)) rfl ?_
    refine SR_pu (RD_convI Try.runUnderlying49 Try.runUnderlying5 rfl) rfl ?_
    refine SR_ox (OX_lit1 Try.underlying39 Try.type5 rfl rfl rfl rfl (.cons rfl (.nil)) (.cons rfl (.nil))) rfl ?_
    rintro _ _ ⟨b16, rfl, rfl⟩
    refine SR_ox (OX_app 1 Try.underlying39 Try.underlying39 Try.type5 rfl rfl rfl rfl rfl rfl 1 rfl (by omega) (by omega)) rfl ?_
    rintro _ _ ⟨a17, c17, rfl, rfl⟩
    refine SR_pu (RD_assign rfl) rfl ?_
    refine SR_nil ?_
    refine SN.le (l := [(0, _), (3, _), (4, _)]) ?_ (.cons rfl (.cons rfl (.cons rfl (.nil))))
    refine SN_block ?_
    refine SN_seq ?_
    refine SC_region ?_
    refine SR_pu (RD_move rfl) rfl ?_
    refine SR_pu (RD_subi rfl rfl (by omega) (by omega)) rfl ?_
    refine SR_pu (RD_assign rfl) rfl ?_
    refine SR_nil ?_
    refine SN.le (l := [(0, _), (3, _), (4, _)]) ?_ (.cons rfl (.cons rfl (.cons rfl (.nil))))
    refine SC_again (ih ((a17, i + 1, c17, 0)) (by show i + 1 ≤ 8; omega) (by show 8 - (i + 1) < 8 - i; omega)) (?_) (.cons rfl (.cons rfl (.cons' rfl (ie (by dsimp only; omega)) (.nil))))
    rw [be_take _ i hi8, List.map_append, List.map_cons, List.map_nil, ← num_byte x hx.1 i hi8, show (56 - 8 * (i : Int)) = 8 * (7 - (i : Int)) by omega]
    exact .fin
  · obtain rfl : i = 8 := by simp at hc6; omega
    refine SC_exit rfl ?_
    refine SN_seq ?_
    refine SC_seq ?_
    refine SC_region ?_
    refine SR_pu (RD_move rfl) rfl ?_
    refine SR_pu (RD_assign rfl) rfl ?_
    refine SR_nil ?_
    refine SN.le (l := [(2, _)]) ?_ (.cons rfl (.nil))
    refine SN_seq ?_
    refine SC_ret1 rfl rfl ?_
    exact ⟨_, _, rfl, by rw [bei_in hx.1 hx.2]; exact (show Lands _ (rowP 5 1 a 8 c (((be x.toNat).take 8).map byteV) :: F) from .fin)⟩

theorem ref_Text {W : World} {F : List HProp} [Abs F] (a : Option Addr) (n c : Nat) (bs : List UInt8) {cs : List Value} [Ones cs] [HasRow F a cs] (hcs : cs = bs.map byteV) (hn : bs.length = n) (hb : n ≤ 1000000000000) :
    CallsK W Try.prog 20 #[.slice a n c] (F) (fun v L => ∃ a c, v = .slice a (8 + n) c ∧ Lands L (rowP 5 1 a (8 + n) c ((bei n ++ bs).map byteV) :: F)) := by
  refine CallsK_enter (n := 9) Try.func20 rfl rfl rfl ?_
  refine SC_seq ?_
  refine SC_region ?_
  refine SR_pu (RD_assign rfl) rfl ?_
  refine SR_nil ?_
  refine SN.le (l := [(0, _)]) ?_ (.cons rfl (.nil))
  refine SN_seq ?_
  refine SC_seq ?_
  refine SC_region ?_
  refine SR_pu (RD_move rfl) rfl ?_
  refine SR_pu (RD_len Try.runUnderlying39 rfl) rfl ?_
  first
    | refine SR_pu (RD_conv64 Try.runUnderlying3 Try.runUnderlying49 rfl (by omega) (by omega)) rfl ?_
    | refine SR_pu (RD_convI Try.runUnderlying3 Try.runUnderlying49 rfl) rfl ?_
  refine SR_call Try.call52 (.cons rfl (.nil)) (ref_Num (n : Nat) (by omega)) (lts rfl) ?_
  rintro _ L1 ⟨a6, c6, rfl, hL1⟩
  refine SR.lands hL1 ?_
  refine SR_pu (RD_move rfl) rfl ?_
  refine SR_ox (OX_app (ds := cs) 1 Try.underlying39 Try.underlying39 Try.type5 rfl rfl rfl rfl rfl (by rw [hcs]; simpa using hn) 1 rfl (by omega) (by omega)) rfl ?_
  rintro _ _ ⟨a8, c8, rfl, rfl⟩
  refine SR_pu (RD_assign rfl) rfl ?_
  refine SR_nil ?_
  refine SN.le (l := [(2, _)]) ?_ (.cons rfl (.nil))
  refine SN_seq ?_
  refine SC_ret1 rfl rfl ?_
  exact ⟨_, _, rfl, by rw [List.map_append, ← hcs]; exact .fin⟩

/-- The number that stands at a place. -/
def getAt (bs : List UInt8) (i : Int) : Nat × Bool := if i < 0 ∨ (bs.length : Int) - 8 < i then (0, false) else (unbe ((bs.drop i.toNat).take 8), true)
def awk : List UInt8 := [] ++ bei 258 ++ bei (-1) ++ (bei (2 : Nat) ++ [97, 98])
theorem awk1 : rdNum (awk, false) = (258, awk.drop 8, false) := by decide +kernel
theorem awk2 : rdNum (awk.drop 8, false) = (18446744073709551615, awk.drop 16, false) := by decide +kernel
theorem awk3 : rdText (awk.drop 16, false) = ([97, 98], [], false) := by decide +kernel
theorem awk4 : rdNum ([], false) = (0, [], true) := by decide +kernel

