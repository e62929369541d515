/- More of the writer's and the reader's functions; the document's own. -/
import Derived.Test.YtnifaajdiolbjaaWi1
import Derived.Test.YtnifaajdiolbjaaSl13
namespace Go.Proofs.Ytnifaajdiolbjaa
open Go Go.Proofs
set_option maxRecDepth 100000

/-- A reader has read all, and well. -/
def rdDone (s : List UInt8 × Bool) : Bool := !s.2 && decide ((s.1.length : Int) = 0)
theorem RD_ixAk {P : Program} {l : Env} {ty : TypeId} {x y : Operand} {t e b off n m : Nat} {k : IntKind} {i : Int} (d : Nat) (hs : ∀ w, (underlying t).run P w = .ok (.array n e) w) (hz : ∀ w, (sizeOf e).run P w = .ok m w)
    (hx : ev l x = some (.pointer (some ⟨b, off, none⟩))) (hy : ev l y = some (.int k i)) (h0 : 0 ≤ i) (h1 : i < n) (hd : off + i.toNat * m = d) : RD P l (.indexAddr t x y) ty RU (.pointer (some ⟨b, d, none⟩)) := hd ▸ RD_indexAddrA hs hz hx hy h0 h1

/-- Bytes out of a text. -/
theorem OX_s2bb {W : World} {P : Program} {l : Env} {L : List HProp} {ty : TypeId} {x : Operand} {src dst e : TypeId} {bs : List UInt8} {d : TypeDesc} (hs : P.underlying src = some d) (hd : P.underlying dst = some (.slice e)) (he : P.underlying e = some (.int .u8)) (hx : ev l x = some (.string (bstr bs))) :
    OX W P l L (.convert src dst x) ty (fun u L' => ∃ b c, u = .slice (some ⟨b, 0, none⟩) bs.length c ∧ L' = rowP e 1 (some ⟨b, 0, none⟩) bs.length c (bs.map byteV) :: L) := OX_s2b hs hd he hx

theorem ref_Same {W : World} {F : List HProp} [Abs F] (a : Option Addr) (n c : Nat) (xs : List UInt8) {cs : List Value} [HasRow F a cs] (hcs : cs = xs.map byteV) (hn : xs.length = n) (b : Option Addr) (m d : Nat) (ys : List UInt8) {ds : List Value} [HasRow F b ds] (hds : ds = ys.map byteV) (hm : ys.length = m) :
    CallsK W Try.prog 31 #[.slice a n c, .slice b m d] (F) (fun v L => v = .bool (decide (xs = ys)) ∧ Lands L F) := by
  refine CallsK_enter (n := 10) Try.func31 rfl rfl rfl ?_
  subst hcs
  subst hds
  refine SC_seq ?_
  refine SC_region ?_
  refine SR_pu (RD_assign rfl) rfl ?_
  refine SR_nil ?_
  refine SN.le (l := [(0, _), (1, _)]) ?_ (.cons rfl (.cons rfl (.nil)))
  refine SN_seq ?_
  refine SC_seq ?_
  refine SC_region ?_
  refine SR_pu (RD_move rfl) rfl ?_
  refine SR_rd (RD_b2s (bs := xs) Try.underlying53 Try.underlying9 Try.underlying5 rfl hn) Has.ro rfl ?_
  refine SR_pu (RD_move rfl) rfl ?_
  refine SR_rd (RD_b2s (bs := ys) Try.underlying53 Try.underlying9 Try.underlying5 rfl hm) Has.ro rfl ?_
  refine SR_pu (RD_eqlS rfl rfl) rfl ?_
  refine SR_pu (RD_assign rfl) rfl ?_
  refine SR_nil ?_
  refine SN.le (l := [(4, _)]) ?_ (.cons rfl (.nil))
  refine SN_seq ?_
  refine SC_ret1 rfl rfl ?_
  refine ⟨?_, .fin⟩
  simp [bstr_inj]

theorem ref_Num {W : World} {F : List HProp} [Abs F] (x : Int) (hx : 0 ≤ x ∧ x < 18446744073709551616) :
    CallsK W Try.prog 63 #[.int .u64 x] (F) (fun v L => ∃ a c, v = .slice a 8 c ∧ Lands L (rowP 5 1 a 8 c ((bei x).map byteV) :: F)) := by
  refine CallsK_enter (n := 19) Try.func63 rfl rfl rfl ?_
  refine SC_seq ?_
  refine SC_region ?_
  refine SR_pu (RD_assign rfl) rfl ?_
  refine SR_nil ?_
  refine SN.le (l := [(0, _)]) ?_ (.cons rfl (.nil))
  refine SN_seq ?_
  refine SC_seq ?_
  refine SC_region ?_
  refine SR_pu (RD_assign rfl) rfl ?_
  refine SR_nil ?_
  refine SN.le (l := [(0, _), (3, _)]) ?_ (.cons rfl (.cons rfl (.nil)))
  refine SN_seq ?_
  refine SC_seq ?_
  refine SC_seq ?_
  refine SC_region ?_
  refine SR_pu (RD_assign rfl) rfl ?_
  refine SR_nil ?_
  refine SN.le (l := [(0, _), (3, _), (4, _)]) ?_ (.cons rfl (.cons rfl (.cons rfl (.nil))))
  refine SN_seq ?_
  refine SC_block ?_
  refine SC_ind (X := Option Addr × Nat × Nat × Nat) (fun y => y.2.1 ≤ 8) (fun y => 8 - y.2.1) (fun y => [(0, .int .u64 x), (3, .slice y.1 y.2.1 y.2.2.1), (4, .int .i64 (7 - y.2.1))]) (fun y => rowP 5 1 y.1 y.2.1 y.2.2.1 (((be x.toNat).take y.2.1).map byteV) :: F) ((none, 0, 0, 0)) (by show 0 ≤ 8; omega) (.cons rfl (.cons rfl (.cons rfl (.nil)))) ((show Lands _ (rowP 5 1 none 0 0 [] :: F) from (row_new 5 1 none).trans .fin)) ?_
  intro y hi ih
  obtain ⟨a, i, c, u⟩ := y
  dsimp only at hi ih ⊢
  refine SC_seq ?_
  refine SC_seq ?_
  refine SC_region ?_
  refine SR_pu (RD_move rfl) rfl ?_
  refine SR_pu (RD_geq rfl rfl) rfl ?_
  refine SR_nil ?_
  refine SN.le (l := [(0, _), (3, _), (4, _), (6, _)]) ?_ (.cons rfl (.cons rfl (.cons rfl (.cons rfl (.nil)))))
  refine SN_seq ?_
  refine SC_cond rfl (fun hc6 => ?_) (fun hc6 => ?_)
  · have hi8 : i < 8 := by simp at hc6; omega
    refine SC_skip ?_
    refine SN_seq ?_
    refine SC_seq ?_
    refine SC_block ?_
    refine SC_region ?_
    refine SR_pu (RD_move rfl) rfl ?_
    refine SR_pu (RD_move rfl) rfl ?_
    refine SR_pu (RD_move rfl) rfl ?_
    refine SR_pu (RD_muli rfl rfl (by omega) (by omega)) rfl ?_
    first
      | refine SR_pu (RD_conv64 Try.runUnderlying3 Try.runUnderlying40 rfl (by omega) (by omega)) rfl ?_
      | refine SR_pu (RD_convI Try.runUnderlying3 Try.runUnderlying40 rfl) rfl ?_
    refine SR_pu (RD_shr rfl rfl (by omega)) rfl ?_
    refine SR_pu (RD_convI Try.runUnderlying37 Try.runUnderlying5 rfl) rfl ?_
    refine SR_ox (OX_lit1 Try.underlying53 Try.type5 rfl rfl rfl rfl (.cons rfl (.nil)) (.cons rfl (.nil))) rfl ?_
    rintro _ _ ⟨b16, rfl, rfl⟩
    refine SR_ox (OX_app 1 Try.underlying53 Try.underlying53 Try.type5 rfl rfl rfl rfl rfl rfl 1 rfl (by omega) (by omega)) rfl ?_
    rintro _ _ ⟨a17, c17, rfl, rfl⟩
    refine SR_pu (RD_assign rfl) rfl ?_
    refine SR_nil ?_
    refine SN.le (l := [(0, _), (3, _), (4, _)]) ?_ (.cons rfl (.cons rfl (.cons rfl (.nil))))
    refine SN_block ?_
    refine SN_seq ?_
    refine SC_region ?_
    refine SR_pu (RD_move rfl) rfl ?_
    refine SR_pu (RD_subi rfl rfl (by omega) (by omega)) rfl ?_
    refine SR_pu (RD_assign rfl) rfl ?_
    refine SR_nil ?_
    refine SN.le (l := [(0, _), (3, _), (4, _)]) ?_ (.cons rfl (.cons rfl (.cons rfl (.nil))))
    refine SC_again (ih ((a17, i + 1, c17, 0)) (by show i + 1 ≤ 8; omega) (by show 8 - (i + 1) < 8 - i; omega)) (?_) (.cons rfl (.cons rfl (.cons' rfl (ie (by dsimp only; omega)) (.nil))))
    rw [be_take _ i hi8, List.map_append, List.map_cons, List.map_nil, ← num_byte x hx.1 i hi8, show (56 - 8 * (i : Int)) = 8 * (7 - (i : Int)) by omega]
    exact .fin
  · obtain rfl : i = 8 := by simp at hc6; omega
    refine SC_exit rfl ?_
    refine SN_seq ?_
    refine SC_seq ?_
    refine SC_region ?_
    refine SR_pu (RD_move rfl) rfl ?_
    refine SR_pu (RD_assign rfl) rfl ?_
    refine SR_nil ?_
    refine SN.le (l := [(2, _)]) ?_ (.cons rfl (.nil))
    refine SN_seq ?_
    refine SC_ret1 rfl rfl ?_
    exact ⟨_, _, rfl, by rw [bei_in hx.1 hx.2]; exact (show Lands _ (rowP 5 1 a 8 c (((be x.toNat).take 8).map byteV) :: F) from .fin)⟩

theorem ref_Text {W : World} {F : List HProp} [Abs F] (a : Option Addr) (n c : Nat) (bs : List UInt8) {cs : List Value} [Ones cs] [HasRow F a cs] (hcs : cs = bs.map byteV) (hn : bs.length = n) (hb : n ≤ 1000000000000) :
    CallsK W Try.prog 25 #[.slice a n c] (F) (fun v L => ∃ a c, v = .slice a (8 + n) c ∧ Lands L (rowP 5 1 a (8 + n) c ((bei n ++ bs).map byteV) :: F)) := by
  refine CallsK_enter (n := 9) Try.func25 rfl rfl rfl ?_
  refine SC_seq ?_
  refine SC_region ?_
  refine SR_pu (RD_assign rfl) rfl ?_
  refine SR_nil ?_
  refine SN.le (l := [(0, _)]) ?_ (.cons rfl (.nil))
  refine SN_seq ?_
  refine SC_seq ?_
  refine SC_region ?_
  refine SR_pu (RD_move rfl) rfl ?_
  refine SR_pu (RD_len Try.runUnderlying53 rfl) rfl ?_
  first
    | refine SR_pu (RD_conv64 Try.runUnderlying3 Try.runUnderlying37 rfl (by omega) (by omega)) rfl ?_
    | refine SR_pu (RD_convI Try.runUnderlying3 Try.runUnderlying37 rfl) rfl ?_
  refine SR_call Try.call63 (.cons rfl (.nil)) (ref_Num (n : Nat) (by omega)) (lts rfl) ?_
  rintro _ L1 ⟨a6, c6, rfl, hL1⟩
  refine SR.lands hL1 ?_
  refine SR_pu (RD_move rfl) rfl ?_
  refine SR_ox (OX_app (ds := cs) 1 Try.underlying53 Try.underlying53 Try.type5 rfl rfl rfl rfl rfl (by rw [hcs]; simpa using hn) 1 rfl (by omega) (by omega)) rfl ?_
  rintro _ _ ⟨a8, c8, rfl, rfl⟩
  refine SR_pu (RD_assign rfl) rfl ?_
  refine SR_nil ?_
  refine SN.le (l := [(2, _)]) ?_ (.cons rfl (.nil))
  refine SN_seq ?_
  refine SC_ret1 rfl rfl ?_
  exact ⟨_, _, rfl, by rw [List.map_append, ← hcs]; exact .fin⟩

theorem ref_Get_no {W : World} {F : List HProp} [Abs F] (a : Option Addr) (n c : Nat) (bs : List UInt8) [HasRow F a (bs.map byteV)] (hn : bs.length = n) (hb : n ≤ 1000000000000) (i : Int) (h : i < 0 ∨ (n : Int) - 8 < i) :
    CallsK W Try.prog 89 #[.slice a n c, .int .i64 i] (F) (fun v L => v = .tuple #[.int .u64 0, .bool false] ∧ Lands L F) := by
  refine CallsK_enter (n := 32) Try.func89 rfl rfl rfl ?_
  refine SC_seq ?_
  refine SC_region ?_
  refine SR_pu (RD_assign rfl) rfl ?_
  refine SR_pu (RD_assign rfl) rfl ?_
  refine SR_nil ?_
  refine SN.le (l := [(0, _), (1, _)]) ?_ (.cons rfl (.cons rfl (.nil)))
  refine SN_seq ?_
  refine SC_seq ?_
  refine SC_seq ?_
  refine SC_region ?_
  refine SR_pu (RD_move rfl) rfl ?_
  refine SR_pu (RD_lss rfl rfl) rfl ?_
  refine SR_pu (RD_move rfl) rfl ?_
  refine SR_guard rfl rfl (fun hg1_2 => ?_) (fun hg1_2 => ?_)
  · refine SR_yes rfl rfl (hg1_2) ?_
    refine SR_pu (RD_move rfl) rfl ?_
    refine SR_yes rfl rfl (hg1_2) ?_
    refine SR_pu (RD_move rfl) rfl ?_
    refine SR_yes rfl rfl (hg1_2) ?_
    refine SR_pu (RD_len Try.runUnderlying53 rfl) rfl ?_
    refine SR_yes rfl rfl (hg1_2) ?_
    refine SR_pu (RD_subi rfl rfl (by omega) (by omega)) rfl ?_
    refine SR_yes rfl rfl (hg1_2) ?_
    refine SR_pu (RD_gtr rfl rfl) rfl ?_
    refine SR_pu (RD_pick_f rfl (hg1_2) rfl) rfl ?_
    refine SR_nil ?_
    refine SN.le (l := [(0, _), (1, _), (16, _)]) ?_ (.cons rfl (.cons rfl (.cons rfl (.nil))))
    refine SN_seq ?_
    refine SC_cond_true rfl (by first | rfl | (simp at *; omega)) ?_
    refine SC_seq ?_
    refine SC_region ?_
    refine SR_pu (RD_assign rfl) rfl ?_
    refine SR_pu (RD_assign rfl) rfl ?_
    refine SR_nil ?_
    refine SN.le (l := [(4, _), (5, _)]) ?_ (.cons rfl (.cons rfl (.nil)))
    refine SN_seq ?_
    refine SC_ret2 rfl rfl rfl ?_
    exact ⟨rfl, .fin⟩
  · refine SR_no rfl rfl (hg1_2) (lts rfl) ?_
    refine SR_no rfl rfl (hg1_2) (lts rfl) ?_
    refine SR_no rfl rfl (hg1_2) (lts rfl) ?_
    refine SR_no rfl rfl (hg1_2) (lts rfl) ?_
    refine SR_no rfl rfl (hg1_2) (lts rfl) ?_
    refine SR_pu (RD_pick_t rfl (hg1_2) rfl) rfl ?_
    refine SR_nil ?_
    refine SN.le (l := [(0, _), (1, _), (16, _)]) ?_ (.cons rfl (.cons rfl (.cons rfl (.nil))))
    refine SN_seq ?_
    refine SC_cond_true rfl (by first | rfl | (simp at *; omega)) ?_
    refine SC_seq ?_
    refine SC_region ?_
    refine SR_pu (RD_assign rfl) rfl ?_
    refine SR_pu (RD_assign rfl) rfl ?_
    refine SR_nil ?_
    refine SN.le (l := [(4, _), (5, _)]) ?_ (.cons rfl (.cons rfl (.nil)))
    refine SN_seq ?_
    refine SC_ret2 rfl rfl rfl ?_
    exact ⟨rfl, .fin⟩

theorem ref_Get_ok {W : World} {F : List HProp} [Abs F] (a : Option Addr) (n c : Nat) (bs : List UInt8) [HasRow F a (bs.map byteV)] (hn : bs.length = n) (hb : n ≤ 1000000000000) (i : Nat) (h : i + 8 ≤ n) :
    CallsK W Try.prog 89 #[.slice a n c, .int .i64 (i : Nat)] (F) (fun v L => v = .tuple #[.int .u64 (unbe ((bs.drop i).take 8) : Nat), .bool true] ∧ Lands L F) := by
  refine CallsK_enter (n := 32) Try.func89 rfl rfl rfl ?_
  refine SC_seq ?_
  refine SC_region ?_
  refine SR_pu (RD_assign rfl) rfl ?_
  refine SR_pu (RD_assign rfl) rfl ?_
  refine SR_nil ?_
  refine SN.le (l := [(0, _), (1, _)]) ?_ (.cons rfl (.cons rfl (.nil)))
  refine SN_seq ?_
  refine SC_seq ?_
  refine SC_seq ?_
  refine SC_region ?_
  refine SR_pu (RD_move rfl) rfl ?_
  refine SR_pu (RD_lss rfl rfl) rfl ?_
  refine SR_pu (RD_move rfl) rfl ?_
  refine SR_yes rfl rfl (by first | rfl | exact decide_eq_true (by omega) | exact decide_eq_false (by omega) | decide | (simp; done) | (simp; omega)) ?_
  refine SR_pu (RD_move rfl) rfl ?_
  refine SR_yes rfl rfl (by first | rfl | exact decide_eq_true (by omega) | exact decide_eq_false (by omega) | decide | (simp; done) | (simp; omega)) ?_
  refine SR_pu (RD_move rfl) rfl ?_
  refine SR_yes rfl rfl (by first | rfl | exact decide_eq_true (by omega) | exact decide_eq_false (by omega) | decide | (simp; done) | (simp; omega)) ?_
  refine SR_pu (RD_len Try.runUnderlying53 rfl) rfl ?_
  refine SR_yes rfl rfl (by first | rfl | exact decide_eq_true (by omega) | exact decide_eq_false (by omega) | decide | (simp; done) | (simp; omega)) ?_
  refine SR_pu (RD_subi rfl rfl (by omega) (by omega)) rfl ?_
  refine SR_yes rfl rfl (by first | rfl | exact decide_eq_true (by omega) | exact decide_eq_false (by omega) | decide | (simp; done) | (simp; omega)) ?_
  refine SR_pu (RD_gtr rfl rfl) rfl ?_
  refine SR_pu (RD_pick_f rfl (by first | rfl | exact decide_eq_true (by omega) | exact decide_eq_false (by omega) | decide | (simp; done) | (simp; omega)) rfl) rfl ?_
  refine SR_nil ?_
  refine SN.le (l := [(0, _), (1, _), (16, _)]) ?_ (.cons rfl (.cons rfl (.cons rfl (.nil))))
  refine SN_seq ?_
  refine SC_cond_false rfl (by simp; omega) ?_
  refine SC_skip ?_
  refine SN_seq ?_
  refine SC_seq ?_
  refine SC_region ?_
  refine SR_pu (RD_assign rfl) rfl ?_
  refine SR_nil ?_
  refine SN.le (l := [(0, _), (1, _), (6, _)]) ?_ (.cons rfl (.cons rfl (.cons rfl (.nil))))
  refine SN_seq ?_
  refine SC_seq ?_
  refine SC_seq ?_
  refine SC_region ?_
  refine SR_pu (RD_assign rfl) rfl ?_
  refine SR_nil ?_
  refine SN.le (l := [(0, _), (1, _), (6, _), (7, _)]) ?_ (.cons rfl (.cons rfl (.cons rfl (.cons rfl (.nil)))))
  refine SN_seq ?_
  refine SC_block ?_
  refine SC_ind (X := Nat) (fun j => j ≤ 8) (fun j => 8 - j) (fun j => [(0, .slice a n c), (1, .int .i64 (i : Nat)), (6, .int .u64 (unbe ((bs.drop i).take j) : Nat)), (7, .int .i64 (j : Nat))]) (fun j => F) (0) (by omega) (.cons rfl (.cons rfl (.cons rfl (.cons rfl (.nil))))) (.fin) ?_
  intro j hi ih
  refine SC_seq ?_
  refine SC_seq ?_
  refine SC_region ?_
  refine SR_pu (RD_move rfl) rfl ?_
  refine SR_pu (RD_lss rfl rfl) rfl ?_
  refine SR_nil ?_
  refine SN.le (l := [(0, _), (1, _), (6, _), (7, _), (18, _)]) ?_ (.cons rfl (.cons rfl (.cons rfl (.cons rfl (.cons rfl (.nil))))))
  refine SN_seq ?_
  refine SC_cond rfl (fun hc18 => ?_) (fun hc18 => ?_)
  · have hi8 : j < 8 := by simp at hc18; omega
    have hib : i + j < bs.length := by omega
    have hby := (bs[i + j]).toNat_lt
    have hlt := unbe_lt j ((bs.drop i).take j) (by simp; omega)
    have hlt2 : unbe ((bs.drop i).take j) < 72057594037927936 := Nat.lt_of_lt_of_le hlt (by have := Nat.pow_le_pow_right (show 0 < 256 by decide) (show j ≤ 7 by omega); simpa using this)
    refine SC_skip ?_
    refine SN_seq ?_
    refine SC_seq ?_
    refine SC_block ?_
    refine SC_region ?_
    refine SR_pu (RD_move rfl) rfl ?_
    refine SR_pu (RD_shl rfl rfl (by omega)) rfl ?_
    refine SR_pu (RD_move rfl) rfl ?_
    refine SR_pu (RD_move rfl) rfl ?_
    refine SR_pu (RD_move rfl) rfl ?_
    refine SR_pu (RD_addi rfl rfl (by omega) (by omega)) rfl ?_
    refine SR_rd (RD_ixO (cs := bs.map byteV) Try.runUnderlying53 Try.sizeOf5 rfl rfl (by simp; omega) (by omega) (by omega)) Has.ro rfl ?_
    refine SR_rd (RD_loadO (v := byteV bs[i + j]) Try.isAgg5 rfl (by simp [hib, show ((i : Int) + (j : Int)).toNat = i + j by omega])) Has.ro rfl ?_
    first
      | refine SR_pu (RD_conv64 Try.runUnderlying5 Try.runUnderlying37 rfl (by omega) (by omega)) rfl ?_
      | refine SR_pu (RD_convI Try.runUnderlying5 Try.runUnderlying37 rfl) rfl ?_
    refine SR_pu (RD_or rfl rfl) rfl ?_
    refine SR_pu (RD_assign rfl) rfl ?_
    refine SR_nil ?_
    refine SN.le (l := [(0, _), (1, _), (6, _), (7, _)]) ?_ (.cons rfl (.cons rfl (.cons rfl (.cons rfl (.nil)))))
    refine SN_block ?_
    refine SN_seq ?_
    refine SC_region ?_
    refine SR_pu (RD_move rfl) rfl ?_
    refine SR_pu (RD_addi rfl rfl (by omega) (by omega)) rfl ?_
    refine SR_pu (RD_assign rfl) rfl ?_
    refine SR_nil ?_
    refine SN.le (l := [(0, _), (1, _), (6, _), (7, _)]) ?_ (.cons rfl (.cons rfl (.cons rfl (.cons rfl (.nil)))))
    have e1 : (bs.drop i).take (j + 1) = (bs.drop i).take j ++ [bs[i + j]] := by rw [List.take_add_one, List.getElem?_drop, List.getElem?_eq_getElem hib]; rfl
    have e2 := or_byte (unbe ((bs.drop i).take j)) bs[i + j] hlt2
    rw [← unbe_snoc, ← e1] at e2
    refine SC_again (ih (j + 1) (by omega) (by omega)) (.fin) (.cons rfl (.cons rfl (.cons' rfl (ie e2) (.cons' rfl (ie (by omega)) (.nil)))))
  · obtain rfl : j = 8 := by simp at hc18; omega
    refine SC_exit rfl ?_
    refine SN_seq ?_
    refine SC_seq ?_
    refine SC_region ?_
    refine SR_pu (RD_move rfl) rfl ?_
    refine SR_pu (RD_assign rfl) rfl ?_
    refine SR_pu (RD_assign rfl) rfl ?_
    refine SR_nil ?_
    refine SN.le (l := [(4, _), (5, _)]) ?_ (.cons rfl (.cons rfl (.nil)))
    refine SN_seq ?_
    refine SC_ret2 rfl rfl rfl ?_
    exact ⟨rfl, .fin⟩

/-- The number that stands at a place. -/
def getAt (bs : List UInt8) (i : Int) : Nat × Bool := if i < 0 ∨ (bs.length : Int) - 8 < i then (0, false) else (unbe ((bs.drop i.toNat).take 8), true)
theorem ref_Get {W : World} {F : List HProp} [Abs F] (a : Option Addr) (n c : Nat) (bs : List UInt8) [HasRow F a (bs.map byteV)] (hn : bs.length = n) (hb : n ≤ 1000000000000) (i : Int) :
    CallsK W Try.prog 89 #[.slice a n c, .int .i64 i] (F) (fun v L => v = .tuple #[.int .u64 ((getAt bs i).1 : Nat), .bool (getAt bs i).2] ∧ Lands L F) := by
  by_cases h : i < 0 ∨ (bs.length : Int) - 8 < i
  · rw [show getAt bs i = (0, false) from if_pos h]; exact ref_Get_no a n c bs hn hb i (by omega)
  · rw [show getAt bs i = (unbe ((bs.drop i.toNat).take 8), true) from if_neg h]
    obtain ⟨k, rfl⟩ := Int.eq_ofNat_of_zero_le (show 0 ≤ i by omega)
    exact ref_Get_ok a n c bs hn hb k (by omega)

def awk : List UInt8 := [] ++ bei 258 ++ bei (-1) ++ (bei (2 : Nat) ++ [97, 98])
theorem awk1 : rdNum (awk, false) = (258, awk.drop 8, false) := by decide +kernel
theorem awk2 : rdNum (awk.drop 8, false) = (18446744073709551615, awk.drop 16, false) := by decide +kernel
theorem awk3 : rdText (awk.drop 16, false) = ([97, 98], [], false) := by decide +kernel
theorem awk4 : rdNum ([], false) = (0, [], true) := by decide +kernel

