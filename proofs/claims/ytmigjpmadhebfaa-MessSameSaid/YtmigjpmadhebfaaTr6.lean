/- Trees: what the document fixes. -/
import Derived.Test.YtmigjpmadhebfaaTp
namespace Go.Proofs.Ytmigjpmadhebfaa
open Go Go.Proofs
set_option maxRecDepth 100000
theorem TS.Ok.new (w : Nat) (d : Int) : TS.Ok ⟨w, d, [(d, zBlk)]⟩ :=
  ⟨⟨zBlk, by simp [mget], rfl, rfl⟩, fun e b h hr => (by simp only [mget] at h; rw [if_neg hr] at h; cases h), fun e b h => (by simp only [mget] at h; split at h; (cases h; exact Int.le_refl _); cases h), by simp⟩
theorem TL.start {l : List (List UInt8)} (w : Nat) (h : rootB ∈ l) : TL ⟨w, (dnum l rootB : Nat), [(((dnum l rootB : Nat) : Int), zBlk)]⟩ l :=
  ⟨h, rfl, fun e b hd hr => by simp only [mget] at hd; rw [if_neg hr] at hd; cases hd⟩
theorem fit_nil (v a j k : Int) : BlkD.Fit ⟨v, a, j, k, ⟨none, 0, 0, []⟩, ⟨none, 0, 0, []⟩⟩ := ⟨rfl, rfl, by simp, by simp, fun e he => nomatch he⟩
theorem fit_one (v a j k x : Int) (p : Option Addr) (c : Nat) : BlkD.Fit ⟨v, a, j, k, ⟨p, 1, c, [x]⟩, ⟨none, 0, 0, []⟩⟩ := ⟨rfl, rfl, by simp, by simp, fun e he => nomatch he⟩
theorem good_nil {v a j k : Int} (h1 : I64 v) (h2 : I64 a) (h3 : I64 j) (h4 : I64 k) : Blk.Good ⟨v, a, j, k, [], []⟩ := ⟨h1, h2, h3, h4, fun x h => (nomatch h), fun x h => (nomatch h), by simp, by simp⟩
theorem good_one {v a j k x : Int} (h1 : I64 v) (h2 : I64 a) (h3 : I64 j) (h4 : I64 k) (h5 : I64 x) : Blk.Good ⟨v, a, j, k, [x], []⟩ := ⟨h1, h2, h3, h4, fun y h => (by simp at h; exact h ▸ h5), fun x h => (nomatch h), by simp, by simp⟩
theorem tree_Add' {W : World} {F : List HProp} [Abs F] (p : Nat) (s : TS) (k : WK) (hk : s.w = k.p) (z : WS) (b : BlkD) {cs ds : List Value} [HasRow F b.by_.a cs] [HasRow F b.envs.a ds] (hcs : cs = b.by_.l.map intV) (hds : ds = b.envs.l.flatMap EnvD.cells) (hf : b.Fit) (hl : z.l.length ≤ 900000000)
    (d e : Int) (s' : TS) (l' : List (List UInt8)) (hr : s.add z.l b.pure = ((d, e), s', l')) :
    CallsK W Try.prog 30 #[.pointer (some ⟨p, 0, none⟩), b.val] (At treeI p s :: At worldI k z :: F) (fun v L => v = .tuple #[.int .i64 d, .int .i64 e] ∧ Lands L (At treeI p s' :: At worldI k ⟨l', z.S⟩ :: F)) := by
  have h := tree_Add (W := W) (F := F) p s k hk z b hcs hds hf hl
  rw [hr] at h; exact h

theorem ref_SameInts {W : World} {F : List HProp} [Abs F] (a : Option Addr) (n c : Nat) (xs : List Int) {cs : List Value} [HasRow F a cs] (hx : cs = xs.map intV) (kx : xs.length = n) (b : Option Addr) (m d : Nat) (ys : List Int) {ds : List Value} [HasRow F b ds] (hy : ds = ys.map intV) (ky : ys.length = m) (hb : n ≤ 1000000000) :
    CallsK W Try.prog 88 #[.slice a n c, .slice b m d] (F) (fun v L => v = .bool (decide (xs = ys)) ∧ Lands L F) := by
  refine CallsK_enter (n := 26) Try.func88 rfl rfl rfl ?_
  subst hx
  subst hy
  refine SC_seq ?_
  refine SC_region ?_
  refine SR_pu (RD_assign rfl) rfl ?_
  refine SR_nil ?_
  refine SN.le (l := [(0, _), (1, _)]) ?_ (.cons rfl (.cons rfl (.nil)))
  refine SN_seq ?_
  refine SC_seq ?_
  refine SC_seq ?_
  refine SC_region ?_
  refine SR_pu (RD_move rfl) rfl ?_
  refine SR_pu (RD_len Try.runUnderlying24 rfl) rfl ?_
  refine SR_pu (RD_move rfl) rfl ?_
  refine SR_pu (RD_len Try.runUnderlying24 rfl) rfl ?_
  refine SR_pu (RD_neq rfl rfl) rfl ?_
  refine SR_nil ?_
  refine SN.le (l := [(0, _), (1, _), (10, _)]) ?_ (.cons rfl (.cons rfl (.cons rfl (.nil))))
  refine SN_seq ?_
  refine SC_cond rfl (fun hc10 => ?_) (fun hc10 => ?_)
  · refine SC_seq ?_
    refine SC_region ?_
    refine SR_pu (RD_assign rfl) rfl ?_
    refine SR_nil ?_
    refine SN.le (l := [(4, _)]) ?_ (.cons rfl (.nil))
    refine SN_seq ?_
    refine SC_ret1 rfl rfl ?_
    exact ⟨by rw [decide_eq_false (fun e => by subst e; simp at hc10; omega)], .fin⟩
  · refine SC_skip ?_
    refine SN_seq ?_
    refine SC_seq ?_
    refine SC_seq ?_
    refine SC_region ?_
    refine SR_pu (RD_assign rfl) rfl ?_
    refine SR_nil ?_
    refine SN.le (l := [(0, _), (1, _), (5, _)]) ?_ (.cons rfl (.cons rfl (.cons rfl (.nil))))
    refine SN_seq ?_
    refine SC_block ?_
    have hnm : n = m := by simp at hc10; omega
    subst hnm
    refine SC_ind (X := Nat) (fun i => i ≤ n ∧ ∀ j, j < i → xs[j]? = ys[j]?) (fun i => n - i) (fun i => [(0, .slice a n c), (1, .slice b n d), (5, .int .i64 (i : Nat))]) (fun i => F) (0) (⟨by omega, fun j hj => by omega⟩) (.cons rfl (.cons rfl (.cons rfl (.nil)))) (.fin) ?_
    intro i hi ih
    obtain ⟨hi1, hi2⟩ := hi
    refine SC_seq ?_
    refine SC_seq ?_
    refine SC_region ?_
    refine SR_pu (RD_move rfl) rfl ?_
    refine SR_pu (RD_move rfl) rfl ?_
    refine SR_pu (RD_len Try.runUnderlying24 rfl) rfl ?_
    refine SR_pu (RD_lss rfl rfl) rfl ?_
    refine SR_nil ?_
    refine SN.le (l := [(0, _), (1, _), (5, _), (14, _)]) ?_ (.cons rfl (.cons rfl (.cons rfl (.cons rfl (.nil)))))
    refine SN_seq ?_
    refine SC_cond rfl (fun hc14 => ?_) (fun hc14 => ?_)
    · have hin : i < n := by simp at hc14; omega
      obtain ⟨x, hx⟩ : ∃ x, xs[i]? = some x := ⟨_, List.getElem?_eq_getElem (by omega)⟩
      obtain ⟨y, hy⟩ : ∃ y, ys[i]? = some y := ⟨_, List.getElem?_eq_getElem (by omega)⟩
      refine SC_skip ?_
      refine SN_seq ?_
      refine SC_seq ?_
      refine SC_block ?_
      refine SC_seq ?_
      refine SC_drawn (.cons 0 true (.cons 1 true (.cons 2 true (.cons 3 true (.cons 4 true (.cons 5 true (.cons 6 true (.cons 7 true (.cons 8 true (.nil)))))))))) (by kernel_rfl) (by kernel_rfl) ?_
      refine SQ_pu rfl (RD_move rfl) rfl ?_
      refine SQ_pu rfl (RD_move rfl) rfl ?_
      refine SQ_rd rfl (RD_ixO Try.runUnderlying24 Try.sizeOf3 rfl rfl (by first | assumption | (simp; done) | (simp; omega)) (by omega) (by omega)) Has.ro rfl ?_
      refine SQ_rd rfl (RD_loadO (v := intV x) (cs := xs.map intV) Try.isAgg3 rfl (by simp [hx])) Has.ro rfl ?_
      refine SQ_pu rfl (RD_move rfl) rfl ?_
      refine SQ_pu rfl (RD_move rfl) rfl ?_
      refine SQ_rd rfl (RD_ixO Try.runUnderlying24 Try.sizeOf3 rfl rfl (by first | assumption | (simp; done) | (simp; omega)) (by omega) (by omega)) Has.ro rfl ?_
      refine SQ_rd rfl (RD_loadO (v := intV y) (cs := ys.map intV) Try.isAgg3 rfl (by simp [hy])) Has.ro rfl ?_
      refine SQ_pu rfl (RD_neq rfl rfl) rfl ?_
      refine SQ_nil ?_
      refine SN.le (l := [(0, _), (1, _), (5, _), (25, _)]) ?_ (.cons rfl (.cons rfl (.cons rfl (.cons rfl (.nil)))))
      refine SN_seq ?_
      refine SC_cond rfl (fun hc25 => ?_) (fun hc25 => ?_)
      · refine SC_seq ?_
        refine SC_region ?_
        refine SR_pu (RD_assign rfl) rfl ?_
        refine SR_nil ?_
        refine SN.le (l := [(4, _)]) ?_ (.cons rfl (.nil))
        refine SN_seq ?_
        refine SC_ret1 rfl rfl ?_
        exact ⟨by rw [decide_eq_false (fun e => by subst e; rw [hx] at hy; cases hy; simp at hc25)], .fin⟩
      · refine SC_skip ?_
        refine SN_block ?_
        refine SN_seq ?_
        refine SC_region ?_
        refine SR_pu (RD_move rfl) rfl ?_
        refine SR_pu (RD_addi rfl rfl (by omega) (by omega)) rfl ?_
        refine SR_pu (RD_assign rfl) rfl ?_
        refine SR_nil ?_
        refine SN.le (l := [(0, _), (1, _), (5, _)]) ?_ (.cons rfl (.cons rfl (.cons rfl (.nil))))
        refine SC_again (ih (i + 1) (⟨by omega, fun j hj => by
          rcases Nat.lt_succ_iff_lt_or_eq.1 hj with h | h
          · exact hi2 j h
          · subst h; rw [hx, hy]; simp at hc25; rw [hc25]⟩) (by omega)) (.fin) (.cons rfl (.cons rfl (.cons' rfl (ie (by omega)) (.nil))))
    · have hin : i = n := by simp at hc14; omega
      have heq : xs = ys := List.ext_getElem? fun j => by
        by_cases h : j < n
        · exact hi2 j (by omega)
        · rw [List.getElem?_eq_none (by omega), List.getElem?_eq_none (by omega)]
      refine SC_exit rfl ?_
      refine SN_seq ?_
      refine SC_seq ?_
      refine SC_region ?_
      refine SR_pu (RD_assign rfl) rfl ?_
      refine SR_nil ?_
      refine SN.le (l := [(4, _)]) ?_ (.cons rfl (.nil))
      refine SN_seq ?_
      refine SC_ret1 rfl rfl ?_
      exact ⟨by rw [decide_eq_true heq], .fin⟩

def tB1 : Blk := ⟨2, 0, 0, 1, [], []⟩
def tB2 : Blk := ⟨3, 0, 2, 2, [], []⟩
def tL1 : List (List UInt8) := [rootB, blkB [] tB1]
def tL2 : List (List UInt8) := [rootB, blkB [] tB1, blkB [] tB2]
def tS0 (w : Nat) : TS := ⟨w, 1, [(1, zBlk)]⟩
def tS1 (w : Nat) : TS := ⟨w, 1, [(1, zBlk), (2, tB1)]⟩
def tS2 (w : Nat) : TS := ⟨w, 1, [(1, zBlk), (2, tB1), (3, tB2)]⟩
theorem tD1 : blkD [rootB] tB1 = 2 := by decide +kernel
theorem tD2 : blkD tL1 tB2 = 3 := by decide +kernel
theorem tL1' : blkL [rootB] tB1 = tL1 := by decide +kernel
theorem tL2' : blkL tL1 tB2 = tL2 := by decide +kernel
theorem tA1 (w : Nat) : (tS0 w).add [rootB] tB1 = ((2, 0), tS1 w, tL1) ∧ TL (tS1 w) tL1 ∧ (tS1 w).Ok := by
  have h := TL.start (l := [rootB]) w (by simp)
  rw [show dnum [rootB] rootB = 1 by simp [dnum]] at h
  have h2 := TL.add (s := tS0 w) h (TS.Ok.new w 1) (b := tB1) (q := zBlk) (good_nil (by unfold I64; omega) (by unfold I64; omega) (by unfold I64; omega) (by unfold I64; omega)) (by simp) (by simp [tS0]) (by simp [tS0, mget, tB1]) (by simp [tB1, zBlk]) (by simp [tB1]) (by rw [tD1]; simp [tS0, mget])
  rw [tD1, tL1'] at h2
  exact h2
theorem tA2 (w : Nat) : (tS1 w).add tL1 tB2 = ((3, 0), tS2 w, tL2) ∧ TL (tS2 w) tL2 ∧ (tS2 w).Ok := by
  obtain ⟨_, h, ho⟩ := tA1 w
  have h2 := TL.add (s := tS1 w) h ho (b := tB2) (q := tB1) (good_nil (by unfold I64; omega) (by unfold I64; omega) (by unfold I64; omega) (by unfold I64; omega)) (by simp [tL1]) (by simp [tS1]) (by simp [tS1, mget, tB2]) (by simp [tB1, tB2]) (by simp [tB2]) (by rw [tD2]; simp [tS1, mget])
  rw [tD2, tL2'] at h2
  exact h2
theorem tA3 (w : Nat) : (tS2 w).add tL2 ⟨4, 0, 1, 2, [], []⟩ = ((0, 13), tS2 w, tL2) := by simp [TS.add, tS2, mget, tB1]
theorem tA4 (w : Nat) : (tS2 w).add tL2 ⟨4, 0, 2, 999, [], []⟩ = ((0, 12), tS2 w, tL2) := by simp [TS.add, tS2, mget]
theorem tW1 (w : Nat) : (tS2 w).way 1 3 = some [2, 3] := by simp [TS.way, wayF, tS2, mget, viewOf, tB1, tB2]
theorem tW2 (w : Nat) : (tS2 w).way 3 2 = none := by simp [TS.way, wayF, tS2, mget, viewOf, tB1, tB2]

