/- The arena of digests, the document's arena, and their functions. -/
import Derived.Test.YtmigjpmadhebfaaWi1
namespace Go.Proofs.Ytmigjpmadhebfaa
open Go Go.Proofs
set_option maxRecDepth 100000

/-- Rows of bytes and their numbers. -/
def kv : Nat → List (List UInt8) → List (ByteArray × Value)
  | _, [] => []
  | i, s :: l => (bstr s, .int .i64 ((i + 1 : Nat) : Int)) :: kv (i + 1) l
/-- The number of a row; 0: none. -/
def dnum : List (List UInt8) → List UInt8 → Nat
  | [], _ => 0
  | x :: l, s => if s = x then 1 else if dnum l s = 0 then 0 else dnum l s + 1
theorem dnum_zero (l : List (List UInt8)) (s : List UInt8) : dnum l s = 0 ↔ s ∉ l := by
  induction l with
  | nil => simp [dnum]
  | cons x l ih =>
    by_cases h : s = x
    · simp [dnum, h]
    · simp only [dnum, h, if_false, List.mem_cons, false_or]
      by_cases h0 : dnum l s = 0
      · simp [h0, ih.1 h0]
      · simp only [h0, if_false]
        constructor
        · intro e; omega
        · intro e; exact absurd (ih.2 e) h0
theorem dnum_le (l : List (List UInt8)) (s : List UInt8) : dnum l s ≤ l.length := by
  induction l with
  | nil => simp [dnum]
  | cons x l ih => simp only [dnum, List.length_cons]; split; omega; split <;> omega
theorem mget_kv (l : List (List UInt8)) (s : List UInt8) : ∀ i, mget (kv i l) (bstr s) = if dnum l s = 0 then none else some (.int .i64 ((i + dnum l s : Nat) : Int)) := by
  induction l with
  | nil => intro i; simp [kv, mget, dnum]
  | cons x l ih =>
    intro i
    simp only [kv, mget, dnum, bstr_inj]
    by_cases h : s = x
    · simp [h]
    · simp only [h, if_false, ih (i + 1)]
      by_cases h0 : dnum l s = 0
      · simp [h0]
      · simp only [h0, if_false]
        rw [if_neg (by omega)]
        simp; omega
theorem mset_kv (l : List (List UInt8)) (s : List UInt8) (h : s ∉ l) : ∀ i, mset (kv i l) (bstr s) (.int .i64 ((i + l.length + 1 : Nat) : Int)) = kv i (l ++ [s]) := by
  induction l with
  | nil => intro i; simp [kv, mset]
  | cons x l ih =>
    intro i
    simp at h
    simp only [kv, mset, bstr_inj, h.1, if_false, List.cons_append]
    have := ih h.2 (i + 1)
    rw [← this]
    simp [Nat.add_assoc, Nat.add_comm, Nat.add_left_comm]
/-- Behind a row was asked. -/
def dput (l : List (List UInt8)) (s : List UInt8) : List (List UInt8) := if s ∈ l then l else l ++ [s]
theorem dnum_append (l : List (List UInt8)) (s : List UInt8) : dnum (l ++ [s]) s = if s ∈ l then dnum l s else l.length + 1 := by
  induction l with
  | nil => simp [dnum]
  | cons x l ih =>
    by_cases h : s = x
    · simp [dnum, h]
    · simp only [List.cons_append, dnum, h, if_false, ih, List.mem_cons, false_or, List.length_cons]
      by_cases hm : s ∈ l
      · simp [hm]
      · simp [hm]
theorem dnum_put_new {l : List (List UInt8)} {s : List UInt8} (h : s ∉ l) : dput l s = l ++ [s] ∧ dnum (dput l s) s = l.length + 1 := by
  have e : dput l s = l ++ [s] := if_neg h
  rw [e, dnum_append, if_neg h]; exact ⟨rfl, rfl⟩
theorem dnum_put_old {l : List (List UInt8)} {s : List UInt8} (h : s ∈ l) : dput l s = l := if_pos h
def strV (s : List UInt8) : Value := .string (bstr s)
instance (s : List UInt8) : One (strV s) := ⟨rfl, rfl⟩

/-- An arena holds rows. -/
def arenaI (p : Nat) (l : List (List UInt8)) : HProp := fun h => ∃ a n c m, Den [pt p (.cells [.slice a n c, .map (some m)].toArray 93), rowP 9 1 a n c (l.map strV), mapP strK m (kv 0 l)] h
theorem open_arena {p : Nat} {l : List (List UInt8)} : Opens arenaI p l (fun x : (Option Addr) × (Nat) × (Nat) × (Nat) => (l.length = x.2.1)) (fun x R => (pt p (.cells [.slice x.1 x.2.1 x.2.2.1, .map (some x.2.2.2)].toArray 93)) :: (rowP 9 1 x.1 x.2.1 x.2.2.1 (l.map strV)) :: (mapP strK x.2.2.2 (kv 0 l)) :: R) := by
  rintro R m_ ⟨m1, m2, d, e, ⟨a, n, c, m, h⟩, r⟩
  refine ⟨(a, n, c, m), ?_, Den_app d e h r⟩
  obtain ⟨_, _, _, _, _, h1, h2, _, _, hr, _⟩ := h
  simpa using (rowP_len hr).1
theorem SC.op_arena {W : World} {P : Program} {L R : List HProp} {n_ : Nat} {c_ : Code} {k_ : Kont} {l_ : Env} {p : Nat} {l : List (List UInt8)} [t_ : TakeAt L arenaI p l R] (h_ : ∀ (a : Option Addr) (n : Nat) (c : Nat) (m : Nat), (l.length = n) → SC W P n_ c_ k_ l_ ((pt p (.cells [.slice a n c, .map (some m)].toArray 93)) :: (rowP 9 1 a n c (l.map strV)) :: (mapP strK m (kv 0 l)) :: R)) : SC W P n_ c_ k_ l_ L := SC.opn (open_arena) fun x hx => h_ x.1 x.2.1 x.2.2.1 x.2.2.2 hx
theorem SN.op_arena {W : World} {P : Program} {L R : List HProp} {n_ : Nat} {k_ : Kont} {l_ : Env} {p : Nat} {l : List (List UInt8)} [t_ : TakeAt L arenaI p l R] (h_ : ∀ (a : Option Addr) (n : Nat) (c : Nat) (m : Nat), (l.length = n) → SN W P n_ k_ l_ ((pt p (.cells [.slice a n c, .map (some m)].toArray 93)) :: (rowP 9 1 a n c (l.map strV)) :: (mapP strK m (kv 0 l)) :: R)) : SN W P n_ k_ l_ L := SN.opn (open_arena) fun x hx => h_ x.1 x.2.1 x.2.2.1 x.2.2.2 hx
theorem SR.op_arena {W : World} {P : Program} {L R : List HProp} {n_ : Nat} {ops_ : Array Oper} {os_ : List Oper} {k_ : Kont} {l_ : Env} {p : Nat} {l : List (List UInt8)} [t_ : TakeAt L arenaI p l R] (h_ : ∀ (a : Option Addr) (n : Nat) (c : Nat) (m : Nat), (l.length = n) → SR W P n_ ops_ os_ k_ l_ ((pt p (.cells [.slice a n c, .map (some m)].toArray 93)) :: (rowP 9 1 a n c (l.map strV)) :: (mapP strK m (kv 0 l)) :: R)) : SR W P n_ ops_ os_ k_ l_ L := SR.opn (open_arena) fun x hx => h_ x.1 x.2.1 x.2.2.1 x.2.2.2 hx
theorem SQ.op_arena {W : World} {P : Program} {L R : List HProp} {n_ : Nat} {ops_ : Array Oper} {r_ : Ord} {Ts_ : Facts} {k_ : Kont} {l_ : Env} {p : Nat} {l : List (List UInt8)} [t_ : TakeAt L arenaI p l R] (h_ : ∀ (a : Option Addr) (n : Nat) (c : Nat) (m : Nat), (l.length = n) → SQ W P n_ ops_ r_ Ts_ k_ l_ ((pt p (.cells [.slice a n c, .map (some m)].toArray 93)) :: (rowP 9 1 a n c (l.map strV)) :: (mapP strK m (kv 0 l)) :: R)) : SQ W P n_ ops_ r_ Ts_ k_ l_ L := SQ.opn (open_arena) fun x hx => h_ x.1 x.2.1 x.2.2.1 x.2.2.2 hx
theorem CallsK.op_arena {W : World} {P : Program} {L R : List HProp} {f_ : FuncId} {args_ : Array Value} {K_ : Value → List HProp → Prop} {p : Nat} {l : List (List UInt8)} [t_ : TakeAt L arenaI p l R] (h_ : ∀ (a : Option Addr) (n : Nat) (c : Nat) (m : Nat), (l.length = n) → CallsK W P f_ args_ ((pt p (.cells [.slice a n c, .map (some m)].toArray 93)) :: (rowP 9 1 a n c (l.map strV)) :: (mapP strK m (kv 0 l)) :: R) K_) : CallsK W P f_ args_ L K_ := CallsK.opn (open_arena) fun x hx => h_ x.1 x.2.1 x.2.2.1 x.2.2.2 hx
/-- Blocks at the head, put together. -/
theorem Lands.wrap {A : HProp} {L R : List HProp} (h : ∀ m, Den L m → A m) : Lands (L ++ R) (A :: R) := fun m H => by
  obtain ⟨k1, k2, d2, e2, x, y⟩ := Den_append.1 H
  exact ⟨k1, k2, d2, e2, h _ x, y⟩
theorem close_arena {L R R1 R2 : List HProp} {p n c m : Nat} {a : Option Addr} {cs : List Value} {l : List (List UInt8)} {mm : List (ByteArray × Value)} [t : TakePt L p (.cells [.slice a n c, .map (some m)].toArray 93) R1] [u : TakeRow R1 a 9 1 n c cs R2] [w : TakeMap R2 strK m mm R]
    (h : cs = l.map strV) (h2 : mm = kv 0 l) : Lands L (At arenaI p l :: R) := fun q H => by
  subst h; subst h2
  obtain ⟨m1, m2, d, e, hp, hr⟩ := Den_perm t.perm q H
  obtain ⟨m3, m4, d2, e2, hq, hs⟩ := Den_perm u.perm m2 hr
  have H2 : Den ([pt p (.cells [.slice a n c, .map (some m)].toArray 93), rowP 9 1 a n c (l.map strV), mapP strK m (kv 0 l)] ++ R) q := ⟨m1, m2, d, e, hp, m3, m4, d2, e2, hq, Den_perm w.perm m4 hs⟩
  exact Lands.wrap (A := At arenaI p l) (fun z hz => ⟨a, n, c, m, hz⟩) q H2
theorem term_New {W : World} {F : List HProp} [Abs F] :
    CallsK W Try.prog 39 #[] (F) (fun v L => ∃ p, v = .pointer (some ⟨p, 0, none⟩) ∧ Lands L (At arenaI p [] :: F)) := by
  refine CallsK_enter (n := 4) Try.func39 rfl rfl rfl ?_
  refine SC_seq ?_
  refine SC_region ?_
  refine SR_pu (RD_assign rfl) rfl ?_
  refine SR_nil ?_
  refine SN.le (l := []) ?_ (.nil)
  refine SN_seq ?_
  refine SC_seq ?_
  refine SC_region ?_
  refine SR_ox (OX_mk strK) rfl ?_
  rintro _ _ ⟨b1, rfl, rfl⟩
  refine SR_pu (RD_build (.cons rfl (.nil)) built93_1) rfl ?_
  refine SR_ox (OX_box rfl rfl) rfl ?_
  rintro _ _ ⟨b3, rfl, rfl⟩
  refine SR_pu (RD_assign rfl) rfl ?_
  refine SR_nil ?_
  refine SN.le (l := [(0, _)]) ?_ (.cons rfl (.nil))
  refine SN_seq ?_
  refine SC_ret1 rfl rfl ?_
  refine ⟨_, rfl, ?_⟩
  refine (row_new 9 1 none).trans ?_
  exact (close_arena (p := b3) (l := []) rfl rfl).trans .fin

theorem term_Digest_old {W : World} {F : List HProp} [Abs F] (p : Nat) (l : List (List UInt8)) (a : Option Addr) (n c : Nat) (bs : List UInt8) [HasRow F a (bs.map byteV)] (hn : bs.length = n) (hm : dnum l bs ≠ 0) :
    CallsK W Try.prog 15 #[.pointer (some ⟨p, 0, none⟩), .slice a n c] (At arenaI p l :: F) (fun v L => v = .int .i64 (dnum l bs) ∧ Lands L (At arenaI p l :: F)) := by
  refine CallsK_enter (n := 39) Try.func15 rfl rfl rfl ?_
  refine SC_seq ?_
  refine SC_region ?_
  refine SR_pu (RD_assign rfl) rfl ?_
  refine SR_nil ?_
  refine SN.le (l := [(0, _), (1, _)]) ?_ (.cons rfl (.cons rfl (.nil)))
  refine SN_seq ?_
  refine SC_seq ?_
  refine SC.op_arena (p := p) fun a1 n1 c1 m1 hn1 => ?_
  refine SC_drawn (.cons 0 true (.cons 1 true (.cons 2 true (.cons 3 true (.cons 4 true (.cons 5 true (.cons 6 true (.cons 7 true (.nil))))))))) (by kernel_rfl) (by kernel_rfl) ?_
  refine SQ_pu rfl (RD_move rfl) rfl ?_
  refine SQ_pu rfl (RD_nilCheck rfl) rfl ?_
  first
    | refine SQ_pu rfl (RD_fieldAddr 1 Try.runUnderlying93 rfl rfl Try.sizeOf91 rfl) rfl ?_
    | refine SQ_rd rfl (RD_fieldAddrO 1 Try.runUnderlying93 rfl rfl Try.sizeOf91 rfl (by simp <;> omega)) Has.ro rfl ?_
  refine SQ_rd rfl (RD_load Try.isAgg91 rfl) (Has.ce rfl) rfl ?_
  refine SQ_pu rfl (RD_move rfl) rfl ?_
  refine SQ_rd rfl (RD_b2s (bs := bs) Try.underlying39 Try.underlying9 Try.underlying5 rfl hn) Has.ro rfl ?_
  refine SQ_rd rfl (RD_lookS (K := strK) Try.underlying91 Try.underlying9 Try.zeroValue3 rfl rfl (by rw [mget_kv, if_neg hm, Nat.zero_add])) (Has.ma (K := strK)) rfl ?_
  refine SQ_pu rfl (RD_assign rfl) rfl ?_
  refine SQ_nil ?_
  refine SN.le (l := [(0, _), (1, _), (5, _)]) ?_ (.cons rfl (.cons rfl (.cons rfl (.nil))))
  refine SN_seq ?_
  refine SC_seq ?_
  refine SC_seq ?_
  refine SC_region ?_
  refine SR_pu (RD_move rfl) rfl ?_
  refine SR_pu (RD_eql rfl rfl) rfl ?_
  refine SR_nil ?_
  refine SN.le (l := [(0, _), (1, _), (5, _), (14, _)]) ?_ (.cons rfl (.cons rfl (.cons rfl (.cons rfl (.nil)))))
  refine SN_seq ?_
  refine SC_cond_false rfl (by simp; omega) ?_
  refine SC_skip ?_
  refine SN_seq ?_
  refine SC_seq ?_
  refine SC_region ?_
  refine SR_pu (RD_move rfl) rfl ?_
  refine SR_pu (RD_assign rfl) rfl ?_
  refine SR_nil ?_
  refine SN.le (l := [(4, _)]) ?_ (.cons rfl (.nil))
  refine SN_seq ?_
  refine SC_ret1 rfl rfl ?_
  exact ⟨rfl, (close_arena (p := p) (l := l) rfl rfl).trans .fin⟩

theorem term_Digest_new {W : World} {F : List HProp} [Abs F] (p : Nat) (l : List (List UInt8)) (a : Option Addr) (n c : Nat) (bs : List UInt8) [HasRow F a (bs.map byteV)] (hn : bs.length = n) (hm : dnum l bs = 0) (hl : l.length ≤ 1000000000) :
    CallsK W Try.prog 15 #[.pointer (some ⟨p, 0, none⟩), .slice a n c] (At arenaI p l :: F) (fun v L => v = .int .i64 ((l.length + 1 : Nat) : Int) ∧ Lands L (At arenaI p (l ++ [bs]) :: F)) := by
  refine CallsK_enter (n := 39) Try.func15 rfl rfl rfl ?_
  refine SC_seq ?_
  refine SC_region ?_
  refine SR_pu (RD_assign rfl) rfl ?_
  refine SR_nil ?_
  refine SN.le (l := [(0, _), (1, _)]) ?_ (.cons rfl (.cons rfl (.nil)))
  refine SN_seq ?_
  refine SC_seq ?_
  refine SC.op_arena (p := p) fun a1 n1 c1 m1 hn1 => ?_
  refine SC_drawn (.cons 0 true (.cons 1 true (.cons 2 true (.cons 3 true (.cons 4 true (.cons 5 true (.cons 6 true (.cons 7 true (.nil))))))))) (by kernel_rfl) (by kernel_rfl) ?_
  refine SQ_pu rfl (RD_move rfl) rfl ?_
  refine SQ_pu rfl (RD_nilCheck rfl) rfl ?_
  first
    | refine SQ_pu rfl (RD_fieldAddr 1 Try.runUnderlying93 rfl rfl Try.sizeOf91 rfl) rfl ?_
    | refine SQ_rd rfl (RD_fieldAddrO 1 Try.runUnderlying93 rfl rfl Try.sizeOf91 rfl (by simp <;> omega)) Has.ro rfl ?_
  refine SQ_rd rfl (RD_load Try.isAgg91 rfl) (Has.ce rfl) rfl ?_
  refine SQ_pu rfl (RD_move rfl) rfl ?_
  refine SQ_rd rfl (RD_b2s (bs := bs) Try.underlying39 Try.underlying9 Try.underlying5 rfl hn) Has.ro rfl ?_
  refine SQ_rd rfl (RD_lookNo (K := strK) Try.underlying91 Try.underlying9 Try.zeroValue3 rfl rfl (by rw [mget_kv, if_pos hm])) (Has.ma (K := strK)) rfl ?_
  refine SQ_pu rfl (RD_assign rfl) rfl ?_
  refine SQ_nil ?_
  refine SN.le (l := [(0, _), (1, _), (5, _)]) ?_ (.cons rfl (.cons rfl (.cons rfl (.nil))))
  refine SN_seq ?_
  refine SC_seq ?_
  refine SC_seq ?_
  refine SC_region ?_
  refine SR_pu (RD_move rfl) rfl ?_
  refine SR_pu (RD_eql rfl rfl) rfl ?_
  refine SR_nil ?_
  refine SN.le (l := [(0, _), (1, _), (5, _), (14, _)]) ?_ (.cons rfl (.cons rfl (.cons rfl (.cons rfl (.nil)))))
  refine SN_seq ?_
  refine SC_cond_true rfl (rfl) ?_
  refine SC_seq ?_
  refine SC_drawn (.cons 0 true (.cons 1 true (.cons 2 true (.cons 3 true (.cons 4 true (.cons 5 true (.cons 6 true (.cons 7 false (.cons 8 false (.cons 9 true (.cons 10 true (.cons 11 false (.nil))))))))))))) (by kernel_rfl) (by kernel_rfl) ?_
  refine SQ_pu rfl (RD_move rfl) rfl ?_
  refine SQ_pu rfl (RD_move rfl) rfl ?_
  refine SQ_pu rfl (RD_nilCheck rfl) rfl ?_
  first
    | refine SQ_pu rfl (RD_fieldAddr0 Try.runUnderlying93 rfl rfl Try.sizeOf90 rfl) rfl ?_
    | refine SQ_rd rfl (RD_fieldAddrO 0 Try.runUnderlying93 rfl rfl Try.sizeOf90 rfl (by simp <;> omega)) Has.ro rfl ?_
  refine SQ_rd rfl (RD_load Try.isAgg90 rfl) (Has.ce rfl) rfl ?_
  refine SQ_pu rfl (RD_move rfl) rfl ?_
  refine SQ_rd rfl (RD_b2s (bs := bs) Try.underlying39 Try.underlying9 Try.underlying5 rfl hn) Has.ro rfl ?_
  refine SQ_ox rfl (OX_lit1 Try.underlying90 Try.type9 rfl rfl rfl rfl (.cons rfl (.nil)) (.cons rfl (.nil))) rfl ?_
  rintro _ _ ⟨b22, rfl, rfl⟩
  refine ⟨.w rfl (.h (Has.ce rfl) (.nil)), ?_⟩
  refine SQ_ox rfl (OX_app 1 Try.underlying90 Try.underlying90 Try.type9 rfl rfl rfl rfl rfl (by first | rfl | simp; done | (simp; omega)) 16 rfl (by omega) (by omega)) rfl ?_
  rintro _ _ ⟨a23, c23, rfl, rfl⟩
  refine ⟨.h Has.ro (.w rfl (.nil)), ?_⟩
  refine SQ_pu rfl (RD_nilCheck rfl) rfl ?_
  first
    | refine SQ_pu rfl (RD_fieldAddr0 Try.runUnderlying93 rfl rfl Try.sizeOf90 rfl) rfl ?_
    | refine SQ_rd rfl (RD_fieldAddrO 0 Try.runUnderlying93 rfl rfl Try.sizeOf90 rfl (by simp <;> omega)) Has.ro rfl ?_
  refine SQ_ox0 rfl (OX_st Try.sizeOf90 rfl rfl) ?_
  rintro _ _ rfl
  refine ⟨.w rfl (.w rfl (.nil)), ?_⟩
  refine SQ_nil ?_
  refine SN.le (l := [(0, _), (1, _)]) ?_ (.cons rfl (.cons rfl (.nil)))
  refine SN_seq ?_
  refine SC_seq ?_
  refine SC_region ?_
  refine SR_pu (RD_move rfl) rfl ?_
  refine SR_pu (RD_nilCheck rfl) rfl ?_
  first
    | refine SR_pu (RD_fieldAddr0 Try.runUnderlying93 rfl rfl Try.sizeOf90 rfl) rfl ?_
    | refine SR_rd (RD_fieldAddrO 0 Try.runUnderlying93 rfl rfl Try.sizeOf90 rfl (by simp <;> omega)) Has.ro rfl ?_
  refine SR_rd (RD_load Try.isAgg90 rfl) (Has.ce rfl) rfl ?_
  refine SR_pu (RD_len Try.runUnderlying90 rfl) rfl ?_
  refine SR_pu (RD_assign rfl) rfl ?_
  refine SR_nil ?_
  refine SN.le (l := [(0, _), (1, _), (5, _)]) ?_ (.cons rfl (.cons rfl (.cons rfl (.nil))))
  refine SN_seq ?_
  refine SC_drawn (.cons 0 true (.cons 1 true (.cons 2 true (.cons 3 true (.cons 4 true (.cons 5 true (.cons 6 true (.cons 7 false (.nil))))))))) (by kernel_rfl) (by kernel_rfl) ?_
  refine SQ_pu rfl (RD_move rfl) rfl ?_
  refine SQ_pu rfl (RD_nilCheck rfl) rfl ?_
  first
    | refine SQ_pu rfl (RD_fieldAddr 1 Try.runUnderlying93 rfl rfl Try.sizeOf91 rfl) rfl ?_
    | refine SQ_rd rfl (RD_fieldAddrO 1 Try.runUnderlying93 rfl rfl Try.sizeOf91 rfl (by simp <;> omega)) Has.ro rfl ?_
  refine SQ_rd rfl (RD_load Try.isAgg91 rfl) (Has.ce rfl) rfl ?_
  refine SQ_pu rfl (RD_move rfl) rfl ?_
  refine SQ_rd rfl (RD_b2s (bs := bs) Try.underlying39 Try.underlying9 Try.underlying5 rfl hn) Has.ro rfl ?_
  refine SQ_pu rfl (RD_move rfl) rfl ?_
  refine SQ_ox0 rfl (OX_mu (K := strK) Try.underlying91 Try.underlying9 rfl rfl rfl) ?_
  rintro _ _ rfl
  refine ⟨.w rfl (.w rfl (.nil)), ?_⟩
  refine SQ_nil ?_
  refine SN.le (l := [(5, _)]) ?_ (.cons rfl (.nil))
  refine SN_seq ?_
  refine SC_seq ?_
  refine SC_region ?_
  refine SR_pu (RD_move rfl) rfl ?_
  refine SR_pu (RD_assign rfl) rfl ?_
  refine SR_nil ?_
  refine SN.le (l := [(4, _)]) ?_ (.cons rfl (.nil))
  refine SN_seq ?_
  refine SC_ret1 rfl rfl ?_
  subst hn1
  refine ⟨rfl, (close_arena (p := p) (l := l ++ [bs]) ?_ ?_).trans .fin⟩
  · simp [strV]
  · have := mset_kv l bs ((dnum_zero l bs).1 hm) 0; simpa using this

theorem term_Digest {W : World} {F : List HProp} [Abs F] (p : Nat) (l : List (List UInt8)) (a : Option Addr) (n c : Nat) (bs : List UInt8) {cs : List Value} [HasRow F a cs] (hcs : cs = bs.map byteV) (hn : bs.length = n) (hl : l.length ≤ 1000000000)
    (l' : List (List UInt8)) (k : Nat) (h1 : dput l bs = l') (h2 : dnum l' bs = k) :
    CallsK W Try.prog 15 #[.pointer (some ⟨p, 0, none⟩), .slice a n c] (At arenaI p l :: F) (fun v L => v = .int .i64 k ∧ Lands L (At arenaI p l' :: F)) := by
  subst hcs; subst h2; subst h1
  by_cases hm : dnum l bs = 0
  · obtain ⟨e1, e2⟩ := dnum_put_new ((dnum_zero l bs).1 hm)
    rw [e2, e1]; exact term_Digest_new p l a n c bs hn hm hl
  · have hmem : bs ∈ l := by
      have := (dnum_zero l bs)
      exact Classical.not_not.1 fun h => hm (this.2 h)
    rw [dnum_put_old hmem]; exact term_Digest_old p l a n c bs hn hm

theorem dnum_at {l : List (List UInt8)} {bs : List UInt8} {i : Nat} (h : ∀ j, j < i → l[j]? ≠ some bs) (hi : l[i]? = some bs) : dnum l bs = i + 1 := by
  induction l generalizing i with
  | nil => simp at hi
  | cons x l ih =>
    cases i with
    | zero => simp at hi; simp [dnum, hi]
    | succ i =>
      have h0 := h 0 (by omega)
      simp at h0 hi
      have := ih (i := i) (fun j hj => by have := h (j + 1) (by omega); simpa using this) hi
      simp only [dnum]
      rw [if_neg (fun e => h0 e.symm), this]
      simp
theorem dnum_none {l : List (List UInt8)} {bs : List UInt8} (h : ∀ j, j < l.length → l[j]? ≠ some bs) : bs ∉ l := by
  intro hm
  obtain ⟨j, hj, e⟩ := List.getElem_of_mem hm
  exact h j hj (by rw [List.getElem?_eq_getElem hj, e])

