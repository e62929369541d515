/- The book signed, the world, the digests of texts and numbers. -/
import Derived.Test.YtmigjpmadhebfaaCp
import Derived.Test.YtmigjpmadhebfaaWi2
import Derived.Test.YtmigjpmadhebfaaSl15
namespace Go.Proofs.Ytmigjpmadhebfaa
open Go Go.Proofs
set_option maxRecDepth 100000

theorem book_Sign_no {W : World} {F : List HProp} [Abs F] (p : Nat) (m : Nat) (T : List (Int × Nat × List Int)) (w k : Int) (h1 : mget (outer T) k = none) (h3 : ∀ b, mset (outer T) k (.map (some b)) = outer (T ++ [(k, b, [])])) (h4 : addTo (sgn T) w k = sgn T ++ [(k, [w])]) :
    CallsK W Try.prog 23 #[.pointer (some ⟨p, 0, none⟩), .int .i64 w, .int .i64 k] (pt p (.cells [.map (some m)].toArray 99) :: mapP intK m (outer T) :: bigP T :: F) (fun v L => v = .tuple #[] ∧ Lands L (At bookI p (addTo (sgn T) w k) :: F)) := by
  refine CallsK_enter (n := 26) Try.func23 rfl rfl rfl ?_
  refine SC_seq ?_
  refine SC_seq ?_
  refine SC_region ?_
  refine SR_pu (RD_move rfl) rfl ?_
  first
    | refine SR_pu (RD_nilCheck rfl) rfl ?_
    | refine SR_pu (RD_nilCheckF rfl) rfl ?_
  first
    | refine SR_pu (RD_fieldAddr0 Try.runUnderlying99 rfl rfl Try.sizeOf97 rfl) rfl ?_
    | refine SR_rd (RD_fieldAddrO 0 Try.runUnderlying99 rfl rfl Try.sizeOf97 rfl (by simp <;> omega)) Has.ro rfl ?_
  refine SR_rd (RD_load Try.isAgg97 rfl) (Has.ce rfl) rfl ?_
  refine SR_pu (RD_move rfl) rfl ?_
  refine SR_rd (RD_lookNo (K := intK) Try.underlying97 Try.underlying3 Try.zeroValue96 rfl rfl h1) (Has.ma (K := intK)) rfl ?_
  refine SR_pu (RD_eqlM Try.underlying96 rfl rfl) rfl ?_
  refine SR_nil ?_
  refine SN.le (l := [(0, _), (1, _), (2, _), (12, _)]) ?_ (.cons rfl (.cons rfl (.cons rfl (.cons rfl (.nil)))))
  refine SN_seq ?_
  refine SC_cond_true rfl (rfl) ?_
  refine SC_region ?_
  refine SR_pu (RD_move rfl) rfl ?_
  first
    | refine SR_pu (RD_nilCheck rfl) rfl ?_
    | refine SR_pu (RD_nilCheckF rfl) rfl ?_
  first
    | refine SR_pu (RD_fieldAddr0 Try.runUnderlying99 rfl rfl Try.sizeOf97 rfl) rfl ?_
    | refine SR_rd (RD_fieldAddrO 0 Try.runUnderlying99 rfl rfl Try.sizeOf97 rfl (by simp <;> omega)) Has.ro rfl ?_
  refine SR_rd (RD_load Try.isAgg97 rfl) (Has.ce rfl) rfl ?_
  refine SR_pu (RD_move rfl) rfl ?_
  refine SR_ox (OX_mk intK) rfl ?_
  rintro _ _ ⟨b18, rfl, rfl⟩
  refine SR_ox0 (OX_mu (K := intK) Try.underlying97 Try.underlying3 rfl rfl rfl) ?_
  rintro _ _ rfl
  refine SR_nil ?_
  refine SN.le (l := [(0, _), (1, _), (2, _)]) ?_ (.cons rfl (.cons rfl (.cons rfl (.nil))))
  refine SN_seq ?_
  refine SC_region ?_
  refine SR_pu (RD_move rfl) rfl ?_
  first
    | refine SR_pu (RD_nilCheck rfl) rfl ?_
    | refine SR_pu (RD_nilCheckF rfl) rfl ?_
  first
    | refine SR_pu (RD_fieldAddr0 Try.runUnderlying99 rfl rfl Try.sizeOf97 rfl) rfl ?_
    | refine SR_rd (RD_fieldAddrO 0 Try.runUnderlying99 rfl rfl Try.sizeOf97 rfl (by simp <;> omega)) Has.ro rfl ?_
  refine SR_rd (RD_load Try.isAgg97 rfl) (Has.ce rfl) rfl ?_
  refine SR_pu (RD_move rfl) rfl ?_
  refine SR_rd (RD_lookS (K := intK) (m := mset (outer T) k (.map (some b18))) Try.underlying97 Try.underlying3 Try.zeroValue96 rfl rfl (by rw [mget_mset, if_pos rfl])) (Has.ma (K := intK)) rfl ?_
  refine SR_pu (RD_move rfl) rfl ?_
  refine SR_ox0 (OX_mu (K := intK) Try.underlying96 Try.underlying3 rfl rfl rfl) ?_
  rintro _ _ rfl
  refine SR_nil ?_
  refine SN.le (l := []) ?_ (.nil)
  refine SN_stop0 rfl ?_
  refine ⟨rfl, ?_⟩
  have ho : mset (outer T) k (.map (some b18)) = outer (T ++ [(k, b18, [w])]) := by rw [h3]; simp [outer]
  rw [ho, h4]
  have hs : sgn T ++ [(k, [w])] = sgn (T ++ [(k, b18, [w])]) := by simp [sgn]
  rw [hs]
  refine Lands.trans (fun m => Den_perm ((List.Perm.swap _ _ _).trans ((List.Perm.swap _ _ _).cons _)) m) ?_
  have hT : bigP T = bigP (T ++ []) := by simp
  rw [hT]
  exact (Lands.cons (Lands.cons (big_put (t := (k, b18, [w]))))).trans (close_book (p := p) (T := T ++ [(k, b18, [w])]) (.refl _) rfl rfl)

theorem book_Sign {W : World} {F : List HProp} [Abs F] (p : Nat) (S : List (Int × List Int)) (w k : Int) :
    CallsK W Try.prog 23 #[.pointer (some ⟨p, 0, none⟩), .int .i64 w, .int .i64 k] (At bookI p S :: F) (fun v L => v = .tuple #[] ∧ Lands L (At bookI p (addTo S w k) :: F)) := by
  refine CallsK.op_book (p := p) fun m T hT => ?_
  subst hT
  rcases book_find T k with ⟨h1, h2, h3, h4⟩ | ⟨A, b, ws, B, rfl, h2, h3, h4⟩
  · exact book_Sign_no p m T w k h1 h3 (h4 w)
  · exact CallsK.lands (Lands.cons (Lands.cons (big_take rfl))) (book_Sign_yes p m b A B ws w k h2 (h4 w))

/-! ### The world -/
structure WK where
  p : Nat
  t : Nat
  b : Nat
  v : Nat
structure WS where
  l : List (List UInt8)
  S : List (Int × List Int)
def ptr (p : Nat) : Value := .pointer (some ⟨p, 0, none⟩)
def worldI (k : WK) (s : WS) : HProp := fun h => Den [pt k.p (.cells [.pointer (some ⟨k.t, 0, none⟩), .pointer (some ⟨k.b, 0, none⟩), .pointer (some ⟨k.v, 0, none⟩)].toArray 82), At arenaI k.t s.l, At bookI k.b s.S] h
theorem open_world {k : WK} {s : WS} {R : List HProp} : Lands (At worldI k s :: R) (pt k.p (.cells [.pointer (some ⟨k.t, 0, none⟩), .pointer (some ⟨k.b, 0, none⟩), .pointer (some ⟨k.v, 0, none⟩)].toArray 82) :: At arenaI k.t s.l :: At bookI k.b s.S :: R) := fun m H => by
  obtain ⟨m1, m2, d, e, h, r⟩ := H
  exact Den_app d e h r
theorem shut_world {k : WK} {s : WS} {R : List HProp} : Lands (pt k.p (.cells [.pointer (some ⟨k.t, 0, none⟩), .pointer (some ⟨k.b, 0, none⟩), .pointer (some ⟨k.v, 0, none⟩)].toArray 82) :: At arenaI k.t s.l :: At bookI k.b s.S :: R) (At worldI k s :: R) := fun m H =>
  Lands.wrap (A := At worldI k s) (fun _ hz => hz) m H
theorem close_world {k : WK} {l : List (List UInt8)} {S : List (Int × List Int)} {L R R1 R2 : List HProp} [t : TakePt L k.p (.cells [.pointer (some ⟨k.t, 0, none⟩), .pointer (some ⟨k.b, 0, none⟩), .pointer (some ⟨k.v, 0, none⟩)].toArray 82) R1] [u : TakeAt R1 arenaI k.t l R2] [w : TakeAt R2 bookI k.b S R] : Lands L (At worldI k ⟨l, S⟩ :: R) := fun m H => by
  obtain ⟨m1, m2, d, e, hp, hr⟩ := Den_perm t.perm m H
  obtain ⟨m3, m4, d2, e2, hq, hs⟩ := Den_perm u.perm m2 hr
  exact shut_world m ⟨m1, m2, d, e, hp, m3, m4, d2, e2, hq, Den_perm w.perm m4 hs⟩
section
variable {W : World} {P : Program} {L R : List HProp} {k : WK} {s : WS} [t_ : TakeAt L worldI k s R]
theorem Lands.op_world : Lands L (pt k.p (.cells [.pointer (some ⟨k.t, 0, none⟩), .pointer (some ⟨k.b, 0, none⟩), .pointer (some ⟨k.v, 0, none⟩)].toArray 82) :: At arenaI k.t s.l :: At bookI k.b s.S :: R) := fun m H => open_world m (Den_perm t_.perm m H)
end
theorem world_arena {W : World} {P : Program} {k : WK} {s : WS} {F : List HProp} {f : FuncId} {args : Array Value} {K : Value → Prop} {l' : List (List UInt8)} (h : CallsK W P f args (At arenaI k.t s.l :: pt k.p (.cells [.pointer (some ⟨k.t, 0, none⟩), .pointer (some ⟨k.b, 0, none⟩), .pointer (some ⟨k.v, 0, none⟩)].toArray 82) :: At bookI k.b s.S :: F) (fun v L => K v ∧ Lands L (At arenaI k.t l' :: pt k.p (.cells [.pointer (some ⟨k.t, 0, none⟩), .pointer (some ⟨k.b, 0, none⟩), .pointer (some ⟨k.v, 0, none⟩)].toArray 82) :: At bookI k.b s.S :: F))) :
    CallsK W P f args (At worldI k s :: F) (fun v L => K v ∧ Lands L (At worldI k ⟨l', s.S⟩ :: F)) :=
  CallsK.imp (CallsK.lands (open_world.trans fun m => Den_perm (List.Perm.swap _ _ _) m) h) fun _ _ ⟨h1, h2⟩ => ⟨h1, (h2.trans fun m => Den_perm (List.Perm.swap _ _ _) m).trans (shut_world (k := k) (s := ⟨l', s.S⟩))⟩
theorem world_book {W : World} {P : Program} {k : WK} {s : WS} {F : List HProp} {f : FuncId} {args : Array Value} {K : Value → Prop} {S' : List (Int × List Int)} (h : CallsK W P f args (At bookI k.b s.S :: pt k.p (.cells [.pointer (some ⟨k.t, 0, none⟩), .pointer (some ⟨k.b, 0, none⟩), .pointer (some ⟨k.v, 0, none⟩)].toArray 82) :: At arenaI k.t s.l :: F) (fun v L => K v ∧ Lands L (At bookI k.b S' :: pt k.p (.cells [.pointer (some ⟨k.t, 0, none⟩), .pointer (some ⟨k.b, 0, none⟩), .pointer (some ⟨k.v, 0, none⟩)].toArray 82) :: At arenaI k.t s.l :: F))) :
    CallsK W P f args (At worldI k s :: F) (fun v L => K v ∧ Lands L (At worldI k ⟨s.l, S'⟩ :: F)) :=
  CallsK.imp (CallsK.lands (open_world.trans fun m => Den_perm ((List.Perm.swap _ _ _).cons _ |>.trans (List.Perm.swap _ _ _)) m) h) fun _ _ ⟨h1, h2⟩ => ⟨h1, (h2.trans fun m => Den_perm ((List.Perm.swap _ _ _).trans ((List.Perm.swap _ _ _).cons _)) m).trans (shut_world (k := k) (s := ⟨s.l, S'⟩))⟩
theorem w_Sign {W : World} {F : List HProp} [Abs F] (k : WK) (s : WS) (w d : Int) : CallsK W Try.prog 23 #[.pointer (some ⟨k.b, 0, none⟩), .int .i64 w, .int .i64 d] (At worldI k s :: F) (fun v L => v = .tuple #[] ∧ Lands L (At worldI k ⟨s.l, addTo s.S w d⟩ :: F)) :=
  world_book (book_Sign k.b s.S w d)
theorem w_Has {W : World} {F : List HProp} [Abs F] (k : WK) (s : WS) (w d : Int) : CallsK W Try.prog 46 #[.pointer (some ⟨k.b, 0, none⟩), .int .i64 w, .int .i64 d] (At worldI k s :: F) (fun v L => v = .bool (decide (w ∈ signers s.S d)) ∧ Lands L (At worldI k s :: F)) :=
  world_book (book_Has k.b s.S w d)
theorem w_Digest {W : World} {F : List HProp} [Abs F] (k : WK) (s : WS) (a : Option Addr) (n c : Nat) (bs : List UInt8) {cs : List Value} [HasRow F a cs] (hcs : cs = bs.map byteV) (hn : bs.length = n) (hl : s.l.length ≤ 1000000000) (l' : List (List UInt8)) (d : Nat) (h1 : dput s.l bs = l') (h2 : dnum l' bs = d) :
    CallsK W Try.prog 15 #[.pointer (some ⟨k.t, 0, none⟩), .slice a n c] (At worldI k s :: F) (fun v L => v = .int .i64 d ∧ Lands L (At worldI k ⟨l', s.S⟩ :: F)) :=
  haveI : HasRow (pt k.p (.cells [.pointer (some ⟨k.t, 0, none⟩), .pointer (some ⟨k.b, 0, none⟩), .pointer (some ⟨k.v, 0, none⟩)].toArray 82) :: At bookI k.b s.S :: F) a cs := inferInstance
  world_arena (term_Digest k.t s.l a n c bs hcs hn hl l' d h1 h2)

theorem seal_New {W : World} {F : List HProp} [Abs F] (x : Int) :
    CallsK W Try.prog 41 #[.int .i64 x] (F) (fun v L => ∃ p, v = .pointer (some ⟨p, 0, none⟩) ∧ Lands L (pt p (.cells [.int .i64 (max x 1), .slice none 0 0].toArray 124) :: F)) := by
  refine CallsK_enter (n := 7) Try.func41 rfl rfl rfl ?_
  refine SC_seq ?_
  refine SC_region ?_
  refine SR_pu (RD_assign rfl) rfl ?_
  refine SR_nil ?_
  refine SN.le (l := [(0, _)]) ?_ (.cons rfl (.nil))
  refine SN_seq ?_
  refine SC_seq ?_
  refine SC_region ?_
  refine SR_pu (RD_move rfl) rfl ?_
  refine SR_pu (RD_max rfl rfl) rfl ?_
  refine SR_pu (RD_build (.cons rfl (.nil)) built124_0) rfl ?_
  refine SR_ox (OX_box rfl rfl) rfl ?_
  rintro _ _ ⟨b6, rfl, rfl⟩
  refine SR_pu (RD_assign rfl) rfl ?_
  refine SR_nil ?_
  refine SN.le (l := [(2, _)]) ?_ (.cons rfl (.nil))
  refine SN_seq ?_
  refine SC_ret1 rfl rfl ?_
  have e : (if 1 > x then 1 else x) = max x 1 := by split <;> omega
  rw [e]
  exact ⟨_, rfl, .fin⟩

def vneed (f : Int) : Int := max (min (max f 0) 100 + 1) 1

theorem enve_New {W : World} {F : List HProp} [Abs F] (f : Int) :
    CallsK W Try.prog 7 #[.int .i64 f] (F) (fun v L => ∃ k : WK, v = .pointer (some ⟨k.p, 0, none⟩) ∧ Lands L (At worldI k ⟨[], []⟩ :: pt k.v (.cells [.int .i64 (vneed f), .slice none 0 0].toArray 124) :: F)) := by
  refine CallsK_enter (n := 12) Try.func7 rfl rfl rfl ?_
  refine SC_seq ?_
  refine SC_region ?_
  refine SR_pu (RD_assign rfl) rfl ?_
  refine SR_nil ?_
  refine SN.le (l := [(0, _)]) ?_ (.cons rfl (.nil))
  refine SN_seq ?_
  refine SC_seq ?_
  refine SC_region ?_
  refine SR_call Try.call39 (.nil) (term_New) (lts rfl) ?_
  rintro _ L1 ⟨q1, rfl, hL1⟩
  refine SR.lands hL1 ?_
  refine SR_call Try.call40 (.nil) (sign_New) (lts rfl) ?_
  rintro _ L2 ⟨q2, rfl, hL2⟩
  refine SR.lands hL2 ?_
  refine SR_pu (RD_move rfl) rfl ?_
  refine SR_pu (RD_max rfl rfl) rfl ?_
  refine SR_pu (RD_min rfl rfl) rfl ?_
  refine SR_pu (RD_addi rfl rfl (by omega) (by omega)) rfl ?_
  refine SR_call Try.call41 (.cons rfl (.nil)) (seal_New _) (lts rfl) ?_
  rintro _ L3 ⟨q3, rfl, hL3⟩
  refine SR.lands hL3 ?_
  refine SR_pu (RD_build (.cons rfl (.cons rfl (.cons rfl (.nil)))) built82_0_1_2) rfl ?_
  refine SR_ox (OX_box rfl rfl) rfl ?_
  rintro _ _ ⟨b11, rfl, rfl⟩
  refine SR_pu (RD_assign rfl) rfl ?_
  refine SR_nil ?_
  refine SN.le (l := [(2, _)]) ?_ (.cons rfl (.nil))
  refine SN_seq ?_
  refine SC_ret1 rfl rfl ?_
  refine ⟨⟨b11, q1, q2, q3⟩, rfl, ?_⟩
  have e : max ((if 100 < if 0 > f then 0 else f then 100 else if 0 > f then 0 else f) + 1) 1 = vneed f := by unfold vneed; (repeat split) <;> omega
  rw [e]
  exact (close_world (k := ⟨b11, q1, q2, q3⟩) (l := []) (S := [])).trans .fin

theorem w_Signs {W : World} {F : List HProp} [Abs F] (k : WK) (s : WS) :
    CallsK W Try.prog 22 #[.pointer (some ⟨k.p, 0, none⟩)] (At worldI k s :: F) (fun v L => v = .pointer (some ⟨k.b, 0, none⟩) ∧ Lands L (At worldI k s :: F)) := by
  refine CallsK_enter (n := 7) Try.func22 rfl rfl rfl ?_
  refine SC_seq ?_
  refine SC_region ?_
  refine SR_pu (RD_assign rfl) rfl ?_
  refine SR_nil ?_
  refine SN.le (l := [(0, _)]) ?_ (.cons rfl (.nil))
  refine SN_seq ?_
  refine SC_seq ?_
  refine SC.lands (Lands.op_world (k := k) (s := s)) ?_
  refine SC_region ?_
  refine SR_pu (RD_move rfl) rfl ?_
  first
    | refine SR_pu (RD_nilCheck rfl) rfl ?_
    | refine SR_pu (RD_nilCheckF rfl) rfl ?_
  first
    | refine SR_pu (RD_fieldAddr 1 Try.runUnderlying82 rfl rfl Try.sizeOf45 rfl) rfl ?_
    | refine SR_rd (RD_fieldAddrO 1 Try.runUnderlying82 rfl rfl Try.sizeOf45 rfl (by simp <;> omega)) Has.ro rfl ?_
  refine SR_rd (RD_load Try.isAgg45 rfl) (Has.ce rfl) rfl ?_
  refine SR_pu (RD_assign rfl) rfl ?_
  refine SR_nil ?_
  refine SN.le (l := [(2, _)]) ?_ (.cons rfl (.nil))
  refine SN_seq ?_
  refine SC_ret1 rfl rfl ?_
  exact ⟨rfl, (close_world (k := k) (l := s.l) (S := s.S)).trans .fin⟩

theorem w_Terms {W : World} {F : List HProp} [Abs F] (k : WK) (s : WS) :
    CallsK W Try.prog 14 #[.pointer (some ⟨k.p, 0, none⟩)] (At worldI k s :: F) (fun v L => v = .pointer (some ⟨k.t, 0, none⟩) ∧ Lands L (At worldI k s :: F)) := by
  refine CallsK_enter (n := 7) Try.func14 rfl rfl rfl ?_
  refine SC_seq ?_
  refine SC_region ?_
  refine SR_pu (RD_assign rfl) rfl ?_
  refine SR_nil ?_
  refine SN.le (l := [(0, _)]) ?_ (.cons rfl (.nil))
  refine SN_seq ?_
  refine SC_seq ?_
  refine SC.lands (Lands.op_world (k := k) (s := s)) ?_
  refine SC_region ?_
  refine SR_pu (RD_move rfl) rfl ?_
  first
    | refine SR_pu (RD_nilCheck rfl) rfl ?_
    | refine SR_pu (RD_nilCheckF rfl) rfl ?_
  first
    | refine SR_pu (RD_fieldAddr0 Try.runUnderlying82 rfl rfl Try.sizeOf36 rfl) rfl ?_
    | refine SR_rd (RD_fieldAddrO 0 Try.runUnderlying82 rfl rfl Try.sizeOf36 rfl (by simp <;> omega)) Has.ro rfl ?_
  refine SR_rd (RD_load Try.isAgg36 rfl) (Has.ce rfl) rfl ?_
  refine SR_pu (RD_assign rfl) rfl ?_
  refine SR_nil ?_
  refine SN.le (l := [(2, _)]) ?_ (.cons rfl (.nil))
  refine SN_seq ?_
  refine SC_ret1 rfl rfl ?_
  exact ⟨rfl, (close_world (k := k) (l := s.l) (S := s.S)).trans .fin⟩

theorem w_Tagged {W : World} {F : List HProp} [Abs F] (k : WK) (s : WS) (tag : List UInt8) (ns : List Int) (a : Option Addr) (n c : Nat) {cs : List Value} [HasRow F a cs] (hcs : cs = ns.map intV) (hn : ns.length = n) (ht : tag.length ≤ 1000) (hb : n ≤ 100000000) (hl : s.l.length ≤ 1000000000) (l' : List (List UInt8)) (d : Nat) (h1 : dput s.l (tagB tag ns) = l') (h2 : dnum l' (tagB tag ns) = d) :
    CallsK W Try.prog 50 #[.pointer (some ⟨k.p, 0, none⟩), .string (bstr tag), .slice a n c] (At worldI k s :: F) (fun v L => v = .int .i64 d ∧ Lands L (At worldI k ⟨l', s.S⟩ :: F)) := by
  refine CallsK_enter (n := 32) Try.func50 rfl rfl rfl ?_
  subst hcs
  refine SC_seq ?_
  refine SC_region ?_
  refine SR_pu (RD_assign rfl) rfl ?_
  refine SR_nil ?_
  refine SN.le (l := [(0, _), (1, _), (2, _)]) ?_ (.cons rfl (.cons rfl (.cons rfl (.nil))))
  refine SN_seq ?_
  refine SC_seq ?_
  refine SC_region ?_
  refine SR_call Try.call72 (.nil) (wire_New) (lts rfl) ?_
  rintro _ L0 ⟨p, rfl, hL0⟩
  refine SR.lands hL0 ?_
  refine SR_pu (RD_assign rfl) rfl ?_
  refine SR_nil ?_
  refine SN.le (l := [(0, _), (1, _), (2, _), (7, _)]) ?_ (.cons rfl (.cons rfl (.cons rfl (.cons rfl (.nil)))))
  refine SN_seq ?_
  refine SC_seq ?_
  refine SC_region ?_
  refine SR_pu (RD_move rfl) rfl ?_
  refine SR_pu (RD_move rfl) rfl ?_
  refine SR_ox (OX_s2bb (bs := tag) Try.underlying9 Try.underlying39 Try.underlying5 rfl) rfl ?_
  rintro _ _ ⟨b13, c13, rfl, rfl⟩
  refine SR_call Try.call73 (.cons rfl (.cons rfl (.nil))) (CallsK.at (wire_Text p [] tag _ _ _ rfl rfl (by simp; omega))) (lts rfl) ?_
  rintro _ L1 ⟨rfl, hL1⟩
  have he0 : [] ++ (bei (tag.length : Nat) ++ tag) = tagB tag (ns.take 0) := by simp [tagB]
  rw [he0] at hL1
  refine SR.lands hL1 ?_
  refine SR_nil ?_
  refine SN.le (l := [(0, _), (2, _), (7, _)]) ?_ (.cons rfl (.cons rfl (.cons rfl (.nil))))
  refine SN_seq ?_
  refine SC_seq ?_
  refine SC_seq ?_
  refine SC_region ?_
  refine SR_pu (RD_move rfl) rfl ?_
  refine SR_pu (RD_len Try.runUnderlying24 rfl) rfl ?_
  refine SR_pu (RD_move rfl) rfl ?_
  refine SR_nil ?_
  refine SN.le (l := [(0, _), (7, _), (15, _), (16, _), (17, _)]) ?_ (.cons rfl (.cons rfl (.cons rfl (.cons rfl (.cons rfl (.nil))))))
  refine SN_seq ?_
  refine SC_block ?_
  refine SC_ind (X := Nat) (fun i => i ≤ ns.length) (fun i => ns.length - i) (fun i => [(0, .pointer (some ⟨k.p, 0, none⟩)), (7, .pointer (some ⟨p, 0, none⟩)), (15, .slice a n c), (16, .int .i64 (n : Nat)), (17, .int .i64 (i : Nat))]) (fun i => At writerI p (tagB tag (ns.take i)) :: At worldI k s :: F) (0) (by omega) (.cons rfl (.cons rfl (.cons rfl (.cons rfl (.cons rfl (.nil)))))) (.fin) ?_
  intro i hi ih
  refine SC_seq ?_
  refine SC_region ?_
  refine SR_pu (RD_lss rfl rfl) rfl ?_
  refine SR_nil ?_
  refine SN.le (l := [(0, _), (7, _), (15, _), (16, _), (17, _), (18, _)]) ?_ (.cons rfl (.cons rfl (.cons rfl (.cons rfl (.cons rfl (.cons rfl (.nil)))))))
  refine SN_seq ?_
  refine SC_seq ?_
  refine SC_cond rfl (fun hc18 => ?_) (fun hc18 => ?_)
  · have hin : i < ns.length := by simp at hc18; omega
    obtain ⟨x, hx⟩ : ∃ x, ns[i]? = some x := ⟨_, List.getElem?_eq_getElem hin⟩
    have htk : tagB tag (ns.take (i + 1)) = tagB tag (ns.take i) ++ bei x := by rw [List.take_add_one, hx]; exact tagB_snoc _ _ _
    have htl := tagB_len tag (ns.take i)
    have htl2 : (ns.take i).length ≤ n := by simp; omega
    refine SC_skip ?_
    refine SN_seq ?_
    refine SC_seq ?_
    refine SC_block ?_
    refine SC_seq ?_
    refine SC_region ?_
    refine SR_rd (RD_ixO Try.runUnderlying24 Try.sizeOf3 rfl rfl (by first | assumption | (simp; done) | (simp; omega)) (by omega) (by omega)) Has.ro rfl ?_
    refine SR_rd (RD_loadO (v := intV x) (cs := ns.map intV) Try.isAgg3 rfl (by simp [hx])) Has.ro rfl ?_
    refine SR_pu (RD_assign rfl) rfl ?_
    refine SR_nil ?_
    refine SN.le (l := [(0, _), (7, _), (9, _), (15, _), (16, _), (17, _)]) ?_ (.cons rfl (.cons rfl (.cons rfl (.cons rfl (.cons rfl (.cons rfl (.nil)))))))
    refine SN_seq ?_
    refine SC_region ?_
    refine SR_pu (RD_move rfl) rfl ?_
    refine SR_pu (RD_move rfl) rfl ?_
    refine SR_call Try.call74 (.cons rfl (.cons rfl (.nil))) (CallsK.at (wire_Int p (tagB tag (ns.take i)) x (by omega))) (lts rfl) ?_
    rintro _ L2 ⟨rfl, hL2⟩
    rw [← htk] at hL2
    refine SR.lands hL2 ?_
    refine SR_nil ?_
    refine SN.le (l := [(0, _), (7, _), (15, _), (16, _), (17, _)]) ?_ (.cons rfl (.cons rfl (.cons rfl (.cons rfl (.cons rfl (.nil))))))
    refine SN_block ?_
    refine SN_seq ?_
    refine SC_region ?_
    refine SR_pu (RD_addi rfl rfl (by omega) (by omega)) rfl ?_
    refine SR_pu (RD_move rfl) rfl ?_
    refine SR_nil ?_
    refine SN.le (l := [(0, _), (7, _), (15, _), (16, _), (17, _)]) ?_ (.cons rfl (.cons rfl (.cons rfl (.cons rfl (.cons rfl (.nil))))))
    refine SC_again (ih (i + 1) (by omega) (by omega)) (.fin) (.cons rfl (.cons rfl (.cons rfl (.cons rfl (.cons' rfl (ie (by omega)) (.nil))))))
  · have hin : i = ns.length := by simp at hc18; omega
    subst hin
    rw [List.take_length]
    have htl := tagB_len tag ns
    refine SC_exit rfl ?_
    refine SN_seq ?_
    refine SC_seq ?_
    refine SC.lands (Lands.op_world (k := k) (s := s)) ?_
    refine SC_drawn (.cons 0 true (.cons 1 true (.cons 2 true (.cons 3 true (.cons 4 true (.cons 5 false (.cons 6 false (.cons 7 true (.nil))))))))) (by kernel_rfl) (by kernel_rfl) ?_
    refine SQ_pu rfl (RD_move rfl) rfl ?_
    first
      | refine SQ_pu rfl (RD_nilCheck rfl) rfl ?_
      | refine SQ_pu rfl (RD_nilCheckF rfl) rfl ?_
    first
      | refine SQ_pu rfl (RD_fieldAddr0 Try.runUnderlying82 rfl rfl Try.sizeOf36 rfl) rfl ?_
      | refine SQ_rd rfl (RD_fieldAddrO 0 Try.runUnderlying82 rfl rfl Try.sizeOf36 rfl (by simp <;> omega)) Has.ro rfl ?_
    refine SQ_rd rfl (RD_load Try.isAgg36 rfl) (Has.ce rfl) rfl ?_
    refine SQ_pu rfl (RD_move rfl) rfl ?_
    refine SQ_call rfl Try.call75 (.cons rfl (.nil)) (CallsK.at (wire_Bytes p (tagB tag ns) (by omega))) (lts rfl) ?_
    rintro _ L4 ⟨a4, c4, rfl, hL4⟩
    refine ⟨.lands hL4 (.h (Has.ce rfl) (.nil)), ?_⟩
    refine SQ.lands hL4 ?_
    refine SQ_call rfl Try.call15 (.cons rfl (.cons rfl (.nil))) (CallsK.at (term_Digest k.t s.l _ _ _ (tagB tag ns) rfl rfl hl l' d h1 h2)) (lts rfl) ?_
    rintro _ L5 ⟨rfl, hL5⟩
    refine ⟨.lands hL5 (.w rfl (.nil)), ?_⟩
    refine SQ.lands hL5 ?_
    refine SQ_pu rfl (RD_assign rfl) rfl ?_
    refine SQ_nil ?_
    refine SN.le (l := [(6, _)]) ?_ (.cons rfl (.nil))
    refine SN_seq ?_
    refine SC_ret1 rfl rfl ?_
    exact ⟨rfl, (close_world (k := k) (l := l') (S := s.S)).trans .fin⟩

theorem cert_Vote {W : World} {F : List HProp} [Abs F] (k : WK) (s : WS) (x y : Int) (hl : s.l.length ≤ 1000000000) (l' : List (List UInt8)) (d : Nat) (h1 : dput s.l (voteB x y) = l') (h2 : dnum l' (voteB x y) = d) :
    CallsK W Try.prog 13 #[.pointer (some ⟨k.p, 0, none⟩), .int .i64 x, .int .i64 y] (At worldI k s :: F) (fun v L => v = .int .i64 d ∧ Lands L (At worldI k ⟨l', s.S⟩ :: F)) := by
  refine CallsK_enter (n := 12) Try.func13 rfl rfl rfl ?_
  refine SC_seq ?_
  refine SC_region ?_
  refine SR_pu (RD_assign rfl) rfl ?_
  refine SR_nil ?_
  refine SN.le (l := [(0, _), (1, _), (2, _)]) ?_ (.cons rfl (.cons rfl (.cons rfl (.nil))))
  refine SN_seq ?_
  refine SC_seq ?_
  refine SC_region ?_
  refine SR_pu (RD_move rfl) rfl ?_
  refine SR_pu (RD_move rfl) rfl ?_
  refine SR_pu (RD_move rfl) rfl ?_
  refine SR_ox (OX_lit1 Try.underlying24 Try.type3 rfl rfl rfl rfl (.cons rfl (.cons rfl (.nil))) (.cons rfl (.cons rfl (.nil)))) rfl ?_
  rintro _ _ ⟨b10, rfl, rfl⟩
  refine SR_call Try.call50 (.cons rfl (.cons rfl (.cons rfl (.nil)))) (CallsK.at (w_Tagged k s [118, 111, 116, 101] [x, y] _ _ _ rfl rfl (by decide) (by simp) hl l' d h1 h2)) (lts rfl) ?_
  rintro _ L1 ⟨rfl, hL1⟩
  refine SR.lands hL1 ?_
  refine SR_pu (RD_assign rfl) rfl ?_
  refine SR_nil ?_
  refine SN.le (l := [(6, _)]) ?_ (.cons rfl (.nil))
  refine SN_seq ?_
  refine SC_ret1 rfl rfl ?_
  exact ⟨rfl, .fin⟩

theorem cert_Out {W : World} {F : List HProp} [Abs F] (k : WK) (s : WS) (x y : Int) (hl : s.l.length ≤ 1000000000) (l' : List (List UInt8)) (d : Nat) (h1 : dput s.l (outB x y) = l') (h2 : dnum l' (outB x y) = d) :
    CallsK W Try.prog 17 #[.pointer (some ⟨k.p, 0, none⟩), .int .i64 x, .int .i64 y] (At worldI k s :: F) (fun v L => v = .int .i64 d ∧ Lands L (At worldI k ⟨l', s.S⟩ :: F)) := by
  refine CallsK_enter (n := 12) Try.func17 rfl rfl rfl ?_
  refine SC_seq ?_
  refine SC_region ?_
  refine SR_pu (RD_assign rfl) rfl ?_
  refine SR_nil ?_
  refine SN.le (l := [(0, _), (1, _), (2, _)]) ?_ (.cons rfl (.cons rfl (.cons rfl (.nil))))
  refine SN_seq ?_
  refine SC_seq ?_
  refine SC_region ?_
  refine SR_pu (RD_move rfl) rfl ?_
  refine SR_pu (RD_move rfl) rfl ?_
  refine SR_pu (RD_move rfl) rfl ?_
  refine SR_ox (OX_lit1 Try.underlying24 Try.type3 rfl rfl rfl rfl (.cons rfl (.cons rfl (.nil))) (.cons rfl (.cons rfl (.nil)))) rfl ?_
  rintro _ _ ⟨b10, rfl, rfl⟩
  refine SR_call Try.call50 (.cons rfl (.cons rfl (.cons rfl (.nil)))) (CallsK.at (w_Tagged k s [111, 117, 116] [x, y] _ _ _ rfl rfl (by decide) (by simp) hl l' d h1 h2)) (lts rfl) ?_
  rintro _ L1 ⟨rfl, hL1⟩
  refine SR.lands hL1 ?_
  refine SR_pu (RD_assign rfl) rfl ?_
  refine SR_nil ?_
  refine SN.le (l := [(6, _)]) ?_ (.cons rfl (.nil))
  refine SN_seq ?_
  refine SC_ret1 rfl rfl ?_
  exact ⟨rfl, .fin⟩

theorem cert_Root {W : World} {F : List HProp} [Abs F] (k : WK) (s : WS) (hl : s.l.length ≤ 1000000000) (l' : List (List UInt8)) (d : Nat) (h1 : dput s.l rootB = l') (h2 : dnum l' rootB = d) :
    CallsK W Try.prog 19 #[.pointer (some ⟨k.p, 0, none⟩)] (At worldI k s :: F) (fun v L => v = .int .i64 d ∧ Lands L (At worldI k ⟨l', s.S⟩ :: F)) := by
  refine CallsK_enter (n := 5) Try.func19 rfl rfl rfl ?_
  refine SC_seq ?_
  refine SC_region ?_
  refine SR_pu (RD_assign rfl) rfl ?_
  refine SR_nil ?_
  refine SN.le (l := [(0, _)]) ?_ (.cons rfl (.nil))
  refine SN_seq ?_
  refine SC_seq ?_
  refine SC_region ?_
  refine SR_pu (RD_move rfl) rfl ?_
  refine SR_call Try.call50 (.cons rfl (.cons rfl (.cons rfl (.nil)))) (CallsK.at (w_Tagged k s [114, 111, 111, 116] [] _ _ _ rfl rfl (by decide) (by decide) hl l' d h1 h2)) (lts rfl) ?_
  rintro _ L1 ⟨rfl, hL1⟩
  refine SR.lands hL1 ?_
  refine SR_pu (RD_assign rfl) rfl ?_
  refine SR_nil ?_
  refine SN.le (l := [(2, _)]) ?_ (.cons rfl (.nil))
  refine SN_seq ?_
  refine SC_ret1 rfl rfl ?_
  exact ⟨rfl, .fin⟩

end Go.Proofs.Ytmigjpmadhebfaa
