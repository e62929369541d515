/- The book of signatures, as blocks. -/
import Derived.Test.YtmigjpmadhebfaaTe1
import Derived.Test.YtmigjpmadhebfaaSl13
namespace Go.Proofs.Ytmigjpmadhebfaa
open Go Go.Proofs
set_option maxRecDepth 100000
/-- Who has signed one message. -/
def innP (t : Int × Nat × List Int) : HProp := mapP intK t.2.1 (t.2.2.map fun w => (w, Value.int .i64 1))
def bigP (T : List (Int × Nat × List Int)) : HProp := fun h => Den (T.map innP) h
theorem big_flat {T : List (Int × Nat × List Int)} {R : List HProp} {m : Hp} : Den (bigP T :: R) m ↔ Den (T.map innP ++ R) m := by
  rw [Den_append]
  constructor
  · rintro ⟨m1, m2, d, e, h, r⟩; exact ⟨m1, m2, d, e, h, r⟩
  · rintro ⟨m1, m2, d, e, h, r⟩; exact ⟨m1, m2, d, e, h, r⟩
theorem Den_tail {A : HProp} {L L' : List HProp} (h : ∀ m, Den L m → Den L' m) {m : Hp} (H : Den (A :: L) m) : Den (A :: L') m := by
  obtain ⟨m1, m2, d, e, x, r⟩ := H
  exact ⟨m1, m2, d, e, x, h m2 r⟩
theorem big_take {T A B : List (Int × Nat × List Int)} {t : Int × Nat × List Int} {R : List HProp} (h : T = A ++ t :: B) : Lands (bigP T :: R) (innP t :: bigP (A ++ B) :: R) := fun m H => by
  subst h
  have H1 := big_flat.1 H
  have p : ((A ++ t :: B).map innP ++ R).Perm (innP t :: ((A ++ B).map innP ++ R)) := by
    rw [List.map_append, List.map_cons, List.map_append, List.append_assoc, List.append_assoc]
    exact List.perm_middle
  exact Den_tail (fun _ x => big_flat.2 x) (Den_perm p m H1)
theorem big_put {A B : List (Int × Nat × List Int)} {t : Int × Nat × List Int} {R : List HProp} : Lands (innP t :: bigP (A ++ B) :: R) (bigP (A ++ t :: B) :: R) := fun m H => by
  have H1 := Den_tail (fun _ x => big_flat.1 x) H
  have p : (innP t :: ((A ++ B).map innP ++ R)).Perm ((A ++ t :: B).map innP ++ R) := by
    simp only [List.map_append, List.map_cons, List.append_assoc, List.cons_append]
    exact List.perm_middle.symm
  exact big_flat.2 (Den_perm p m H1)

def outer (T : List (Int × Nat × List Int)) : List (Int × Value) := T.map fun t => (t.1, .map (some t.2.1))
def sgn (T : List (Int × Nat × List Int)) : List (Int × List Int) := T.map fun t => (t.1, t.2.2)
/-- The book: for each message, who has signed it. -/
def bookI (p : Nat) (S : List (Int × List Int)) : HProp := fun h => ∃ m T, sgn T = S ∧ Den [pt p (.cells [.map (some m)].toArray 99), mapP intK m (outer T), bigP T] h

theorem open_book {p : Nat} {S : List (Int × List Int)} : Opens bookI p S (fun x : (Nat) × (List (Int × Nat × List Int)) => (sgn x.2 = S)) (fun x R => (pt p (.cells [.map (some x.1)].toArray 99)) :: (mapP intK x.1 (outer x.2)) :: (bigP x.2) :: R) := by
  rintro R m_ ⟨m1, m2, d, e, ⟨m, T, hs, h⟩, r⟩
  exact ⟨(m, T), hs, Den_app d e h r⟩
theorem SC.op_book {W : World} {P : Program} {L R : List HProp} {n_ : Nat} {c_ : Code} {k_ : Kont} {l_ : Env} {p : Nat} {S : List (Int × List Int)} [t_ : TakeAt L bookI p S R] (h_ : ∀ (m : Nat) (T : List (Int × Nat × List Int)), (sgn T = S) → SC W P n_ c_ k_ l_ ((pt p (.cells [.map (some m)].toArray 99)) :: (mapP intK m (outer T)) :: (bigP T) :: R)) : SC W P n_ c_ k_ l_ L := SC.opn (open_book) fun x hx => h_ x.1 x.2 hx
theorem SN.op_book {W : World} {P : Program} {L R : List HProp} {n_ : Nat} {k_ : Kont} {l_ : Env} {p : Nat} {S : List (Int × List Int)} [t_ : TakeAt L bookI p S R] (h_ : ∀ (m : Nat) (T : List (Int × Nat × List Int)), (sgn T = S) → SN W P n_ k_ l_ ((pt p (.cells [.map (some m)].toArray 99)) :: (mapP intK m (outer T)) :: (bigP T) :: R)) : SN W P n_ k_ l_ L := SN.opn (open_book) fun x hx => h_ x.1 x.2 hx
theorem SR.op_book {W : World} {P : Program} {L R : List HProp} {n_ : Nat} {ops_ : Array Oper} {os_ : List Oper} {k_ : Kont} {l_ : Env} {p : Nat} {S : List (Int × List Int)} [t_ : TakeAt L bookI p S R] (h_ : ∀ (m : Nat) (T : List (Int × Nat × List Int)), (sgn T = S) → SR W P n_ ops_ os_ k_ l_ ((pt p (.cells [.map (some m)].toArray 99)) :: (mapP intK m (outer T)) :: (bigP T) :: R)) : SR W P n_ ops_ os_ k_ l_ L := SR.opn (open_book) fun x hx => h_ x.1 x.2 hx
theorem SQ.op_book {W : World} {P : Program} {L R : List HProp} {n_ : Nat} {ops_ : Array Oper} {r_ : Ord} {Ts_ : Facts} {k_ : Kont} {l_ : Env} {p : Nat} {S : List (Int × List Int)} [t_ : TakeAt L bookI p S R] (h_ : ∀ (m : Nat) (T : List (Int × Nat × List Int)), (sgn T = S) → SQ W P n_ ops_ r_ Ts_ k_ l_ ((pt p (.cells [.map (some m)].toArray 99)) :: (mapP intK m (outer T)) :: (bigP T) :: R)) : SQ W P n_ ops_ r_ Ts_ k_ l_ L := SQ.opn (open_book) fun x hx => h_ x.1 x.2 hx
theorem CallsK.op_book {W : World} {P : Program} {L R : List HProp} {f_ : FuncId} {args_ : Array Value} {K_ : Value → List HProp → Prop} {p : Nat} {S : List (Int × List Int)} [t_ : TakeAt L bookI p S R] (h_ : ∀ (m : Nat) (T : List (Int × Nat × List Int)), (sgn T = S) → CallsK W P f_ args_ ((pt p (.cells [.map (some m)].toArray 99)) :: (mapP intK m (outer T)) :: (bigP T) :: R) K_) : CallsK W P f_ args_ L K_ := CallsK.opn (open_book) fun x hx => h_ x.1 x.2 hx
theorem close_book {L R R1 R2 : List HProp} {p m : Nat} {T : List (Int × Nat × List Int)} {S : List (Int × List Int)} {mm : List (Int × Value)} [t : TakePt L p (.cells [.map (some m)].toArray 99) R1] [w : TakeMap R1 intK m mm R2] (hp : R2.Perm (bigP T :: R))
    (h1 : mm = outer T) (h2 : sgn T = S) : Lands L (At bookI p S :: R) := fun q H => by
  subst h1
  obtain ⟨m1, m2, d, e, hq, hr⟩ := Den_perm t.perm q H
  obtain ⟨m3, m4, d2, e2, hm, hs⟩ := Den_perm w.perm m2 hr
  have H2 : Den ([pt p (.cells [.map (some m)].toArray 99), mapP intK m (outer T), bigP T] ++ R) q := ⟨m1, m2, d, e, hq, m3, m4, d2, e2, hm, Den_perm hp m4 hs⟩
  exact Lands.wrap (A := At bookI p S) (fun z hz => ⟨m, T, h2, hz⟩) q H2

end Go.Proofs.Ytmigjpmadhebfaa
