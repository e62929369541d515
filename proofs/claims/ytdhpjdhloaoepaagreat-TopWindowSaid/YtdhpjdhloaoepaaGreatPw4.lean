/- Part 4 of the proof: lemmas that the walk of TopWindow needs. -/
import Derived.Test.YtdhpjdhloaoepaaGreatPw3
set_option linter.unusedSimpArgs false
set_option linter.unusedVariables false
/- The arena of digests, the document's arena, and their functions. -/
namespace Go.Proofs.YtdhpjdhloaoepaaGreat
open Go Go.Proofs
attribute [local irreducible] SC SN SR SQ SA SO
set_option maxRecDepth 100000

/-- Rows of bytes and their numbers. -/
def kv : Nat → List (List UInt8) → List (ByteArray × Value)
  | _, [] => []
  | i, s :: l => (bstr s, .int .i64 ((i + 1 : Nat) : Int)) :: kv (i + 1) l
/-- The number of a row; 0: none. -/
def dnum : List (List UInt8) → List UInt8 → Nat
  | [], _ => 0
  | x :: l, s => if s = x then 1 else if dnum l s = 0 then 0 else dnum l s + 1
theorem dnum_zero (l : List (List UInt8)) (s : List UInt8) : dnum l s = 0 ↔ s ∉ l := by
  induction l with
  | nil => simp [dnum]
  | cons x l ih =>
    by_cases h : s = x
    · simp [dnum, h]
    · simp only [dnum, h, if_false, List.mem_cons, false_or]
      by_cases h0 : dnum l s = 0
      · simp [h0, ih.1 h0]
      · simp only [h0, if_false]
        constructor
        · intro e; omega
        · intro e; exact absurd (ih.2 e) h0
theorem dnum_le (l : List (List UInt8)) (s : List UInt8) : dnum l s ≤ l.length := by
  induction l with
  | nil => simp [dnum]
  | cons x l ih => simp only [dnum, List.length_cons]; split; omega; split <;> omega
theorem mget_kv (l : List (List UInt8)) (s : List UInt8) : ∀ i, mget (kv i l) (bstr s) = if dnum l s = 0 then none else some (.int .i64 ((i + dnum l s : Nat) : Int)) := by
  induction l with
  | nil => intro i; simp [kv, mget, dnum]
  | cons x l ih =>
    intro i
    simp only [kv, mget, dnum, bstr_inj]
    by_cases h : s = x
    · simp [h]
    · simp only [h, if_false, ih (i + 1)]
      by_cases h0 : dnum l s = 0
      · simp [h0]
      · simp only [h0, if_false]
        rw [if_neg (by omega)]
        simp; omega
theorem mset_kv (l : List (List UInt8)) (s : List UInt8) (h : s ∉ l) : ∀ i, mset (kv i l) (bstr s) (.int .i64 ((i + l.length + 1 : Nat) : Int)) = kv i (l ++ [s]) := by
  induction l with
  | nil => intro i; simp [kv, mset]
  | cons x l ih =>
    intro i
    simp at h
    simp only [kv, mset, bstr_inj, h.1, if_false, List.cons_append]
    have := ih h.2 (i + 1)
    rw [← this]
    simp [Nat.add_assoc, Nat.add_comm, Nat.add_left_comm]
/-- Behind a row was asked. -/
def dput (l : List (List UInt8)) (s : List UInt8) : List (List UInt8) := if s ∈ l then l else l ++ [s]
theorem dnum_append (l : List (List UInt8)) (s : List UInt8) : dnum (l ++ [s]) s = if s ∈ l then dnum l s else l.length + 1 := by
  induction l with
  | nil => simp [dnum]
  | cons x l ih =>
    by_cases h : s = x
    · simp [dnum, h]
    · simp only [List.cons_append, dnum, h, if_false, ih, List.mem_cons, false_or, List.length_cons]
      by_cases hm : s ∈ l
      · simp [hm]
      · simp [hm]
theorem dnum_put_new {l : List (List UInt8)} {s : List UInt8} (h : s ∉ l) : dput l s = l ++ [s] ∧ dnum (dput l s) s = l.length + 1 := by
  have e : dput l s = l ++ [s] := if_neg h
  rw [e, dnum_append, if_neg h]; exact ⟨rfl, rfl⟩
theorem dnum_put_old {l : List (List UInt8)} {s : List UInt8} (h : s ∈ l) : dput l s = l := if_pos h
def strV (s : List UInt8) : Value := .string (bstr s)
instance (s : List UInt8) : One (strV s) := ⟨rfl, rfl⟩

/-- An arena holds rows. -/
def arenaI (p : Nat) (l : List (List UInt8)) : HProp := fun h => ∃ a n c m, Den [pt p (.cells [.slice a n c, .map (some m)].toArray 156), rowP 9 1 a n c (l.map strV), mapP strK m (kv 0 l)] h
theorem open_arena {p : Nat} {l : List (List UInt8)} : Opens arenaI p l (fun x : (Option Addr) × (Nat) × (Nat) × (Nat) => (l.length = x.2.1)) (fun x R => (pt p (.cells [.slice x.1 x.2.1 x.2.2.1, .map (some x.2.2.2)].toArray 156)) :: (rowP 9 1 x.1 x.2.1 x.2.2.1 (l.map strV)) :: (mapP strK x.2.2.2 (kv 0 l)) :: R) := by
  rintro R m_ ⟨m1, m2, d, e, ⟨a, n, c, m, h⟩, r⟩
  refine ⟨(a, n, c, m), ?_, Den_app d e h r⟩
  obtain ⟨_, _, _, _, _, h1, h2, _, _, hr, _⟩ := h
  simpa using (rowP_len hr).1
theorem SC.op_arena {W : World} {P : Program} {L R : List HProp} {n_ : Nat} {c_ : Code} {k_ : Kont} {l_ : Env} {p : Nat} {l : List (List UInt8)} [t_ : TakeAt L arenaI p l R] (h_ : ∀ (a : Option Addr) (n : Nat) (c : Nat) (m : Nat), (l.length = n) → SC W P n_ c_ k_ l_ ((pt p (.cells [.slice a n c, .map (some m)].toArray 156)) :: (rowP 9 1 a n c (l.map strV)) :: (mapP strK m (kv 0 l)) :: R)) : SC W P n_ c_ k_ l_ L := SC.opn (open_arena) fun x hx => h_ x.1 x.2.1 x.2.2.1 x.2.2.2 hx
theorem SN.op_arena {W : World} {P : Program} {L R : List HProp} {n_ : Nat} {k_ : Kont} {l_ : Env} {p : Nat} {l : List (List UInt8)} [t_ : TakeAt L arenaI p l R] (h_ : ∀ (a : Option Addr) (n : Nat) (c : Nat) (m : Nat), (l.length = n) → SN W P n_ k_ l_ ((pt p (.cells [.slice a n c, .map (some m)].toArray 156)) :: (rowP 9 1 a n c (l.map strV)) :: (mapP strK m (kv 0 l)) :: R)) : SN W P n_ k_ l_ L := SN.opn (open_arena) fun x hx => h_ x.1 x.2.1 x.2.2.1 x.2.2.2 hx
theorem SR.op_arena {W : World} {P : Program} {L R : List HProp} {n_ : Nat} {ops_ : Array Oper} {os_ : List Oper} {k_ : Kont} {l_ : Env} {p : Nat} {l : List (List UInt8)} [t_ : TakeAt L arenaI p l R] (h_ : ∀ (a : Option Addr) (n : Nat) (c : Nat) (m : Nat), (l.length = n) → SR W P n_ ops_ os_ k_ l_ ((pt p (.cells [.slice a n c, .map (some m)].toArray 156)) :: (rowP 9 1 a n c (l.map strV)) :: (mapP strK m (kv 0 l)) :: R)) : SR W P n_ ops_ os_ k_ l_ L := SR.opn (open_arena) fun x hx => h_ x.1 x.2.1 x.2.2.1 x.2.2.2 hx
theorem SQ.op_arena {W : World} {P : Program} {L R : List HProp} {n_ : Nat} {ops_ : Array Oper} {r_ : Ord} {Ts_ : Facts} {k_ : Kont} {l_ : Env} {p : Nat} {l : List (List UInt8)} [t_ : TakeAt L arenaI p l R] (h_ : ∀ (a : Option Addr) (n : Nat) (c : Nat) (m : Nat), (l.length = n) → SQ W P n_ ops_ r_ Ts_ k_ l_ ((pt p (.cells [.slice a n c, .map (some m)].toArray 156)) :: (rowP 9 1 a n c (l.map strV)) :: (mapP strK m (kv 0 l)) :: R)) : SQ W P n_ ops_ r_ Ts_ k_ l_ L := SQ.opn (open_arena) fun x hx => h_ x.1 x.2.1 x.2.2.1 x.2.2.2 hx
theorem CallsK.op_arena {W : World} {P : Program} {L R : List HProp} {f_ : FuncId} {args_ : Array Value} {K_ : Value → List HProp → Prop} {p : Nat} {l : List (List UInt8)} [t_ : TakeAt L arenaI p l R] (h_ : ∀ (a : Option Addr) (n : Nat) (c : Nat) (m : Nat), (l.length = n) → CallsK W P f_ args_ ((pt p (.cells [.slice a n c, .map (some m)].toArray 156)) :: (rowP 9 1 a n c (l.map strV)) :: (mapP strK m (kv 0 l)) :: R) K_) : CallsK W P f_ args_ L K_ := CallsK.opn (open_arena) fun x hx => h_ x.1 x.2.1 x.2.2.1 x.2.2.2 hx
/-- Blocks at the head, put together. -/
theorem Lands.wrap {A : HProp} {L R : List HProp} (h : ∀ m, Den L m → A m) : Lands (L ++ R) (A :: R) := fun m H => by
  obtain ⟨k1, k2, d2, e2, x, y⟩ := Den_append.1 H
  exact ⟨k1, k2, d2, e2, h _ x, y⟩
theorem close_arena {L R R1 R2 : List HProp} {p n c m : Nat} {a : Option Addr} {cs : List Value} {l : List (List UInt8)} {mm : List (ByteArray × Value)} [t : TakePt L p (.cells [.slice a n c, .map (some m)].toArray 156) R1] [u : TakeRow R1 a 9 1 n c cs R2] [w : TakeMap R2 strK m mm R]
    (h : cs = l.map strV) (h2 : mm = kv 0 l) : Lands L (At arenaI p l :: R) := fun q H => by
  subst h; subst h2
  obtain ⟨m1, m2, d, e, hp, hr⟩ := Den_perm t.perm q H
  obtain ⟨m3, m4, d2, e2, hq, hs⟩ := Den_perm u.perm m2 hr
  have H2 : Den ([pt p (.cells [.slice a n c, .map (some m)].toArray 156), rowP 9 1 a n c (l.map strV), mapP strK m (kv 0 l)] ++ R) q := ⟨m1, m2, d, e, hp, m3, m4, d2, e2, hq, Den_perm w.perm m4 hs⟩
  exact Lands.wrap (A := At arenaI p l) (fun z hz => ⟨a, n, c, m, hz⟩) q H2
theorem term_New {W : World} {F : List HProp} [Abs F] :
    CallsK W Tryz.prog 47 #[] (F) (fun v L => ∃ p, v = .pointer (some ⟨p, 0, none⟩) ∧ Lands L (At arenaI p [] :: F)) := by
  refine CallsK_enter (n := 4) Tryz.func47 rfl rfl rfl ?_
  iterate 7 refine Ws ?_
  refine SR_ox (OX_mk strK) rfl ?_
  rintro _ _ ⟨b1, rfl, rfl⟩
  refine SR_pu (RD_build (.cons rfl (.nil)) built156_1) rfl ?_
  refine Wb fun b3 => ?_
  iterate 3 refine Ws ?_
  refine SC_ret1 rfl rfl ?_
  refine ⟨_, rfl, ?_⟩
  refine (row_new 9 1 none).trans ?_
  exact (close_arena (p := b3) (l := []) rfl rfl).trans .fin

theorem term_Digest_old {W : World} {F : List HProp} [Abs F] (p : Nat) (l : List (List UInt8)) (a : Option Addr) (n c : Nat) (bs : List UInt8) [HasRow F a (bs.map byteV)] (hn : bs.length = n) (hm : dnum l bs ≠ 0) :
    CallsK W Tryz.prog 134 #[.pointer (some ⟨p, 0, none⟩), .slice a n c] (At arenaI p l :: F) (fun v L => v = .int .i64 (dnum l bs) ∧ Lands L (At arenaI p l :: F)) := by
  refine CallsK_enter (n := 39) Tryz.func134 rfl rfl rfl ?_
  iterate 6 refine Ws ?_
  refine SC.op_arena (p := p) fun a1 n1 c1 m1 hn1 => ?_
  refine Wd [.r 0, .r 1, .r 2, .r 3, .r 4, .r 5, .r 6, .r 7] ?_
  iterate 5 refine Wq ?_
  refine SQ_rd rfl (RD_b2s (bs := bs) Tryz.underlying36 Tryz.underlying9 Tryz.underlying5 rfl hn) Has.ro rfl ?_
  refine SQ_rd rfl (RD_lookS (K := strK) Tryz.underlying153 Tryz.underlying9 Tryz.zeroValue3 rfl rfl (by rw [mget_kv, if_neg hm, Nat.zero_add])) (Has.ma (K := strK)) rfl ?_
  refine Wq ?_
  iterate 9 refine Ws ?_
  refine SC_cond_false rfl (by simp; omega) ?_
  iterate 8 refine Ws ?_
  refine SC_ret1 rfl rfl ?_
  exact ⟨rfl, (close_arena (p := p) (l := l) rfl rfl).trans .fin⟩

theorem term_Digest_new {W : World} {F : List HProp} [Abs F] (p : Nat) (l : List (List UInt8)) (a : Option Addr) (n c : Nat) (bs : List UInt8) [HasRow F a (bs.map byteV)] (hn : bs.length = n) (hm : dnum l bs = 0) (hl : l.length ≤ 1000000000) :
    CallsK W Tryz.prog 134 #[.pointer (some ⟨p, 0, none⟩), .slice a n c] (At arenaI p l :: F) (fun v L => v = .int .i64 ((l.length + 1 : Nat) : Int) ∧ Lands L (At arenaI p (l ++ [bs]) :: F)) := by
  refine CallsK_enter (n := 39) Tryz.func134 rfl rfl rfl ?_
  iterate 6 refine Ws ?_
  refine SC.op_arena (p := p) fun a1 n1 c1 m1 hn1 => ?_
  refine Wd [.r 0, .r 1, .r 2, .r 3, .r 4, .r 5, .r 6, .r 7] ?_
  iterate 5 refine Wq ?_
  refine SQ_rd rfl (RD_b2s (bs := bs) Tryz.underlying36 Tryz.underlying9 Tryz.underlying5 rfl hn) Has.ro rfl ?_
  refine SQ_rd rfl (RD_lookNo (K := strK) Tryz.underlying153 Tryz.underlying9 Tryz.zeroValue3 rfl rfl (by rw [mget_kv, if_pos hm])) (Has.ma (K := strK)) rfl ?_
  refine Wq ?_
  iterate 9 refine Ws ?_
  refine SC_cond_true rfl (rfl) ?_
  refine Ws ?_
  refine Wd [.r 0, .r 1, .r 2, .r 3, .r 4, .r 5, .r 6, .e 7, .e 8, .r 9, .r 10, .e 11] ?_
  iterate 6 refine Wq ?_
  refine SQ_rd rfl (RD_b2s (bs := bs) Tryz.underlying36 Tryz.underlying9 Tryz.underlying5 rfl hn) Has.ro rfl ?_
  refine SQ_ox rfl (OX_lit1 Tryz.underlying154 Tryz.type9 rfl rfl rfl rfl (.cons rfl (.nil)) (.cons rfl (.nil))) rfl ?_
  rintro _ _ ⟨b22, rfl, rfl⟩
  refine ⟨.w rfl (.h (Has.ce rfl) (.nil)), ?_⟩
  refine SQ_ox rfl (OX_app 1 Tryz.underlying154 Tryz.underlying154 Tryz.type9 rfl rfl rfl rfl rfl (by first | rfl | simp; done | (simp; omega)) 16 rfl (by omega) (by omega)) rfl ?_
  rintro _ _ ⟨a23, c23, rfl, rfl⟩
  refine ⟨.h Has.ro (.w rfl (.nil)), ?_⟩
  iterate 2 refine Wq ?_
  refine SQ_ox0 rfl (OX_st Tryz.sizeOf154 rfl rfl) ?_
  rintro _ _ rfl
  refine ⟨.w rfl (.w rfl (.nil)), ?_⟩
  iterate 12 refine Ws ?_
  refine Wd [.r 0, .r 1, .r 2, .r 3, .r 4, .r 5, .r 6, .e 7] ?_
  iterate 5 refine Wq ?_
  refine SQ_rd rfl (RD_b2s (bs := bs) Tryz.underlying36 Tryz.underlying9 Tryz.underlying5 rfl hn) Has.ro rfl ?_
  refine Wq ?_
  refine SQ_ox0 rfl (OX_mu (K := strK) Tryz.underlying153 Tryz.underlying9 rfl rfl rfl) ?_
  rintro _ _ rfl
  refine ⟨.w rfl (.w rfl (.nil)), ?_⟩
  iterate 8 refine Ws ?_
  refine SC_ret1 rfl rfl ?_
  subst hn1
  refine ⟨rfl, (close_arena (p := p) (l := l ++ [bs]) ?_ ?_).trans .fin⟩
  · simp [strV]
  · have := mset_kv l bs ((dnum_zero l bs).1 hm) 0; simpa using this

theorem term_Digest {W : World} {F : List HProp} [Abs F] (p : Nat) (l : List (List UInt8)) (a : Option Addr) (n c : Nat) (bs : List UInt8) {cs : List Value} [HasRow F a cs] (hcs : cs = bs.map byteV) (hn : bs.length = n) (hl : l.length ≤ 1000000000)
    (l' : List (List UInt8)) (k : Nat) (h1 : dput l bs = l') (h2 : dnum l' bs = k) :
    CallsK W Tryz.prog 134 #[.pointer (some ⟨p, 0, none⟩), .slice a n c] (At arenaI p l :: F) (fun v L => v = .int .i64 k ∧ Lands L (At arenaI p l' :: F)) := by
  subst hcs; subst h2; subst h1
  by_cases hm : dnum l bs = 0
  · obtain ⟨e1, e2⟩ := dnum_put_new ((dnum_zero l bs).1 hm)
    rw [e2, e1]; exact term_Digest_new p l a n c bs hn hm hl
  · have hmem : bs ∈ l := by
      have := (dnum_zero l bs)
      exact Classical.not_not.1 fun h => hm (this.2 h)
    rw [dnum_put_old hmem]; exact term_Digest_old p l a n c bs hn hm

end Go.Proofs.YtdhpjdhloaoepaaGreat

/- The book of signatures, as blocks. -/
namespace Go.Proofs.YtdhpjdhloaoepaaGreat
open Go Go.Proofs
attribute [local irreducible] SC SN SR SQ SA SO
set_option maxRecDepth 100000
/-- Who has signed one message. -/
def innP (t : Int × Nat × List Int) : HProp := mapP intK t.2.1 (t.2.2.map fun w => (w, Value.int .i64 1))
def bigP (T : List (Int × Nat × List Int)) : HProp := fun h => Den (T.map innP) h
theorem big_flat {T : List (Int × Nat × List Int)} {R : List HProp} {m : Hp} : Den (bigP T :: R) m ↔ Den (T.map innP ++ R) m := by
  rw [Den_append]
  constructor
  · rintro ⟨m1, m2, d, e, h, r⟩; exact ⟨m1, m2, d, e, h, r⟩
  · rintro ⟨m1, m2, d, e, h, r⟩; exact ⟨m1, m2, d, e, h, r⟩
theorem Den_tail {A : HProp} {L L' : List HProp} (h : ∀ m, Den L m → Den L' m) {m : Hp} (H : Den (A :: L) m) : Den (A :: L') m := by
  obtain ⟨m1, m2, d, e, x, r⟩ := H
  exact ⟨m1, m2, d, e, x, h m2 r⟩
theorem big_take {T A B : List (Int × Nat × List Int)} {t : Int × Nat × List Int} {R : List HProp} (h : T = A ++ t :: B) : Lands (bigP T :: R) (innP t :: bigP (A ++ B) :: R) := fun m H => by
  subst h
  have H1 := big_flat.1 H
  have p : ((A ++ t :: B).map innP ++ R).Perm (innP t :: ((A ++ B).map innP ++ R)) := by
    rw [List.map_append, List.map_cons, List.map_append, List.append_assoc, List.append_assoc]
    exact List.perm_middle
  exact Den_tail (fun _ x => big_flat.2 x) (Den_perm p m H1)
theorem big_put {A B : List (Int × Nat × List Int)} {t : Int × Nat × List Int} {R : List HProp} : Lands (innP t :: bigP (A ++ B) :: R) (bigP (A ++ t :: B) :: R) := fun m H => by
  have H1 := Den_tail (fun _ x => big_flat.1 x) H
  have p : (innP t :: ((A ++ B).map innP ++ R)).Perm ((A ++ t :: B).map innP ++ R) := by
    simp only [List.map_append, List.map_cons, List.append_assoc, List.cons_append]
    exact List.perm_middle.symm
  exact big_flat.2 (Den_perm p m H1)

def outer (T : List (Int × Nat × List Int)) : List (Int × Value) := T.map fun t => (t.1, .map (some t.2.1))
def sgn (T : List (Int × Nat × List Int)) : List (Int × List Int) := T.map fun t => (t.1, t.2.2)
/-- The book: for each message, who has signed it. -/
def bookI (p : Nat) (S : List (Int × List Int)) : HProp := fun h => ∃ m T, sgn T = S ∧ Den [pt p (.cells [.map (some m)].toArray 159), mapP intK m (outer T), bigP T] h

theorem open_book {p : Nat} {S : List (Int × List Int)} : Opens bookI p S (fun x : (Nat) × (List (Int × Nat × List Int)) => (sgn x.2 = S)) (fun x R => (pt p (.cells [.map (some x.1)].toArray 159)) :: (mapP intK x.1 (outer x.2)) :: (bigP x.2) :: R) := by
  rintro R m_ ⟨m1, m2, d, e, ⟨m, T, hs, h⟩, r⟩
  exact ⟨(m, T), hs, Den_app d e h r⟩
theorem SC.op_book {W : World} {P : Program} {L R : List HProp} {n_ : Nat} {c_ : Code} {k_ : Kont} {l_ : Env} {p : Nat} {S : List (Int × List Int)} [t_ : TakeAt L bookI p S R] (h_ : ∀ (m : Nat) (T : List (Int × Nat × List Int)), (sgn T = S) → SC W P n_ c_ k_ l_ ((pt p (.cells [.map (some m)].toArray 159)) :: (mapP intK m (outer T)) :: (bigP T) :: R)) : SC W P n_ c_ k_ l_ L := SC.opn (open_book) fun x hx => h_ x.1 x.2 hx
theorem SN.op_book {W : World} {P : Program} {L R : List HProp} {n_ : Nat} {k_ : Kont} {l_ : Env} {p : Nat} {S : List (Int × List Int)} [t_ : TakeAt L bookI p S R] (h_ : ∀ (m : Nat) (T : List (Int × Nat × List Int)), (sgn T = S) → SN W P n_ k_ l_ ((pt p (.cells [.map (some m)].toArray 159)) :: (mapP intK m (outer T)) :: (bigP T) :: R)) : SN W P n_ k_ l_ L := SN.opn (open_book) fun x hx => h_ x.1 x.2 hx
theorem SR.op_book {W : World} {P : Program} {L R : List HProp} {n_ : Nat} {ops_ : Array Oper} {os_ : List Oper} {k_ : Kont} {l_ : Env} {p : Nat} {S : List (Int × List Int)} [t_ : TakeAt L bookI p S R] (h_ : ∀ (m : Nat) (T : List (Int × Nat × List Int)), (sgn T = S) → SR W P n_ ops_ os_ k_ l_ ((pt p (.cells [.map (some m)].toArray 159)) :: (mapP intK m (outer T)) :: (bigP T) :: R)) : SR W P n_ ops_ os_ k_ l_ L := SR.opn (open_book) fun x hx => h_ x.1 x.2 hx
theorem SQ.op_book {W : World} {P : Program} {L R : List HProp} {n_ : Nat} {ops_ : Array Oper} {r_ : Ord} {Ts_ : Facts} {k_ : Kont} {l_ : Env} {p : Nat} {S : List (Int × List Int)} [t_ : TakeAt L bookI p S R] (h_ : ∀ (m : Nat) (T : List (Int × Nat × List Int)), (sgn T = S) → SQ W P n_ ops_ r_ Ts_ k_ l_ ((pt p (.cells [.map (some m)].toArray 159)) :: (mapP intK m (outer T)) :: (bigP T) :: R)) : SQ W P n_ ops_ r_ Ts_ k_ l_ L := SQ.opn (open_book) fun x hx => h_ x.1 x.2 hx
theorem CallsK.op_book {W : World} {P : Program} {L R : List HProp} {f_ : FuncId} {args_ : Array Value} {K_ : Value → List HProp → Prop} {p : Nat} {S : List (Int × List Int)} [t_ : TakeAt L bookI p S R] (h_ : ∀ (m : Nat) (T : List (Int × Nat × List Int)), (sgn T = S) → CallsK W P f_ args_ ((pt p (.cells [.map (some m)].toArray 159)) :: (mapP intK m (outer T)) :: (bigP T) :: R) K_) : CallsK W P f_ args_ L K_ := CallsK.opn (open_book) fun x hx => h_ x.1 x.2 hx
theorem close_book {L R R1 R2 : List HProp} {p m : Nat} {T : List (Int × Nat × List Int)} {S : List (Int × List Int)} {mm : List (Int × Value)} [t : TakePt L p (.cells [.map (some m)].toArray 159) R1] [w : TakeMap R1 intK m mm R2] (hp : R2.Perm (bigP T :: R))
    (h1 : mm = outer T) (h2 : sgn T = S) : Lands L (At bookI p S :: R) := fun q H => by
  subst h1
  obtain ⟨m1, m2, d, e, hq, hr⟩ := Den_perm t.perm q H
  obtain ⟨m3, m4, d2, e2, hm, hs⟩ := Den_perm w.perm m2 hr
  have H2 : Den ([pt p (.cells [.map (some m)].toArray 159), mapP intK m (outer T), bigP T] ++ R) q := ⟨m1, m2, d, e, hq, m3, m4, d2, e2, hm, Den_perm hp m4 hs⟩
  exact Lands.wrap (A := At bookI p S) (fun z hz => ⟨m, T, h2, hz⟩) q H2

end Go.Proofs.YtdhpjdhloaoepaaGreat

/- The book of signatures: its functions. -/
namespace Go.Proofs.YtdhpjdhloaoepaaGreat
open Go Go.Proofs
set_option maxRecDepth 100000
def putW (ws : List Int) (w : Int) : List Int := if w ∈ ws then ws else ws ++ [w]
def addTo : List (Int × List Int) → Int → Int → List (Int × List Int)
  | [], w, k => [(k, [w])]
  | (a, ws) :: r, w, k => if k = a then (a, putW ws w) :: r else (a, ws) :: addTo r w k
def signers : List (Int × List Int) → Int → List Int
  | [], _ => []
  | (a, ws) :: r, k => if k = a then ws else signers r k
theorem big_nil {R : List HProp} : Lands R (bigP [] :: R) := fun m H => big_flat.2 H
theorem mset_ws (ws : List Int) (w : Int) : mset (ws.map fun w => (w, Value.int .i64 1)) w (.int .i64 1) = (putW ws w).map fun w => (w, Value.int .i64 1) := by
  induction ws with
  | nil => rfl
  | cons x ws ih =>
    simp only [List.map_cons, mset]
    by_cases h : w = x
    · subst h; simp [putW]
    · rw [if_neg h, ih]
      unfold putW
      by_cases hm : w ∈ ws <;> simp [hm, h]
theorem mget_ws (ws : List Int) (w : Int) : mget (ws.map fun w => (w, Value.int .i64 1)) w = if w ∈ ws then some (.int .i64 1) else none := by
  induction ws with
  | nil => rfl
  | cons x ws ih =>
    simp only [List.map_cons, mget]
    by_cases h : w = x
    · subst h; simp
    · rw [if_neg h, ih]; simp [h]
theorem book_find (T : List (Int × Nat × List Int)) (k : Int) : (mget (outer T) k = none ∧ signers (sgn T) k = [] ∧ (∀ b, mset (outer T) k (.map (some b)) = outer (T ++ [(k, b, [])])) ∧ ∀ w, addTo (sgn T) w k = sgn T ++ [(k, [w])]) ∨
    ∃ A b ws B, T = A ++ (k, b, ws) :: B ∧ mget (outer T) k = some (.map (some b)) ∧ signers (sgn T) k = ws ∧ ∀ w, addTo (sgn T) w k = sgn (A ++ (k, b, putW ws w) :: B) := by
  induction T with
  | nil => exact .inl ⟨rfl, rfl, fun _ => rfl, fun _ => rfl⟩
  | cons t T ih =>
    obtain ⟨a, b, ws⟩ := t
    by_cases h : k = a
    · subst h
      exact .inr ⟨[], b, ws, T, rfl, by simp [outer, mget], by simp [sgn, signers], fun w => by simp [sgn, addTo]⟩
    · rcases ih with ⟨h1, h2, h3, h4⟩ | ⟨A, b', ws', B, h1, h2, h3, h4⟩
      · refine .inl ⟨?_, ?_, fun b' => ?_, fun w => ?_⟩
        · simpa [outer, mget, h] using h1
        · simpa [sgn, signers, h] using h2
        · have := h3 b'
          simp only [outer, List.map_cons, mset, if_neg h, List.cons_append] at this ⊢
          rw [this]
        · have := h4 w
          simp only [sgn, List.map_cons, addTo, if_neg h, List.cons_append] at this ⊢
          rw [this]
      · refine .inr ⟨(a, b, ws) :: A, b', ws', B, by rw [h1]; rfl, ?_, ?_, fun w => ?_⟩
        · simpa [outer, mget, h] using h2
        · simpa [sgn, signers, h] using h3
        · have := h4 w
          simp only [sgn, List.map_cons, addTo, if_neg h, List.cons_append] at this ⊢
          rw [this]

theorem sign_New {W : World} {F : List HProp} [Abs F] :
    CallsK W Tryz.prog 48 #[] (F) (fun v L => ∃ p, v = .pointer (some ⟨p, 0, none⟩) ∧ Lands L (At bookI p [] :: F)) := by
  refine CallsK_enter (n := 4) Tryz.func48 rfl rfl rfl ?_
  refine SC_seq ?_
  refine SC_region ?_
  refine SR_pu (RD_assign rfl) rfl ?_
  refine SR_nil ?_
  refine SN.le (l := []) ?_ (.nil)
  refine SN_seq ?_
  refine SC_seq ?_
  refine SC_region ?_
  refine SR_ox (OX_mk intK) rfl ?_
  rintro _ _ ⟨b1, rfl, rfl⟩
  refine SR_pu (RD_build (.cons rfl (.nil)) built159_0) rfl ?_
  refine SR_ox (OX_box rfl rfl) rfl ?_
  rintro _ _ ⟨b3, rfl, rfl⟩
  refine SR_pu (RD_assign rfl) rfl ?_
  refine SR_nil ?_
  refine SN.le (l := [(0, _)]) ?_ (.cons rfl (.nil))
  refine SN_seq ?_
  refine SC_ret1 rfl rfl ?_
  refine ⟨_, rfl, ?_⟩
  exact (Lands.cons (Lands.cons (big_nil (R := F)))).trans (close_book (p := b3) (T := []) (S := []) (.refl _) rfl rfl)

theorem book_Has_no {W : World} {F : List HProp} [Abs F] (p : Nat) (m : Nat) (T : List (Int × Nat × List Int)) (w k : Int) (h1 : mget (outer T) k = none) (h2 : signers (sgn T) k = []) :
    CallsK W Tryz.prog 208 #[.pointer (some ⟨p, 0, none⟩), .int .i64 w, .int .i64 k] (pt p (.cells [.map (some m)].toArray 159) :: mapP intK m (outer T) :: bigP T :: F) (fun v L => v = .bool (decide (w ∈ signers (sgn T) k)) ∧ Lands L (At bookI p (sgn T) :: F)) := by
  refine CallsK_enter (n := 16) Tryz.func208 rfl rfl rfl ?_
  refine SC_seq ?_
  refine SC_region ?_
  refine SR_pu (RD_assign rfl) rfl ?_
  refine SR_nil ?_
  refine SN.le (l := [(0, _), (1, _), (2, _)]) ?_ (.cons rfl (.cons rfl (.cons rfl (.nil))))
  refine SN_seq ?_
  refine SC_seq ?_
  refine SC_region ?_
  refine SR_pu (RD_move rfl) rfl ?_
  refine SR_pu (RD_nilCheck rfl) rfl ?_
  first
    | refine SR_pu (RD_fieldAddr0 Tryz.runUnderlying159 rfl rfl Tryz.sizeOf157 rfl) rfl ?_
    | refine SR_rd (RD_fieldAddrO 0 Tryz.runUnderlying159 rfl rfl Tryz.sizeOf157 rfl (by simp <;> omega)) Has.ro rfl ?_
  refine SR_rd (RD_load Tryz.isAgg157 rfl) (Has.ce rfl) rfl ?_
  refine SR_pu (RD_move rfl) rfl ?_
  refine SR_rd (RD_lookup (K := intK) (m := outer T) Tryz.underlying157 Tryz.underlying3 Tryz.zeroValue96 rfl rfl) (Has.ma (K := intK)) rfl ?_
  refine SR_pu (RD_move rfl) rfl ?_
  refine SR_pu (RD_lookupN (K := intK) Tryz.underlying96 Tryz.underlying3 Tryz.zeroValue3 (by rw [h1]; rfl) rfl) rfl ?_
  refine SR_pu (RD_gtr rfl rfl) rfl ?_
  refine SR_pu (RD_assign rfl) rfl ?_
  refine SR_nil ?_
  refine SN.le (l := [(6, _)]) ?_ (.cons rfl (.nil))
  refine SN_seq ?_
  refine SC_ret1 rfl rfl ?_
  exact ⟨by rw [h2]; rfl, (close_book (p := p) (T := T) (.refl _) rfl rfl).trans .fin⟩

theorem iget_ws (ws : List Int) (w : Int) : iget (ws.map fun w => (w, Value.int .i64 1)) w = if w ∈ ws then 1 else 0 := by
  unfold iget; rw [mget_ws]
  by_cases h : w ∈ ws <;> simp [h]
theorem or_ws (ws : List Int) (w : Int) : mget (ws.map fun w => (w, Value.int .i64 1)) w = none ∨ ∃ n, mget (ws.map fun w => (w, Value.int .i64 1)) w = some (.int .i64 n) := by
  rw [mget_ws]
  by_cases h : w ∈ ws
  · exact .inr ⟨1, by simp [h]⟩
  · exact .inl (by simp [h])

theorem book_Has_yes {W : World} {F : List HProp} [Abs F] (p : Nat) (m b : Nat) (A B : List (Int × Nat × List Int)) (ws : List Int) (w k : Int) (h1 : mget (outer (A ++ (k, b, ws) :: B)) k = some (.map (some b))) (h2 : signers (sgn (A ++ (k, b, ws) :: B)) k = ws) :
    CallsK W Tryz.prog 208 #[.pointer (some ⟨p, 0, none⟩), .int .i64 w, .int .i64 k] (pt p (.cells [.map (some m)].toArray 159) :: mapP intK m (outer (A ++ (k, b, ws) :: B)) :: mapP intK b (ws.map fun w => (w, Value.int .i64 1)) :: bigP (A ++ B) :: F) (fun v L => v = .bool (decide (w ∈ signers (sgn (A ++ (k, b, ws) :: B)) k)) ∧ Lands L (At bookI p (sgn (A ++ (k, b, ws) :: B)) :: F)) := by
  refine CallsK_enter (n := 16) Tryz.func208 rfl rfl rfl ?_
  refine SC_seq ?_
  refine SC_region ?_
  refine SR_pu (RD_assign rfl) rfl ?_
  refine SR_nil ?_
  refine SN.le (l := [(0, _), (1, _), (2, _)]) ?_ (.cons rfl (.cons rfl (.cons rfl (.nil))))
  refine SN_seq ?_
  refine SC_seq ?_
  refine SC_region ?_
  refine SR_pu (RD_move rfl) rfl ?_
  refine SR_pu (RD_nilCheck rfl) rfl ?_
  first
    | refine SR_pu (RD_fieldAddr0 Tryz.runUnderlying159 rfl rfl Tryz.sizeOf157 rfl) rfl ?_
    | refine SR_rd (RD_fieldAddrO 0 Tryz.runUnderlying159 rfl rfl Tryz.sizeOf157 rfl (by simp <;> omega)) Has.ro rfl ?_
  refine SR_rd (RD_load Tryz.isAgg157 rfl) (Has.ce rfl) rfl ?_
  refine SR_pu (RD_move rfl) rfl ?_
  refine SR_rd (RD_lookS (K := intK) (m := outer (A ++ (k, b, ws) :: B)) Tryz.underlying157 Tryz.underlying3 Tryz.zeroValue96 rfl rfl h1) (Has.ma (K := intK)) rfl ?_
  refine SR_pu (RD_move rfl) rfl ?_
  refine SR_rd (RD_lookI (m := (ws.map fun w => (w, Value.int .i64 1))) Tryz.underlying96 Tryz.underlying3 Tryz.zeroValue3 rfl rfl (or_ws ws w)) (Has.ma (K := intK)) rfl ?_
  refine SR_pu (RD_gtr rfl rfl) rfl ?_
  refine SR_pu (RD_assign rfl) rfl ?_
  refine SR_nil ?_
  refine SN.le (l := [(6, _)]) ?_ (.cons rfl (.nil))
  refine SN_seq ?_
  refine SC_ret1 rfl rfl ?_
  refine ⟨?_, ?_⟩
  · rw [h2, iget_ws]; by_cases h : w ∈ ws <;> simp [h]
  · exact (Lands.cons (Lands.cons (big_put (t := (k, b, ws))))).trans (close_book (p := p) (T := A ++ (k, b, ws) :: B) (.refl _) rfl rfl)

theorem book_Has {W : World} {F : List HProp} [Abs F] (p : Nat) (S : List (Int × List Int)) (w k : Int) :
    CallsK W Tryz.prog 208 #[.pointer (some ⟨p, 0, none⟩), .int .i64 w, .int .i64 k] (At bookI p S :: F) (fun v L => v = .bool (decide (w ∈ signers S k)) ∧ Lands L (At bookI p S :: F)) := by
  refine CallsK.op_book (p := p) fun m T hT => ?_
  subst hT
  rcases book_find T k with ⟨h1, h2, _, _⟩ | ⟨A, b, ws, B, rfl, h2, h3, _⟩
  · exact book_Has_no p m T w k h1 h2
  · exact CallsK.lands (Lands.cons (Lands.cons (big_take rfl))) (book_Has_yes p m b A B ws w k h2 h3)

theorem book_Sign_yes {W : World} {F : List HProp} [Abs F] (p : Nat) (m b : Nat) (A B : List (Int × Nat × List Int)) (ws : List Int) (w k : Int) (h1 : mget (outer (A ++ (k, b, ws) :: B)) k = some (.map (some b))) (h2 : addTo (sgn (A ++ (k, b, ws) :: B)) w k = sgn (A ++ (k, b, putW ws w) :: B)) :
    CallsK W Tryz.prog 123 #[.pointer (some ⟨p, 0, none⟩), .int .i64 w, .int .i64 k] (pt p (.cells [.map (some m)].toArray 159) :: mapP intK m (outer (A ++ (k, b, ws) :: B)) :: mapP intK b (ws.map fun w => (w, Value.int .i64 1)) :: bigP (A ++ B) :: F) (fun v L => v = .tuple #[] ∧ Lands L (At bookI p (addTo (sgn (A ++ (k, b, ws) :: B)) w k) :: F)) := by
  refine CallsK_enter (n := 26) Tryz.func123 rfl rfl rfl ?_
  refine SC_seq ?_
  refine SC_seq ?_
  refine SC_region ?_
  refine SR_pu (RD_move rfl) rfl ?_
  refine SR_pu (RD_nilCheck rfl) rfl ?_
  first
    | refine SR_pu (RD_fieldAddr0 Tryz.runUnderlying159 rfl rfl Tryz.sizeOf157 rfl) rfl ?_
    | refine SR_rd (RD_fieldAddrO 0 Tryz.runUnderlying159 rfl rfl Tryz.sizeOf157 rfl (by simp <;> omega)) Has.ro rfl ?_
  refine SR_rd (RD_load Tryz.isAgg157 rfl) (Has.ce rfl) rfl ?_
  refine SR_pu (RD_move rfl) rfl ?_
  refine SR_rd (RD_lookS (K := intK) (m := outer (A ++ (k, b, ws) :: B)) Tryz.underlying157 Tryz.underlying3 Tryz.zeroValue96 rfl rfl h1) (Has.ma (K := intK)) rfl ?_
  refine SR_pu (RD_eqlM Tryz.underlying96 rfl rfl) rfl ?_
  refine SR_nil ?_
  refine SN.le (l := [(0, _), (1, _), (2, _), (12, _)]) ?_ (.cons rfl (.cons rfl (.cons rfl (.cons rfl (.nil)))))
  refine SN_seq ?_
  refine SC_cond_false rfl (rfl) ?_
  refine SC_skip ?_
  refine SN_seq ?_
  refine SC_region ?_
  refine SR_pu (RD_move rfl) rfl ?_
  refine SR_pu (RD_nilCheck rfl) rfl ?_
  first
    | refine SR_pu (RD_fieldAddr0 Tryz.runUnderlying159 rfl rfl Tryz.sizeOf157 rfl) rfl ?_
    | refine SR_rd (RD_fieldAddrO 0 Tryz.runUnderlying159 rfl rfl Tryz.sizeOf157 rfl (by simp <;> omega)) Has.ro rfl ?_
  refine SR_rd (RD_load Tryz.isAgg157 rfl) (Has.ce rfl) rfl ?_
  refine SR_pu (RD_move rfl) rfl ?_
  refine SR_rd (RD_lookS (K := intK) (m := outer (A ++ (k, b, ws) :: B)) Tryz.underlying157 Tryz.underlying3 Tryz.zeroValue96 rfl rfl h1) (Has.ma (K := intK)) rfl ?_
  refine SR_pu (RD_move rfl) rfl ?_
  refine SR_ox0 (OX_mu (K := intK) Tryz.underlying96 Tryz.underlying3 rfl rfl rfl) ?_
  rintro _ _ rfl
  refine SR_nil ?_
  refine SN.le (l := []) ?_ (.nil)
  refine SN_stop0 rfl ?_
  refine ⟨rfl, ?_⟩
  rw [h2, mset_ws]
  have ho : outer (A ++ (k, b, ws) :: B) = outer (A ++ (k, b, putW ws w) :: B) := by simp [outer]
  rw [ho]
  refine Lands.trans (fun m => Den_perm ((List.Perm.swap _ _ _).trans ((List.Perm.swap _ _ _).cons _)) m) ?_
  exact (Lands.cons (Lands.cons (big_put (t := (k, b, putW ws w))))).trans (close_book (p := p) (T := A ++ (k, b, putW ws w) :: B) (.refl _) rfl rfl)

end Go.Proofs.YtdhpjdhloaoepaaGreat

/- Certificates: what they say, in plain Lean. -/
namespace Go.Proofs.YtdhpjdhloaoepaaGreat
open Go Go.Proofs
/-- A text and numbers. -/
def tagB (t : List UInt8) (ns : List Int) : List UInt8 := bei (t.length : Nat) ++ t ++ ns.flatMap bei
theorem tagB_snoc (t : List UInt8) (ns : List Int) (x : Int) : tagB t (ns ++ [x]) = tagB t ns ++ bei x := by simp [tagB]
theorem tagB_len (t : List UInt8) (ns : List Int) : (tagB t ns).length = 8 + t.length + 8 * ns.length := by
  unfold tagB
  rw [List.length_append, List.length_append, bei_length]
  have : (ns.flatMap bei).length = 8 * ns.length := by
    induction ns with
    | nil => rfl
    | cons x r ih => rw [List.flatMap_cons, List.length_append, ih, bei_length, List.length_cons]; omega
  omega
def voteB (v b : Int) : List UInt8 := tagB [118, 111, 116, 101] [v, b]
def outB (v h : Int) : List UInt8 := tagB [111, 117, 116] [v, h]
def rootB : List UInt8 := tagB [114, 111, 111, 116] []
/-- One arena goes on another. -/
def Ext (l l' : List (List UInt8)) : Prop := ∃ r, l' = l ++ r
theorem Ext.same {l : List (List UInt8)} : Ext l l := ⟨[], by simp⟩
theorem Ext.trans {l l' l'' : List (List UInt8)} (h : Ext l l') (h' : Ext l' l'') : Ext l l'' := by
  obtain ⟨r, rfl⟩ := h; obtain ⟨s, rfl⟩ := h'; exact ⟨r ++ s, by simp⟩
theorem Ext.put (l : List (List UInt8)) (x : List UInt8) : Ext l (dput l x) := by
  unfold dput; split; exact Ext.same; exact ⟨[x], rfl⟩
theorem Ext.len {l l' : List (List UInt8)} (h : Ext l l') : l.length ≤ l'.length := by obtain ⟨r, rfl⟩ := h; simp
theorem dput_len (l : List (List UInt8)) (x : List UInt8) : (dput l x).length ≤ l.length + 1 := by unfold dput; split <;> simp
theorem dput_mem (l : List (List UInt8)) (x : List UInt8) : x ∈ dput l x := by unfold dput; split; assumption; simp
theorem dput_idem {l : List (List UInt8)} {x : List UInt8} (h : x ∈ l) : dput l x = l := dnum_put_old h
theorem Ext.mem {l l' : List (List UInt8)} (h : Ext l l') {x : List UInt8} (hx : x ∈ l) : x ∈ l' := by obtain ⟨r, rfl⟩ := h; simp [hx]
theorem dnum_app_old {l : List (List UInt8)} {x : List UInt8} (h : x ∈ l) (r : List (List UInt8)) : dnum (l ++ r) x = dnum l x := by
  induction l with
  | nil => simp at h
  | cons y l ih =>
    by_cases e : x = y
    · simp [dnum, e]
    · have hx : x ∈ l := by simpa [e] using h
      simp only [List.cons_append, dnum, e, if_false, ih hx]
theorem Ext.num {l l' : List (List UInt8)} (h : Ext l l') {x : List UInt8} (hx : x ∈ l) : dnum l' x = dnum l x := by obtain ⟨r, rfl⟩ := h; exact dnum_app_old hx r
theorem dnum_inj {l : List (List UInt8)} {x y : List UInt8} (hx : x ∈ l) (h : dnum l x = dnum l y) : x = y := by
  induction l with
  | nil => simp at hx
  | cons z l ih =>
    simp only [dnum] at h
    by_cases e1 : x = z <;> by_cases e2 : y = z
    · rw [e1, e2]
    · rw [if_pos e1, if_neg e2] at h
      split at h <;> omega
    · rw [if_neg e1, if_pos e2] at h
      split at h <;> omega
    · have hx' : x ∈ l := by simpa [e1] using hx
      rw [if_neg e1, if_neg e2] at h
      have h0 : dnum l x ≠ 0 := fun h => (dnum_zero l x).1 h hx'
      rw [if_neg h0] at h
      split at h
      · omega
      · exact ih hx' (by omega)
theorem dnum_pos {l : List (List UInt8)} {x : List UInt8} (hx : x ∈ l) : 1 ≤ dnum l x := by
  have := (dnum_zero l x); have h : dnum l x ≠ 0 := fun h => this.1 h hx
  omega
/-- Only what has a number is signed. -/
def Inv (l : List (List UInt8)) (S : List (Int × List Int)) : Prop := ∀ k : Int, signers S k ≠ [] → 1 ≤ k ∧ k ≤ l.length
theorem Inv.ext {l l' : List (List UInt8)} {S : List (Int × List Int)} (h : Inv l S) (e : Ext l l') : Inv l' S := fun k hk => by
  have := h k hk; have := e.len; omega
theorem Inv.nil {l : List (List UInt8)} : Inv l [] := fun k hk => absurd rfl hk
/-- Who signed a row. -/
def sg (l : List (List UInt8)) (S : List (Int × List Int)) (x : List UInt8) : List Int := signers S (dnum l x : Nat)
theorem signers_add (S : List (Int × List Int)) (w k j : Int) : signers (addTo S w k) j = if j = k then putW (signers S k) w else signers S j := by
  induction S with
  | nil =>
    by_cases h : j = k
    · subst h; simp [addTo, signers, putW]
    · simp [addTo, signers, h]
  | cons t S ih =>
    obtain ⟨a, ws⟩ := t
    by_cases h : k = a
    · subst h
      by_cases hj : j = k
      · subst hj; simp [addTo, signers]
      · simp [addTo, signers, hj]
    · by_cases hj : j = a
      · subst hj
        have : ¬ j = k := fun e => h e.symm
        simp [addTo, signers, h, this]
      · simp only [addTo, if_neg h, signers, if_neg hj, ih]
theorem Inv.add {l : List (List UInt8)} {S : List (Int × List Int)} (h : Inv l S) {x : List UInt8} (hx : x ∈ l) (w : Int) : Inv l (addTo S w (dnum l x : Nat)) := fun k hk => by
  rw [signers_add] at hk
  by_cases e : k = (dnum l x : Nat)
  · subst e; have := dnum_pos hx; have := dnum_le l x; omega
  · rw [if_neg e] at hk; exact h k hk
/-! ### Configs and certificates -/
structure CfgD where
  f : Int
  n : Int
  cl : Int
  ba : Int
  mo : Int
  bt : Int
  po : Int
  wi : Int
def CfgD.cells (c : CfgD) : List Value := [.int .i64 c.f, .int .i64 c.n, .int .i64 c.cl, .int .i64 c.ba, .int .i64 c.mo, .int .i64 c.bt, .int .i64 c.po, .int .i64 c.wi]
def CfgD.val (c : CfgD) : Value := .agg c.cells.toArray
instance onesCfg (c : CfgD) : Ones c.cells := by unfold CfgD.cells; infer_instance
/-- A row of numbers, as a slice tells it. -/
structure Row where
  a : Option Addr
  n : Nat
  c : Nat
  l : List Int
def Row.val (r : Row) : Value := .slice r.a r.n r.c
instance oneRow (r : Row) : One r.val := ⟨rfl, rfl⟩
def noRow : Row := ⟨none, 0, 0, []⟩
structure QcD where
  view : Int
  block : Int
  by_ : Row
def QcD.cells (q : QcD) : List Value := [.int .i64 q.view, .int .i64 q.block, .slice q.by_.a q.by_.n q.by_.c]
def QcD.val (q : QcD) : Value := .agg q.cells.toArray
instance onesQc (q : QcD) : Ones q.cells := by unfold QcD.cells; infer_instance
structure TcD where
  view : Int
  by_ : Row
  highs : Row
  high : QcD
def TcD.cells (t : TcD) : List Value := [.int .i64 t.view, .slice t.by_.a t.by_.n t.by_.c, .slice t.highs.a t.highs.n t.highs.c, .int .i64 t.high.view, .int .i64 t.high.block, .slice t.high.by_.a t.high.by_.n t.high.by_.c]
def TcD.val (t : TcD) : Value := .agg t.cells.toArray
instance onesTc (t : TcD) : Ones t.cells := by unfold TcD.cells; infer_instance
def CfgD.fits (c : CfgD) : Bool := decide (0 ≤ c.f ∧ 0 < c.n ∧ c.n % 3 = 1 ∧ c.n / 3 = c.f)
/-- The i-th is a replica, behind the one ahead of it. -/
def rOk (n : Int) (by_ : List Int) (j : Nat) : Prop := 0 ≤ by_.getD j 0 ∧ by_.getD j 0 < n ∧ (0 < j → by_.getD (j - 1) 0 < by_.getD j 0)
instance decROk (n : Int) (by_ : List Int) (j : Nat) : Decidable (rOk n by_ j) := by unfold rOk; infer_instance
def rises (n : Int) (by_ : List Int) : Prop := ∀ j, j < by_.length → rOk n by_ j
instance decRises (n : Int) (by_ : List Int) : Decidable (rises n by_) := by unfold rises; infer_instance
def CfgD.many (c : CfgD) (by_ : List Int) : Bool := decide (rises c.n by_) && (c.fits && decide (c.n - c.f ≤ by_.length))
/-- What a certificate's verdict is in an arena. -/
def CfgD.qcOk (c : CfgD) (l : List (List UInt8)) (S : List (Int × List Int)) (view block : Int) (by_ : List Int) : Bool :=
  if view < 1 then c.fits && (decide (view = 0) && (decide (block = (dnum l rootB : Nat)) && decide (by_.length = 0)))
  else c.many by_ && by_.all fun w => decide (w ∈ sg l S (voteB view block))
/-- The arena behind it. -/
def CfgD.qcL (c : CfgD) (l : List (List UInt8)) (view block : Int) : List (List UInt8) :=
  if view < 1 then (if c.fits && decide (view = 0) then dput l rootB else l) else dput l (voteB view block)
theorem CfgD.qcL_ext (c : CfgD) (l : List (List UInt8)) (view block : Int) : Ext l (c.qcL l view block) := by
  unfold CfgD.qcL; split
  · split; exact Ext.put _ _; exact Ext.same
  · exact Ext.put _ _
theorem CfgD.qcL_len (c : CfgD) (l : List (List UInt8)) (view block : Int) : (c.qcL l view block).length ≤ l.length + 1 := by
  unfold CfgD.qcL; split
  · split; exact dput_len _ _; omega
  · exact dput_len _ _
end Go.Proofs.YtdhpjdhloaoepaaGreat

/- More of the writer's and the reader's functions; the document's own. -/
namespace Go.Proofs.YtdhpjdhloaoepaaGreat
open Go Go.Proofs
attribute [local irreducible] SC SN SR SQ SA SO
set_option maxRecDepth 100000

/-- Bytes out of a text. -/
theorem OX_s2bb {W : World} {P : Program} {l : Env} {L : List HProp} {ty : TypeId} {x : Operand} {src dst e : TypeId} {bs : List UInt8} {d : TypeDesc} (hs : P.underlying src = some d) (hd : P.underlying dst = some (.slice e)) (he : P.underlying e = some (.int .u8)) (hx : ev l x = some (.string (bstr bs))) :
    OX W P l L (.convert src dst x) ty (fun u L' => ∃ b c, u = .slice (some ⟨b, 0, none⟩) bs.length c ∧ L' = rowP e 1 (some ⟨b, 0, none⟩) bs.length c (bs.map byteV) :: L) := OX_s2b hs hd he hx

end Go.Proofs.YtdhpjdhloaoepaaGreat

/- The book signed, the world, the digests of texts and numbers. -/
namespace Go.Proofs.YtdhpjdhloaoepaaGreat
open Go Go.Proofs
attribute [local irreducible] SC SN SR SQ SA SO
set_option maxRecDepth 100000

theorem book_Sign_no {W : World} {F : List HProp} [Abs F] (p : Nat) (m : Nat) (T : List (Int × Nat × List Int)) (w k : Int) (h1 : mget (outer T) k = none) (h3 : ∀ b, mset (outer T) k (.map (some b)) = outer (T ++ [(k, b, [])])) (h4 : addTo (sgn T) w k = sgn T ++ [(k, [w])]) :
    CallsK W Tryz.prog 123 #[.pointer (some ⟨p, 0, none⟩), .int .i64 w, .int .i64 k] (pt p (.cells [.map (some m)].toArray 159) :: mapP intK m (outer T) :: bigP T :: F) (fun v L => v = .tuple #[] ∧ Lands L (At bookI p (addTo (sgn T) w k) :: F)) := by
  refine CallsK_enter (n := 26) Tryz.func123 rfl rfl rfl ?_
  iterate 8 refine Ws ?_
  refine SR_rd (RD_lookNo (K := intK) Tryz.underlying157 Tryz.underlying3 Tryz.zeroValue96 rfl rfl h1) (Has.ma (K := intK)) rfl ?_
  refine SR_pu (RD_eqlM Tryz.underlying96 rfl rfl) rfl ?_
  iterate 2 refine Ws ?_
  refine SC_cond_true rfl (rfl) ?_
  iterate 6 refine Ws ?_
  refine SR_ox (OX_mk intK) rfl ?_
  rintro _ _ ⟨b18, rfl, rfl⟩
  refine SR_ox0 (OX_mu (K := intK) Tryz.underlying157 Tryz.underlying3 rfl rfl rfl) ?_
  rintro _ _ rfl
  iterate 8 refine Ws ?_
  refine SR_rd (RD_lookS (K := intK) (m := mset (outer T) k (.map (some b18))) Tryz.underlying157 Tryz.underlying3 Tryz.zeroValue96 rfl rfl (by rw [mget_mset, if_pos rfl])) (Has.ma (K := intK)) rfl ?_
  refine Ws ?_
  refine SR_ox0 (OX_mu (K := intK) Tryz.underlying96 Tryz.underlying3 rfl rfl rfl) ?_
  rintro _ _ rfl
  refine Ws ?_
  refine SN_stop0 rfl ?_
  refine ⟨rfl, ?_⟩
  have ho : mset (outer T) k (.map (some b18)) = outer (T ++ [(k, b18, [w])]) := by rw [h3]; simp [outer]
  rw [ho, h4]
  have hs : sgn T ++ [(k, [w])] = sgn (T ++ [(k, b18, [w])]) := by simp [sgn]
  rw [hs]
  refine Lands.trans (fun m => Den_perm ((List.Perm.swap _ _ _).trans ((List.Perm.swap _ _ _).cons _)) m) ?_
  have hT : bigP T = bigP (T ++ []) := by simp
  rw [hT]
  exact (Lands.cons (Lands.cons (big_put (t := (k, b18, [w]))))).trans (close_book (p := p) (T := T ++ [(k, b18, [w])]) (.refl _) rfl rfl)

theorem book_Sign {W : World} {F : List HProp} [Abs F] (p : Nat) (S : List (Int × List Int)) (w k : Int) :
    CallsK W Tryz.prog 123 #[.pointer (some ⟨p, 0, none⟩), .int .i64 w, .int .i64 k] (At bookI p S :: F) (fun v L => v = .tuple #[] ∧ Lands L (At bookI p (addTo S w k) :: F)) := by
  refine CallsK.op_book (p := p) fun m T hT => ?_
  subst hT
  rcases book_find T k with ⟨h1, h2, h3, h4⟩ | ⟨A, b, ws, B, rfl, h2, h3, h4⟩
  · exact book_Sign_no p m T w k h1 h3 (h4 w)
  · exact CallsK.lands (Lands.cons (Lands.cons (big_take rfl))) (book_Sign_yes p m b A B ws w k h2 (h4 w))

/-! ### The world -/
structure WK where
  p : Nat
  t : Nat
  b : Nat
  v : Nat
structure WS where
  l : List (List UInt8)
  S : List (Int × List Int)
def ptr (p : Nat) : Value := .pointer (some ⟨p, 0, none⟩)
def worldI (k : WK) (s : WS) : HProp := fun h => Den [pt k.p (.cells [.pointer (some ⟨k.t, 0, none⟩), .pointer (some ⟨k.b, 0, none⟩), .pointer (some ⟨k.v, 0, none⟩)].toArray 95), At arenaI k.t s.l, At bookI k.b s.S] h
theorem open_world {k : WK} {s : WS} {R : List HProp} : Lands (At worldI k s :: R) (pt k.p (.cells [.pointer (some ⟨k.t, 0, none⟩), .pointer (some ⟨k.b, 0, none⟩), .pointer (some ⟨k.v, 0, none⟩)].toArray 95) :: At arenaI k.t s.l :: At bookI k.b s.S :: R) := fun m H => by
  obtain ⟨m1, m2, d, e, h, r⟩ := H
  exact Den_app d e h r
theorem shut_world {k : WK} {s : WS} {R : List HProp} : Lands (pt k.p (.cells [.pointer (some ⟨k.t, 0, none⟩), .pointer (some ⟨k.b, 0, none⟩), .pointer (some ⟨k.v, 0, none⟩)].toArray 95) :: At arenaI k.t s.l :: At bookI k.b s.S :: R) (At worldI k s :: R) := fun m H =>
  Lands.wrap (A := At worldI k s) (fun _ hz => hz) m H
theorem close_world {k : WK} {l : List (List UInt8)} {S : List (Int × List Int)} {L R R1 R2 : List HProp} [t : TakePt L k.p (.cells [.pointer (some ⟨k.t, 0, none⟩), .pointer (some ⟨k.b, 0, none⟩), .pointer (some ⟨k.v, 0, none⟩)].toArray 95) R1] [u : TakeAt R1 arenaI k.t l R2] [w : TakeAt R2 bookI k.b S R] : Lands L (At worldI k ⟨l, S⟩ :: R) := fun m H => by
  obtain ⟨m1, m2, d, e, hp, hr⟩ := Den_perm t.perm m H
  obtain ⟨m3, m4, d2, e2, hq, hs⟩ := Den_perm u.perm m2 hr
  exact shut_world m ⟨m1, m2, d, e, hp, m3, m4, d2, e2, hq, Den_perm w.perm m4 hs⟩
section
variable {W : World} {P : Program} {L R : List HProp} {k : WK} {s : WS} [t_ : TakeAt L worldI k s R]
theorem Lands.op_world : Lands L (pt k.p (.cells [.pointer (some ⟨k.t, 0, none⟩), .pointer (some ⟨k.b, 0, none⟩), .pointer (some ⟨k.v, 0, none⟩)].toArray 95) :: At arenaI k.t s.l :: At bookI k.b s.S :: R) := fun m H => open_world m (Den_perm t_.perm m H)
end
theorem world_book {W : World} {P : Program} {k : WK} {s : WS} {F : List HProp} {f : FuncId} {args : Array Value} {K : Value → Prop} {S' : List (Int × List Int)} (h : CallsK W P f args (At bookI k.b s.S :: pt k.p (.cells [.pointer (some ⟨k.t, 0, none⟩), .pointer (some ⟨k.b, 0, none⟩), .pointer (some ⟨k.v, 0, none⟩)].toArray 95) :: At arenaI k.t s.l :: F) (fun v L => K v ∧ Lands L (At bookI k.b S' :: pt k.p (.cells [.pointer (some ⟨k.t, 0, none⟩), .pointer (some ⟨k.b, 0, none⟩), .pointer (some ⟨k.v, 0, none⟩)].toArray 95) :: At arenaI k.t s.l :: F))) :
    CallsK W P f args (At worldI k s :: F) (fun v L => K v ∧ Lands L (At worldI k ⟨s.l, S'⟩ :: F)) :=
  CallsK.imp (CallsK.lands (open_world.trans fun m => Den_perm ((List.Perm.swap _ _ _).cons _ |>.trans (List.Perm.swap _ _ _)) m) h) fun _ _ ⟨h1, h2⟩ => ⟨h1, (h2.trans fun m => Den_perm ((List.Perm.swap _ _ _).trans ((List.Perm.swap _ _ _).cons _)) m).trans (shut_world (k := k) (s := ⟨s.l, S'⟩))⟩
theorem w_Sign {W : World} {F : List HProp} [Abs F] (k : WK) (s : WS) (w d : Int) : CallsK W Tryz.prog 123 #[.pointer (some ⟨k.b, 0, none⟩), .int .i64 w, .int .i64 d] (At worldI k s :: F) (fun v L => v = .tuple #[] ∧ Lands L (At worldI k ⟨s.l, addTo s.S w d⟩ :: F)) :=
  world_book (book_Sign k.b s.S w d)
theorem w_Has {W : World} {F : List HProp} [Abs F] (k : WK) (s : WS) (w d : Int) : CallsK W Tryz.prog 208 #[.pointer (some ⟨k.b, 0, none⟩), .int .i64 w, .int .i64 d] (At worldI k s :: F) (fun v L => v = .bool (decide (w ∈ signers s.S d)) ∧ Lands L (At worldI k s :: F)) :=
  world_book (book_Has k.b s.S w d)
theorem seal_New {W : World} {F : List HProp} [Abs F] (x : Int) :
    CallsK W Tryz.prog 49 #[.int .i64 x] (F) (fun v L => ∃ p, v = .pointer (some ⟨p, 0, none⟩) ∧ Lands L (pt p (.cells [.int .i64 (max x 1), .slice none 0 0].toArray 101) :: F)) := by
  refine CallsK_enter (n := 7) Tryz.func49 rfl rfl rfl ?_
  iterate 9 refine Ws ?_
  refine SR_pu (RD_build (.cons rfl (.nil)) built101_0) rfl ?_
  refine Wb fun b6 => ?_
  iterate 3 refine Ws ?_
  refine SC_ret1 rfl rfl ?_
  have e : (if 1 > x then 1 else x) = max x 1 := by split <;> omega
  rw [e]
  exact ⟨_, rfl, .fin⟩

def vneed (f : Int) : Int := max (min (max f 0) 100 + 1) 1

theorem enve_New {W : World} {F : List HProp} [Abs F] (f : Int) :
    CallsK W Tryz.prog 25 #[.int .i64 f] (F) (fun v L => ∃ k : WK, v = .pointer (some ⟨k.p, 0, none⟩) ∧ Lands L (At worldI k ⟨[], []⟩ :: pt k.v (.cells [.int .i64 (vneed f), .slice none 0 0].toArray 101) :: F)) := by
  refine CallsK_enter (n := 12) Tryz.func25 rfl rfl rfl ?_
  iterate 7 refine Ws ?_
  refine We (term_New) ?_
  rintro _ L1 ⟨q1, rfl, hL1⟩
  refine SR.lands hL1 ?_
  refine We (sign_New) ?_
  rintro _ L2 ⟨q2, rfl, hL2⟩
  refine SR.lands hL2 ?_
  iterate 4 refine Ws ?_
  refine We (seal_New _) ?_
  rintro _ L3 ⟨q3, rfl, hL3⟩
  refine SR.lands hL3 ?_
  refine SR_pu (RD_build (.cons rfl (.cons rfl (.cons rfl (.nil)))) built95_0_1_2) rfl ?_
  refine Wb fun b11 => ?_
  iterate 3 refine Ws ?_
  refine SC_ret1 rfl rfl ?_
  refine ⟨⟨b11, q1, q2, q3⟩, rfl, ?_⟩
  have e : max ((if 100 < if 0 > f then 0 else f then 100 else if 0 > f then 0 else f) + 1) 1 = vneed f := by unfold vneed; (repeat split) <;> omega
  rw [e]
  exact (close_world (k := ⟨b11, q1, q2, q3⟩) (l := []) (S := [])).trans .fin

theorem w_Signs {W : World} {F : List HProp} [Abs F] (k : WK) (s : WS) :
    CallsK W Tryz.prog 122 #[.pointer (some ⟨k.p, 0, none⟩)] (At worldI k s :: F) (fun v L => v = .pointer (some ⟨k.b, 0, none⟩) ∧ Lands L (At worldI k s :: F)) := by
  refine CallsK_enter (n := 7) Tryz.func122 rfl rfl rfl ?_
  iterate 6 refine Ws ?_
  refine SC.lands (Lands.op_world (k := k) (s := s)) ?_
  iterate 8 refine Ws ?_
  refine SC_ret1 rfl rfl ?_
  exact ⟨rfl, (close_world (k := k) (l := s.l) (S := s.S)).trans .fin⟩

theorem w_Tagged {W : World} {F : List HProp} [Abs F] (k : WK) (s : WS) (tag : List UInt8) (ns : List Int) (a : Option Addr) (n c : Nat) {cs : List Value} [HasRow F a cs] (hcs : cs = ns.map intV) (hn : ns.length = n) (ht : tag.length ≤ 1000) (hb : n ≤ 100000000) (hl : s.l.length ≤ 1000000000) (l' : List (List UInt8)) (d : Nat) (h1 : dput s.l (tagB tag ns) = l') (h2 : dnum l' (tagB tag ns) = d) :
    CallsK W Tryz.prog 102 #[.pointer (some ⟨k.p, 0, none⟩), .string (bstr tag), .slice a n c] (At worldI k s :: F) (fun v L => v = .int .i64 d ∧ Lands L (At worldI k ⟨l', s.S⟩ :: F)) := by
  refine CallsK_enter (n := 32) Tryz.func102 rfl rfl rfl ?_
  subst hcs
  iterate 7 refine Ws ?_
  refine We (wire_New) ?_
  rintro _ L0 ⟨p, rfl, hL0⟩
  refine SR.lands hL0 ?_
  iterate 7 refine Ws ?_
  refine SR_ox (OX_s2bb (bs := tag) Tryz.underlying9 Tryz.underlying36 Tryz.underlying5 rfl) rfl ?_
  rintro _ _ ⟨b13, c13, rfl, rfl⟩
  refine We (CallsK.at (wire_Text p [] tag _ _ _ rfl rfl (by simp; omega))) ?_
  rintro _ L1 ⟨rfl, hL1⟩
  have he0 : [] ++ (bei (tag.length : Nat) ++ tag) = tagB tag (ns.take 0) := by simp [tagB]
  rw [he0] at hL1
  refine SR.lands hL1 ?_
  iterate 11 refine Ws ?_
  refine SC_ind (X := Nat) (fun i => i ≤ ns.length) (fun i => ns.length - i) (fun i => [(0, .pointer (some ⟨k.p, 0, none⟩)), (7, .pointer (some ⟨p, 0, none⟩)), (15, .slice a n c), (16, .int .i64 (n : Nat)), (17, .int .i64 (i : Nat))]) (fun i => At writerI p (tagB tag (ns.take i)) :: At worldI k s :: F) (0) (by omega) (.cons rfl (.cons rfl (.cons rfl (.cons rfl (.cons rfl (.nil)))))) (.fin) ?_
  intro i hi ih
  iterate 6 refine Ws ?_
  refine SC_cond rfl (fun hc18 => ?_) (fun hc18 => ?_)
  · have hin : i < ns.length := by simp at hc18; omega
    obtain ⟨x, hx⟩ : ∃ x, ns[i]? = some x := ⟨_, List.getElem?_eq_getElem hin⟩
    have htk : tagB tag (ns.take (i + 1)) = tagB tag (ns.take i) ++ bei x := by rw [List.take_add_one, hx]; exact tagB_snoc _ _ _
    have htl := tagB_len tag (ns.take i)
    have htl2 : (ns.take i).length ≤ n := by simp; omega
    iterate 7 refine Ws ?_
    refine SR_rd (RD_loadO (v := intV x) (cs := ns.map intV) Tryz.isAgg3 rfl (by simp [hx])) Has.ro rfl ?_
    iterate 6 refine Ws ?_
    refine We (CallsK.at (wire_Int p (tagB tag (ns.take i)) x (by omega))) ?_
    rintro _ L2 ⟨rfl, hL2⟩
    rw [← htk] at hL2
    refine SR.lands hL2 ?_
    iterate 7 refine Ws ?_
    refine SC_again (ih (i + 1) (by omega) (by omega)) (.fin) (.cons rfl (.cons rfl (.cons rfl (.cons rfl (.cons' rfl (ie (by omega)) (.nil))))))
  · have hin : i = ns.length := by simp at hc18; omega
    subst hin
    rw [List.take_length]
    have htl := tagB_len tag ns
    iterate 3 refine Ws ?_
    refine SC.lands (Lands.op_world (k := k) (s := s)) ?_
    refine Wd [.r 0, .r 1, .r 2, .r 3, .r 4, .e 5, .e 6, .r 7] ?_
    iterate 5 refine Wq ?_
    refine SQ_call rfl Tryz.call135 (.cons rfl (.nil)) (CallsK.at (wire_Bytes p (tagB tag ns) (by omega))) (lts rfl) ?_
    rintro _ L4 ⟨a4, c4, rfl, hL4⟩
    refine ⟨.lands hL4 (.h (Has.ce rfl) (.nil)), ?_⟩
    refine SQ.lands hL4 ?_
    refine SQ_call rfl Tryz.call134 (.cons rfl (.cons rfl (.nil))) (CallsK.at (term_Digest k.t s.l _ _ _ (tagB tag ns) rfl rfl hl l' d h1 h2)) (lts rfl) ?_
    rintro _ L5 ⟨rfl, hL5⟩
    refine ⟨.lands hL5 (.w rfl (.nil)), ?_⟩
    refine SQ.lands hL5 ?_
    refine Wq ?_
    iterate 2 refine Ws ?_
    refine SC_ret1 rfl rfl ?_
    exact ⟨rfl, (close_world (k := k) (l := l') (S := s.S)).trans .fin⟩

theorem cert_Vote {W : World} {F : List HProp} [Abs F] (k : WK) (s : WS) (x y : Int) (hl : s.l.length ≤ 1000000000) (l' : List (List UInt8)) (d : Nat) (h1 : dput s.l (voteB x y) = l') (h2 : dnum l' (voteB x y) = d) :
    CallsK W Tryz.prog 129 #[.pointer (some ⟨k.p, 0, none⟩), .int .i64 x, .int .i64 y] (At worldI k s :: F) (fun v L => v = .int .i64 d ∧ Lands L (At worldI k ⟨l', s.S⟩ :: F)) := by
  refine CallsK_enter (n := 12) Tryz.func129 rfl rfl rfl ?_
  iterate 10 refine Ws ?_
  refine SR_ox (OX_lit1 Tryz.underlying37 Tryz.type3 rfl rfl rfl rfl (.cons rfl (.cons rfl (.nil))) (.cons rfl (.cons rfl (.nil)))) rfl ?_
  rintro _ _ ⟨b10, rfl, rfl⟩
  refine Wc (CallsK.at (w_Tagged k s [118, 111, 116, 101] [x, y] _ _ _ rfl rfl (by decide) (by simp) hl l' d h1 h2)) ?_
  iterate 3 refine Ws ?_
  refine SC_ret1 rfl rfl ?_
  exact ⟨rfl, .fin⟩

theorem cert_Root {W : World} {F : List HProp} [Abs F] (k : WK) (s : WS) (hl : s.l.length ≤ 1000000000) (l' : List (List UInt8)) (d : Nat) (h1 : dput s.l rootB = l') (h2 : dnum l' rootB = d) :
    CallsK W Tryz.prog 81 #[.pointer (some ⟨k.p, 0, none⟩)] (At worldI k s :: F) (fun v L => v = .int .i64 d ∧ Lands L (At worldI k ⟨l', s.S⟩ :: F)) := by
  refine CallsK_enter (n := 5) Tryz.func81 rfl rfl rfl ?_
  iterate 8 refine Ws ?_
  refine Wc (CallsK.at (w_Tagged k s [114, 111, 111, 116] [] _ _ _ rfl rfl (by decide) (by decide) hl l' d h1 h2)) ?_
  iterate 3 refine Ws ?_
  refine SC_ret1 rfl rfl ?_
  exact ⟨rfl, .fin⟩

end Go.Proofs.YtdhpjdhloaoepaaGreat

/- Envelopes and blocks: their digests, copies. -/
namespace Go.Proofs.YtdhpjdhloaoepaaGreat
open Go Go.Proofs
attribute [local irreducible] SC SN SR SQ SA SO
set_option maxRecDepth 100000
/-- An envelope. -/
structure EnvD where
  client : Int
  nonce : Int
  fee : Int
  cipher : Int
deriving DecidableEq
def EnvD.cells (e : EnvD) : List Value := [.int .i64 e.client, .int .u64 e.nonce, .int .u64 e.fee, .int .i64 e.cipher]
def EnvD.val (e : EnvD) : Value := .agg e.cells.toArray
instance onesEnv (e : EnvD) : Ones e.cells := by unfold EnvD.cells; infer_instance
instance onesEnvs (l : List EnvD) : Ones (l.flatMap EnvD.cells) := ⟨fun v hv => by
  obtain ⟨e, _, he⟩ := List.mem_flatMap.1 hv
  exact (onesEnv e).h v he⟩
theorem EnvD.cells_len (e : EnvD) : e.cells.length = 4 := rfl
def EnvD.Ok (e : EnvD) : Prop := (0 ≤ e.nonce ∧ e.nonce < 18446744073709551616) ∧ (0 ≤ e.fee ∧ e.fee < 18446744073709551616)
def envB (e : EnvD) : List UInt8 := tagB [101, 110, 118] [e.client, e.nonce, e.fee, e.cipher]
/-- The cells of a row of fours. -/
theorem env_get {l : List EnvD} {i : Nat} {e : EnvD} (h : l[i]? = some e) (o : Nat) (ho : o < 4) : (l.flatMap EnvD.cells)[i * 4 + o]? = e.cells[o]? := by
  induction l generalizing i with
  | nil => simp at h
  | cons x l ih =>
    cases i with
    | zero => simp at h; subst h; rw [List.flatMap_cons, Nat.zero_mul, Nat.zero_add, List.getElem?_append_left (by rw [EnvD.cells_len]; exact ho)]
    | succ i =>
      rw [List.flatMap_cons, List.getElem?_append_right (by rw [EnvD.cells_len]; omega), EnvD.cells_len, show (i + 1) * 4 + o - 4 = i * 4 + o by omega]
      exact ih (by simpa using h)
theorem env_len (l : List EnvD) : (l.flatMap EnvD.cells).length = l.length * 4 := by
  induction l with
  | nil => rfl
  | cons x l ih => rw [List.flatMap_cons, List.length_append, ih, EnvD.cells_len, List.length_cons]; omega
/-- A row of envelopes, as a slice tells it. -/
structure ERow where
  a : Option Addr
  n : Nat
  c : Nat
  l : List EnvD
def noE : ERow := ⟨none, 0, 0, []⟩
/-- A block, as it lies. -/
structure BlkD where
  view : Int
  author : Int
  jv : Int
  jb : Int
  by_ : Row
  envs : ERow
def BlkD.cells (b : BlkD) : List Value := [.int .i64 b.view, .int .i64 b.author, .int .i64 b.jv, .int .i64 b.jb, .slice b.by_.a b.by_.n b.by_.c, .slice b.envs.a b.envs.n b.envs.c]
def BlkD.val (b : BlkD) : Value := .agg b.cells.toArray
instance onesBlk (b : BlkD) : Ones b.cells := by unfold BlkD.cells; infer_instance
/-- A block, as it says. -/
structure Blk where
  view : Int
  author : Int
  jv : Int
  jb : Int
  by_ : List Int
  envs : List EnvD
deriving DecidableEq
def BlkD.pure (b : BlkD) : Blk := ⟨b.view, b.author, b.jv, b.jb, b.by_.l, b.envs.l⟩
def digsL (l : List (List UInt8)) (es : List EnvD) : List (List UInt8) := es.foldl (fun l e => dput l (envB e)) l
theorem digsL_ext : ∀ (es : List EnvD) (l : List (List UInt8)), Ext l (digsL l es)
  | [], l => Ext.same
  | e :: es, l => (Ext.put l (envB e)).trans (digsL_ext es _)
theorem digsL_len : ∀ (es : List EnvD) (l : List (List UInt8)), (digsL l es).length ≤ l.length + es.length
  | [], l => by simp [digsL]
  | e :: es, l => by
    have := digsL_len es (dput l (envB e))
    have h2 := dput_len l (envB e)
    show (digsL (dput l (envB e)) es).length ≤ _
    rw [List.length_cons]; omega
theorem digsL_snoc (l : List (List UInt8)) (es : List EnvD) (e : EnvD) : digsL l (es ++ [e]) = dput (digsL l es) (envB e) := by simp [digsL]
theorem digsL_mem {e : EnvD} : ∀ {es : List EnvD} {l : List (List UInt8)}, e ∈ es → envB e ∈ digsL l es
  | x :: es, l, h => by
    rcases List.mem_cons.1 h with rfl | h
    · exact (digsL_ext es _).mem (dput_mem _ _)
    · exact digsL_mem (es := es) (l := dput l (envB x)) h
/-- The numbers of envelopes. -/
def numsE (l : List (List UInt8)) (es : List EnvD) : List Int := es.map fun e => ((dnum l (envB e) : Nat) : Int)
theorem numsE_ext {l l' : List (List UInt8)} (h : Ext l l') {es : List EnvD} (hm : ∀ e ∈ es, envB e ∈ l) : numsE l' es = numsE l es := by
  unfold numsE
  exact List.map_congr_left fun e he => by rw [h.num (hm e he)]
def blkN (l : List (List UInt8)) (b : Blk) : List Int := [b.view, b.author, b.jv, b.jb, ((b.by_.length : Nat) : Int)] ++ b.by_ ++ [((b.envs.length : Nat) : Int)] ++ numsE l b.envs
/-- A block's bytes. -/
def blkB (l : List (List UInt8)) (b : Blk) : List UInt8 := tagB [98, 108, 111, 99, 107] (blkN l b)
def blkL (l : List (List UInt8)) (b : Blk) : List (List UInt8) := dput (digsL l b.envs) (blkB (digsL l b.envs) b)
def blkD (l : List (List UInt8)) (b : Blk) : Nat := dnum (blkL l b) (blkB (digsL l b.envs) b)
theorem blkL_ext (l : List (List UInt8)) (b : Blk) : Ext l (blkL l b) := (digsL_ext _ _).trans (Ext.put _ _)
theorem blkL_len (l : List (List UInt8)) (b : Blk) : (blkL l b).length ≤ l.length + b.envs.length + 1 := by
  have := dput_len (digsL l b.envs) (blkB (digsL l b.envs) b)
  have := digsL_len b.envs l
  unfold blkL; omega

theorem clone_ints {W : World} {F : List HProp} [Abs F] (cs : List Value) [Ones cs] (a : Option Addr) (n c : Nat) [HasRow F a cs] (hn : cs.length = n * 1) (hb : n ≤ 1000000000000) :
    CallsK W Tryz.prog 100 #[.slice a n c] (F) (fun v L => ∃ a1 c1, v = .slice a1 n c1 ∧ Lands L (rowP 3 1 a1 n c1 cs :: F)) := by
  refine CallsK_enter (n := 8) Tryz.func100 rfl rfl rfl ?_
  iterate 9 refine Ws ?_
  refine SR_pu (RD_eqlSl Tryz.underlying37 rfl rfl) rfl ?_
  iterate 2 refine Ws ?_
  refine SC_cond rfl (fun hc4 => ?_) (fun hc4 => ?_)
  · obtain rfl : a = none := by simpa using hc4
    refine SC.row_none (cs := cs) fun hcs => ?_
    subst hcs
    obtain rfl : n = 0 := by simp at hn; omega
    iterate 5 refine Ws ?_
    refine SC_ret1 rfl rfl ?_
    exact ⟨_, _, rfl, (row_new 3 1 none).trans .fin⟩
  · iterate 4 refine Ws ?_
    refine SR_ox (OX_buildSlice0 Tryz.runUnderlying37 Tryz.sizeOf3) rfl ?_
    rintro _ _ ⟨b5, rfl, rfl⟩
    refine Ws ?_
    refine SR_ox (OX_app0 1 Tryz.underlying37 Tryz.underlying37 Tryz.type3 rfl rfl rfl rfl rfl (by simpa using hn) 8 rfl (by omega) (by omega)) rfl ?_
    rintro _ _ ⟨a7, c7, rfl, rfl⟩
    iterate 3 refine Ws ?_
    refine SC_ret1 rfl rfl ?_
    exact ⟨_, _, rfl, .fin⟩

theorem clone_envs {W : World} {F : List HProp} [Abs F] (cs : List Value) [Ones cs] (a : Option Addr) (n c : Nat) [HasRow F a cs] (hn : cs.length = n * 4) (hb : n ≤ 1000000000000) :
    CallsK W Tryz.prog 72 #[.slice a n c] (F) (fun v L => ∃ a1 c1, v = .slice a1 n c1 ∧ Lands L (rowP 43 4 a1 n c1 cs :: F)) := by
  refine CallsK_enter (n := 8) Tryz.func72 rfl rfl rfl ?_
  iterate 9 refine Ws ?_
  refine SR_pu (RD_eqlSl Tryz.underlying53 rfl rfl) rfl ?_
  iterate 2 refine Ws ?_
  refine SC_cond rfl (fun hc4 => ?_) (fun hc4 => ?_)
  · obtain rfl : a = none := by simpa using hc4
    refine SC.row_none (cs := cs) fun hcs => ?_
    subst hcs
    obtain rfl : n = 0 := by simp at hn; omega
    iterate 5 refine Ws ?_
    refine SC_ret1 rfl rfl ?_
    exact ⟨_, _, rfl, (row_new 43 4 none).trans .fin⟩
  · iterate 4 refine Ws ?_
    refine SR_ox (OX_buildSlice0 Tryz.runUnderlying53 Tryz.sizeOf43) rfl ?_
    rintro _ _ ⟨b5, rfl, rfl⟩
    refine Ws ?_
    refine SR_ox (OX_app0 4 Tryz.underlying53 Tryz.underlying53 Tryz.type43 rfl rfl rfl rfl rfl (by simpa using hn) 32 rfl (by omega) (by omega)) rfl ?_
    rintro _ _ ⟨a7, c7, rfl, rfl⟩
    iterate 3 refine Ws ?_
    refine SC_ret1 rfl rfl ?_
    exact ⟨_, _, rfl, .fin⟩

theorem w_EnvDigest {W : World} {F : List HProp} [Abs F] (k : WK) (s : WS) (e : EnvD) (he : e.Ok) (hl : s.l.length ≤ 1000000000) (l' : List (List UInt8)) (d : Nat) (h1 : dput s.l (envB e) = l') (h2 : dnum l' (envB e) = d) :
    CallsK W Tryz.prog 127 #[.pointer (some ⟨k.p, 0, none⟩), e.val] (At worldI k s :: F) (fun v L => v = .int .i64 d ∧ Lands L (At worldI k ⟨l', s.S⟩ :: F)) := by
  refine CallsK_enter (n := 34) Tryz.func127 rfl rfl rfl ?_
  iterate 2 refine Ws ?_
  refine Wb fun b3 => ?_
  iterate 5 refine Ws ?_
  refine We (wire_New) ?_
  rintro _ L0 ⟨p, rfl, hL0⟩
  refine SR.lands hL0 ?_
  iterate 6 refine Ws ?_
  refine SR_ox (OX_lit1 Tryz.underlying36 Tryz.type5 rfl rfl rfl rfl (.cons rfl (.cons rfl (.cons rfl (.nil)))) (.cons rfl (.cons rfl (.cons rfl (.nil))))) rfl ?_
  rintro _ _ ⟨b8, rfl, rfl⟩
  refine SR_ox (OX_mark Tryz.underlying36 Tryz.underlying5 rfl) rfl ?_
  rintro _ _ ⟨fz9, rfl, rfl⟩
  refine Wc (CallsK.at (wire_Text p [] [101, 110, 118] _ _ _ rfl rfl (by simp))) ?_
  iterate 7 refine Ws ?_
  refine Wc (CallsK.at (wire_Int p (([] ++ (bei (3 : Nat) ++ [101, 110, 118]))) e.client (by simp [bei_length]))) ?_
  iterate 7 refine Ws ?_
  refine Wc (CallsK.at (wire_Num p (([] ++ (bei (3 : Nat) ++ [101, 110, 118])) ++ bei e.client) e.nonce he.1 (by simp [bei_length]))) ?_
  iterate 7 refine Ws ?_
  refine Wc (CallsK.at (wire_Num p (([] ++ (bei (3 : Nat) ++ [101, 110, 118])) ++ bei e.client ++ bei e.nonce) e.fee he.2 (by simp [bei_length]))) ?_
  iterate 7 refine Ws ?_
  refine Wc (CallsK.at (wire_Int p (([] ++ (bei (3 : Nat) ++ [101, 110, 118])) ++ bei e.client ++ bei e.nonce ++ bei e.fee) e.cipher (by simp [bei_length]))) ?_
  iterate 3 refine Ws ?_
  have heb : ([] ++ (bei (3 : Nat) ++ [101, 110, 118])) ++ bei e.client ++ bei e.nonce ++ bei e.fee ++ bei e.cipher = envB e := by simp [envB, tagB]
  rw [heb]
  refine SC.lands (Lands.op_world (k := k) (s := s)) ?_
  refine Wd [.r 0, .r 1, .r 2, .r 3, .r 4, .e 5, .e 6, .r 7] ?_
  iterate 5 refine Wq ?_
  refine SQ_call rfl Tryz.call135 (.cons rfl (.nil)) (CallsK.at (wire_Bytes p (envB e) (by rw [envB, tagB_len]; simp))) (lts rfl) ?_
  rintro _ L6 ⟨a6, c6, rfl, hL6⟩
  refine ⟨.lands hL6 (.h (Has.ce rfl) (.nil)), ?_⟩
  refine SQ.lands hL6 ?_
  refine SQ_call rfl Tryz.call134 (.cons rfl (.cons rfl (.nil))) (CallsK.at (term_Digest k.t s.l _ _ _ (envB e) rfl rfl hl l' d h1 h2)) (lts rfl) ?_
  rintro _ L7 ⟨rfl, hL7⟩
  refine ⟨.lands hL7 (.w rfl (.nil)), ?_⟩
  refine SQ.lands hL7 ?_
  refine Wq ?_
  iterate 2 refine Ws ?_
  refine SC_ret1 rfl rfl ?_
  exact ⟨rfl, (close_world (k := k) (l := l') (S := s.S)).trans .fin⟩

theorem blok_Digest {W : World} {F : List HProp} [Abs F] (k : WK) (s : WS) (b : BlkD) {cs ds : List Value} [HasRow F b.by_.a cs] [HasRow F b.envs.a ds] (hcs : cs = b.by_.l.map intV) (hds : ds = b.envs.l.flatMap EnvD.cells) (hn : b.by_.l.length = b.by_.n) (hm : b.envs.l.length = b.envs.n) (he : ∀ e ∈ b.envs.l, e.Ok) (hb : b.by_.n ≤ 10000) (hbm : b.envs.n ≤ 10000) (hl : s.l.length ≤ 900000000) :
    CallsK W Tryz.prog 175 #[.pointer (some ⟨k.p, 0, none⟩), b.val] (At worldI k s :: F) (fun v L => v = .int .i64 (blkD s.l b.pure : Nat) ∧ Lands L (At worldI k ⟨blkL s.l b.pure, s.S⟩ :: F)) := by
  refine CallsK_enter (n := 51) Tryz.func175 rfl rfl rfl ?_
  subst hcs
  subst hds
  iterate 2 refine Ws ?_
  refine Wb fun b3 => ?_
  iterate 19 refine Ws ?_
  refine SR_ox (OX_lit1 Tryz.underlying37 Tryz.type3 rfl rfl rfl rfl (.cons rfl (.cons rfl (.cons rfl (.cons rfl (.cons rfl (.nil)))))) (.cons rfl (.cons rfl (.cons rfl (.cons rfl (.cons rfl (.nil))))))) rfl ?_
  rintro _ _ ⟨b22, rfl, rfl⟩
  iterate 4 refine Ws ?_
  refine SC.lands (lit_row (z := 1) 5 rfl) ?_
  iterate 5 refine Ws ?_
  refine SR_ox (OX_app 1 Tryz.underlying37 Tryz.underlying37 Tryz.type3 rfl rfl rfl rfl rfl (by first | rfl | simp; done | (simp; omega)) 8 rfl (by omega) (by omega)) rfl ?_
  rintro _ _ ⟨a27, c27, rfl, rfl⟩
  iterate 9 refine Ws ?_
  refine SR_ox (OX_lit1 Tryz.underlying37 Tryz.type3 rfl rfl rfl rfl (.cons rfl (.nil)) (.cons rfl (.nil))) rfl ?_
  rintro _ _ ⟨b32, rfl, rfl⟩
  refine SR_ox (OX_app 1 Tryz.underlying37 Tryz.underlying37 Tryz.type3 rfl rfl rfl rfl rfl (by first | rfl | simp; done | (simp; omega)) 8 rfl (by omega) (by omega)) rfl ?_
  rintro _ _ ⟨a33, c33, rfl, rfl⟩
  iterate 13 refine Ws ?_
  have hr0 : [Value.int .i64 b.view, .int .i64 b.author, .int .i64 b.jv, .int .i64 b.jb, .int .i64 (b.by_.n : Nat)] ++ b.by_.l.map intV ++ [Value.int .i64 (b.envs.n : Nat)] = ([b.view, b.author, b.jv, b.jb, ((b.by_.n : Nat) : Int)] ++ b.by_.l ++ [((b.envs.n : Nat) : Int)]).map intV := by simp [intV]
  rw [hr0]
  refine SC_ind (X := Nat × Option Addr × Nat) (fun x => x.1 ≤ b.envs.n) (fun x => b.envs.n - x.1) (fun x => [(0, .pointer (some ⟨k.p, 0, none⟩)), (5, .slice x.2.1 (6 + b.by_.n + x.1) x.2.2), (35, .slice b.envs.a b.envs.n b.envs.c), (36, .int .i64 (b.envs.n : Nat)), (37, .int .i64 (x.1 : Nat))]) (fun x => rowP 3 1 x.2.1 (6 + b.by_.n + x.1) x.2.2 ((([b.view, b.author, b.jv, b.jb, ((b.by_.n : Nat) : Int)] ++ b.by_.l ++ [((b.envs.n : Nat) : Int)]) ++ numsE (digsL s.l (b.envs.l.take x.1)) (b.envs.l.take x.1)).map intV) :: At worldI k ⟨digsL s.l (b.envs.l.take x.1), s.S⟩ :: F) ((0, a33, c33)) (by simp) (.cons rfl (.cons' rfl (by congr 1; omega) (.cons rfl (.cons rfl (.cons rfl (.nil)))))) (by simp only [List.take_zero, numsE, List.map_nil, List.append_nil, digsL, List.foldl_nil]; rw [show 6 + b.by_.n + 0 = 5 + b.by_.n + 1 by omega]; exact .fin) ?_
  intro ⟨i, a, c⟩ hi ih
  dsimp only at hi ih ⊢
  iterate 6 refine Ws ?_
  refine SC_cond rfl (fun hc38 => ?_) (fun hc38 => ?_)
  · have hin : i < b.envs.n := by simp at hc38; omega
    obtain ⟨e, hx⟩ : ∃ e, b.envs.l[i]? = some e := ⟨_, List.getElem?_eq_getElem (by omega)⟩
    have htk : b.envs.l.take (i + 1) = b.envs.l.take i ++ [e] := by rw [List.take_add_one, hx]; rfl
    have hlen := digsL_len (b.envs.l.take i) s.l
    have htl : (b.envs.l.take i).length ≤ i := by simp; omega
    have hok := he e (List.mem_of_getElem? hx)
    have hsn : digsL s.l (b.envs.l.take (i + 1)) = dput (digsL s.l (b.envs.l.take i)) (envB e) := by rw [htk, digsL_snoc]
    have hnn : numsE (digsL s.l (b.envs.l.take (i + 1))) (b.envs.l.take (i + 1)) = numsE (digsL s.l (b.envs.l.take i)) (b.envs.l.take i) ++ [((dnum (dput (digsL s.l (b.envs.l.take i)) (envB e)) (envB e) : Nat) : Int)] := by
      rw [hsn, htk]
      unfold numsE
      rw [List.map_append]
      congr 1
      exact List.map_congr_left fun x hx => by rw [(Ext.put _ (envB e)).num (digsL_mem hx)]
    iterate 6 refine Ws ?_
    refine SR_rd (RD_ixO (cs := b.envs.l.flatMap EnvD.cells) Tryz.runUnderlying53 Tryz.sizeOf43 rfl rfl (by rw [env_len, hm]) (by omega) (by omega)) Has.ro rfl ?_
    refine SR_rd (RD_loadAO (vs := e.cells) (cs := b.envs.l.flatMap EnvD.cells) Tryz.isAgg43 Tryz.sizeOf43 rfl rfl (by decide) (fun o v h => by have ho : o < 4 := (List.getElem?_eq_some_iff.1 h).1; rw [show ((i : Nat) : Int).toNat * (3 + 1) + o = i * 4 + o by omega, env_get hx o ho]; exact h)) Has.ro rfl ?_
    refine Wa fun b7 => ?_
    refine SR_ox0 (OX_stA Tryz.sizeOf43 rfl rfl rfl rfl) ?_
    rintro _ _ rfl
    iterate 6 refine Ws ?_
    refine We (CallsK.at (w_EnvDigest k ⟨digsL s.l (b.envs.l.take i), s.S⟩ e hok (by dsimp only; omega) _ _ rfl rfl)) ?_
    rintro _ L1 ⟨rfl, hL1⟩
    try dsimp only at hL1
    refine SR.lands hL1 ?_
    refine SR_ox (OX_lit1 Tryz.underlying37 Tryz.type3 rfl rfl rfl rfl (.cons rfl (.nil)) (.cons rfl (.nil))) rfl ?_
    rintro _ _ ⟨b45, rfl, rfl⟩
    refine SR_ox (OX_app 1 Tryz.underlying37 Tryz.underlying37 Tryz.type3 rfl rfl rfl rfl rfl (by first | rfl | simp; done | (simp; omega)) 8 rfl (by omega) (by omega)) rfl ?_
    rintro _ _ ⟨a46, c46, rfl, rfl⟩
    iterate 8 refine Ws ?_
    refine SC_again (ih ((i + 1, a46, c46)) (by dsimp only; omega) (by dsimp only; omega)) (by
      dsimp only
      rw [hnn, ← List.append_assoc, hsn, ← Nat.add_assoc]
      simp only [List.map_append, List.map_cons, List.map_nil, intV]
      exact .fin) (.cons rfl (.cons' rfl (by first | rfl | (congr 1; omega)) (.cons rfl (.cons rfl (.cons' rfl (ie (by dsimp only; omega)) (.nil))))))
  · have hin : i = b.envs.n := by simp at hc38; omega
    subst hin
    have htk : b.envs.l.take b.envs.n = b.envs.l := by rw [← hm, List.take_length]
    rw [htk]
    have hlen := digsL_len b.envs.l s.l
    have hbn : ([b.view, b.author, b.jv, b.jb, ((b.by_.n : Nat) : Int)] ++ b.by_.l ++ [((b.envs.n : Nat) : Int)]) ++ numsE (digsL s.l b.envs.l) b.envs.l = blkN (digsL s.l b.envs.l) b.pure := by simp [blkN, BlkD.pure, hn, hm]
    rw [hbn]
    iterate 6 refine Ws ?_
    refine We (CallsK.at (w_Tagged k ⟨digsL s.l b.envs.l, s.S⟩ [98, 108, 111, 99, 107] (blkN (digsL s.l b.envs.l) b.pure) a (6 + b.by_.n + b.envs.n) c rfl (by simp [blkN, BlkD.pure, numsE, hn, hm]; omega) (by simp) (by omega) (by dsimp only; omega) _ _ rfl rfl)) ?_
    rintro _ L2 ⟨rfl, hL2⟩
    try dsimp only at hL2
    refine SR.lands hL2 ?_
    iterate 3 refine Ws ?_
    refine SC_ret1 rfl rfl ?_
    refine ⟨rfl, ?_⟩
    rw [show blkL s.l b.pure = dput (digsL s.l b.envs.l) (tagB [98, 108, 111, 99, 107] (blkN (digsL s.l b.envs.l) b.pure)) from rfl]
    exact .fin

end Go.Proofs.YtdhpjdhloaoepaaGreat

/- Envelopes are the same: rows of them. -/
namespace Go.Proofs.YtdhpjdhloaoepaaGreat
open Go Go.Proofs
set_option maxRecDepth 100000
theorem run_eqEnv (s t : EnvD) (w : World) : (Op.equalIn 10000 43 s.val t.val).run Tryz.prog w = .ok (decide (s = t)) w := by
  have u3 := Tryz.underlying3
  have a3 := Tryz.isAgg3
  have z3 := Tryz.sizeOf3
  have u41 := Tryz.underlying35
  have a41 := Tryz.isAgg35
  have z41 := Tryz.sizeOf35
  have hS : Tryz.prog.underlying 43 = some (.struct (Tryz.prog.fieldsOf 43)) := by kernel_rfl
  have hp : Tryz.prog.stoodInHeld 43 = false := by kernel_rfl
  rw [show (10000 : Nat) = 9999 + 1 from rfl, EnvD.val, EnvD.val, run_equalIn_agg w 9999 43 _ _ hS hp]
  simp only [Program.fieldsOf, Tryz.underlying43, EnvD.cells]
  go_simp
  obtain ⟨k, m, p, q⟩ := s
  obtain ⟨k', m', p', q'⟩ := t
  by_cases h1 : k = k' <;> by_cases h2 : m = m' <;> by_cases h5 : p = p' <;> by_cases h6 : q = q' <;> simp [h1, h2, h5, h6]
theorem RD_eqlEnv {P : Program} {l : Env} {ty : TypeId} {x y : Operand} {yt : TypeId} (s t : EnvD) (hP : P = Tryz.prog) (hx : ev l x = some s.val) (hy : ev l y = some t.val) : RD P l (.binOp .eql 43 x y yt) ty RU (.bool (decide (s = t))) := fun ρ hρ w _ _ _ _ _ => by
  subst hP
  have hg : ∀ w, (eqGuard .eql 43 x y s.val t.val).run Tryz.prog w = .ok () w := fun w => run_eqGuard_agg w .eql 43 x y _ _ (by kernel_rfl)
  have he : ∀ w, (binOp .eql 43 s.val t.val).run Tryz.prog w = .ok (.bool (decide (s = t))) w := fun w => by
    show (binOp .eql 43 (.agg s.cells.toArray) (.agg t.cells.toArray)).run Tryz.prog w = _
    rw [run_eql_struct]
    have := run_eqEnv s t w
    unfold EnvD.val at this
    rw [this]; rfl
  simp [execOp, hρ x _ hx, hρ y _ hy, hg, he]
end Go.Proofs.YtdhpjdhloaoepaaGreat

/- A block of its own memory; the tree of blocks. -/
namespace Go.Proofs.YtdhpjdhloaoepaaGreat
open Go Go.Proofs
attribute [local irreducible] SC SN SR SQ SA SO
set_option maxRecDepth 100000
theorem RD_look2S {α : Type} [DecidableEq α] {K : Keyed α} {P : Program} {l : Env} {ty : TypeId} {x y : Operand} {t kt et b : Nat} {m : List (α × Value)} {key : α} {z u : Value} (hu : P.underlying t = some (.map kt et)) (hk : P.underlying kt = some K.desc) (hz : ∀ w, (zeroValue et).run P w = .ok z w)
    (hx : ev l x = some (.map (some b))) (hy : ev l y = some (K.val key)) (h : mget m key = some u) : RD P l (.lookup t x y true) ty (mapF K b m) (.tuple #[u, .bool true]) := by
  have := RD_lookup2 (P := P) (l := l) (ty := ty) (K := K) (m := m) hu hk hz hx hy
  rw [h] at this; exact this
theorem RD_look2No {α : Type} [DecidableEq α] {K : Keyed α} {P : Program} {l : Env} {ty : TypeId} {x y : Operand} {t kt et b : Nat} {m : List (α × Value)} {key : α} {z : Value} (hu : P.underlying t = some (.map kt et)) (hk : P.underlying kt = some K.desc) (hz : ∀ w, (zeroValue et).run P w = .ok z w)
    (hx : ev l x = some (.map (some b))) (hy : ev l y = some (K.val key)) (h : mget m key = none) : RD P l (.lookup t x y true) ty (mapF K b m) (.tuple #[z, .bool false]) := by
  have := RD_lookup2 (P := P) (l := l) (ty := ty) (K := K) (m := m) hu hk hz hx hy
  rw [h] at this; exact this
/-! ### The tree -/
def blkP (b : BlkD) : List HProp := [rowP 3 1 b.by_.a b.by_.n b.by_.c (b.by_.l.map intV), rowP 43 4 b.envs.a b.envs.n b.envs.c (b.envs.l.flatMap EnvD.cells)]
def bigT (T : List (Int × BlkD)) : HProp := fun h => Den (T.flatMap fun t => blkP t.2) h
def entsT (T : List (Int × BlkD)) : List (Int × Value) := T.map fun t => (t.1, .agg t.2.cells.toArray)
def pureT (T : List (Int × BlkD)) : List (Int × Blk) := T.map fun t => (t.1, t.2.pure)
def BlkD.Fit (b : BlkD) : Prop := b.by_.l.length = b.by_.n ∧ b.envs.l.length = b.envs.n ∧ b.by_.n ≤ 10000 ∧ b.envs.n ≤ 10000 ∧ ∀ e ∈ b.envs.l, e.Ok
theorem bigT_flat {T : List (Int × BlkD)} {R : List HProp} {m : Hp} : Den (bigT T :: R) m ↔ Den ((T.flatMap fun t => blkP t.2) ++ R) m := by
  rw [Den_append]
  constructor
  · rintro ⟨m1, m2, d, e, h, r⟩; exact ⟨m1, m2, d, e, h, r⟩
  · rintro ⟨m1, m2, d, e, h, r⟩; exact ⟨m1, m2, d, e, h, r⟩
theorem bigT_put {T : List (Int × BlkD)} {d : Int} {b : BlkD} {R : List HProp} : Lands (rowP 3 1 b.by_.a b.by_.n b.by_.c (b.by_.l.map intV) :: rowP 43 4 b.envs.a b.envs.n b.envs.c (b.envs.l.flatMap EnvD.cells) :: bigT T :: R) (bigT (T ++ [(d, b)]) :: R) := fun m H => by
  have H1 := Den_tail (fun _ h2 => Den_tail (fun _ x => bigT_flat.1 x) h2) H
  refine bigT_flat.2 (Den_perm ?_ m H1)
  rw [List.flatMap_append, List.flatMap_cons, List.flatMap_nil, List.append_nil, List.append_assoc]
  show (blkP b ++ ((T.flatMap fun t => blkP t.2) ++ R)).Perm _
  rw [← List.append_assoc, ← List.append_assoc]
  exact List.Perm.append_right R List.perm_append_comm
theorem mem_split {T : List (Int × BlkD)} {d : Int} {b : BlkD} (h : mget T d = some b) : ∃ A B, T = A ++ (d, b) :: B := by
  induction T with
  | nil => simp [mget] at h
  | cons t T ih =>
    obtain ⟨a, x⟩ := t
    simp only [mget] at h
    split at h
    · rename_i e; cases h; subst e; exact ⟨[], T, rfl⟩
    · obtain ⟨A, B, e⟩ := ih h
      exact ⟨(a, x) :: A, B, by rw [e]; rfl⟩
theorem bigT_take {T : List (Int × BlkD)} {d : Int} {b : BlkD} (h : mget T d = some b) : ∃ R, ∀ m, bigT T m → Den (blkP b ++ R) m := by
  obtain ⟨A, B, rfl⟩ := mem_split h
  refine ⟨(A.flatMap fun t => blkP t.2) ++ (B.flatMap fun t => blkP t.2), fun m H => Den_perm ?_ m (show Den ((A ++ (d, b) :: B).flatMap fun t => blkP t.2) m from H)⟩
  rw [List.flatMap_append, List.flatMap_cons]
  show ((A.flatMap fun t => blkP t.2) ++ (blkP b ++ (B.flatMap fun t => blkP t.2))).Perm _
  rw [← List.append_assoc, ← List.append_assoc]
  exact List.Perm.append_right _ List.perm_append_comm
theorem hasRow_by {T : List (Int × BlkD)} {d : Int} {b : BlkD} (h : mget T d = some b) (R : List HProp) : HasRow (bigT T :: R) b.by_.a (b.by_.l.map intV) := by
  obtain ⟨R0, hR⟩ := bigT_take h
  exact ⟨.head rowR.up fun m H => by
    have H1 := hR m H
    exact (HasRow.row : HasRow (rowP 3 1 b.by_.a b.by_.n b.by_.c (b.by_.l.map intV) :: rowP 43 4 b.envs.a b.envs.n b.envs.c (b.envs.l.flatMap EnvD.cells) :: R0) b.by_.a _).r.2 m H1⟩
theorem hasRow_envs {T : List (Int × BlkD)} {d : Int} {b : BlkD} (h : mget T d = some b) (R : List HProp) : HasRow (bigT T :: R) b.envs.a (b.envs.l.flatMap EnvD.cells) := by
  obtain ⟨R0, hR⟩ := bigT_take h
  exact ⟨.head rowR.up fun m H => by
    have H1 := hR m H
    exact (HasRow.cons (A := rowP 3 1 b.by_.a b.by_.n b.by_.c (b.by_.l.map intV)) (h := (HasRow.row : HasRow (rowP 43 4 b.envs.a b.envs.n b.envs.c (b.envs.l.flatMap EnvD.cells) :: R0) b.envs.a _))).r.2 m H1⟩
structure TS where
  w : Nat
  root : Int
  T : List (Int × Blk)
def treeI (p : Nat) (s : TS) : HProp := fun h => ∃ m T, (pureT T = s.T ∧ ∀ d b, mget T d = some b → b.Fit) ∧ Den [pt p (.cells [.pointer (some ⟨s.w, 0, none⟩), .int .i64 s.root, .map (some m)].toArray 164), mapP intK m (entsT T), bigT T] h
theorem mget_ents (T : List (Int × BlkD)) (d : Int) : mget (entsT T) d = (mget T d).map fun b => .agg b.cells.toArray := by
  induction T with
  | nil => rfl
  | cons t T ih =>
    obtain ⟨a, x⟩ := t
    simp only [entsT, List.map_cons, mget] at ih ⊢
    split
    · rfl
    · exact ih
theorem mget_pure (T : List (Int × BlkD)) (d : Int) : mget (pureT T) d = (mget T d).map BlkD.pure := by
  induction T with
  | nil => rfl
  | cons t T ih =>
    obtain ⟨a, x⟩ := t
    simp only [pureT, List.map_cons, mget] at ih ⊢
    split
    · rfl
    · exact ih
theorem mset_ents {T : List (Int × BlkD)} {d : Int} (h : mget T d = none) (b : BlkD) : mset (entsT T) d (.agg b.cells.toArray) = entsT (T ++ [(d, b)]) := by
  induction T with
  | nil => rfl
  | cons t T ih =>
    obtain ⟨a, x⟩ := t
    simp only [mget] at h
    split at h
    · cases h
    · rename_i e
      have := ih h
      simp only [entsT, List.map_cons, mset, if_neg e, List.cons_append] at this ⊢
      rw [this]
theorem mget_app {α β : Type} [DecidableEq α] (T : List (α × β)) (d e : α) (b : β) (h : mget T d = none) : mget (T ++ [(d, b)]) e = if e = d then some b else mget T e := by
  induction T with
  | nil => rfl
  | cons t T ih =>
    obtain ⟨a, x⟩ := t
    simp only [mget] at h
    split at h
    · cases h
    · rename_i hne
      simp only [List.cons_append, mget, ih h]
      by_cases h1 : e = a
      · subst h1
        have : ¬ e = d := fun h => hne h.symm
        simp [this]
      · simp [h1]

theorem open_tree {p : Nat} {s : TS} : Opens treeI p s (fun x : (Nat) × (List (Int × BlkD)) => (pureT x.2 = s.T ∧ ∀ d b, mget x.2 d = some b → b.Fit)) (fun x R => (pt p (.cells [.pointer (some ⟨s.w, 0, none⟩), .int .i64 s.root, .map (some x.1)].toArray 164)) :: (mapP intK x.1 (entsT x.2)) :: (bigT x.2) :: R) := by
  rintro R m_ ⟨m1, m2, d, e, ⟨m, T, hs, h⟩, r⟩
  exact ⟨(m, T), hs, Den_app d e h r⟩
theorem SC.op_tree {W : World} {P : Program} {L R : List HProp} {n_ : Nat} {c_ : Code} {k_ : Kont} {l_ : Env} {p : Nat} {s : TS} [t_ : TakeAt L treeI p s R] (h_ : ∀ (m : Nat) (T : List (Int × BlkD)), (pureT T = s.T ∧ ∀ d b, mget T d = some b → b.Fit) → SC W P n_ c_ k_ l_ ((pt p (.cells [.pointer (some ⟨s.w, 0, none⟩), .int .i64 s.root, .map (some m)].toArray 164)) :: (mapP intK m (entsT T)) :: (bigT T) :: R)) : SC W P n_ c_ k_ l_ L := SC.opn (open_tree) fun x hx => h_ x.1 x.2 hx
theorem SN.op_tree {W : World} {P : Program} {L R : List HProp} {n_ : Nat} {k_ : Kont} {l_ : Env} {p : Nat} {s : TS} [t_ : TakeAt L treeI p s R] (h_ : ∀ (m : Nat) (T : List (Int × BlkD)), (pureT T = s.T ∧ ∀ d b, mget T d = some b → b.Fit) → SN W P n_ k_ l_ ((pt p (.cells [.pointer (some ⟨s.w, 0, none⟩), .int .i64 s.root, .map (some m)].toArray 164)) :: (mapP intK m (entsT T)) :: (bigT T) :: R)) : SN W P n_ k_ l_ L := SN.opn (open_tree) fun x hx => h_ x.1 x.2 hx
theorem SR.op_tree {W : World} {P : Program} {L R : List HProp} {n_ : Nat} {ops_ : Array Oper} {os_ : List Oper} {k_ : Kont} {l_ : Env} {p : Nat} {s : TS} [t_ : TakeAt L treeI p s R] (h_ : ∀ (m : Nat) (T : List (Int × BlkD)), (pureT T = s.T ∧ ∀ d b, mget T d = some b → b.Fit) → SR W P n_ ops_ os_ k_ l_ ((pt p (.cells [.pointer (some ⟨s.w, 0, none⟩), .int .i64 s.root, .map (some m)].toArray 164)) :: (mapP intK m (entsT T)) :: (bigT T) :: R)) : SR W P n_ ops_ os_ k_ l_ L := SR.opn (open_tree) fun x hx => h_ x.1 x.2 hx
theorem SQ.op_tree {W : World} {P : Program} {L R : List HProp} {n_ : Nat} {ops_ : Array Oper} {r_ : Ord} {Ts_ : Facts} {k_ : Kont} {l_ : Env} {p : Nat} {s : TS} [t_ : TakeAt L treeI p s R] (h_ : ∀ (m : Nat) (T : List (Int × BlkD)), (pureT T = s.T ∧ ∀ d b, mget T d = some b → b.Fit) → SQ W P n_ ops_ r_ Ts_ k_ l_ ((pt p (.cells [.pointer (some ⟨s.w, 0, none⟩), .int .i64 s.root, .map (some m)].toArray 164)) :: (mapP intK m (entsT T)) :: (bigT T) :: R)) : SQ W P n_ ops_ r_ Ts_ k_ l_ L := SQ.opn (open_tree) fun x hx => h_ x.1 x.2 hx
theorem CallsK.op_tree {W : World} {P : Program} {L R : List HProp} {f_ : FuncId} {args_ : Array Value} {K_ : Value → List HProp → Prop} {p : Nat} {s : TS} [t_ : TakeAt L treeI p s R] (h_ : ∀ (m : Nat) (T : List (Int × BlkD)), (pureT T = s.T ∧ ∀ d b, mget T d = some b → b.Fit) → CallsK W P f_ args_ ((pt p (.cells [.pointer (some ⟨s.w, 0, none⟩), .int .i64 s.root, .map (some m)].toArray 164)) :: (mapP intK m (entsT T)) :: (bigT T) :: R) K_) : CallsK W P f_ args_ L K_ := CallsK.opn (open_tree) fun x hx => h_ x.1 x.2 hx
theorem close_tree {L R R1 R2 : List HProp} {p m w : Nat} {root : Int} {T : List (Int × BlkD)} {s : TS} {mm : List (Int × Value)} [t : TakePt L p (.cells [.pointer (some ⟨w, 0, none⟩), .int .i64 root, .map (some m)].toArray 164) R1] [u : TakeMap R1 intK m mm R2] [v : TakeA R2 (bigT T) R]
    (h1 : mm = entsT T) (h2 : pureT T = s.T ∧ ∀ d b, mget T d = some b → b.Fit) (h3 : s.w = w) (h4 : s.root = root) : Lands L (At treeI p s :: R) := fun q H => by
  subst h1; subst h3; subst h4
  obtain ⟨m1, m2, d, e, hq, hr⟩ := Den_perm t.perm q H
  obtain ⟨m3, m4, d2, e2, hm, hs⟩ := Den_perm u.perm m2 hr
  have H2 : Den ([pt p (.cells [.pointer (some ⟨s.w, 0, none⟩), .int .i64 s.root, .map (some m)].toArray 164), mapP intK m (entsT T), bigT T] ++ R) q := ⟨m1, m2, d, e, hq, m3, m4, d2, e2, hm, Den_perm v.perm m4 hs⟩
  exact Lands.wrap (A := At treeI p s) (fun z hz => ⟨m, T, h2, hz⟩) q H2

theorem blok_Still {W : World} {F : List HProp} [Abs F] (b : BlkD) {cs ds : List Value} [HasRow F b.by_.a cs] [HasRow F b.envs.a ds] (hcs : cs = b.by_.l.map intV) (hds : ds = b.envs.l.flatMap EnvD.cells) (hf : b.Fit) :
    CallsK W Tryz.prog 107 #[b.val] (F) (fun v L => ∃ b' : BlkD, v = b'.val ∧ b'.pure = b.pure ∧ b'.Fit ∧ Lands L (rowP 3 1 b'.by_.a b'.by_.n b'.by_.c (b'.by_.l.map intV) :: rowP 43 4 b'.envs.a b'.envs.n b'.envs.c (b'.envs.l.flatMap EnvD.cells) :: F)) := by
  refine CallsK_enter (n := 14) Tryz.func107 rfl rfl rfl ?_
  subst hcs
  subst hds
  iterate 2 refine Ws ?_
  refine Wb fun b1 => ?_
  refine Wa fun b2 => ?_
  iterate 3 refine Ws ?_
  unfold BlkD.cells
  refine Wd [.r 0, .r 1, .r 2, .r 4, .r 5, .e 3, .r 7, .r 8, .e 6, .e 9, .r 10, .e 11] ?_
  iterate 5 refine Wq ?_
  refine SQ_call rfl Tryz.call100 (.cons rfl (.nil)) (clone_ints (b.by_.l.map intV) b.by_.a b.by_.n b.by_.c (by simpa using hf.1) (by have := hf.2.2.1; omega)) (lts rfl) ?_
  rintro _ L1 ⟨a6, c6, rfl, hL1⟩
  refine ⟨.lands hL1 (.h (Has.ce rfl) (.w rfl (.nil))), ?_⟩
  refine SQ.lands hL1 ?_
  iterate 2 refine Wq ?_
  refine SQ_call rfl Tryz.call72 (.cons rfl (.nil)) (clone_envs (b.envs.l.flatMap EnvD.cells) b.envs.a b.envs.n b.envs.c (by rw [env_len, hf.2.1]) (by have := hf.2.2.2.1; omega)) (lts rfl) ?_
  rintro _ L2 ⟨a9, c9, rfl, hL2⟩
  refine ⟨.lands hL2 (.w rfl (.h (Has.ce rfl) (.nil))), ?_⟩
  refine SQ.lands hL2 ?_
  refine SQ_ox0 rfl (OX_st Tryz.sizeOf37 rfl rfl) ?_
  rintro _ _ rfl
  refine ⟨.w rfl (.w rfl (.nil)), ?_⟩
  refine Wq ?_
  refine SQ_ox0 rfl (OX_st Tryz.sizeOf53 rfl rfl) ?_
  rintro _ _ rfl
  refine ⟨.w rfl (.w rfl (.nil)), ?_⟩
  iterate 5 refine Ws ?_
  refine SR_ox0 (OX_stA Tryz.sizeOf146 rfl rfl rfl rfl) ?_
  rintro _ _ rfl
  iterate 2 refine Ws ?_
  refine SC_retC rfl Tryz.isAgg146 Tryz.sizeOf146 rfl rfl Has.wh ?_
  exact ⟨⟨b.view, b.author, b.jv, b.jb, ⟨a6, b.by_.n, c6, b.by_.l⟩, ⟨a9, b.envs.n, c9, b.envs.l⟩⟩, rfl, rfl, hf, .fin⟩

end Go.Proofs.YtdhpjdhloaoepaaGreat

/- Certificates: who is a replica, how many are many, is one Ok. -/
namespace Go.Proofs.YtdhpjdhloaoepaaGreat
open Go Go.Proofs
attribute [local irreducible] SC SN SR SQ SA SO
set_option maxRecDepth 100000

theorem cert_Fits {W : World} {F : List HProp} [Abs F] (c : CfgD) (hw : c.n < 9223372036854775808) :
    CallsK W Tryz.prog 239 #[c.val] (F) (fun v L => v = .bool c.fits ∧ Lands L F) := by
  refine CallsK_enter (n := 25) Tryz.func239 rfl rfl rfl ?_
  iterate 2 refine Ws ?_
  refine Wb fun b1 => ?_
  iterate 9 refine Ws ?_
  refine SR_guard rfl rfl (fun hg1_3 => ?_) (fun hg1_3 => ?_)
  · refine SR_yes rfl rfl (hg1_3) ?_
    refine Ws ?_
    refine SR_yes rfl rfl (hg1_3) ?_
    refine Ws ?_
    refine SR_yes rfl rfl (hg1_3) ?_
    refine Ws ?_
    refine SR_pu (RD_pick_t rfl (hg1_3) rfl) rfl ?_
    refine Ws ?_
    refine SR_guard rfl rfl (fun hg1_8 => ?_) (fun hg1_8 => ?_)
    · refine SR_yes rfl rfl (hg1_8) ?_
      refine Ws ?_
      refine SR_yes rfl rfl (hg1_8) ?_
      refine Ws ?_
      refine SR_yes rfl rfl (hg1_8) ?_
      refine SR_pu (RD_remi rfl rfl (by simp at hg1_8; omega) (by omega)) rfl ?_
      refine SR_yes rfl rfl (hg1_8) ?_
      refine Ws ?_
      refine SR_pu (RD_pick_t rfl (hg1_8) rfl) rfl ?_
      refine Ws ?_
      refine SR_guard rfl rfl (fun hg1_14 => ?_) (fun hg1_14 => ?_)
      · refine SR_yes rfl rfl (hg1_14) ?_
        refine Ws ?_
        refine SR_yes rfl rfl (hg1_14) ?_
        refine Ws ?_
        refine SR_yes rfl rfl (hg1_14) ?_
        refine SR_pu (RD_quo rfl rfl (by omega)) rfl ?_
        refine SR_yes rfl rfl (hg1_14) ?_
        refine Ws ?_
        refine SR_yes rfl rfl (hg1_14) ?_
        refine Ws ?_
        refine SR_yes rfl rfl (hg1_14) ?_
        refine Ws ?_
        refine SR_pu (RD_pick_t rfl (hg1_14) rfl) rfl ?_
        iterate 3 refine Ws ?_
        refine SC_ret1 rfl rfl ?_
        refine ⟨?_, .fin⟩
        unfold CfgD.fits
        simp at *
        try omega
        try (have e : IntKind.i64.wrap (c.n.tdiv 3) = c.n / 3 := by rw [Int.tdiv_eq_ediv_of_nonneg (by omega), IntKind.wrap_i64]; omega)
        try simp [*]
        try omega
      · refine SR_no rfl rfl (hg1_14) (lts rfl) ?_
        refine SR_no rfl rfl (hg1_14) (lts rfl) ?_
        refine SR_no rfl rfl (hg1_14) (lts rfl) ?_
        refine SR_no rfl rfl (hg1_14) (lts rfl) ?_
        refine SR_no rfl rfl (hg1_14) (lts rfl) ?_
        refine SR_no rfl rfl (hg1_14) (lts rfl) ?_
        refine SR_pu (RD_pick_f rfl (hg1_14) rfl) rfl ?_
        iterate 3 refine Ws ?_
        refine SC_ret1 rfl rfl ?_
        refine ⟨?_, .fin⟩
        unfold CfgD.fits
        simp at *
        try omega
        try (have e : IntKind.i64.wrap (c.n.tdiv 3) = c.n / 3 := by rw [Int.tdiv_eq_ediv_of_nonneg (by omega), IntKind.wrap_i64]; omega)
        try simp [*]
        try omega
    · refine SR_no rfl rfl (hg1_8) (lts rfl) ?_
      refine SR_no rfl rfl (hg1_8) (lts rfl) ?_
      refine SR_no rfl rfl (hg1_8) (lts rfl) ?_
      refine SR_no rfl rfl (hg1_8) (lts rfl) ?_
      refine SR_pu (RD_pick_f rfl (hg1_8) rfl) rfl ?_
      refine Ws ?_
      refine SR_no rfl rfl (rfl) (lts rfl) ?_
      refine SR_no rfl rfl (rfl) (lts rfl) ?_
      refine SR_no rfl rfl (rfl) (lts rfl) ?_
      refine SR_no rfl rfl (rfl) (lts rfl) ?_
      refine SR_no rfl rfl (rfl) (lts rfl) ?_
      refine SR_no rfl rfl (rfl) (lts rfl) ?_
      refine SR_pu (RD_pick_f rfl (rfl) rfl) rfl ?_
      iterate 3 refine Ws ?_
      refine SC_ret1 rfl rfl ?_
      refine ⟨?_, .fin⟩
      unfold CfgD.fits
      simp at *
      try omega
      try (have e : IntKind.i64.wrap (c.n.tdiv 3) = c.n / 3 := by rw [Int.tdiv_eq_ediv_of_nonneg (by omega), IntKind.wrap_i64]; omega)
      try simp [*]
      try omega
  · refine SR_no rfl rfl (hg1_3) (lts rfl) ?_
    refine SR_no rfl rfl (hg1_3) (lts rfl) ?_
    refine SR_no rfl rfl (hg1_3) (lts rfl) ?_
    refine SR_pu (RD_pick_f rfl (hg1_3) rfl) rfl ?_
    refine Ws ?_
    refine SR_no rfl rfl (rfl) (lts rfl) ?_
    refine SR_no rfl rfl (rfl) (lts rfl) ?_
    refine SR_no rfl rfl (rfl) (lts rfl) ?_
    refine SR_no rfl rfl (rfl) (lts rfl) ?_
    refine SR_pu (RD_pick_f rfl (rfl) rfl) rfl ?_
    refine Ws ?_
    refine SR_no rfl rfl (rfl) (lts rfl) ?_
    refine SR_no rfl rfl (rfl) (lts rfl) ?_
    refine SR_no rfl rfl (rfl) (lts rfl) ?_
    refine SR_no rfl rfl (rfl) (lts rfl) ?_
    refine SR_no rfl rfl (rfl) (lts rfl) ?_
    refine SR_no rfl rfl (rfl) (lts rfl) ?_
    refine SR_pu (RD_pick_f rfl (rfl) rfl) rfl ?_
    iterate 3 refine Ws ?_
    refine SC_ret1 rfl rfl ?_
    refine ⟨?_, .fin⟩
    unfold CfgD.fits
    simp at *
    try omega
    try (have e : IntKind.i64.wrap (c.n.tdiv 3) = c.n / 3 := by rw [Int.tdiv_eq_ediv_of_nonneg (by omega), IntKind.wrap_i64]; omega)
    try simp [*]
    try omega

theorem cert_Quorum {W : World} {F : List HProp} [Abs F] (c : CfgD) :
    CallsK W Tryz.prog 211 #[c.val] (F) (fun v L => v = .int .i64 (IntKind.i64.wrap (c.n - c.f)) ∧ Lands L F) := by
  refine CallsK_enter (n := 8) Tryz.func211 rfl rfl rfl ?_
  iterate 2 refine Ws ?_
  refine Wb fun b1 => ?_
  iterate 9 refine Ws ?_
  refine SR_pu (RD_sub rfl rfl) rfl ?_
  iterate 3 refine Ws ?_
  refine SC_ret1 rfl rfl ?_
  exact ⟨rfl, .fin⟩

theorem cert_Replica {W : World} {F : List HProp} [Abs F] (c : CfgD) (w : Int) :
    CallsK W Tryz.prog 50 #[c.val, .int .i64 w] (F) (fun v L => v = .bool (decide (0 ≤ w ∧ w < c.n)) ∧ Lands L F) := by
  refine CallsK_enter (n := 13) Tryz.func50 rfl rfl rfl ?_
  iterate 2 refine Ws ?_
  refine Wb fun b2 => ?_
  iterate 8 refine Ws ?_
  refine SR_guard rfl rfl (fun hg1_2 => ?_) (fun hg1_2 => ?_)
  · refine SR_yes rfl rfl (hg1_2) ?_
    refine Ws ?_
    refine SR_yes rfl rfl (hg1_2) ?_
    refine Ws ?_
    refine SR_yes rfl rfl (hg1_2) ?_
    refine Ws ?_
    refine SR_yes rfl rfl (hg1_2) ?_
    refine Ws ?_
    refine SR_pu (RD_pick_t rfl (hg1_2) rfl) rfl ?_
    iterate 3 refine Ws ?_
    refine SC_ret1 rfl rfl ?_
    refine ⟨?_, .fin⟩
    simp at *
    try omega
  · refine SR_no rfl rfl (hg1_2) (lts rfl) ?_
    refine SR_no rfl rfl (hg1_2) (lts rfl) ?_
    refine SR_no rfl rfl (hg1_2) (lts rfl) ?_
    refine SR_no rfl rfl (hg1_2) (lts rfl) ?_
    refine SR_pu (RD_pick_f rfl (hg1_2) rfl) rfl ?_
    iterate 3 refine Ws ?_
    refine SC_ret1 rfl rfl ?_
    refine ⟨?_, .fin⟩
    simp at *
    try omega

theorem cert_many {W : World} {F : List HProp} [Abs F] (c : CfgD) (a : Option Addr) (n cc : Nat) (by_ : List Int) {cs : List Value} [HasRow F a cs] (hcs : cs = by_.map intV) (hn : by_.length = n) (hb : n ≤ 100000000) (hw : c.n < 9223372036854775808) :
    CallsK W Tryz.prog 216 #[c.val, .slice a n cc] (F) (fun v L => v = .bool (c.many by_) ∧ Lands L F) := by
  refine CallsK_enter (n := 41) Tryz.func216 rfl rfl rfl ?_
  subst hcs
  iterate 2 refine Ws ?_
  refine Wb fun b2 => ?_
  iterate 12 refine Ws ?_
  refine SC_ind (X := Nat) (fun i => i ≤ by_.length ∧ ∀ j, j < i → rOk c.n by_ j) (fun i => by_.length - i) (fun i => [(1, .slice a n cc), (2, .pointer (some ⟨b2, 0, none⟩)), (7, .slice a n cc), (8, .int .i64 (n : Nat)), (9, .int .i64 (i : Nat))]) (fun i => pt b2 (.cells c.cells.toArray 23) :: F) (0) (⟨by omega, fun j hj => by omega⟩) (.cons rfl (.cons rfl (.cons rfl (.cons rfl (.cons rfl (.nil)))))) (.fin) ?_
  intro i hi ih
  obtain ⟨hi1, hi2⟩ := hi
  iterate 6 refine Ws ?_
  refine SC_cond rfl (fun hc10 => ?_) (fun hc10 => ?_)
  · have hin : i < by_.length := by simp at hc10; omega
    obtain ⟨x, hx⟩ : ∃ x, by_[i]? = some x := ⟨_, List.getElem?_eq_getElem hin⟩
    have hxd : by_.getD i 0 = x := by simp [List.getD, hx]
    iterate 8 refine Ws ?_
    refine SR_rd (RD_loadO (v := intV x) (cs := by_.map intV) Tryz.isAgg3 rfl (by simp [hx])) Has.ro rfl ?_
    iterate 8 refine Ws ?_
    refine Wc (cert_Replica c _) ?_
    iterate 2 refine Ws ?_
    refine SR_guard rfl rfl (fun hg4_4 => ?_) (fun hg4_4 => ?_)
    · refine SR_yes rfl rfl (hg4_4) ?_
      refine Ws ?_
      refine SR_yes rfl rfl (hg4_4) ?_
      refine Ws ?_
      refine SR_yes rfl rfl (hg4_4) ?_
      refine Ws ?_
      refine SR_guard rfl rfl (fun hg4_7 => ?_) (fun hg4_7 => ?_)
      · have hi0 : 0 < i := by simp at hg4_7; omega
        obtain ⟨y, hy⟩ : ∃ y, by_[i - 1]? = some y := ⟨_, List.getElem?_eq_getElem (by omega)⟩
        have hyd : by_.getD (i - 1) 0 = y := by simp [List.getD, hy]
        refine SR_yes rfl rfl (hg4_7) ?_
        refine Ws ?_
        refine SR_yes rfl rfl (hg4_7) ?_
        refine Ws ?_
        refine SR_yes rfl rfl (hg4_7) ?_
        refine Ws ?_
        refine SR_yes rfl rfl (hg4_7) ?_
        refine SR_rd (RD_ixO (i := ((i - 1 : Nat) : Int)) (cs := by_.map intV) Tryz.runUnderlying37 Tryz.sizeOf3 rfl (congrArg some (ie (by omega))) (by simpa using hn) (by omega) (by omega)) Has.ro rfl ?_
        refine SR_yes rfl rfl (hg4_7) ?_
        refine SR_rd (RD_loadO (v := intV y) (cs := by_.map intV) Tryz.isAgg3 rfl (by simp [hy])) Has.ro rfl ?_
        refine SR_yes rfl rfl (hg4_7) ?_
        refine Ws ?_
        refine SR_yes rfl rfl (hg4_7) ?_
        refine Ws ?_
        refine SR_yes rfl rfl (hg4_4) ?_
        refine SR_pu (RD_pick_t rfl (hg4_7) rfl) rfl ?_
        refine SR_pu (RD_pick_f rfl (hg4_4) rfl) rfl ?_
        iterate 2 refine Ws ?_
        refine SC_cond rfl (fun hc30 => ?_) (fun hc30 => ?_)
        · iterate 5 refine Ws ?_
          refine SC_ret1 rfl rfl ?_
          have hnr : ¬ rises c.n by_ := fun h => by
            have h1 := h i hin
            unfold rOk at h1
            rw [hxd] at h1
            rw [hyd] at h1
            simp at hc30
            have := h1.2.2 hi0
            omega
          exact ⟨by simp [CfgD.many, hnr], .fin⟩
        · iterate 7 refine Ws ?_
          refine SC_again (ih (i + 1) (⟨by omega, fun j hj => by
            rcases Nat.lt_succ_iff_lt_or_eq.1 hj with h | h
            · exact hi2 j h
            · subst h
              unfold rOk
              rw [hxd]
              rw [hyd]
              simp at hg4_4 hc30
              exact ⟨hg4_4.1, hg4_4.2, fun _ => by omega⟩⟩) (by omega)) (.fin) (.cons rfl (.cons rfl (.cons rfl (.cons rfl (.cons' rfl (ie (by omega)) (.nil))))))
      · refine SR_no rfl rfl (hg4_7) (lts rfl) ?_
        refine SR_no rfl rfl (hg4_7) (lts rfl) ?_
        refine SR_no rfl rfl (hg4_7) (lts rfl) ?_
        refine SR_no rfl rfl (hg4_7) (lts rfl) ?_
        refine SR_no rfl rfl (hg4_7) (lts rfl) ?_
        refine SR_no rfl rfl (hg4_7) (lts rfl) ?_
        refine SR_no rfl rfl (hg4_7) (lts rfl) ?_
        refine SR_yes rfl rfl (hg4_4) ?_
        refine SR_pu (RD_pick_f rfl (hg4_7) rfl) rfl ?_
        refine SR_pu (RD_pick_f rfl (hg4_4) rfl) rfl ?_
        iterate 2 refine Ws ?_
        refine SC_cond_false rfl (rfl) ?_
        iterate 7 refine Ws ?_
        refine SC_again (ih (i + 1) (⟨by omega, fun j hj => by
          rcases Nat.lt_succ_iff_lt_or_eq.1 hj with h | h
          · exact hi2 j h
          · subst h
            unfold rOk
            rw [hxd]
            simp at hg4_4 hg4_7
            refine ⟨hg4_4.1, hg4_4.2, fun h => by omega⟩⟩) (by omega)) (.fin) (.cons rfl (.cons rfl (.cons rfl (.cons rfl (.cons' rfl (ie (by omega)) (.nil))))))
    · refine SR_no rfl rfl (hg4_4) (lts rfl) ?_
      refine SR_no rfl rfl (hg4_4) (lts rfl) ?_
      refine SR_no rfl rfl (hg4_4) (lts rfl) ?_
      refine SR_nou  rfl rfl (lts rfl) ?_
      refine SR_nou  rfl rfl (lts rfl) ?_
      refine SR_nou  rfl rfl (lts rfl) ?_
      refine SR_nou  rfl rfl (lts rfl) ?_
      refine SR_nou  rfl rfl (lts rfl) ?_
      refine SR_nou  rfl rfl (lts rfl) ?_
      refine SR_nou  rfl rfl (lts rfl) ?_
      refine SR_no rfl rfl (hg4_4) (lts rfl) ?_
      refine SR_pu (RD_pick_t rfl (hg4_4) rfl) rfl ?_
      iterate 2 refine Ws ?_
      refine SC_cond_true rfl (rfl) ?_
      iterate 5 refine Ws ?_
      refine SC_ret1 rfl rfl ?_
      have hnr : ¬ rises c.n by_ := fun h => by
        have h1 := h i hin
        unfold rOk at h1
        rw [hxd] at h1
        simp at hg4_4
        omega
      exact ⟨by simp [CfgD.many, hnr], .fin⟩
  · have hin : i = by_.length := by simp at hc10; omega
    have hr : rises c.n by_ := fun j hj => hi2 j (by omega)
    iterate 5 refine Ws ?_
    refine Wc (cert_Fits c hw) ?_
    refine Ws ?_
    refine SR_guard rfl rfl (fun hg7_2 => ?_) (fun hg7_2 => ?_)
    · refine SR_yes rfl rfl (hg7_2) ?_
      refine Ws ?_
      refine SR_yes rfl rfl (hg7_2) ?_
      refine Ws ?_
      refine SR_yes rfl rfl (hg7_2) ?_
      refine Ws ?_
      refine SR_yes rfl rfl (hg7_2) ?_
      refine Wc (cert_Quorum c) ?_
      refine SR_yes rfl rfl (hg7_2) ?_
      refine Ws ?_
      refine SR_pu (RD_pick_t rfl (hg7_2) rfl) rfl ?_
      iterate 3 refine Ws ?_
      refine SC_ret1 rfl rfl ?_
      refine ⟨?_, .fin⟩
      unfold CfgD.many
      rw [decide_eq_true hr]
      rw [hg7_2]
      first
        | (simp; done)
        | (have h3 := hg7_2
           unfold CfgD.fits at h3
           simp at h3
           have e : IntKind.i64.wrap (c.n - c.f) = c.n - c.f := by rw [IntKind.wrap_i64]; omega
           simp [e, hn])
    · refine SR_no rfl rfl (hg7_2) (lts rfl) ?_
      refine SR_no rfl rfl (hg7_2) (lts rfl) ?_
      refine SR_no rfl rfl (hg7_2) (lts rfl) ?_
      refine SR_no rfl rfl (hg7_2) (lts rfl) ?_
      refine SR_no rfl rfl (hg7_2) (lts rfl) ?_
      refine SR_pu (RD_pick_f rfl (hg7_2) rfl) rfl ?_
      iterate 3 refine Ws ?_
      refine SC_ret1 rfl rfl ?_
      refine ⟨?_, .fin⟩
      unfold CfgD.many
      rw [decide_eq_true hr]
      rw [hg7_2]
      first
        | (simp; done)
        | (have h3 := hg7_2
           unfold CfgD.fits at h3
           simp at h3
           have e : IntKind.i64.wrap (c.n - c.f) = c.n - c.f := by rw [IntKind.wrap_i64]; omega
           simp [e, hn])

end Go.Proofs.YtdhpjdhloaoepaaGreat
