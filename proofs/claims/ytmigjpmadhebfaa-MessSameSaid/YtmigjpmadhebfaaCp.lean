/- Certificates: what they say, in plain Lean. -/
import Derived.Test.YtmigjpmadhebfaaCe1
namespace Go.Proofs.Ytmigjpmadhebfaa
open Go Go.Proofs
/-- A text and numbers. -/
def tagB (t : List UInt8) (ns : List Int) : List UInt8 := bei (t.length : Nat) ++ t ++ ns.flatMap bei
theorem tagB_snoc (t : List UInt8) (ns : List Int) (x : Int) : tagB t (ns ++ [x]) = tagB t ns ++ bei x := by simp [tagB]
theorem tagB_len (t : List UInt8) (ns : List Int) : (tagB t ns).length = 8 + t.length + 8 * ns.length := by
  unfold tagB
  rw [List.length_append, List.length_append, bei_length]
  have : (ns.flatMap bei).length = 8 * ns.length := by
    induction ns with
    | nil => rfl
    | cons x r ih => rw [List.flatMap_cons, List.length_append, ih, bei_length, List.length_cons]; omega
  omega
def voteB (v b : Int) : List UInt8 := tagB [118, 111, 116, 101] [v, b]
def outB (v h : Int) : List UInt8 := tagB [111, 117, 116] [v, h]
def rootB : List UInt8 := tagB [114, 111, 111, 116] []
/-- One arena goes on another. -/
def Ext (l l' : List (List UInt8)) : Prop := ∃ r, l' = l ++ r
theorem Ext.same {l : List (List UInt8)} : Ext l l := ⟨[], by simp⟩
theorem Ext.trans {l l' l'' : List (List UInt8)} (h : Ext l l') (h' : Ext l' l'') : Ext l l'' := by
  obtain ⟨r, rfl⟩ := h; obtain ⟨s, rfl⟩ := h'; exact ⟨r ++ s, by simp⟩
theorem Ext.put (l : List (List UInt8)) (x : List UInt8) : Ext l (dput l x) := by
  unfold dput; split; exact Ext.same; exact ⟨[x], rfl⟩
theorem Ext.len {l l' : List (List UInt8)} (h : Ext l l') : l.length ≤ l'.length := by obtain ⟨r, rfl⟩ := h; simp
theorem dput_len (l : List (List UInt8)) (x : List UInt8) : (dput l x).length ≤ l.length + 1 := by unfold dput; split <;> simp
theorem dput_mem (l : List (List UInt8)) (x : List UInt8) : x ∈ dput l x := by unfold dput; split; assumption; simp
theorem dput_idem {l : List (List UInt8)} {x : List UInt8} (h : x ∈ l) : dput l x = l := dnum_put_old h
theorem Ext.mem {l l' : List (List UInt8)} (h : Ext l l') {x : List UInt8} (hx : x ∈ l) : x ∈ l' := by obtain ⟨r, rfl⟩ := h; simp [hx]
theorem dnum_app_old {l : List (List UInt8)} {x : List UInt8} (h : x ∈ l) (r : List (List UInt8)) : dnum (l ++ r) x = dnum l x := by
  induction l with
  | nil => simp at h
  | cons y l ih =>
    by_cases e : x = y
    · simp [dnum, e]
    · have hx : x ∈ l := by simpa [e] using h
      simp only [List.cons_append, dnum, e, if_false, ih hx]
theorem dnum_app_new {l : List (List UInt8)} {x : List UInt8} (h : x ∉ l) (r : List (List UInt8)) : dnum (l ++ r) x = 0 ∨ l.length < dnum (l ++ r) x := by
  induction l with
  | nil => by_cases e : dnum r x = 0; exact .inl e; exact .inr (by simp; omega)
  | cons y l ih =>
    have e : x ≠ y := fun e => h (by simp [e])
    have hx : x ∉ l := fun e => h (by simp [e])
    simp only [List.cons_append, dnum, e, if_false]
    rcases ih hx with h0 | h0
    · simp [h0]
    · right; rw [if_neg (by omega)]; simp; omega
theorem Ext.num {l l' : List (List UInt8)} (h : Ext l l') {x : List UInt8} (hx : x ∈ l) : dnum l' x = dnum l x := by obtain ⟨r, rfl⟩ := h; exact dnum_app_old hx r
theorem dnum_inj {l : List (List UInt8)} {x y : List UInt8} (hx : x ∈ l) (h : dnum l x = dnum l y) : x = y := by
  induction l with
  | nil => simp at hx
  | cons z l ih =>
    simp only [dnum] at h
    by_cases e1 : x = z <;> by_cases e2 : y = z
    · rw [e1, e2]
    · rw [if_pos e1, if_neg e2] at h
      split at h <;> omega
    · rw [if_neg e1, if_pos e2] at h
      split at h <;> omega
    · have hx' : x ∈ l := by simpa [e1] using hx
      rw [if_neg e1, if_neg e2] at h
      have h0 : dnum l x ≠ 0 := fun h => (dnum_zero l x).1 h hx'
      rw [if_neg h0] at h
      split at h
      · omega
      · exact ih hx' (by omega)
theorem dnum_pos {l : List (List UInt8)} {x : List UInt8} (hx : x ∈ l) : 1 ≤ dnum l x := by
  have := (dnum_zero l x); have h : dnum l x ≠ 0 := fun h => this.1 h hx
  omega
/-- Only what has a number is signed. -/
def Inv (l : List (List UInt8)) (S : List (Int × List Int)) : Prop := ∀ k : Int, signers S k ≠ [] → 1 ≤ k ∧ k ≤ l.length
theorem Inv.ext {l l' : List (List UInt8)} {S : List (Int × List Int)} (h : Inv l S) (e : Ext l l') : Inv l' S := fun k hk => by
  have := h k hk; have := e.len; omega
theorem Inv.nil {l : List (List UInt8)} : Inv l [] := fun k hk => absurd rfl hk
/-- Who signed a row. -/
def sg (l : List (List UInt8)) (S : List (Int × List Int)) (x : List UInt8) : List Int := signers S (dnum l x : Nat)
theorem sg_ext {l l' : List (List UInt8)} {S : List (Int × List Int)} (h : Inv l S) (e : Ext l l') (x : List UInt8) : sg l' S x = sg l S x := by
  unfold sg
  by_cases hx : x ∈ l
  · rw [e.num hx]
  · have h0 : dnum l x = 0 := (dnum_zero l x).2 hx
    have hz : signers S ((0 : Nat) : Int) = [] := Classical.byContradiction fun hk => by have := (h _ hk).1; omega
    rw [h0, hz]
    obtain ⟨r, rfl⟩ := e
    rcases dnum_app_new hx r with h1 | h1
    · rw [h1, hz]
    · exact Classical.byContradiction fun hk => by have := (h _ hk).2; omega
theorem signers_add (S : List (Int × List Int)) (w k j : Int) : signers (addTo S w k) j = if j = k then putW (signers S k) w else signers S j := by
  induction S with
  | nil =>
    by_cases h : j = k
    · subst h; simp [addTo, signers, putW]
    · simp [addTo, signers, h]
  | cons t S ih =>
    obtain ⟨a, ws⟩ := t
    by_cases h : k = a
    · subst h
      by_cases hj : j = k
      · subst hj; simp [addTo, signers]
      · simp [addTo, signers, hj]
    · by_cases hj : j = a
      · subst hj
        have : ¬ j = k := fun e => h e.symm
        simp [addTo, signers, h, this]
      · simp only [addTo, if_neg h, signers, if_neg hj, ih]
theorem Inv.add {l : List (List UInt8)} {S : List (Int × List Int)} (h : Inv l S) {x : List UInt8} (hx : x ∈ l) (w : Int) : Inv l (addTo S w (dnum l x : Nat)) := fun k hk => by
  rw [signers_add] at hk
  by_cases e : k = (dnum l x : Nat)
  · subst e; have := dnum_pos hx; have := dnum_le l x; omega
  · rw [if_neg e] at hk; exact h k hk
theorem mem_putW {ws : List Int} {w x : Int} : x ∈ putW ws w ↔ x ∈ ws ∨ x = w := by
  unfold putW; split
  · constructor
    · exact .inl
    · rintro (h | rfl) <;> assumption
  · simp
theorem sg_add {l : List (List UInt8)} {S : List (Int × List Int)} {x y : List UInt8} (hx : x ∈ l) (w : Int) : sg l (addTo S w (dnum l x : Nat)) y = if y = x then putW (sg l S x) w else sg l S y := by
  unfold sg
  rw [signers_add]
  by_cases e : y = x
  · subst e; simp
  · rw [if_neg e, if_neg]
    intro h
    exact e (dnum_inj hx (by omega)).symm
/-! ### Configs and certificates -/
structure CfgD where
  f : Int
  n : Int
  cl : Int
  ba : Int
  mo : Int
  bt : Int
  po : Int
  wi : Int
def CfgD.cells (c : CfgD) : List Value := [.int .i64 c.f, .int .i64 c.n, .int .i64 c.cl, .int .i64 c.ba, .int .i64 c.mo, .int .i64 c.bt, .int .i64 c.po, .int .i64 c.wi]
def CfgD.val (c : CfgD) : Value := .agg c.cells.toArray
instance onesCfg (c : CfgD) : Ones c.cells := by unfold CfgD.cells; infer_instance
/-- A row of numbers, as a slice tells it. -/
structure Row where
  a : Option Addr
  n : Nat
  c : Nat
  l : List Int
def Row.val (r : Row) : Value := .slice r.a r.n r.c
instance oneRow (r : Row) : One r.val := ⟨rfl, rfl⟩
def noRow : Row := ⟨none, 0, 0, []⟩
structure QcD where
  view : Int
  block : Int
  by_ : Row
def QcD.cells (q : QcD) : List Value := [.int .i64 q.view, .int .i64 q.block, .slice q.by_.a q.by_.n q.by_.c]
def QcD.val (q : QcD) : Value := .agg q.cells.toArray
instance onesQc (q : QcD) : Ones q.cells := by unfold QcD.cells; infer_instance
structure TcD where
  view : Int
  by_ : Row
  highs : Row
  high : QcD
def TcD.cells (t : TcD) : List Value := [.int .i64 t.view, .slice t.by_.a t.by_.n t.by_.c, .slice t.highs.a t.highs.n t.highs.c, .int .i64 t.high.view, .int .i64 t.high.block, .slice t.high.by_.a t.high.by_.n t.high.by_.c]
def TcD.val (t : TcD) : Value := .agg t.cells.toArray
instance onesTc (t : TcD) : Ones t.cells := by unfold TcD.cells; infer_instance
def CfgD.fits (c : CfgD) : Bool := decide (0 ≤ c.f ∧ 0 < c.n ∧ c.n % 3 = 1 ∧ c.n / 3 = c.f)
/-- The i-th is a replica, behind the one ahead of it. -/
def rOk (n : Int) (by_ : List Int) (j : Nat) : Prop := 0 ≤ by_.getD j 0 ∧ by_.getD j 0 < n ∧ (0 < j → by_.getD (j - 1) 0 < by_.getD j 0)
instance decROk (n : Int) (by_ : List Int) (j : Nat) : Decidable (rOk n by_ j) := by unfold rOk; infer_instance
def rises (n : Int) (by_ : List Int) : Prop := ∀ j, j < by_.length → rOk n by_ j
instance decRises (n : Int) (by_ : List Int) : Decidable (rises n by_) := by unfold rises; infer_instance
def CfgD.many (c : CfgD) (by_ : List Int) : Bool := decide (rises c.n by_) && (c.fits && decide (c.n - c.f ≤ by_.length))
/-- What a certificate's verdict is in an arena. -/
def CfgD.qcOk (c : CfgD) (l : List (List UInt8)) (S : List (Int × List Int)) (view block : Int) (by_ : List Int) : Bool :=
  if view < 1 then c.fits && (decide (view = 0) && (decide (block = (dnum l rootB : Nat)) && decide (by_.length = 0)))
  else c.many by_ && by_.all fun w => decide (w ∈ sg l S (voteB view block))
/-- The arena behind it. -/
def CfgD.qcL (c : CfgD) (l : List (List UInt8)) (view block : Int) : List (List UInt8) :=
  if view < 1 then (if c.fits && decide (view = 0) then dput l rootB else l) else dput l (voteB view block)
theorem CfgD.qcL_ext (c : CfgD) (l : List (List UInt8)) (view block : Int) : Ext l (c.qcL l view block) := by
  unfold CfgD.qcL; split
  · split; exact Ext.put _ _; exact Ext.same
  · exact Ext.put _ _
theorem CfgD.qcL_len (c : CfgD) (l : List (List UInt8)) (view block : Int) : (c.qcL l view block).length ≤ l.length + 1 := by
  unfold CfgD.qcL; split
  · split; exact dput_len _ _; omega
  · exact dput_len _ _
end Go.Proofs.Ytmigjpmadhebfaa
