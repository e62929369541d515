/- Messages: what they are, their bytes tell them. Plain Lean. -/
import Derived.Test.YtmigjpmadhebfaaEs
import Derived.Test.YtmigjpmadhebfaaTr6
namespace Go.Proofs.Ytmigjpmadhebfaa
open Go Go.Proofs
set_option maxRecDepth 100000
/-- A row of blocks, as a slice tells it. -/
structure BRow where
  a : Option Addr
  n : Nat
  c : Nat
  l : List BlkD
structure MsgD where
  kind : Int
  from_ : Int
  to_ : Int
  view : Int
  num : Int
  qc : QcD
  tc : TcD
  env : EnvD
  bl : BRow
def MsgD.cells (m : MsgD) : List Value := [.int .i64 m.kind, .int .i64 m.from_, .int .i64 m.to_, .int .i64 m.view, .int .i64 m.num, .int .i64 m.qc.view, .int .i64 m.qc.block, .slice m.qc.by_.a m.qc.by_.n m.qc.by_.c, .int .i64 m.tc.view, .slice m.tc.by_.a m.tc.by_.n m.tc.by_.c, .slice m.tc.highs.a m.tc.highs.n m.tc.highs.c, .int .i64 m.tc.high.view, .int .i64 m.tc.high.block, .slice m.tc.high.by_.a m.tc.high.by_.n m.tc.high.by_.c, .int .i64 m.env.client, .int .u64 m.env.nonce, .int .u64 m.env.fee, .int .i64 m.env.cipher, .slice m.bl.a m.bl.n m.bl.c]
def MsgD.val (m : MsgD) : Value := .agg m.cells.toArray
instance onesMsg (m : MsgD) : Ones m.cells := by unfold MsgD.cells; infer_instance
theorem BlkD.cells_len (b : BlkD) : b.cells.length = 6 := rfl
instance onesBlkDs (l : List BlkD) : Ones (l.flatMap BlkD.cells) := ⟨fun v hv => by
  obtain ⟨e, _, he⟩ := List.mem_flatMap.1 hv
  exact (onesBlk e).h v he⟩
theorem blkd_get {l : List BlkD} {i : Nat} {e : BlkD} (h : l[i]? = some e) (o : Nat) (ho : o < 6) : (l.flatMap BlkD.cells)[i * 6 + o]? = e.cells[o]? := by
  induction l generalizing i with
  | nil => simp at h
  | cons x l ih =>
    cases i with
    | zero => simp at h; subst h; rw [List.flatMap_cons, Nat.zero_mul, Nat.zero_add, List.getElem?_append_left (by rw [BlkD.cells_len]; exact ho)]
    | succ i =>
      rw [List.flatMap_cons, List.getElem?_append_right (by rw [BlkD.cells_len]; omega), BlkD.cells_len, show (i + 1) * 6 + o - 6 = i * 6 + o by omega]
      exact ih (by simpa using h)
theorem blkds_len (l : List BlkD) : (l.flatMap BlkD.cells).length = l.length * 6 := by
  induction l with
  | nil => rfl
  | cons x l ih => rw [List.flatMap_cons, List.length_append, ih, BlkD.cells_len, List.length_cons]; omega
/-! ### bytes -/
def intsB (l : List Int) : List UInt8 := bei (l.length : Nat) ++ l.flatMap bei
def qcB (v b : Int) (l : List Int) : List UInt8 := bei v ++ bei b ++ intsB l
def enB (e : EnvD) : List UInt8 := bei e.client ++ bei e.nonce ++ bei e.fee ++ bei e.cipher
def blB (b : Blk) : List UInt8 := bei b.view ++ bei b.author ++ qcB b.jv b.jb b.by_ ++ bei (b.envs.length : Nat) ++ b.envs.flatMap enB
structure PQ where
  view : Int
  block : Int
  by_ : List Int
structure PMsg where
  head : List Int
  qc : PQ
  tv : Int
  tby : List Int
  ths : List Int
  th : PQ
  env : EnvD
  bl : List Blk
def PMsg.bytes (m : PMsg) : List UInt8 := intsB m.head ++ qcB m.qc.view m.qc.block m.qc.by_ ++ bei m.tv ++ intsB m.tby ++ intsB m.ths ++ qcB m.th.view m.th.block m.th.by_ ++ enB m.env ++ bei (m.bl.length : Nat) ++ m.bl.flatMap blB
def QcD.p (q : QcD) : PQ := ⟨q.view, q.block, q.by_.l⟩
def MsgD.p (m : MsgD) : PMsg := ⟨[m.kind, m.from_, m.to_, m.view, m.num], m.qc.p, m.tc.view, m.tc.by_.l, m.tc.highs.l, m.tc.high.p, m.env, m.bl.l.map BlkD.pure⟩
theorem flat_len (l : List Int) : (l.flatMap bei).length = 8 * l.length := by
  induction l with
  | nil => rfl
  | cons x l ih => rw [List.flatMap_cons, List.length_append, ih, bei_length, List.length_cons]; omega
theorem intsB_len (l : List Int) : (intsB l).length = 8 + 8 * l.length := by unfold intsB; rw [List.length_append, bei_length, flat_len]
theorem qcB_len (v b : Int) (l : List Int) : (qcB v b l).length = 24 + 8 * l.length := by unfold qcB; rw [List.length_append, List.length_append, bei_length, bei_length, intsB_len]; omega
theorem enB_len (e : EnvD) : (enB e).length = 32 := by unfold enB; simp [bei_length]
theorem ens_len (l : List EnvD) : (l.flatMap enB).length = 32 * l.length := by
  induction l with
  | nil => rfl
  | cons x l ih => rw [List.flatMap_cons, List.length_append, ih, enB_len, List.length_cons]; omega
theorem blB_len (b : Blk) : (blB b).length = 48 + 8 * b.by_.length + 32 * b.envs.length := by unfold blB; simp only [List.length_append, bei_length, qcB_len, ens_len]; omega
theorem bls_len {l : List Blk} (h : ∀ b ∈ l, b.by_.length ≤ 200 ∧ b.envs.length ≤ 200) : (l.flatMap blB).length ≤ 8100 * l.length := by
  induction l with
  | nil => simp
  | cons x l ih =>
    have := ih fun b hb => h b (by simp [hb])
    have h2 := h x (by simp)
    rw [List.flatMap_cons, List.length_append, blB_len, List.length_cons]; omega
/-! ### .. tell them -/
theorem bei_one {a b : Int} {r r' : List UInt8} (ha : I64 a) (hb : I64 b) (h : bei a ++ r = bei b ++ r') : a = b ∧ r = r' := by
  obtain ⟨h1, h2⟩ := bei_app' h
  exact ⟨i64_eq ha hb h1, h2⟩
theorem bei_u {a b : Int} {r r' : List UInt8} (ha : 0 ≤ a ∧ a < 18446744073709551616) (hb : 0 ≤ b ∧ b < 18446744073709551616) (h : bei a ++ r = bei b ++ r') : a = b ∧ r = r' := by
  obtain ⟨h1, h2⟩ := bei_app' h
  exact ⟨by omega, h2⟩
def Is (l : List Int) : Prop := (∀ x ∈ l, I64 x) ∧ l.length ≤ 1000000
theorem len_i64 {n : Nat} (h : n ≤ 1000000) : I64 (n : Nat) := by unfold I64; omega
theorem ints_one {a b : List Int} {r r' : List UInt8} (ha : Is a) (hb : Is b) (h : intsB a ++ r = intsB b ++ r') : a = b ∧ r = r' := by
  unfold intsB at h
  rw [List.append_assoc, List.append_assoc] at h
  obtain ⟨h1, h2⟩ := bei_one (len_i64 ha.2) (len_i64 hb.2) h
  obtain ⟨h3, h4⟩ := List.append_inj h2 (by rw [flat_len, flat_len]; omega)
  exact ⟨flat_bei_inj a b ha.1 hb.1 h3, h4⟩
structure PQ.Good (q : PQ) : Prop where
  view : I64 q.view
  block : I64 q.block
  by_ : Is q.by_
theorem qc_one {a b : PQ} {r r' : List UInt8} (ha : a.Good) (hb : b.Good) (h : qcB a.view a.block a.by_ ++ r = qcB b.view b.block b.by_ ++ r') : a = b ∧ r = r' := by
  unfold qcB at h
  simp only [List.append_assoc] at h
  obtain ⟨h1, h⟩ := bei_one ha.view hb.view h
  obtain ⟨h2, h⟩ := bei_one ha.block hb.block h
  obtain ⟨h3, hz⟩ := ints_one ha.by_ hb.by_ h
  obtain ⟨a1, a2, a3⟩ := a
  obtain ⟨b1, b2, b3⟩ := b
  dsimp only at h1 h2 h3
  subst h1; subst h2; subst h3
  exact ⟨rfl, hz⟩
theorem en_one {a b : EnvD} {r r' : List UInt8} (ha : a.Good) (hb : b.Good) (h : enB a ++ r = enB b ++ r') : a = b ∧ r = r' := by
  unfold enB at h
  simp only [List.append_assoc] at h
  obtain ⟨a1, a2, a3, a4⟩ := a
  obtain ⟨b1, b2, b3, b4⟩ := b
  obtain ⟨i1, i2, i3, i4⟩ := ha
  obtain ⟨j1, j2, j3, j4⟩ := hb
  obtain ⟨h1, h⟩ := bei_one i1 j1 h
  obtain ⟨h2, h⟩ := bei_u i3 j3 h
  obtain ⟨h3, h⟩ := bei_u i4 j4 h
  obtain ⟨h4, hz⟩ := bei_one i2 j2 h
  dsimp only at h1 h2 h3 h4
  subst h1; subst h2; subst h3; subst h4
  exact ⟨rfl, hz⟩
theorem many_one {X : Type} {f : X → List UInt8} {G : X → Prop} (hf : ∀ a b r r', G a → G b → f a ++ r = f b ++ r' → a = b ∧ r = r') : ∀ {l m : List X} {r r' : List UInt8}, l.length = m.length → (∀ x ∈ l, G x) → (∀ x ∈ m, G x) → l.flatMap f ++ r = m.flatMap f ++ r' → l = m ∧ r = r'
  | [], [], _, _, _, _, _, h => ⟨rfl, h⟩
  | [], _ :: _, _, _, h, _, _, _ => by simp at h
  | _ :: _, [], _, _, h, _, _, _ => by simp at h
  | a :: l, b :: m, r, r', hl, hg, hm, h => by
    rw [List.flatMap_cons, List.flatMap_cons, List.append_assoc, List.append_assoc] at h
    obtain ⟨h1, h2⟩ := hf a b _ _ (hg a (by simp)) (hm b (by simp)) h
    obtain ⟨h3, h4⟩ := many_one hf (by simpa using hl) (fun x hx => hg x (by simp [hx])) (fun x hx => hm x (by simp [hx])) h2
    exact ⟨by rw [h1, h3], h4⟩
theorem bl_one {a b : Blk} {r r' : List UInt8} (ha : a.Good) (hb : b.Good) (h : blB a ++ r = blB b ++ r') : a = b ∧ r = r' := by
  unfold blB at h
  simp only [List.append_assoc] at h
  obtain ⟨h1, h⟩ := bei_one ha.view hb.view h
  obtain ⟨h2, h⟩ := bei_one ha.author hb.author h
  have na := ha.nb; have nb := hb.nb; have ea := ha.ne; have eb := hb.ne
  obtain ⟨h3, h⟩ := qc_one (a := ⟨a.jv, a.jb, a.by_⟩) (b := ⟨b.jv, b.jb, b.by_⟩) ⟨ha.jv, ha.jb, ha.by_, by dsimp only; omega⟩ ⟨hb.jv, hb.jb, hb.by_, by dsimp only; omega⟩ h
  obtain ⟨h4, h⟩ := bei_one (len_i64 (by omega)) (len_i64 (by omega)) h
  obtain ⟨h5, hz⟩ := many_one (G := EnvD.Good) (fun a b r r' => en_one) (by omega) ha.envs hb.envs h
  obtain ⟨a1, a2, a3, a4, a5, a6⟩ := a
  obtain ⟨b1, b2, b3, b4, b5, b6⟩ := b
  dsimp only at h1 h2 h3 h5
  simp only [PQ.mk.injEq] at h3
  obtain ⟨h6, h7, h8⟩ := h3
  subst h1; subst h2; subst h5; subst h6; subst h7; subst h8
  exact ⟨rfl, hz⟩
structure PMsg.Good (m : PMsg) : Prop where
  head : Is m.head
  qc : m.qc.Good
  tv : I64 m.tv
  tby : Is m.tby
  ths : Is m.ths
  th : m.th.Good
  env : m.env.Good
  bl : ∀ b ∈ m.bl, b.Good
  n : m.bl.length ≤ 1000000
theorem msg_one {a b : PMsg} (ha : a.Good) (hb : b.Good) : a.bytes = b.bytes ↔ a = b := by
  constructor
  · intro h
    unfold PMsg.bytes at h
    simp only [List.append_assoc] at h
    obtain ⟨h1, h⟩ := ints_one ha.head hb.head h
    obtain ⟨h2, h⟩ := qc_one ha.qc hb.qc h
    obtain ⟨h3, h⟩ := bei_one ha.tv hb.tv h
    obtain ⟨h4, h⟩ := ints_one ha.tby hb.tby h
    obtain ⟨h5, h⟩ := ints_one ha.ths hb.ths h
    obtain ⟨h6, h⟩ := qc_one ha.th hb.th h
    obtain ⟨h7, h⟩ := en_one ha.env hb.env h
    obtain ⟨h8, h⟩ := bei_one (len_i64 ha.n) (len_i64 hb.n) h
    obtain ⟨h9, _⟩ := many_one (G := Blk.Good) (r := []) (r' := []) (fun a b r r' => bl_one) (by omega) ha.bl hb.bl (by rw [List.append_nil, List.append_nil]; exact h)
    obtain ⟨a1, a2, a3, a4, a5, a6, a7, a8⟩ := a
    obtain ⟨b1, b2, b3, b4, b5, b6, b7, b8⟩ := b
    dsimp only at h1 h2 h3 h4 h5 h6 h7 h9
    subst h1; subst h2; subst h3; subst h4; subst h5; subst h6; subst h7; subst h9
    rfl
  · rintro rfl; rfl
/-! ### A message that may be read -/
structure RIn (F : List HProp) (r : Row) : Prop where
  row : HasRow F r.a (r.l.map intV)
  n : r.l.length = r.n
  i : ∀ x ∈ r.l, I64 x
  s : r.n ≤ 200
structure BIn (F : List HProp) (b : BlkD) : Prop where
  r1 : RIn F b.by_
  r2 : HasRow F b.envs.a (b.envs.l.flatMap EnvD.cells)
  n2 : b.envs.l.length = b.envs.n
  i1 : I64 b.view
  i2 : I64 b.author
  i3 : I64 b.jv
  i4 : I64 b.jb
  e : ∀ e ∈ b.envs.l, e.Good
  s : b.envs.n ≤ 200
class MsgIn (F : List HProp) (m : MsgD) : Prop where
  q : RIn F m.qc.by_
  t : RIn F m.tc.by_
  h : RIn F m.tc.highs
  k : RIn F m.tc.high.by_
  b : HasRow F m.bl.a (m.bl.l.flatMap BlkD.cells)
  n : m.bl.l.length = m.bl.n
  s : m.bl.n ≤ 20
  bs : ∀ b ∈ m.bl.l, BIn F b
  head : ∀ x ∈ [m.kind, m.from_, m.to_, m.view, m.num], I64 x
  q1 : I64 m.qc.view ∧ I64 m.qc.block
  t1 : I64 m.tc.view
  k1 : I64 m.tc.high.view ∧ I64 m.tc.high.block
  e : m.env.Good
theorem RIn.up {F : List HProp} {A : HProp} {r : Row} (h : RIn F r) : RIn (A :: F) r := ⟨haveI := h.row; inferInstance, h.n, h.i, h.s⟩
theorem BIn.up {F : List HProp} {A : HProp} {r : BlkD} (h : BIn F r) : BIn (A :: F) r := ⟨h.r1.up, haveI := h.r2; inferInstance, h.n2, h.i1, h.i2, h.i3, h.i4, h.e, h.s⟩
instance MsgIn.up {F : List HProp} {A : HProp} {m : MsgD} [h : MsgIn F m] : MsgIn (A :: F) m := ⟨h.q.up, h.t.up, h.h.up, h.k.up, haveI := h.b; inferInstance, h.n, h.s, fun b hb => (h.bs b hb).up, h.head, h.q1, h.t1, h.k1, h.e⟩
theorem RIn.is {F : List HProp} {r : Row} (h : RIn F r) : Is r.l := ⟨h.i, by rw [h.n]; have := h.s; omega⟩
theorem BIn.good {F : List HProp} {b : BlkD} (h : BIn F b) : b.pure.Good := ⟨h.i1, h.i2, h.i3, h.i4, h.r1.i, h.e, by show b.by_.l.length ≤ _; rw [h.r1.n]; have := h.r1.s; omega, by show b.envs.l.length ≤ _; rw [h.n2]; have := h.s; omega⟩
theorem MsgIn.good {F : List HProp} {m : MsgD} (h : MsgIn F m) : m.p.Good :=
  ⟨⟨h.head, by show 5 ≤ 1000000; omega⟩, ⟨h.q1.1, h.q1.2, h.q.is⟩, h.t1, h.t.is, h.h.is, ⟨h.k1.1, h.k1.2, h.k.is⟩, h.e, fun b hb => by obtain ⟨x, hx, rfl⟩ := List.mem_map.1 hb; exact (h.bs x hx).good, by show (m.bl.l.map BlkD.pure).length ≤ _; rw [List.length_map, h.n]; have := h.s; omega⟩
noncomputable instance decP : DecidableEq PMsg := fun _ _ => Classical.propDecidable _
end Go.Proofs.Ytmigjpmadhebfaa
