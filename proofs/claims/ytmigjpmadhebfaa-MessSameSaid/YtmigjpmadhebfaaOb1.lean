/- The writer of bytes and what it holds. -/
import Derived.Test.YtmigjpmadhebfaaSl11
import Derived.Test.YtmigjpmadhebfaaBd
import Derived.Laws.Bits64
namespace Go.Proofs.Ytmigjpmadhebfaa
open Go Go.Proofs

/-- A writer holds bytes. -/
def writerI (p : Nat) (bs : List UInt8) : HProp := fun h => ∃ a n c, Den [pt p (.cells [.slice a n c].toArray 148), rowP 5 1 a n c (bs.map byteV)] h
theorem Den_app {L R : List HProp} {m m1 m2 : Hp} (d : disj m1 m2) (e : m = join m1 m2) (h : Den L m1) (r : Den R m2) : Den (L ++ R) m := Den_append.2 ⟨m1, m2, d, e, h, r⟩
theorem open_writer {p : Nat} {bs : List UInt8} : Opens writerI p bs (fun x : (Option Addr) × (Nat) × (Nat) => (bs.length = x.2.1)) (fun x R => (pt p (.cells [.slice x.1 x.2.1 x.2.2].toArray 148)) :: (rowP 5 1 x.1 x.2.1 x.2.2 (bs.map byteV)) :: R) := by
  rintro R m ⟨m1, m2, d, e, ⟨a, n, c, h⟩, r⟩
  refine ⟨(a, n, c), ?_, Den_app d e h r⟩
  obtain ⟨_, _, _, _, _, h1, h2, _, _, hr, _⟩ := h
  simpa using (rowP_len hr).1
theorem SC.op_writer {W : World} {P : Program} {L R : List HProp} {n_ : Nat} {c_ : Code} {k_ : Kont} {l_ : Env} {p : Nat} {bs : List UInt8} [t_ : TakeAt L writerI p bs R] (h_ : ∀ (a : Option Addr) (n : Nat) (c : Nat), (bs.length = n) → SC W P n_ c_ k_ l_ ((pt p (.cells [.slice a n c].toArray 148)) :: (rowP 5 1 a n c (bs.map byteV)) :: R)) : SC W P n_ c_ k_ l_ L := SC.opn (open_writer) fun x hx => h_ x.1 x.2.1 x.2.2 hx
theorem SN.op_writer {W : World} {P : Program} {L R : List HProp} {n_ : Nat} {k_ : Kont} {l_ : Env} {p : Nat} {bs : List UInt8} [t_ : TakeAt L writerI p bs R] (h_ : ∀ (a : Option Addr) (n : Nat) (c : Nat), (bs.length = n) → SN W P n_ k_ l_ ((pt p (.cells [.slice a n c].toArray 148)) :: (rowP 5 1 a n c (bs.map byteV)) :: R)) : SN W P n_ k_ l_ L := SN.opn (open_writer) fun x hx => h_ x.1 x.2.1 x.2.2 hx
theorem SR.op_writer {W : World} {P : Program} {L R : List HProp} {n_ : Nat} {ops_ : Array Oper} {os_ : List Oper} {k_ : Kont} {l_ : Env} {p : Nat} {bs : List UInt8} [t_ : TakeAt L writerI p bs R] (h_ : ∀ (a : Option Addr) (n : Nat) (c : Nat), (bs.length = n) → SR W P n_ ops_ os_ k_ l_ ((pt p (.cells [.slice a n c].toArray 148)) :: (rowP 5 1 a n c (bs.map byteV)) :: R)) : SR W P n_ ops_ os_ k_ l_ L := SR.opn (open_writer) fun x hx => h_ x.1 x.2.1 x.2.2 hx
theorem SQ.op_writer {W : World} {P : Program} {L R : List HProp} {n_ : Nat} {ops_ : Array Oper} {r_ : Ord} {Ts_ : Facts} {k_ : Kont} {l_ : Env} {p : Nat} {bs : List UInt8} [t_ : TakeAt L writerI p bs R] (h_ : ∀ (a : Option Addr) (n : Nat) (c : Nat), (bs.length = n) → SQ W P n_ ops_ r_ Ts_ k_ l_ ((pt p (.cells [.slice a n c].toArray 148)) :: (rowP 5 1 a n c (bs.map byteV)) :: R)) : SQ W P n_ ops_ r_ Ts_ k_ l_ L := SQ.opn (open_writer) fun x hx => h_ x.1 x.2.1 x.2.2 hx
theorem CallsK.op_writer {W : World} {P : Program} {L R : List HProp} {f_ : FuncId} {args_ : Array Value} {K_ : Value → List HProp → Prop} {p : Nat} {bs : List UInt8} [t_ : TakeAt L writerI p bs R] (h_ : ∀ (a : Option Addr) (n : Nat) (c : Nat), (bs.length = n) → CallsK W P f_ args_ ((pt p (.cells [.slice a n c].toArray 148)) :: (rowP 5 1 a n c (bs.map byteV)) :: R) K_) : CallsK W P f_ args_ L K_ := CallsK.opn (open_writer) fun x hx => h_ x.1 x.2.1 x.2.2 hx
theorem close_writer {L R R1 : List HProp} {p n c : Nat} {a : Option Addr} {cs : List Value} {bs : List UInt8} [t : TakePt L p (.cells [.slice a n c].toArray 148) R1] [u : TakeRow R1 a 5 1 n c cs R] (h : cs = bs.map byteV) : Lands L (At writerI p bs :: R) := fun m H => by
  subst h
  have H1 := Den_perm t.perm m H
  obtain ⟨m1, m2, d, e, hp, hr⟩ := H1
  have H2 : Den ([pt p (.cells [.slice a n c].toArray 148), rowP 5 1 a n c (bs.map byteV)] ++ R) m := ⟨m1, m2, d, e, hp, Den_perm u.perm m2 hr⟩
  obtain ⟨k1, k2, d2, e2, x, y⟩ := Den_append.1 H2
  exact ⟨k1, k2, d2, e2, ⟨a, n, c, x⟩, y⟩
/-- Eight bytes of a number, the highest first. -/
def be (x : Nat) : List UInt8 := (List.range 8).map fun i => UInt8.ofNat (x / 2 ^ (56 - 8 * i))
theorem be_length (x : Nat) : (be x).length = 8 := rfl
/-- .. of any integer. -/
def bei (x : Int) : List UInt8 := be (x % 18446744073709551616).toNat
theorem bei_length (x : Int) : (bei x).length = 8 := rfl
theorem bei_in {x : Int} (h0 : 0 ≤ x) (h1 : x < 18446744073709551616) : bei x = be x.toNat := by unfold bei; rw [Int.emod_eq_of_lt h0 h1]
theorem bei_wrap (x : Int) : bei (IntKind.u64.wrap x) = bei x := by unfold bei; rw [IntKind.wrap_u64, Int.emod_emod]
theorem be_take (x i : Nat) (hi : i < 8) : (be x).take (i + 1) = (be x).take i ++ [UInt8.ofNat (x / 2 ^ (56 - 8 * i))] := by
  rw [List.take_add_one]
  congr 1
  simp [be, hi]
theorem be_all (x : Nat) : (be x).take 8 = be x := rfl
theorem num_byte (x : Int) (h0 : 0 ≤ x) (i : Nat) (hi : i < 8) : Value.int .u8 (IntKind.u8.wrap (x.fdiv (2 ^ min (56 - 8 * (i : Int)).toNat IntKind.u64.bits))) = byteV (UInt8.ofNat (x.toNat / 2 ^ (56 - 8 * i))) := by
  have e1 : min (56 - 8 * (i : Int)).toNat IntKind.u64.bits = 56 - 8 * i := by
    have : IntKind.u64.bits = 64 := rfl
    rw [this]; omega
  rw [e1]
  obtain ⟨y, rfl⟩ := Int.eq_ofNat_of_zero_le h0
  rw [Int.fdiv_eq_ediv_of_nonneg _ (by exact Int.le_of_lt (Int.pow_pos (by decide)))]
  unfold byteV
  rw [IntKind.wrap_u8]
  congr 1
/-- A reader and what is left to read. -/
def readerI (p : Nat) (s : List UInt8 × Bool) : HProp := fun h => ∃ a n c, Den [pt p (.cells [.slice a n c, .bool s.2].toArray 151), rowP 5 1 a n c (s.1.map byteV)] h

theorem open_reader {p : Nat} {s : List UInt8 × Bool} : Opens readerI p s (fun x : (Option Addr) × (Nat) × (Nat) => (s.1.length = x.2.1) ∧ (x.2.1 ≤ x.2.2)) (fun x R => (pt p (.cells [.slice x.1 x.2.1 x.2.2, .bool s.2].toArray 151)) :: (rowP 5 1 x.1 x.2.1 x.2.2 (s.1.map byteV)) :: R) := by
  rintro R m ⟨m1, m2, d, e, ⟨a, n, c, h⟩, r⟩
  refine ⟨(a, n, c), ?_, Den_app d e h r⟩
  obtain ⟨_, _, _, _, _, h1, h2, _, _, hr, _⟩ := h
  exact ⟨by simpa using (rowP_len hr).1, (rowP_len hr).2⟩
theorem SC.op_reader {W : World} {P : Program} {L R : List HProp} {n_ : Nat} {c_ : Code} {k_ : Kont} {l_ : Env} {p : Nat} {s : List UInt8 × Bool} [t_ : TakeAt L readerI p s R] (h_ : ∀ (a : Option Addr) (n : Nat) (c : Nat), (s.1.length = n) → (n ≤ c) → SC W P n_ c_ k_ l_ ((pt p (.cells [.slice a n c, .bool s.2].toArray 151)) :: (rowP 5 1 a n c (s.1.map byteV)) :: R)) : SC W P n_ c_ k_ l_ L := SC.opn (open_reader) fun x hx => h_ x.1 x.2.1 x.2.2 hx.1 hx.2
theorem SN.op_reader {W : World} {P : Program} {L R : List HProp} {n_ : Nat} {k_ : Kont} {l_ : Env} {p : Nat} {s : List UInt8 × Bool} [t_ : TakeAt L readerI p s R] (h_ : ∀ (a : Option Addr) (n : Nat) (c : Nat), (s.1.length = n) → (n ≤ c) → SN W P n_ k_ l_ ((pt p (.cells [.slice a n c, .bool s.2].toArray 151)) :: (rowP 5 1 a n c (s.1.map byteV)) :: R)) : SN W P n_ k_ l_ L := SN.opn (open_reader) fun x hx => h_ x.1 x.2.1 x.2.2 hx.1 hx.2
theorem SR.op_reader {W : World} {P : Program} {L R : List HProp} {n_ : Nat} {ops_ : Array Oper} {os_ : List Oper} {k_ : Kont} {l_ : Env} {p : Nat} {s : List UInt8 × Bool} [t_ : TakeAt L readerI p s R] (h_ : ∀ (a : Option Addr) (n : Nat) (c : Nat), (s.1.length = n) → (n ≤ c) → SR W P n_ ops_ os_ k_ l_ ((pt p (.cells [.slice a n c, .bool s.2].toArray 151)) :: (rowP 5 1 a n c (s.1.map byteV)) :: R)) : SR W P n_ ops_ os_ k_ l_ L := SR.opn (open_reader) fun x hx => h_ x.1 x.2.1 x.2.2 hx.1 hx.2
theorem SQ.op_reader {W : World} {P : Program} {L R : List HProp} {n_ : Nat} {ops_ : Array Oper} {r_ : Ord} {Ts_ : Facts} {k_ : Kont} {l_ : Env} {p : Nat} {s : List UInt8 × Bool} [t_ : TakeAt L readerI p s R] (h_ : ∀ (a : Option Addr) (n : Nat) (c : Nat), (s.1.length = n) → (n ≤ c) → SQ W P n_ ops_ r_ Ts_ k_ l_ ((pt p (.cells [.slice a n c, .bool s.2].toArray 151)) :: (rowP 5 1 a n c (s.1.map byteV)) :: R)) : SQ W P n_ ops_ r_ Ts_ k_ l_ L := SQ.opn (open_reader) fun x hx => h_ x.1 x.2.1 x.2.2 hx.1 hx.2
theorem CallsK.op_reader {W : World} {P : Program} {L R : List HProp} {f_ : FuncId} {args_ : Array Value} {K_ : Value → List HProp → Prop} {p : Nat} {s : List UInt8 × Bool} [t_ : TakeAt L readerI p s R] (h_ : ∀ (a : Option Addr) (n : Nat) (c : Nat), (s.1.length = n) → (n ≤ c) → CallsK W P f_ args_ ((pt p (.cells [.slice a n c, .bool s.2].toArray 151)) :: (rowP 5 1 a n c (s.1.map byteV)) :: R) K_) : CallsK W P f_ args_ L K_ := CallsK.opn (open_reader) fun x hx => h_ x.1 x.2.1 x.2.2 hx.1 hx.2
theorem close_reader {L R R1 : List HProp} {p n c : Nat} {a : Option Addr} {cs : List Value} {b : Bool} {bs : List UInt8} [t : TakePt L p (.cells [.slice a n c, .bool b].toArray 151) R1] [u : TakeRow R1 a 5 1 n c cs R] (h : cs = bs.map byteV) : Lands L (At readerI p (bs, b) :: R) := fun m H => by
  subst h
  have H1 := Den_perm t.perm m H
  obtain ⟨m1, m2, d, e, hp, hr⟩ := H1
  have H2 : Den ([pt p (.cells [.slice a n c, .bool b].toArray 151), rowP 5 1 a n c (bs.map byteV)] ++ R) m := ⟨m1, m2, d, e, hp, Den_perm u.perm m2 hr⟩
  obtain ⟨k1, k2, d2, e2, x, y⟩ := Den_append.1 H2
  exact ⟨k1, k2, d2, e2, ⟨a, n, c, x⟩, y⟩
/-- The number of a row of bytes. -/
def unbe (bs : List UInt8) : Nat := bs.foldl (fun r c => r * 256 + c.toNat) 0
theorem unbe_snoc (bs : List UInt8) (c : UInt8) : unbe (bs ++ [c]) = unbe bs * 256 + c.toNat := by simp [unbe]
theorem unbe_lt : ∀ (k : Nat) (bs : List UInt8), bs.length = k → unbe bs < 256 ^ k
  | 0, bs, h => by have : bs = [] := by simpa using h
                   subst this; decide
  | k + 1, bs, h => by
    have hne : bs ≠ [] := by intro e; subst e; simp at h
    rw [← List.dropLast_concat_getLast hne, unbe_snoc]
    have := unbe_lt k bs.dropLast (by simp [h])
    have h2 := (bs.getLast hne).toNat_lt
    rw [Nat.pow_succ]; omega
theorem or_byte (x : Nat) (c : UInt8) (h : x < 72057594037927936) : bor .u64 (IntKind.u64.wrap ((x : Int) * 2 ^ (min (8 : Int).toNat IntKind.u64.bits))) (c.toNat : Int) = ((x * 256 + c.toNat : Nat) : Int) := by
  have e1 : (min (8 : Int).toNat IntKind.u64.bits) = 8 := rfl
  have hc := c.toNat_lt
  rw [e1, IntKind.wrap_u64]
  have e2 : ((x : Int) * 2 ^ 8) % 18446744073709551616 = ((x * 256 : Nat) : Int) := by omega
  rw [e2]
  unfold bor
  have e3 : ∀ y : Nat, BitVec.ofInt IntKind.u64.bits (y : Int) = BitVec.ofNat 64 y := fun y => by apply BitVec.eq_of_toNat_eq; simp [IntKind.bits]
  rw [e3, e3]
  have e4 : (BitVec.ofNat 64 (x * 256) ||| BitVec.ofNat 64 c.toNat).toNat = x * 256 + c.toNat := by
    simp only [BitVec.toNat_or, BitVec.toNat_ofNat]
    rw [Nat.mod_eq_of_lt (show x * 256 < 2 ^ 64 by omega), Nat.mod_eq_of_lt (show c.toNat < 2 ^ 64 by omega)]
    have := Nat.two_pow_add_eq_or_of_lt (show c.toNat < 2 ^ 8 from hc) x
    rw [Nat.mul_comm x 256]; exact this.symm
  have e5 : IntKind.u64.wrap ((BitVec.ofNat 64 (x * 256) ||| BitVec.ofNat 64 c.toNat).toNat : Int) = ((x * 256 + c.toNat : Nat) : Int) := by
    rw [e4, IntWalk.u64_in _ ⟨by omega, by omega⟩]
  exact e5
end Go.Proofs.Ytmigjpmadhebfaa
