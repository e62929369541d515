/- Rows: slices by their base, whatever it is; bytes and strings. -/
import Derived.Test.YtmigjpmadhebfaaSl5
import Derived.Laws.Tables
import Derived.Laws.BytesArg
import Derived.Lib.ConvBytes
import Derived.Great.BuildSlice
namespace Go.Proofs.Ytmigjpmadhebfaa
open Go

/-! ### Bytes and strings -/
def byteV (c : UInt8) : Value := .int .u8 c.toNat
def intV (n : Int) : Value := .int .i64 n
def bstr (bs : List UInt8) : ByteArray := ⟨bs.toArray⟩
theorem bstr_inj {a b : List UInt8} : bstr a = bstr b ↔ a = b := by
  constructor
  · intro h; have := congrArg ByteArray.data h; simpa [bstr] using this
  · rintro rfl; rfl
theorem bstr_size (a : List UInt8) : (bstr a).size = a.length := rfl
theorem strOfNums_bytes (bs : List UInt8) : strOfNums (bs.map fun c => (c.toNat : Int)) = bstr bs := by
  unfold bstr
  cases h : strOfNums (bs.map fun c => (c.toNat : Int)) with | mk d =>
  have h1 := strOfNums_data (bs.map fun c => (c.toNat : Int))
  rw [h] at h1
  congr 1
  apply Array.ext'
  rw [h1]
  simp [List.map_map, Function.comp_def]

/-- The cells behind a slice's base. -/
def rowR (a : Option Addr) (cs : List Value) : Hp → Prop := fun h =>
  match a with
  | some ⟨b, off, none⟩ => cellsR b off cs h
  | _ => cs = []
theorem rowR.up {a : Option Addr} {cs : List Value} : Up (rowR a cs) := fun h k s H => by
  unfold rowR at *
  split
  · exact cellsR.up h k s H
  · rename_i x hx
    split at H
    · rename_i b off; exact absurd rfl (hx b off)
    · exact H
theorem rowR_nil {a : Option Addr} (h : Hp) : rowR a [] h := by
  unfold rowR; split
  · intro j v e; simp at e
  · rfl
/-- The address of cell j behind a base. -/
def elA : Option Addr → Nat → Addr
  | some p, j => ⟨p.block, p.off + j, none⟩
  | none, _ => default
theorem rowR.some {a : Option Addr} {cs : List Value} {h : Hp} (H : rowR a cs h) (hc : 0 < cs.length) : ∃ b off, a = .some ⟨b, off, none⟩ ∧ cellsR b off cs h := by
  unfold rowR at H
  split at H
  · exact ⟨_, _, rfl, H⟩
  · subst H; simp at hc
theorem rowR.el {a : Option Addr} {cs : List Value} {w : World} (H : rowR a cs (fun b => w.heap[b]?)) {j : Nat} {v : Value} (hv : cs[j]? = .some v) : w.cell? (elA a j) = .some v := by
  have hj : j < cs.length := (List.getElem?_eq_some_iff.1 hv).1
  obtain ⟨b, off, rfl, hc⟩ := H.some (by omega)
  exact (hc j v hv).cell
theorem lt_len {cs : List Value} {j : Nat} {v : Value} (hv : cs[j]? = some v) : j < cs.length := (List.getElem?_eq_some_iff.1 hv).1
theorem elA_add (a : Option Addr) (h : a.isSome = true) (j m : Nat) : (elA a j).add m = elA a (j + m) := by
  cases a with
  | none => cases h
  | some p => simp only [elA]; rw [Addr.add_eq]; simp [Nat.add_assoc]

section
variable {W : World} {P : Program} {l : Env} {ty : TypeId} {L R F : List HProp} {v : Value}
theorem RD_b2s {x : Operand} {src dst e : TypeId} {n c : Nat} {a : Option Addr} {bs : List UInt8} (hs : P.underlying src = some (.slice e)) (hd : P.underlying dst = some .string) (he : P.underlying e = some (.int .u8))
    (hx : ev l x = some (.slice a n c)) (hn : bs.length = n) : RD P l (.convert src dst x) ty (rowR a (bs.map byteV)) (.string (bstr bs)) := fun ρ hρ w hR _ _ _ _ => by
  have key : (convert src dst (.slice a n c)).run P w = .ok (.string (bstr bs)) w := by
    by_cases h0 : bs = []
    · subst h0; simp at hn; subst hn
      have hl : ∀ a, (loadCells a 0).run P w = .ok #[] w := fun _ => rfl
      have h1 : ByteArray.empty = bstr [] := rfl
      cases a with
      | none => rw [run_convert_bytes_nil w src e hs he 0 c dst hd, h1]
      | some p =>
        have := run_bytesToString (P := P) w p 0 c [] (hl p)
        rw [run_convert_bytes_string w src dst e _ 0 c hs he hd, this]; rfl
    · obtain ⟨b, off, rfl, hc⟩ := hR.some (by simpa [List.length_pos_iff] using h0)
      have := run_convert_bytes_arg (P := P) w src e hs he b off n c (bs.map fun c => (c.toNat : Int)) (by simpa using hn) (fun i hi => by
        have hi' : i < bs.length := by omega
        have := (hc i (byteV bs[i]) (by simp [hi'])).cell
        rw [this]; simp [byteV, List.getD, hi']) dst hd
      rw [this, strOfNums_bytes]
  simp [execOp, hρ x _ hx, key]
theorem RD_ixO {x y : Operand} {t e n c m : Nat} {k : IntKind} {i : Int} {a : Option Addr} {cs : List Value} (hs : ∀ w, (underlying t).run P w = .ok (.slice e) w) (hz : ∀ w, (sizeOf e).run P w = .ok (m + 1) w)
    (hx : ev l x = some (.slice a n c)) (hy : ev l y = some (.int k i)) (hc : cs.length = n * (m + 1)) (h0 : 0 ≤ i) (h1 : i < n) :
    RD P l (.indexAddr t x y) ty (rowR a cs) (.pointer (some (elA a (i.toNat * (m + 1))))) := fun ρ hρ w hR _ _ _ _ => by
  have hpos : 0 < cs.length := by rw [hc]; exact Nat.mul_pos (by omega) (by omega)
  obtain ⟨b, off, rfl, _⟩ := hR.some hpos
  simp [execOp, hρ x _ hx, hρ y _ hy, Instr.indexAt, asIntOf, hs, hz, h0, h1, Addr.add_eq, elA]
theorem RD_loadO {x : Operand} {t j : Nat} {a : Option Addr} {cs : List Value} (hg : ∀ w, (isAgg t).run P w = .ok false w) (hx : ev l x = some (.pointer (some (elA a j)))) (hv : cs[j]? = some v) : RD P l (.load t x) ty (rowR a cs) v := fun ρ hρ w hR _ _ _ _ => by
  simp [execOp, hρ x _ hx, Instr.loadAt, Instr.sureAddr, loadVar, hg, hR.el hv]
theorem RD_loadAO {x : Operand} {t j m : Nat} {a : Option Addr} {cs vs : List Value} (hg : ∀ w, (isAgg t).run P w = .ok true w) (hs : ∀ w, (sizeOf t).run P w = .ok m w) (hx : ev l x = some (.pointer (some (elA a j)))) (hm : vs.length = m) (hp : 0 < m)
    (hv : ∀ i v, vs[i]? = some v → cs[j + i]? = some v) : RD P l (.load t x) ty (rowR a cs) (.agg vs.toArray) := fun ρ hρ w hR _ _ _ _ => by
  subst hm
  have h0 : vs[0]? = some vs[0] := by simp [hp]
  obtain ⟨b, off, rfl, _⟩ := hR.some (by have := lt_len (hv 0 _ h0); omega)
  have : ∀ i v, vs[i]? = some v → w.cell? (Addr.add (elA (some ⟨b, off, none⟩) j) i) = some v := fun i v h => by
    rw [elA_add _ rfl]; exact hR.el (hv i v h)
  simp [execOp, hρ x _ hx, Instr.loadAt, Instr.sureAddr, loadVar, hg, hs, run_loadCells_list w _ _ this]
theorem RD_fieldAddrO {x : Operand} {s i : Nat} {fs : Array Field} {f : Field} {j m : Nat} {a : Option Addr} {cs : List Value} (o : Nat) (hs : ∀ w, (underlying s).run P w = .ok (.struct fs) w) (hf : fs[i]? = some f) (ho : Nat.beq f.offset o = true)
    (hz : ∀ w, (sizeOf f.type).run P w = .ok (m + 1) w) (hx : ev l x = some (.pointer (some (elA a j)))) (hj : 0 < cs.length) : RD P l (.fieldAddr s x i) ty (rowR a cs) (.pointer (some (elA a (j + o)))) := fun ρ hρ w hR _ _ _ _ => by
  obtain ⟨b, off, rfl, _⟩ := hR.some hj
  rw [← Nat.eq_of_beq_eq_true ho]
  simp [execOp, hρ x _ hx, Instr.fieldAt, hs, hf, Instr.sureAddr, fieldPlace, hz, elA_add]
/-- A field of what a pointer in a row leads to. -/
theorem RD_nilCheckO {x : Operand} {a : Addr} (hx : ev l x = some (.pointer (some a))) : RD P l (.nilCheck x) ty RU (.pointer (some a)) := RD_nilCheck hx

/-! ### Slicing -/
def sBase (a : Option Addr) (lo z m : Nat) : Option Addr := if m = lo then a else a.map (·.add (lo * z))
theorem rowR_slice {a : Option Addr} {cs : List Value} {h : Hp} (H : rowR a cs h) (d k : Nat) : rowR (a.map (·.add d)) ((cs.drop d).take k) h := by
  cases a with
  | none => have : cs = [] := H; subst this; simp; rfl
  | some p =>
    obtain ⟨b, off, sp⟩ := p
    cases sp with
    | none =>
      simp only [Option.map_some, Addr.add_eq]
      intro j v e
      rw [List.getElem?_take] at e
      split at e
      · rw [List.getElem?_drop] at e
        have := H (d + j) v e
        rwa [← Nat.add_assoc] at this
      · cases e
    | some s =>
      have : cs = [] := H
      subst this
      simp only [List.drop_nil, List.take_nil]
      exact rowR_nil h
theorem RD_slice {x : Operand} {t e z n c : Nat} {a : Option Addr} {lo hi mx : Option Operand} {kl kh km : IntKind} {il ih im : Int} (hs : ∀ w, (underlying t).run P w = .ok (.slice e) w) (hz : ∀ w, (sizeOf e).run P w = .ok z w)
    (hx : ev l x = some (.slice a n c))
    (hl : (lo = none ∧ il = 0) ∨ ∃ o, lo = some o ∧ ev l o = some (.int kl il)) (hh : (hi = none ∧ mx = none ∧ ih = n) ∨ ∃ o, hi = some o ∧ ev l o = some (.int kh ih)) (hm : (mx = none ∧ im = c) ∨ ∃ o, mx = some o ∧ ev l o = some (.int km im))
    (h0 : 0 ≤ il) (h1 : il ≤ ih) (h2 : ih ≤ im) (h3 : im ≤ c) :
    RD P l (.slice t x lo hi mx) ty RU (.slice (sBase a il.toNat z im.toNat) (ih.toNat - il.toNat) (im.toNat - il.toNat)) := fun ρ hρ w _ _ _ _ _ => by
  have hh0 : 0 ≤ ih := by omega
  have hm0 : 0 ≤ im := by omega
  have e1 : ∀ (y : Nat) (k : IntKind) (i : Int) (code : BoundsCode), 0 ≤ i → i ≤ y → (Instr.sliceBound (.int k i) y code).run P w = .ok i.toNat w := fun y k i code a b => by
    simp [Instr.sliceBound, asIntOf, a, b]
  have ic : (im.toNat : Int) = im := Int.toNat_of_nonneg hm0
  have ih' : (ih.toNat : Int) = ih := Int.toNat_of_nonneg hh0
  have hmx : (match mx.map ρ with | some v => Instr.sliceBound v c .slice3Acap | none => pure c : Sem Nat).run P w = .ok im.toNat w := by
    rcases hm with ⟨rfl, rfl⟩ | ⟨o, rfl, ho⟩
    · simp
    · simp [hρ o _ ho, e1 c km im _ hm0 h3]
  have key : (Instr.sliceBounds true n c (lo.map ρ) (hi.map ρ) (mx.map ρ)).run P w = .ok (il.toNat, ih.toNat, im.toNat) w := by
    rcases hm with ⟨rfl, rfl⟩ | ⟨o, rfl, ho⟩ <;> rcases hh with ⟨rfl, hmx, rfl⟩ | ⟨p, rfl, hp⟩ <;> rcases hl with ⟨rfl, rfl⟩ | ⟨q, rfl, hq⟩
    all_goals first
      | (cases hmx; done)
      | (simp [Instr.sliceBounds]; done)
      | (simp [Instr.sliceBounds, hρ _ _ hq, e1 n kl il _ h0 h1]; done)
      | (simp [Instr.sliceBounds, hρ _ _ hp, e1 c kh ih _ hh0 (by omega)]; done)
      | (simp [Instr.sliceBounds, hρ _ _ hp, hρ _ _ hq, e1 c kh ih _ hh0 (by omega), e1 ih.toNat kl il _ h0 (by omega)]; done)
      | (simp [Instr.sliceBounds, hρ _ _ ho, hρ _ _ hp, e1 c km im _ hm0 h3, e1 im.toNat kh ih _ hh0 (by omega)]; done)
      | (simp [Instr.sliceBounds, hρ _ _ ho, hρ _ _ hp, hρ _ _ hq, e1 c km im _ hm0 h3, e1 im.toNat kh ih _ hh0 (by omega), e1 ih.toNat kl il _ h0 (by omega)]; done)
  have key2 : (Instr.sliceAt t (.slice a n c) (lo.map ρ) (hi.map ρ) (mx.map ρ)).run P w = .ok (.slice (sBase a il.toNat z im.toNat) (ih.toNat - il.toNat) (im.toNat - il.toNat)) w := by
    simp [Instr.sliceAt, hs, Instr.slice, key, hz, sBase]
  simp [execOp, hρ x _ hx, key2]
end
end Go.Proofs.Ytmigjpmadhebfaa
