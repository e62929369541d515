/- The statements on the writer: its own bytes. -/
import Derived.Test.YtnifaajdiolbjaaWi2
namespace Go.Proofs.Ytnifaajdiolbjaa
open Go Go.Proofs
set_option maxRecDepth 100000
theorem unbe_be (x : Nat) (h : x < 18446744073709551616) : unbe (be x) = x := by
  simp [be, unbe, List.range_succ, UInt8.toNat_ofNat]
  omega
theorem bei_nat (n : Nat) (h : n < 18446744073709551616) : bei (n : Int) = be n := by
  rw [bei_in (by omega) (by omega)]; simp
theorem unbe_bei (x : Int) : unbe (bei x) = (x % 18446744073709551616).toNat := by
  unfold bei
  exact unbe_be _ (by have := Int.emod_lt_of_pos x (show (0 : Int) < 18446744073709551616 by decide); have := Int.emod_nonneg x (show (18446744073709551616 : Int) ≠ 0 by decide); omega)
theorem rdNum_bei (x : Int) (r : List UInt8) : rdNum (bei x ++ r, false) = ((x % 18446744073709551616).toNat, (r, false)) := by
  have h8 : (bei x).length = 8 := rfl
  have e1 : (bei x ++ r).take 8 = bei x := by rw [← h8]; exact List.take_left ..
  have e2 : (bei x ++ r).drop 8 = r := by rw [← h8]; exact List.drop_left ..
  unfold rdNum
  rw [if_neg (by simp [h8])]
  show (unbe ((bei x ++ r).take 8), ((bei x ++ r).drop 8, false)) = _
  rw [e1, e2, unbe_bei]
theorem rdText_put (bs r : List UInt8) (h : bs.length < 18446744073709551616) : rdText (bei (bs.length : Nat) ++ bs ++ r, false) = (bs, (r, false)) := by
  unfold rdText
  rw [List.append_assoc, rdNum_bei]
  have e : ((bs.length : Int) % 18446744073709551616).toNat = bs.length := by omega
  dsimp only
  rw [e, if_neg (by simp)]
  simp

