/- Rows of blocks, put in a tree: the walk. -/
import Derived.Test.YtmigjpmadhebfaaTb
namespace Go.Proofs.Ytmigjpmadhebfaa
open Go Go.Proofs
set_option maxRecDepth 100000
theorem SC_ret3 {W : World} {P : Program} {n : Nat} {k : Kont} {l : Env} {L : List HProp} {t u z : Tmp} {v x y : Value} (hr : k.root.1.results = #[.tmp t, .tmp u, .tmp z]) (hv : look l t = some v) (hx : look l u = some x) (hy : look l z = some y) (hk : k.root.2 (.tuple #[v, x, y]) L) : SC W P n .ret k l L :=
  SC_ret (fun tmps h w _ => by simp [results, hr, h t v hv, h u x hx, h z y hy]) hk
structure BX where
  i : Nat
  s : TS
  l : List (List UInt8)
  a : Option Addr
  c : Nat
  a2 : Option Addr
  c2 : Nat
  ds : List Int
  bs : List Blk

