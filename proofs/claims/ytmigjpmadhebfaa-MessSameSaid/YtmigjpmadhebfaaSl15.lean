/- Structs stored and returned. -/
import Derived.Test.YtmigjpmadhebfaaSl14
namespace Go.Proofs.Ytmigjpmadhebfaa
open Go Go.Proofs
set_option maxRecDepth 100000
section
variable {W : World} {P : Program} {l : Env} {L R : List HProp} {ty : TypeId}
theorem setL_app : ∀ (hs ds rs vs : List Value), ds.length = vs.length → setL (hs ++ ds ++ rs) hs.length vs = hs ++ vs ++ rs
  | hs, [], rs, [], _ => by simp [setL]
  | hs, [], rs, _ :: _, h => by simp at h
  | hs, _ :: _, rs, [], h => by simp at h
  | hs, d :: ds, rs, v :: vs, h => by
    have ih := setL_app (hs ++ [v]) ds rs vs (by simpa using h)
    have e : (hs ++ (d :: ds) ++ rs).set hs.length v = (hs ++ [v]) ++ ds ++ rs := by simp
    show setL ((hs ++ (d :: ds) ++ rs).set hs.length v) (hs.length + 1) vs = _
    rw [e]
    simpa using ih
theorem setL_all {cs vs : List Value} (h : cs.length = vs.length) : setL cs 0 vs = vs := by simpa using setL_app [] cs [] vs h
/-- A struct put where one stood. -/
theorem OX_stA {x y : Operand} {t b m : Nat} {cs vs : List Value} {T : TypeId} (hz : ∀ w, (sizeOf t).run P w = .ok m w) (hx : ev l x = some (.pointer (some ⟨b, 0, none⟩))) (hy : ev l y = some (.agg vs.toArray)) [ho : Ones vs] [tp : TakePt L b (.cells cs.toArray T) R]
    (hm : vs.length = m) (hc : cs.length = m) : OX W P l L (.store t x y) ty (fun _ L' => L' = pt b (.cells vs.toArray T) :: R) :=
  (OX.lands (fun m => Den_perm tp.perm m) (OX_storeA hz hm hx hy (fun v hv => (ho.h v hv)) (by omega))).imp fun _ _ e => by rw [e, setL_all (by omega)]
variable {n : Nat} {k : Kont}
/-- A result that stands in a block of its own. -/
theorem SC_retC {t : Tmp} {T b m : Nat} {vs : List Value} (hr : k.root.1.results = #[.cell t T]) (hg : ∀ w, (isAgg T).run P w = .ok true w) (hs : ∀ w, (sizeOf T).run P w = .ok m w) (hv : look l t = some (.pointer (some ⟨b, 0, none⟩))) (hm : vs.length = m)
    (hR : Has W L (cellsR b 0 vs)) (hk : k.root.2 (.agg vs.toArray) L) : SC W P n .ret k l L :=
  SC_ret (fun tmps h w hw => by
    subst hm
    have := run_loadCells_list (P := P) w _ _ (hR w hw).cell
    simp [results, hr, h t _ hv, asAddr, loadVar, hg, hs, this]) hk
theorem SC_retCT {t u : Tmp} {T b m : Nat} {vs : List Value} {x : Value} (hr : k.root.1.results = #[.cell t T, .tmp u]) (hg : ∀ w, (isAgg T).run P w = .ok true w) (hs : ∀ w, (sizeOf T).run P w = .ok m w) (hv : look l t = some (.pointer (some ⟨b, 0, none⟩))) (hx : look l u = some x) (hm : vs.length = m)
    (hR : Has W L (cellsR b 0 vs)) (hk : k.root.2 (.tuple #[.agg vs.toArray, x]) L) : SC W P n .ret k l L :=
  SC_ret (fun tmps h w hw => by
    subst hm
    have := run_loadCells_list (P := P) w _ _ (hR w hw).cell
    simp [results, hr, h t _ hv, h u _ hx, asAddr, loadVar, hg, hs, this]) hk
end
end Go.Proofs.Ytmigjpmadhebfaa
