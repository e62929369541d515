/- What is fixed: what the document fixes; envelopes with those of more. -/
import Derived.Test.YtnifaajdiolbjaaCl1
import Derived.Test.YtnifaajdiolbjaaMk
namespace Go.Proofs.Ytnifaajdiolbjaa
open Go Go.Proofs
set_option maxRecDepth 100000
theorem CallsK.at3 {κ σ κ' σ' κ'' σ'' : Type} {W : World} {P : Program} {f : FuncId} {args : Array Value} {L R1 R2 R : List HProp} {KK : Value → List HProp → Prop} {I : κ → σ → HProp} {key : κ} {s : σ} {J : κ' → σ' → HProp} {key' : κ'} {s' : σ'} {M : κ'' → σ'' → HProp} {key'' : κ''} {s'' : σ''} [t : TakeAt L I key s R1] [u : TakeAt R1 J key' s' R2] [v : TakeAt R2 M key'' s'' R] (g : CallsK W P f args (At I key s :: At J key' s' :: At M key'' s'' :: R) KK) : CallsK W P f args L KK :=
  g.pre fun m H => Den_tail (fun m2 h2 => Den_tail (fun m3 h3 => Den_perm v.perm m3 h3) (Den_perm u.perm m2 h2)) (Den_perm t.perm m H)
theorem clog_Commit_yes' {W : World} {F : List HProp} [Abs F] (p t : Nat) (s : LS) (ht : s.t = t) (st : TS) (k : WK) (z : WS) (hw : s.w = k.p) (hst : st.Ok) (d : Int) (hd : ∃ b, mget st.T d = some b) (hp : ∃ b, mget st.T s.tip = some b) (hvd : (viewOf (mget st.T d)).toNat ≤ 1000) (hvp : (viewOf (mget st.T s.tip)).toNat ≤ 1000) (hA : ∀ x b, mget st.T x = some b → ∀ e ∈ b.envs, envB e ∈ z.l) (hl : s.l.length ≤ 1000000) (hz : z.l.length ≤ 900000000) (r : Bool) (s' : LS) (hr : s.commit z.l st d = (r, s')) :
    CallsK W Try.prog 40 #[.pointer (some ⟨p, 0, none⟩), .int .i64 d] (At logI p s :: At treeI t st :: At worldI k z :: F) (fun v L => v = .bool r ∧ Lands L (At logI p s' :: At treeI t st :: At worldI k z :: F)) := by
  subst ht
  have h := clog_Commit_yes (W := W) (F := F) p s st k z hw hst d hd hp hvd hvp hA hl hz
  rw [hr] at h; exact h
theorem clog_Commit_no' {W : World} {F : List HProp} [Abs F] (p t : Nat) (s : LS) (ht : s.t = t) (st : TS) (k : WK) (z : WS) (hw : s.w = k.p) (hst : st.Ok) (d : Int) (hd : mget st.T d = none) :
    CallsK W Try.prog 40 #[.pointer (some ⟨p, 0, none⟩), .int .i64 d] (At logI p s :: At treeI t st :: At worldI k z :: F) (fun v L => v = .bool false ∧ Lands L (At logI p s :: At treeI t st :: At worldI k z :: F)) := by
  subst ht; exact clog_Commit_no p s st k z hw hst d hd
def growE (l more : List EnvD) : List EnvD := more.foldl (fun out e => if e ∈ out then out else out ++ [e]) l
theorem growE_snoc (l more : List EnvD) (e : EnvD) : growE l (more ++ [e]) = if e ∈ growE l more then growE l more else growE l more ++ [e] := by unfold growE; rw [List.foldl_append]; rfl
theorem growE_len (l : List EnvD) : ∀ more : List EnvD, (growE l more).length ≤ l.length + more.length := fun more => by
  induction more generalizing l with
  | nil => simp [growE]
  | cons e more ih =>
    have := ih (if e ∈ l then l else l ++ [e])
    have h2 : (if e ∈ l then l else l ++ [e]).length ≤ l.length + 1 := by split <;> simp
    show (growE (if e ∈ l then l else l ++ [e]) more).length ≤ _
    rw [List.length_cons]; omega

theorem ref_grow {W : World} {F : List HProp} [Abs F] (a : Option Addr) (n c : Nat) (xs : List EnvD) {cs : List Value} [HasRow F a cs] (hxs : cs = xs.flatMap EnvD.cells) (kxs : xs.length = n) (b : Option Addr) (m d : Nat) (ys : List EnvD) {ds : List Value} [HasRow F b ds] (hys : ds = ys.flatMap EnvD.cells) (kys : ys.length = m) (hb : n ≤ 100000) (hbm : m ≤ 100000) :
    CallsK W Try.prog 44 #[.slice a n c, .slice b m d] (F) (fun v L => ∃ oa oc, v = .slice oa (growE xs ys).length oc ∧ Lands L (rowP 39 4 oa (growE xs ys).length oc ((growE xs ys).flatMap EnvD.cells) :: F)) := by
  refine CallsK_enter (n := 46) Try.func44 rfl rfl rfl ?_
  subst hxs
  subst hys
  refine SC_seq ?_
  refine SC_region ?_
  refine SR_pu (RD_assign rfl) rfl ?_
  refine SR_nil ?_
  refine SN.le (l := [(0, _), (1, _)]) ?_ (.cons rfl (.cons rfl (.nil)))
  refine SN_seq ?_
  refine SC_seq ?_
  refine SC_region ?_
  refine SR_ox (OX_buildSlice0 Try.runUnderlying31 Try.sizeOf39) rfl ?_
  rintro _ _ ⟨b9, rfl, rfl⟩
  refine SR.lands (lit_row (E := 39) (z := 4) (b := b9) (cs := []) 0 rfl) ?_
  refine SR_pu (RD_move rfl) rfl ?_
  refine SR_ox (OX_app 4 Try.underlying31 Try.underlying31 Try.type39 rfl rfl rfl rfl rfl (by rw [env_len, kxs]) 32 rfl (by omega) (by omega)) rfl ?_
  rintro _ _ ⟨a11, c11, rfl, rfl⟩
  refine SR_pu (RD_assign rfl) rfl ?_
  refine SR_nil ?_
  refine SN.le (l := [(1, _), (5, _)]) ?_ (.cons rfl (.cons rfl (.nil)))
  rw [Nat.zero_add, List.nil_append]
  refine SN_seq ?_
  refine SC_seq ?_
  refine SC_seq ?_
  refine SC_region ?_
  refine SR_pu (RD_assign rfl) rfl ?_
  refine SR_nil ?_
  refine SN.le (l := [(1, _), (5, _), (6, _)]) ?_ (.cons rfl (.cons rfl (.cons rfl (.nil))))
  refine SN_seq ?_
  refine SC_block ?_
  refine SC_ind (X := Nat × Option Addr × Nat) (fun x => x.1 ≤ m) (fun x => m - x.1) (fun x => [(1, .slice b m d), (5, .slice x.2.1 (growE xs (ys.take x.1)).length x.2.2), (6, .int .i64 (x.1 : Nat))]) (fun x => rowP 39 4 x.2.1 (growE xs (ys.take x.1)).length x.2.2 ((growE xs (ys.take x.1)).flatMap EnvD.cells) :: F) ((0, a11, c11)) (by simp) (.cons rfl (.cons' rfl (by rw [← kxs]; rfl) (.cons rfl (.nil)))) ((by rw [← kxs]; exact (show Lands _ (rowP 39 4 a11 xs.length c11 (xs.flatMap EnvD.cells) :: F) from .fin))) ?_
  intro ⟨i, oa, oc⟩ hi ih
  dsimp only at hi ih ⊢
  refine SC_seq ?_
  refine SC_seq ?_
  refine SC_region ?_
  refine SR_pu (RD_move rfl) rfl ?_
  refine SR_pu (RD_move rfl) rfl ?_
  refine SR_pu (RD_len Try.runUnderlying31 rfl) rfl ?_
  refine SR_pu (RD_lss rfl rfl) rfl ?_
  refine SR_nil ?_
  refine SN.le (l := [(1, _), (5, _), (6, _), (15, _)]) ?_ (.cons rfl (.cons rfl (.cons rfl (.cons rfl (.nil)))))
  refine SN_seq ?_
  refine SC_cond rfl (fun hc15 => ?_) (fun hc15 => ?_)
  · have hin : i < m := by simp at hc15; omega
    obtain ⟨e, he⟩ : ∃ e, ys[i]? = some e := ⟨_, List.getElem?_eq_getElem (by omega)⟩
    have htk : ys.take (i + 1) = ys.take i ++ [e] := by rw [List.take_add_one, he]; rfl
    have hgs := growE_snoc xs (ys.take i) e
    rw [← htk] at hgs
    have hgl := growE_len xs (ys.take i)
    have htl : (ys.take i).length ≤ i := by simp; omega
    obtain ⟨G, hG⟩ : ∃ G, growE xs (ys.take i) = G := ⟨_, rfl⟩
    rw [hG] at hgs hgl ⊢
    refine SC_skip ?_
    refine SN_seq ?_
    refine SC_seq ?_
    refine SC_block ?_
    refine SC_seq ?_
    refine SC_region ?_
    refine SR_pu (RD_assign rfl) rfl ?_
    refine SR_nil ?_
    refine SN.le (l := [(1, _), (5, _), (6, _), (7, _)]) ?_ (.cons rfl (.cons rfl (.cons rfl (.cons rfl (.nil)))))
    refine SN_seq ?_
    refine SC_seq ?_
    refine SC_seq ?_
    refine SC_region ?_
    refine SR_pu (RD_assign rfl) rfl ?_
    refine SR_nil ?_
    refine SN.le (l := [(1, _), (5, _), (6, _), (7, _), (8, _)]) ?_ (.cons rfl (.cons rfl (.cons rfl (.cons rfl (.cons rfl (.nil))))))
    refine SN_seq ?_
    refine SC_block ?_
    refine SC_ind (X := Nat) (fun q => q ≤ G.length) (fun q => G.length - q) (fun q => [(1, .slice b m d), (5, .slice oa G.length oc), (6, .int .i64 (i : Nat)), (7, .bool (decide (e ∈ G.take q))), (8, .int .i64 (q : Nat))]) (fun q => rowP 39 4 oa G.length oc (G.flatMap EnvD.cells) :: F) (0) (by omega) (.cons rfl (.cons rfl (.cons rfl (.cons' rfl (by simp) (.cons rfl (.nil)))))) (.fin) ?_
    intro q hi ih1
    have hq := hi
    refine SC_seq ?_
    refine SC_seq ?_
    refine SC_region ?_
    refine SR_pu (RD_move rfl) rfl ?_
    refine SR_pu (RD_move rfl) rfl ?_
    refine SR_pu (RD_len Try.runUnderlying31 rfl) rfl ?_
    refine SR_pu (RD_lss rfl rfl) rfl ?_
    refine SR_nil ?_
    refine SN.le (l := [(1, _), (5, _), (6, _), (7, _), (8, _), (21, _)]) ?_ (.cons rfl (.cons rfl (.cons rfl (.cons rfl (.cons rfl (.cons rfl (.nil)))))))
    refine SN_seq ?_
    refine SC_cond rfl (fun hc21 => ?_) (fun hc21 => ?_)
    · have hqn : q < G.length := by simp at hc21; omega
      obtain ⟨x, hx⟩ : ∃ x, G[q]? = some x := ⟨_, List.getElem?_eq_getElem hqn⟩
      have htq : G.take (q + 1) = G.take q ++ [x] := by rw [List.take_add_one, hx]; rfl
      refine SC_skip ?_
      refine SN_seq ?_
      refine SC_seq ?_
      refine SC_block ?_
      refine SC_drawn (.cons 0 true (.cons 1 true (.cons 2 true (.cons 3 true (.cons 4 true (.cons 5 true (.cons 6 true (.cons 7 true (.cons 8 true (.cons 9 true (.cons 10 true (.cons 11 true (.cons 12 true (.nil)))))))))))))) (by kernel_rfl) (by kernel_rfl) ?_
      refine SQ_pu rfl (RD_move rfl) rfl ?_
      refine SQ_pu rfl (RD_move rfl) rfl ?_
      refine SQ_guard (i := 2) rfl rfl rfl (fun hg9_1 => ?_) (fun hg9_1 => ?_)
      · refine SQ_pyes rfl rfl rfl (hg9_1) (RD_move rfl) rfl ?_
        refine SQ_pyes rfl rfl rfl (hg9_1) (RD_move rfl) rfl ?_
        refine SQ_yes rfl rfl rfl (hg9_1) (RD_ixO (i := (q : Nat)) (cs := G.flatMap EnvD.cells) Try.runUnderlying31 Try.sizeOf39 rfl rfl (env_len _) (by omega) (by omega)) Has.ro rfl ?_
        refine SQ_yes rfl rfl rfl (hg9_1) (RD_loadAO (vs := EnvD.cells x) (cs := G.flatMap EnvD.cells) Try.isAgg39 Try.sizeOf39 rfl rfl (by decide) (fun o v h => by have ho : o < 4 := (List.getElem?_eq_some_iff.1 h).1; rw [show ((q : Nat) : Int).toNat * (3 + 1) + o = q * 4 + o by omega, env_get hx o ho]; exact h)) Has.ro rfl ?_
        refine SQ_pyes rfl rfl rfl (hg9_1) (RD_move rfl) rfl ?_
        refine SQ_pyes rfl rfl rfl (hg9_1) (RD_move rfl) rfl ?_
        refine SQ_yes rfl rfl rfl (hg9_1) (RD_ixO (i := (i : Nat)) (cs := ys.flatMap EnvD.cells) Try.runUnderlying31 Try.sizeOf39 rfl rfl (by rw [env_len, kys]) (by omega) (by omega)) Has.ro rfl ?_
        refine SQ_yes rfl rfl rfl (hg9_1) (RD_loadAO (vs := EnvD.cells e) (cs := ys.flatMap EnvD.cells) Try.isAgg39 Try.sizeOf39 rfl rfl (by decide) (fun o v h => by have ho : o < 4 := (List.getElem?_eq_some_iff.1 h).1; rw [show ((i : Nat) : Int).toNat * (3 + 1) + o = i * 4 + o by omega, env_get he o ho]; exact h)) Has.ro rfl ?_
        refine SQ_pyes rfl rfl rfl (hg9_1) (RD_eqlEnv x e rfl rfl rfl) rfl ?_
        refine SQ_pu rfl (RD_pick_f rfl (hg9_1) rfl) rfl ?_
        refine SQ_pu rfl (RD_assign rfl) rfl ?_
        refine SQ_nil ?_
        refine SN.le (l := [(1, _), (5, _), (6, _), (7, _), (8, _)]) ?_ (.cons rfl (.cons rfl (.cons rfl (.cons rfl (.cons rfl (.nil))))))
        refine SN_block ?_
        refine SN_seq ?_
        refine SC_region ?_
        refine SR_pu (RD_move rfl) rfl ?_
        refine SR_pu (RD_addi rfl rfl (by omega) (by omega)) rfl ?_
        refine SR_pu (RD_assign rfl) rfl ?_
        refine SR_nil ?_
        refine SN.le (l := [(1, _), (5, _), (6, _), (7, _), (8, _)]) ?_ (.cons rfl (.cons rfl (.cons rfl (.cons rfl (.cons rfl (.nil))))))
        refine SC_again (ih1 (q + 1) (by omega) (by omega)) (.fin) (.cons rfl (.cons rfl (.cons rfl (.cons' rfl (congrArg Value.bool (by rw [htq, show decide (e ∈ G.take q ++ [x]) = (decide (e ∈ G.take q) || decide (x = e)) by simp [eq_comm]]; rw [show decide (e ∈ G.take q) = false from hg9_1]; rfl)) (.cons' rfl (ie (by omega)) (.nil))))))
      · refine SQ_no rfl rfl rfl (hg9_1) (lts rfl) ?_
        refine SQ_no rfl rfl rfl (hg9_1) (lts rfl) ?_
        refine SQ_no rfl rfl rfl (hg9_1) (lts rfl) ?_
        refine SQ_no rfl rfl rfl (hg9_1) (lts rfl) ?_
        refine SQ_no rfl rfl rfl (hg9_1) (lts rfl) ?_
        refine SQ_no rfl rfl rfl (hg9_1) (lts rfl) ?_
        refine SQ_no rfl rfl rfl (hg9_1) (lts rfl) ?_
        refine SQ_no rfl rfl rfl (hg9_1) (lts rfl) ?_
        refine SQ_no rfl rfl rfl (hg9_1) (lts rfl) ?_
        refine SQ_pu rfl (RD_pick_t rfl (hg9_1) rfl) rfl ?_
        refine SQ_pu rfl (RD_assign rfl) rfl ?_
        refine SQ_nil ?_
        refine SN.le (l := [(1, _), (5, _), (6, _), (7, _), (8, _)]) ?_ (.cons rfl (.cons rfl (.cons rfl (.cons rfl (.cons rfl (.nil))))))
        refine SN_block ?_
        refine SN_seq ?_
        refine SC_region ?_
        refine SR_pu (RD_move rfl) rfl ?_
        refine SR_pu (RD_addi rfl rfl (by omega) (by omega)) rfl ?_
        refine SR_pu (RD_assign rfl) rfl ?_
        refine SR_nil ?_
        refine SN.le (l := [(1, _), (5, _), (6, _), (7, _), (8, _)]) ?_ (.cons rfl (.cons rfl (.cons rfl (.cons rfl (.cons rfl (.nil))))))
        refine SC_again (ih1 (q + 1) (by omega) (by omega)) (.fin) (.cons rfl (.cons rfl (.cons rfl (.cons' rfl (congrArg Value.bool (by rw [htq, show decide (e ∈ G.take q ++ [x]) = (decide (e ∈ G.take q) || decide (x = e)) by simp [eq_comm]]; rw [show decide (e ∈ G.take q) = true from hg9_1]; rfl)) (.cons' rfl (ie (by omega)) (.nil))))))
    · have hqn : q = G.length := by simp at hc21; omega
      subst hqn
      clear ih1
      rw [List.take_length]
      refine SC_exit rfl ?_
      refine SN_seq ?_
      refine SC_seq ?_
      refine SC_region ?_
      refine SR_pu (RD_move rfl) rfl ?_
      refine SR_pu (RD_not rfl) rfl ?_
      refine SR_nil ?_
      refine SN.le (l := [(1, _), (5, _), (6, _), (37, _)]) ?_ (.cons rfl (.cons rfl (.cons rfl (.cons rfl (.nil)))))
      refine SN_seq ?_
      refine SC_cond rfl (fun hc37 => ?_) (fun hc37 => ?_)
      · have hk : e ∉ G := by simpa using hc37
        rw [if_neg hk] at hgs
        refine SC_region ?_
        refine SR_pu (RD_move rfl) rfl ?_
        refine SR_pu (RD_move rfl) rfl ?_
        refine SR_pu (RD_move rfl) rfl ?_
        refine SR_rd (RD_ixO (i := (i : Nat)) (cs := ys.flatMap EnvD.cells) Try.runUnderlying31 Try.sizeOf39 rfl rfl (by rw [env_len, kys]) (by omega) (by omega)) Has.ro rfl ?_
        refine SR_rd (RD_loadAO (vs := EnvD.cells e) (cs := ys.flatMap EnvD.cells) Try.isAgg39 Try.sizeOf39 rfl rfl (by decide) (fun o v h => by have ho : o < 4 := (List.getElem?_eq_some_iff.1 h).1; rw [show ((i : Nat) : Int).toNat * (3 + 1) + o = i * 4 + o by omega, env_get he o ho]; exact h)) Has.ro rfl ?_
        refine SR_ox (OX_lit Try.underlying31 Try.type39 rfl rfl rfl rfl (.cons rfl (.nil)) (.cons rfl rfl (.nil))) rfl ?_
        rintro _ _ ⟨b43, rfl, rfl⟩
        refine SR_ox (OX_app 4 Try.underlying31 Try.underlying31 Try.type39 rfl rfl rfl rfl rfl (by first | rfl | simp; done | (simp; omega)) 32 rfl (by omega) (by omega)) rfl ?_
        rintro _ _ ⟨a44, c44, rfl, rfl⟩
        refine SR_pu (RD_assign rfl) rfl ?_
        refine SR_nil ?_
        refine SN.le (l := [(1, _), (5, _), (6, _)]) ?_ (.cons rfl (.cons rfl (.cons rfl (.nil))))
        rw [show EnvD.cells e ++ [] = [e].flatMap EnvD.cells from rfl]
        refine SN_block ?_
        refine SN_seq ?_
        refine SC_region ?_
        refine SR_pu (RD_move rfl) rfl ?_
        refine SR_pu (RD_addi rfl rfl (by omega) (by omega)) rfl ?_
        refine SR_pu (RD_assign rfl) rfl ?_
        refine SR_nil ?_
        refine SN.le (l := [(1, _), (5, _), (6, _)]) ?_ (.cons rfl (.cons rfl (.cons rfl (.nil))))
        refine SC_again (ih ((i + 1, a44, c44)) (by dsimp only; omega) (by dsimp only; omega)) (by dsimp only; rw [hgs]; exact (show Lands _ (rowP 39 4 a44 (G ++ [e]).length c44 ((G ++ [e]).flatMap EnvD.cells) :: F) from by rw [List.length_append, List.flatMap_append]; exact .fin)) (.cons rfl (.cons' rfl (by dsimp only; rw [hgs, List.length_append]; rfl) (.cons' rfl (ie (by dsimp only; omega)) (.nil))))
      · have hk : e ∈ G := by simpa using hc37
        rw [if_pos hk] at hgs
        refine SC_skip ?_
        refine SN_block ?_
        refine SN_seq ?_
        refine SC_region ?_
        refine SR_pu (RD_move rfl) rfl ?_
        refine SR_pu (RD_addi rfl rfl (by omega) (by omega)) rfl ?_
        refine SR_pu (RD_assign rfl) rfl ?_
        refine SR_nil ?_
        refine SN.le (l := [(1, _), (5, _), (6, _)]) ?_ (.cons rfl (.cons rfl (.cons rfl (.nil))))
        refine SC_again (ih ((i + 1, oa, oc)) (by dsimp only; omega) (by dsimp only; omega)) (by dsimp only; rw [hgs]; exact .fin) (.cons rfl (.cons' rfl (by dsimp only; rw [hgs]) (.cons' rfl (ie (by dsimp only; omega)) (.nil))))
  · have hin : i = m := by simp at hc15; omega
    subst hin
    rw [show ys.take i = ys by rw [← kys, List.take_length]]
    refine SC_exit rfl ?_
    refine SN_seq ?_
    refine SC_seq ?_
    refine SC_region ?_
    refine SR_pu (RD_move rfl) rfl ?_
    refine SR_pu (RD_assign rfl) rfl ?_
    refine SR_nil ?_
    refine SN.le (l := [(4, _)]) ?_ (.cons rfl (.nil))
    refine SN_seq ?_
    refine SC_ret1 rfl rfl ?_
    exact ⟨oa, oc, rfl, .fin⟩

def wX : EnvD := ⟨0, 0, 1, 1⟩
def wY : EnvD := ⟨1, 0, 1, 2⟩
def wl3 : List (List UInt8) := [rootB, envB wX, envB wY]
def wA : Blk := ⟨1, 0, 0, 1, [], [wX]⟩
def wB : Blk := ⟨2, 0, 1, 4, [], [wX, wY]⟩
def wC : Blk := ⟨3, 0, 1, 4, [], []⟩
def wl4 : List (List UInt8) := blkL wl3 wA
def wl5 : List (List UInt8) := blkL wl4 wB
def wl6 : List (List UInt8) := blkL wl5 wC
def wS0 : List (Int × List Int) := [(2, [1000])]
def wS1 : List (Int × List Int) := [(2, [1000]), (3, [1001])]
def vS1 (w : Nat) : TS := ⟨w, 1, [(1, zBlk), (4, wA)]⟩
def vS2 (w : Nat) : TS := ⟨w, 1, [(1, zBlk), (4, wA), (5, wB)]⟩
def vS3 (w : Nat) : TS := ⟨w, 1, [(1, zBlk), (4, wA), (5, wB), (6, wC)]⟩
theorem wm1 : dput [rootB] (envB wX) = [rootB, envB wX] ∧ addTo [] (1000 + 0) (dnum [rootB, envB wX] (envB wX) : Nat) = wS0 := by decide +kernel
theorem wm2 : dput [rootB, envB wX] (envB wY) = wl3 ∧ addTo wS0 (1000 + 1) (dnum wl3 (envB wY) : Nat) = wS1 := by decide +kernel
theorem wD1 : blkD wl3 wA = 4 := by decide +kernel
theorem wD2 : blkD wl4 wB = 5 := by decide +kernel
theorem wD3 : blkD wl5 wC = 6 := by decide +kernel
theorem wlen : wl3.length = 3 ∧ wl4.length = 4 ∧ wl5.length = 5 ∧ wl6.length = 6 := by decide +kernel
theorem wnum : dnum wl6 (envB wX) = 2 ∧ dnum wl6 (envB wY) = 3 ∧ dput wl6 (envB wY) = wl6 ∧ dput wl3 rootB = wl3 ∧ dnum wl3 rootB = 1 ∧ dput wl6 rootB = wl6 ∧ dnum wl6 rootB = 1 ∧ envB wX ∈ wl6 ∧ envB wY ∈ wl6 := by decide +kernel
theorem wXg : EnvD.Good wX := ⟨by simp [wX, I64], by simp [wX, I64], by simp [wX, EnvD.Ok]⟩
theorem wYg : EnvD.Good wY := ⟨by simp [wY, I64], by simp [wY, I64], by simp [wY, EnvD.Ok]⟩
theorem wAg : Blk.Good wA := ⟨by simp [wA, I64], by simp [wA, I64], by simp [wA, I64], by simp [wA, I64], fun x h => (nomatch h), fun e h => by simp [wA] at h; subst h; exact wXg, by simp [wA], by simp [wA]⟩
theorem wBg : Blk.Good wB := ⟨by simp [wB, I64], by simp [wB, I64], by simp [wB, I64], by simp [wB, I64], fun x h => (nomatch h), fun e h => by simp [wB] at h; rcases h with h | h <;> subst h; exact wXg; exact wYg, by simp [wB], by simp [wB]⟩
theorem wCg : Blk.Good wC := good_nil (by unfold I64; omega) (by unfold I64; omega) (by unfold I64; omega) (by unfold I64; omega)
theorem wT1 (w : Nat) : (tS0 w).add wl3 wA = ((4, 0), vS1 w, wl4) ∧ TL (vS1 w) wl4 ∧ (vS1 w).Ok := by
  have h := TL.start (l := [rootB]) w (by simp)
  rw [show dnum [rootB] rootB = 1 by simp [dnum]] at h
  have h := TL.ext (s := tS0 w) h (l' := wl3) ⟨[envB wX, envB wY], rfl⟩
  have h2 := TL.add (s := tS0 w) h (TS.Ok.new w 1) (b := wA) (q := zBlk) wAg (by simp [wlen]) (by simp [tS0]) (by simp [tS0, mget, wA]) (by simp [wA, zBlk]) (by simp [wA]) (by rw [wD1]; simp [tS0, mget])
  rw [wD1] at h2
  exact h2
theorem wT2 (w : Nat) : (vS1 w).add wl4 wB = ((5, 0), vS2 w, wl5) ∧ TL (vS2 w) wl5 ∧ (vS2 w).Ok := by
  obtain ⟨_, h, ho⟩ := wT1 w
  have h2 := TL.add (s := vS1 w) h ho (b := wB) (q := wA) wBg (by simp [wlen]) (by simp [vS1]) (by simp [vS1, mget, wB]) (by simp [wA, wB]) (by simp [wB]) (by rw [wD2]; simp [vS1, mget])
  rw [wD2] at h2
  exact h2
theorem wT3 (w : Nat) : (vS2 w).add wl5 wC = ((6, 0), vS3 w, wl6) ∧ TL (vS3 w) wl6 ∧ (vS3 w).Ok := by
  obtain ⟨_, h, ho⟩ := wT2 w
  have h2 := TL.add (s := vS2 w) h ho (b := wC) (q := wA) wCg (by simp [wlen]) (by simp [vS2]) (by simp [vS2, mget, wC]) (by simp [wA, wC]) (by simp [wC]) (by rw [wD3]; simp [vS2, mget])
  rw [wD3] at h2
  exact h2
def wg0 (w t : Nat) : LS := ⟨w, t, 1, [], []⟩
def wg1 (w t : Nat) : LS := ⟨w, t, 5, [wX, wY], [2, 3]⟩
theorem wW1 (w : Nat) : (vS3 w).way 5 1 = none ∧ (vS3 w).way 1 5 = some [4, 5] ∧ (vS3 w).way 4 5 = some [5] ∧ (vS3 w).way 6 5 = none ∧ (vS3 w).way 5 6 = none := by simp [TS.way, wayF, vS3, mget, viewOf, wA, wB, wC]
theorem wc1 (w t u : Nat) : (wg0 w t).commit wl6 (vS3 u) 5 = (true, wg1 w t) := by
  obtain ⟨h1, h2, h3, h4, h5⟩ := wW1 u
  obtain ⟨n1, n2, _⟩ := wnum
  unfold LS.commit
  rw [show (wg0 w t).tip = 1 from rfl, h1, h2]
  simp [LS.goB, LS.step, LS.takeB, LS.take1, vS3, mget, wA, wB, n1, n2, wg0, wg1]
theorem wc2 (w t u : Nat) : (wg1 w t).commit wl6 (vS3 u) 4 = (true, wg1 w t) := by
  obtain ⟨h1, h2, h3, h4, h5⟩ := wW1 u
  unfold LS.commit
  rw [show (wg1 w t).tip = 5 from rfl, h3]; rfl
theorem wc3 (w t u : Nat) : (wg1 w t).commit wl6 (vS3 u) 6 = (false, wg1 w t) := by
  obtain ⟨h1, h2, h3, h4, h5⟩ := wW1 u
  unfold LS.commit
  rw [show (wg1 w t).tip = 5 from rfl, h4, h5]; rfl
theorem wAr (u : Nat) : ∀ x b, mget (vS3 u).T x = some b → ∀ e ∈ b.envs, envB e ∈ wl6 := fun x b h e he => by
  obtain ⟨_, _, _, _, _, _, _, hX, hY⟩ := wnum
  simp only [vS3, mget] at h
  split at h
  · cases h; simp [zBlk] at he
  · split at h
    · cases h; simp [wA] at he; subst he; exact hX
    · split at h
      · cases h; simp [wB] at he; rcases he with h | h <;> subst h; exact hX; exact hY
      · split at h
        · cases h; simp [wC] at he
        · cases h

theorem clog_awake {W : World} {F : List HProp} [Abs F] :
    CallsK W Try.prog 43 #[] (F) (fun v L => v = .bool true ∧ Lands L F) := by
  refine CallsK_enter (n := 117) Try.func43 rfl rfl rfl ?_
  refine SC_seq ?_
  refine SC_region ?_
  refine SR_pu (RD_assign rfl) rfl ?_
  refine SR_nil ?_
  refine SN.le (l := []) ?_ (.nil)
  refine SN_seq ?_
  refine SC_seq ?_
  refine SC_region ?_
  refine SR_call Try.call16 (.cons rfl (.nil)) (enve_New 1) (lts rfl) ?_
  rintro _ L0 ⟨k, rfl, hL0⟩
  refine SR.lands (hL0.trans (Lands.cons vault_new)) ?_
  refine SR_pu (RD_assign rfl) rfl ?_
  refine SR_nil ?_
  refine SN.le (l := [(1, _)]) ?_ (.cons rfl (.nil))
  refine SN_seq ?_
  refine SC_seq ?_
  refine SC_seq ?_
  refine SC_region ?_
  refine SR_pu (RD_move rfl) rfl ?_
  refine SR_pu (RD_eqlP Try.underlying35 rfl rfl) rfl ?_
  refine SR_nil ?_
  refine SN.le (l := [(1, _), (14, _)]) ?_ (.cons rfl (.cons rfl (.nil)))
  refine SN_seq ?_
  refine SC_cond_false rfl (rfl) ?_
  refine SC_skip ?_
  refine SN_seq ?_
  refine SC_seq ?_
  refine SC_region ?_
  refine SR_pu (RD_move rfl) rfl ?_
  refine SR_call Try.call37 (.cons rfl (.nil)) (CallsK.at (tree_New k ⟨[], []⟩ (by simp) [rootB] 1 (by decide +kernel) (by decide +kernel))) (lts rfl) ?_
  rintro _ L1 ⟨q, rfl, hL1⟩
  try dsimp only at hL1
  refine SR.lands (hL1 : Lands L1 (At treeI q (tS0 k.p) :: _)) ?_
  refine SR_pu (RD_assign rfl) rfl ?_
  refine SR_nil ?_
  refine SN.le (l := [(1, _), (2, _)]) ?_ (.cons rfl (.cons rfl (.nil)))
  refine SN_seq ?_
  refine SC_seq ?_
  refine SC_region ?_
  refine SR_pu (RD_move rfl) rfl ?_
  refine SR_pu (RD_move rfl) rfl ?_
  refine SR_call Try.call38 (.cons rfl (.cons rfl (.nil))) (CallsK.at (clog_New k.p q (tS0 k.p))) (lts rfl) ?_
  rintro _ L2 ⟨p, rfl, hL2⟩
  refine SR.lands (hL2 : Lands L2 (At logI p (wg0 k.p q) :: _)) ?_
  refine SR_pu (RD_assign rfl) rfl ?_
  refine SR_nil ?_
  refine SN.le (l := [(1, _), (2, _), (3, _)]) ?_ (.cons rfl (.cons rfl (.cons rfl (.nil))))
  refine SN_seq ?_
  refine SC_seq ?_
  refine SC_seq ?_
  refine SC_region ?_
  refine SR_pu (RD_move rfl) rfl ?_
  refine SR_pu (RD_eqlP Try.underlying68 rfl rfl) rfl ?_
  refine SR_pu (RD_move rfl) rfl ?_
  refine SR_yes rfl rfl (rfl) ?_
  refine SR_pu (RD_move rfl) rfl ?_
  refine SR_yes rfl rfl (rfl) ?_
  refine SR_pu (RD_eqlP Try.underlying70 rfl rfl) rfl ?_
  refine SR_pu (RD_pick_f rfl (rfl) rfl) rfl ?_
  refine SR_nil ?_
  refine SN.le (l := [(1, _), (2, _), (3, _), (25, _)]) ?_ (.cons rfl (.cons rfl (.cons rfl (.cons rfl (.nil)))))
  refine SN_seq ?_
  refine SC_cond_false rfl (rfl) ?_
  refine SC_skip ?_
  refine SN_seq ?_
  refine SC_seq ?_
  refine SC_region ?_
  refine SR_pu (RD_move rfl) rfl ?_
  refine SR_call Try.call35 (.cons rfl (.cons rfl (.cons rfl (.cons rfl (.cons rfl (.nil)))))) (CallsK.at2 (w_Make k ⟨[rootB], []⟩ 0 (by omega) 0 0 1 (by omega) (by omega) (by omega) none 0 0 [] rfl (by simp) (by simp))) (lts rfl) ?_
  rintro _ L3 ⟨rfl, hL3⟩
  change Lands L3 (At worldI k ⟨dput [rootB] (envB wX), addTo [] (1000 + 0) (dnum (dput [rootB] (envB wX)) (envB wX) : Nat)⟩ :: _) at hL3
  rw [wm1.1, wm1.2] at hL3
  refine SR.lands hL3 ?_
  refine SR_pu (RD_move rfl) rfl ?_
  refine SR_call Try.call35 (.cons rfl (.cons rfl (.cons rfl (.cons rfl (.cons rfl (.nil)))))) (CallsK.at2 (w_Make k ⟨[rootB, envB wX], wS0⟩ 1 (by omega) 1 0 1 (by omega) (by omega) (by omega) none 0 0 [] rfl (by simp) (by simp))) (lts rfl) ?_
  rintro _ L4 ⟨rfl, hL4⟩
  change Lands L4 (At worldI k ⟨dput [rootB, envB wX] (envB wY), addTo wS0 (1000 + 1) (dnum (dput [rootB, envB wX] (envB wY)) (envB wY) : Nat)⟩ :: _) at hL4
  rw [wm2.1, wm2.2] at hL4
  refine SR.lands hL4 ?_
  refine SR_ox (OX_alloc Try.zeroValue39 rfl) rfl ?_
  rintro _ _ ⟨b4, rfl, rfl⟩
  refine SR_ox (OX_alloc Try.zeroValue39 rfl) rfl ?_
  rintro _ _ ⟨b5, rfl, rfl⟩
  refine SR_ox0 (OX_stA (vs := EnvD.cells wX) Try.sizeOf39 rfl rfl rfl rfl) ?_
  rintro _ _ rfl
  refine SR_ox0 (OX_stA (vs := EnvD.cells wY) Try.sizeOf39 rfl rfl rfl rfl) ?_
  rintro _ _ rfl
  refine SR_nil ?_
  refine SN.le (l := [(1, _), (2, _), (3, _), (4, _), (5, _)]) ?_ (.cons rfl (.cons rfl (.cons rfl (.cons rfl (.cons rfl (.nil))))))
  refine SN_seq ?_
  refine SC_seq ?_
  refine SC_drawn (.cons 0 true (.cons 1 true (.cons 4 true (.alts [2, 5] (fun i => bif Nat.beq i 2 then (.cons 3 true (.cons 5 false (.cons 6 true (.cons 7 false (.cons 8 true (.cons 9 true (.cons 10 true (.cons 11 true (.cons 12 true (.nil)))))))))) else (.cons 2 false (.cons 3 true (.cons 6 true (.cons 7 false (.cons 8 true (.cons 9 true (.cons 10 true (.cons 11 true (.cons 12 true (.nil))))))))))))))) (by kernel_rfl) (by kernel_rfl) ?_
  refine SQ_pu rfl (RD_move rfl) rfl ?_
  refine SQ_pu rfl (RD_move rfl) rfl ?_
  refine SQ_rd rfl (RD_loadA (vs := EnvD.cells wX) Try.isAgg39 Try.sizeOf39 rfl rfl) Has.wh rfl ?_
  refine SQ_two ?_ ?_
  · refine SA_call rfl .free Try.call34 (.cons rfl (.nil)) (CallsK.at (cert_Root k ⟨wl3, wS1⟩ (by simp [wlen]) wl3 1 wnum.2.2.2.1 wnum.2.2.2.2.1)) (lts rfl) ?_
    rintro _ L5 ⟨rfl, hL5⟩
    refine ⟨.lands hL5 (.h Has.wh (.nil)), ?_⟩
    try dsimp only at hL5
    refine SQ.lands hL5 ?_
    refine SQ_pu rfl (RD_build (.cons rfl (.nil)) built30_1) rfl ?_
    refine SQ_ox rfl (OX_lit Try.underlying31 Try.type39 rfl rfl rfl rfl (.cons rfl (.nil)) (.cons rfl rfl (.nil))) rfl ?_
    rintro _ _ ⟨b36, rfl, rfl⟩
    refine ⟨.w rfl (.nil), ?_⟩
    refine SQ_pu rfl (RD_build (.cons rfl (.cons rfl (.cons rfl (.nil)))) built33_0_2_3) rfl ?_
    refine SQ_call rfl Try.call39 (.cons rfl (.cons rfl (.nil))) (CallsK.at2 (tree_Add' q (tS0 k.p) k rfl ⟨wl3, wS1⟩ ⟨1, 0, 0, 1, ⟨none, 0, 0, []⟩, ⟨some ⟨b36, 0, none⟩, 1, 1, [wX]⟩⟩ rfl rfl ⟨rfl, rfl, by simp, by simp, fun e h => by simp at h; subst h; exact wXg.2.2⟩ (by simp [wlen]) 4 0 (vS1 k.p) wl4 ((wT1 k.p).1))) (lts rfl) ?_
    rintro _ L6 ⟨rfl, hL6⟩
    refine ⟨.lands hL6 (.h Has.wh (.nil)), ?_⟩
    try dsimp only at hL6
    refine SQ.lands hL6 ?_
    refine SQ_pu rfl (RD_move rfl) rfl ?_
    refine SQ_pu rfl (RD_extract rfl rfl) rfl ?_
    refine SQ_pu rfl (RD_extract rfl rfl) rfl ?_
    refine SQ_pu rfl (RD_assign rfl) rfl ?_
    refine SQ_pu rfl (RD_assign rfl) rfl ?_
    refine SQ_nil ?_
    refine SN.le (l := [(1, _), (2, _), (3, _), (4, _), (5, _), (6, _)]) ?_ (.cons rfl (.cons rfl (.cons rfl (.cons rfl (.cons rfl (.cons rfl (.nil)))))))
    refine SN_seq ?_
    refine SC_seq ?_
    refine SC_region ?_
    refine SR_pu (RD_move rfl) rfl ?_
    refine SR_pu (RD_move rfl) rfl ?_
    refine SR_pu (RD_build (.cons rfl (.cons rfl (.nil))) built30_0_1) rfl ?_
    refine SR_rd (RD_loadA (vs := EnvD.cells wX) Try.isAgg39 Try.sizeOf39 rfl rfl) Has.wh rfl ?_
    refine SR_rd (RD_loadA (vs := EnvD.cells wY) Try.isAgg39 Try.sizeOf39 rfl rfl) Has.wh rfl ?_
    refine SR_ox (OX_lit Try.underlying31 Try.type39 rfl rfl rfl rfl (.cons rfl (.cons rfl (.nil))) (.cons rfl rfl (.cons rfl rfl (.nil)))) rfl ?_
    rintro _ _ ⟨b47, rfl, rfl⟩
    refine SR_pu (RD_build (.cons rfl (.cons rfl (.cons rfl (.nil)))) built33_0_2_3) rfl ?_
    refine SR_call Try.call39 (.cons rfl (.cons rfl (.nil))) (CallsK.at2 (tree_Add' q (vS1 k.p) k rfl ⟨wl4, wS1⟩ ⟨2, 0, 1, 4, ⟨none, 0, 0, []⟩, ⟨some ⟨b47, 0, none⟩, 2, 2, [wX, wY]⟩⟩ rfl rfl ⟨rfl, rfl, by simp, by simp, fun e h => by simp at h; rcases h with h | h <;> subst h; exact wXg.2.2; exact wYg.2.2⟩ (by simp [wlen]) 5 0 (vS2 k.p) wl5 ((wT2 k.p).1))) (lts rfl) ?_
    rintro _ L7 ⟨rfl, hL7⟩
    try dsimp only at hL7
    refine SR.lands hL7 ?_
    refine SR_pu (RD_move rfl) rfl ?_
    refine SR_pu (RD_extract rfl rfl) rfl ?_
    refine SR_pu (RD_extract rfl rfl) rfl ?_
    refine SR_pu (RD_assign rfl) rfl ?_
    refine SR_pu (RD_assign rfl) rfl ?_
    refine SR_nil ?_
    refine SN.le (l := [(1, _), (2, _), (3, _), (4, _), (5, _), (6, _), (8, _)]) ?_ (.cons rfl (.cons rfl (.cons rfl (.cons rfl (.cons rfl (.cons rfl (.cons rfl (.nil))))))))
    refine SN_seq ?_
    refine SC_seq ?_
    refine SC_region ?_
    refine SR_pu (RD_move rfl) rfl ?_
    refine SR_pu (RD_move rfl) rfl ?_
    refine SR_pu (RD_build (.cons rfl (.cons rfl (.nil))) built30_0_1) rfl ?_
    refine SR_pu (RD_build (.cons rfl (.cons rfl (.nil))) built33_0_2) rfl ?_
    refine SR_call Try.call39 (.cons rfl (.cons rfl (.nil))) (CallsK.at2 (tree_Add' q (vS2 k.p) k rfl ⟨wl5, wS1⟩ ⟨3, 0, 1, 4, ⟨none, 0, 0, []⟩, ⟨none, 0, 0, []⟩⟩ rfl rfl ⟨rfl, rfl, by simp, by simp, fun e h => by simp at h; done⟩ (by simp [wlen]) 6 0 (vS3 k.p) wl6 ((wT3 k.p).1))) (lts rfl) ?_
    rintro _ L8 ⟨rfl, hL8⟩
    try dsimp only at hL8
    refine SR.lands hL8 ?_
    refine SR_pu (RD_move rfl) rfl ?_
    refine SR_pu (RD_extract rfl rfl) rfl ?_
    refine SR_pu (RD_extract rfl rfl) rfl ?_
    refine SR_pu (RD_assign rfl) rfl ?_
    refine SR_pu (RD_assign rfl) rfl ?_
    refine SR_nil ?_
    refine SN.le (l := [(1, _), (3, _), (4, _), (5, _), (6, _), (8, _), (10, _)]) ?_ (.cons rfl (.cons rfl (.cons rfl (.cons rfl (.cons rfl (.cons rfl (.cons rfl (.nil))))))))
    refine SN_seq ?_
    refine SC_seq ?_
    refine SC_drawn (.cons 0 true (.cons 2 true (.cons 1 false (.cons 3 false (.cons 4 true (.cons 5 true (.cons 6 true (.cons 7 true (.cons 8 false (.cons 9 true (.cons 10 true (.cons 11 true (.cons 12 true (.cons 13 false (.cons 14 true (.cons 15 true (.cons 16 true (.cons 17 true (.cons 18 false (.cons 19 true (.cons 20 true (.cons 21 true (.cons 22 true (.cons 23 false (.cons 24 true (.cons 25 true (.cons 26 true (.cons 27 true (.cons 29 true (.cons 28 false (.cons 30 true (.cons 31 true (.cons 32 true (.cons 33 true (.cons 34 false (.cons 35 true (.cons 36 true (.cons 37 true (.cons 38 true (.cons 40 true (.cons 41 true (.alts [39, 42] (fun i => bif Nat.beq i 39 then (.cons 42 false (.cons 43 false (.cons 44 true (.cons 45 true (.cons 46 true (.cons 47 true (.cons 48 true (.cons 49 false (.cons 50 false (.cons 51 true (.cons 52 true (.cons 53 true (.cons 54 false (.cons 55 true (.cons 56 true (.cons 57 true (.nil))))))))))))))))) else (.cons 39 false (.cons 43 false (.cons 44 true (.cons 45 true (.cons 46 true (.cons 47 true (.cons 48 true (.cons 49 false (.cons 50 false (.cons 51 true (.cons 52 true (.cons 53 true (.cons 54 false (.cons 55 true (.cons 56 true (.cons 57 true (.nil)))))))))))))))))))))))))))))))))))))))))))))))))))))))))))) (by kernel_rfl) (by kernel_rfl) ?_
    refine SQ_pu rfl (RD_move rfl) rfl ?_
    refine SQ_pu rfl (RD_move rfl) rfl ?_
    refine SQ_call rfl Try.call42 (.cons rfl (.nil)) (CallsK.at (clog_Tip p (wg0 k.p q))) (lts rfl) ?_
    rintro _ L9 ⟨rfl, hL9⟩
    refine ⟨.nil, ?_⟩
    refine SQ.lands hL9 ?_
    refine SQ_call rfl Try.call34 (.cons rfl (.nil)) (CallsK.at (cert_Root k ⟨wl6, wS1⟩ (by simp [wlen]) wl6 1 wnum.2.2.2.2.2.1 wnum.2.2.2.2.2.2.1)) (lts rfl) ?_
    rintro _ L10 ⟨rfl, hL10⟩
    refine ⟨.nil, ?_⟩
    try dsimp only at hL10
    refine SQ.lands hL10 ?_
    refine SQ_pu rfl (RD_eql rfl rfl) rfl ?_
    refine SQ_pu rfl (RD_move rfl) rfl ?_
    refine SQ_pyes rfl rfl rfl (by first | rfl | exact decide_eq_true (by omega) | exact decide_eq_false (by omega) | decide | (simp; done) | (simp; omega)) (RD_move rfl) rfl ?_
    refine SQ_pyes rfl rfl rfl (by first | rfl | exact decide_eq_true (by omega) | exact decide_eq_false (by omega) | decide | (simp; done) | (simp; omega)) (RD_move rfl) rfl ?_
    refine SQ_one (SA_call rfl (.mk rfl rfl (by first | rfl | exact decide_eq_true (by omega) | exact decide_eq_false (by omega) | decide | (simp; done) | (simp; omega))) Try.call40 (.cons rfl (.cons rfl (.nil))) (CallsK.at3 (clog_Commit_yes' p q (wg0 k.p q) rfl (vS3 k.p) k ⟨wl6, wS1⟩ rfl (wT3 k.p).2.2 5 ⟨_, rfl⟩ ⟨_, rfl⟩ (by simp [vS3, mget, viewOf, wA, wB, wC]) (by simp [vS3, mget, viewOf, wg0, zBlk]) (wAr k.p) (by simp [wg0]) (by simp [wlen]) true (wg1 k.p q) (wc1 k.p q k.p))) (lts rfl) ?_)
    rintro _ L11 ⟨rfl, hL11⟩
    refine ⟨.nil, ?_⟩
    refine SQ.lands hL11 ?_
    refine SQ_pu rfl (RD_pick_t rfl (by first | rfl | exact decide_eq_true (by omega) | exact decide_eq_false (by omega) | decide | (simp; done) | (simp; omega)) rfl) rfl ?_
    refine SQ_pu rfl (RD_move rfl) rfl ?_
    refine SQ_pyes rfl rfl rfl (by first | rfl | exact decide_eq_true (by omega) | exact decide_eq_false (by omega) | decide | (simp; done) | (simp; omega)) (RD_move rfl) rfl ?_
    refine SQ_pyes rfl rfl rfl (by first | rfl | exact decide_eq_true (by omega) | exact decide_eq_false (by omega) | decide | (simp; done) | (simp; omega)) (RD_move rfl) rfl ?_
    refine SQ_one (SA_call rfl (.mk rfl rfl (by first | rfl | exact decide_eq_true (by omega) | exact decide_eq_false (by omega) | decide | (simp; done) | (simp; omega))) Try.call40 (.cons rfl (.cons rfl (.nil))) (CallsK.at3 (clog_Commit_yes' p q (wg1 k.p q) rfl (vS3 k.p) k ⟨wl6, wS1⟩ rfl (wT3 k.p).2.2 4 ⟨_, rfl⟩ ⟨_, rfl⟩ (by simp [vS3, mget, viewOf, wA, wB, wC]) (by simp [vS3, mget, viewOf, wg1, wA, wB]) (wAr k.p) (by simp [wg1]) (by simp [wlen]) true (wg1 k.p q) (wc2 k.p q k.p))) (lts rfl) ?_)
    rintro _ L12 ⟨rfl, hL12⟩
    refine ⟨.nil, ?_⟩
    refine SQ.lands hL12 ?_
    refine SQ_pu rfl (RD_pick_t rfl (by first | rfl | exact decide_eq_true (by omega) | exact decide_eq_false (by omega) | decide | (simp; done) | (simp; omega)) rfl) rfl ?_
    refine SQ_pu rfl (RD_move rfl) rfl ?_
    refine SQ_pyes rfl rfl rfl (by first | rfl | exact decide_eq_true (by omega) | exact decide_eq_false (by omega) | decide | (simp; done) | (simp; omega)) (RD_move rfl) rfl ?_
    refine SQ_pyes rfl rfl rfl (by first | rfl | exact decide_eq_true (by omega) | exact decide_eq_false (by omega) | decide | (simp; done) | (simp; omega)) (RD_move rfl) rfl ?_
    refine SQ_one (SA_call rfl (.mk rfl rfl (by first | rfl | exact decide_eq_true (by omega) | exact decide_eq_false (by omega) | decide | (simp; done) | (simp; omega))) Try.call40 (.cons rfl (.cons rfl (.nil))) (CallsK.at3 (clog_Commit_yes' p q (wg1 k.p q) rfl (vS3 k.p) k ⟨wl6, wS1⟩ rfl (wT3 k.p).2.2 6 ⟨_, rfl⟩ ⟨_, rfl⟩ (by simp [vS3, mget, viewOf, wA, wB, wC]) (by simp [vS3, mget, viewOf, wg1, wA, wB]) (wAr k.p) (by simp [wg1]) (by simp [wlen]) false (wg1 k.p q) (wc3 k.p q k.p))) (lts rfl) ?_)
    rintro _ L13 ⟨rfl, hL13⟩
    refine ⟨.nil, ?_⟩
    refine SQ.lands hL13 ?_
    refine SQ_pyes rfl rfl rfl (by first | rfl | exact decide_eq_true (by omega) | exact decide_eq_false (by omega) | decide | (simp; done) | (simp; omega)) (RD_not rfl) rfl ?_
    refine SQ_pu rfl (RD_pick_t rfl (by first | rfl | exact decide_eq_true (by omega) | exact decide_eq_false (by omega) | decide | (simp; done) | (simp; omega)) rfl) rfl ?_
    refine SQ_pu rfl (RD_move rfl) rfl ?_
    refine SQ_pyes rfl rfl rfl (by first | rfl | exact decide_eq_true (by omega) | exact decide_eq_false (by omega) | decide | (simp; done) | (simp; omega)) (RD_move rfl) rfl ?_
    refine SQ_one (SA_call rfl (.mk rfl rfl (by first | rfl | exact decide_eq_true (by omega) | exact decide_eq_false (by omega) | decide | (simp; done) | (simp; omega))) Try.call40 (.cons rfl (.cons rfl (.nil))) (CallsK.at3 (clog_Commit_no' p q (wg1 k.p q) rfl (vS3 k.p) k ⟨wl6, wS1⟩ rfl (wT3 k.p).2.2 99 rfl)) (lts rfl) ?_)
    rintro _ L14 ⟨rfl, hL14⟩
    refine ⟨.nil, ?_⟩
    refine SQ.lands hL14 ?_
    refine SQ_pyes rfl rfl rfl (by first | rfl | exact decide_eq_true (by omega) | exact decide_eq_false (by omega) | decide | (simp; done) | (simp; omega)) (RD_not rfl) rfl ?_
    refine SQ_pu rfl (RD_pick_t rfl (by first | rfl | exact decide_eq_true (by omega) | exact decide_eq_false (by omega) | decide | (simp; done) | (simp; omega)) rfl) rfl ?_
    refine SQ_pu rfl (RD_move rfl) rfl ?_
    refine SQ_pyes rfl rfl rfl (by first | rfl | exact decide_eq_true (by omega) | exact decide_eq_false (by omega) | decide | (simp; done) | (simp; omega)) (RD_move rfl) rfl ?_
    refine SQ_pyes rfl rfl rfl (by first | rfl | exact decide_eq_true (by omega) | exact decide_eq_false (by omega) | decide | (simp; done) | (simp; omega)) (RD_move rfl) rfl ?_
    refine SQ_one (SA_call rfl (.mk rfl rfl (by first | rfl | exact decide_eq_true (by omega) | exact decide_eq_false (by omega) | decide | (simp; done) | (simp; omega))) Try.call42 (.cons rfl (.nil)) (CallsK.at (clog_Tip p (wg1 k.p q))) (lts rfl) ?_)
    rintro _ L15 ⟨rfl, hL15⟩
    refine ⟨.nil, ?_⟩
    refine SQ.lands hL15 ?_
    refine SQ_pyes rfl rfl rfl (by first | rfl | exact decide_eq_true (by omega) | exact decide_eq_false (by omega) | decide | (simp; done) | (simp; omega)) (RD_eql rfl rfl) rfl ?_
    refine SQ_pu rfl (RD_pick_t rfl (by first | rfl | exact decide_eq_true (by omega) | exact decide_eq_false (by omega) | decide | (simp; done) | (simp; omega)) rfl) rfl ?_
    refine SQ_pu rfl (RD_move rfl) rfl ?_
    refine SQ_pyes rfl rfl rfl (by first | rfl | exact decide_eq_true (by omega) | exact decide_eq_false (by omega) | decide | (simp; done) | (simp; omega)) (RD_move rfl) rfl ?_
    refine SQ_one (SA_call rfl (.mk rfl rfl (by first | rfl | exact decide_eq_true (by omega) | exact decide_eq_false (by omega) | decide | (simp; done) | (simp; omega))) Try.call45 (.cons rfl (.nil)) (CallsK.at (clog_Len p (wg1 k.p q))) (lts rfl) ?_)
    rintro _ L16 ⟨rfl, hL16⟩
    refine ⟨.nil, ?_⟩
    refine SQ.lands hL16 ?_
    refine SQ_pyes rfl rfl rfl (by first | rfl | exact decide_eq_true (by omega) | exact decide_eq_false (by omega) | decide | (simp; done) | (simp; omega)) (RD_eql rfl rfl) rfl ?_
    refine SQ_pu rfl (RD_pick_t rfl (by first | rfl | exact decide_eq_true (by omega) | exact decide_eq_false (by omega) | decide | (simp; done) | (simp; omega)) rfl) rfl ?_
    refine SQ_pu rfl (RD_move rfl) rfl ?_
    refine SQ_pyes rfl rfl rfl (by first | rfl | exact decide_eq_true (by omega) | exact decide_eq_false (by omega) | decide | (simp; done) | (simp; omega)) (RD_move rfl) rfl ?_
    refine SQ_yes rfl rfl rfl (by first | rfl | exact decide_eq_true (by omega) | exact decide_eq_false (by omega) | decide | (simp; done) | (simp; omega)) (RD_loadA (vs := EnvD.cells wX) Try.isAgg39 Try.sizeOf39 rfl rfl) Has.wh rfl ?_
    refine SQ_yes rfl rfl rfl (by first | rfl | exact decide_eq_true (by omega) | exact decide_eq_false (by omega) | decide | (simp; done) | (simp; omega)) (RD_loadA (vs := EnvD.cells wY) Try.isAgg39 Try.sizeOf39 rfl rfl) Has.wh rfl ?_
    refine SQ_two ?_ ?_
    · refine SA_call rfl (.mk rfl rfl (by first | rfl | exact decide_eq_true (by omega) | exact decide_eq_false (by omega) | decide | (simp; done) | (simp; omega))) Try.call41 (.cons rfl (.nil)) (CallsK.at (clog_Envs p (wg1 k.p q) (by simp [wg1]))) (lts rfl) ?_
      rintro _ L17 ⟨ea, ec, rfl, hL17⟩
      refine ⟨.lands hL17 (.h Has.wh (.h Has.wh (.nil))), ?_⟩
      refine SQ.lands hL17 ?_
      refine SQ_one (SA_ox rfl (.mk rfl rfl (by first | rfl | exact decide_eq_true (by omega) | exact decide_eq_false (by omega) | decide | (simp; done) | (simp; omega))) (OX_lit Try.underlying31 Try.type39 rfl rfl rfl rfl (.cons rfl (.cons rfl (.nil))) (.cons rfl rfl (.cons rfl rfl (.nil)))) rfl ?_)
      rintro _ _ ⟨b102, rfl, rfl⟩
      refine ⟨.w rfl (.w rfl (.nil)), ?_⟩
      refine SQ_one (SA_call rfl (.mk rfl rfl (by first | rfl | exact decide_eq_true (by omega) | exact decide_eq_false (by omega) | decide | (simp; done) | (simp; omega))) Try.call18 (.cons rfl (.cons rfl (.nil))) (ref_Same14 ea 2 ec [wX, wY] rfl rfl (some ⟨b102, 0, none⟩) 2 2 [wX, wY] rfl rfl (by omega)) (lts rfl) ?_)
      rintro _ L18 ⟨rfl, hL18⟩
      refine ⟨.lands hL18 (.h Has.wh (.h Has.wh (.nil))), ?_⟩
      refine SQ.lands hL18 ?_
      refine SQ_pu rfl (RD_pick_t rfl (by first | rfl | exact decide_eq_true (by omega) | exact decide_eq_false (by omega) | decide | (simp; done) | (simp; omega)) rfl) rfl ?_
      refine SQ_pu rfl (RD_move rfl) rfl ?_
      refine SQ_pyes rfl rfl rfl (by first | rfl | exact decide_eq_true (by omega) | exact decide_eq_false (by omega) | decide | (simp; done) | (simp; omega)) (RD_move rfl) rfl ?_
      refine SQ_pyes rfl rfl rfl (by first | rfl | exact decide_eq_true (by omega) | exact decide_eq_false (by omega) | decide | (simp; done) | (simp; omega)) (RD_move rfl) rfl ?_
      refine SQ_yes rfl rfl rfl (by first | rfl | exact decide_eq_true (by omega) | exact decide_eq_false (by omega) | decide | (simp; done) | (simp; omega)) (RD_loadA (vs := EnvD.cells wY) Try.isAgg39 Try.sizeOf39 rfl rfl) Has.wh rfl ?_
      refine SQ_one (SA_call rfl (.mk rfl rfl (by first | rfl | exact decide_eq_true (by omega) | exact decide_eq_false (by omega) | decide | (simp; done) | (simp; omega))) Try.call29 (.cons rfl (.cons rfl (.nil))) (CallsK.at (w_EnvDigest k ⟨wl6, wS1⟩ wY wYg.2.2 (by simp [wlen]) wl6 3 wnum.2.2.1 wnum.2.1)) (lts rfl) ?_)
      rintro _ L19 ⟨rfl, hL19⟩
      refine ⟨.lands hL19 (.w rfl (.h Has.wh (.h Has.wh (.nil)))), ?_⟩
      refine SQ.lands hL19 ?_
      refine SQ_one (SA_call rfl (.mk rfl rfl (by first | rfl | exact decide_eq_true (by omega) | exact decide_eq_false (by omega) | decide | (simp; done) | (simp; omega))) Try.call47 (.cons rfl (.cons rfl (.nil))) (CallsK.at (clog_Has p (wg1 k.p q) 3)) (lts rfl) ?_)
      rintro _ L20 ⟨rfl, hL20⟩
      refine ⟨.lands hL20 (.h Has.wh (.h Has.wh (.h Has.wh (.nil)))), ?_⟩
      refine SQ.lands hL20 ?_
      refine SQ_pu rfl (RD_pick_t rfl (by first | rfl | exact decide_eq_true (by omega) | exact decide_eq_false (by omega) | decide | (simp; done) | (simp; omega)) rfl) rfl ?_
      refine SQ_pu rfl (RD_move rfl) rfl ?_
      refine SQ_pyes rfl rfl rfl (by first | rfl | exact decide_eq_true (by omega) | exact decide_eq_false (by omega) | decide | (simp; done) | (simp; omega)) (RD_move rfl) rfl ?_
      refine SQ_one (SA_call rfl (.mk rfl rfl (by first | rfl | exact decide_eq_true (by omega) | exact decide_eq_false (by omega) | decide | (simp; done) | (simp; omega))) Try.call47 (.cons rfl (.cons rfl (.nil))) (CallsK.at (clog_Has p (wg1 k.p q) 0)) (lts rfl) ?_)
      rintro _ L21 ⟨rfl, hL21⟩
      refine ⟨.lands hL21 (.h Has.wh (.h Has.wh (.h Has.wh (.nil)))), ?_⟩
      refine SQ.lands hL21 ?_
      refine SQ_pyes rfl rfl rfl (by first | rfl | exact decide_eq_true (by omega) | exact decide_eq_false (by omega) | decide | (simp; done) | (simp; omega)) (RD_not rfl) rfl ?_
      refine SQ_pu rfl (RD_pick_t rfl (by first | rfl | exact decide_eq_true (by omega) | exact decide_eq_false (by omega) | decide | (simp; done) | (simp; omega)) rfl) rfl ?_
      refine SQ_pu rfl (RD_assign rfl) rfl ?_
      refine SQ_nil ?_
      refine SN.le (l := [(0, _)]) ?_ (.cons rfl (.nil))
      refine SN_seq ?_
      refine SC_ret1 rfl rfl ?_
      exact ⟨rfl, .fin⟩
    · refine SA_ox rfl (.mk rfl rfl (by first | rfl | exact decide_eq_true (by omega) | exact decide_eq_false (by omega) | decide | (simp; done) | (simp; omega))) (OX_lit Try.underlying31 Try.type39 rfl rfl rfl rfl (.cons rfl (.cons rfl (.nil))) (.cons rfl rfl (.cons rfl rfl (.nil)))) rfl ?_
      rintro _ _ ⟨b102, rfl, rfl⟩
      refine ⟨.w rfl (.w rfl (.nil)), ?_⟩
      refine SQ_one (SA_call rfl (.mk rfl rfl (by first | rfl | exact decide_eq_true (by omega) | exact decide_eq_false (by omega) | decide | (simp; done) | (simp; omega))) Try.call41 (.cons rfl (.nil)) (CallsK.at (clog_Envs p (wg1 k.p q) (by simp [wg1]))) (lts rfl) ?_)
      rintro _ L17 ⟨ea, ec, rfl, hL17⟩
      refine ⟨.lands hL17 (.h Has.wh (.h Has.wh (.nil))), ?_⟩
      refine SQ.lands hL17 ?_
      refine SQ_one (SA_call rfl (.mk rfl rfl (by first | rfl | exact decide_eq_true (by omega) | exact decide_eq_false (by omega) | decide | (simp; done) | (simp; omega))) Try.call18 (.cons rfl (.cons rfl (.nil))) (ref_Same14 ea 2 ec [wX, wY] rfl rfl (some ⟨b102, 0, none⟩) 2 2 [wX, wY] rfl rfl (by omega)) (lts rfl) ?_)
      rintro _ L18 ⟨rfl, hL18⟩
      refine ⟨.lands hL18 (.h Has.wh (.h Has.wh (.nil))), ?_⟩
      refine SQ.lands hL18 ?_
      refine SQ_pu rfl (RD_pick_t rfl (by first | rfl | exact decide_eq_true (by omega) | exact decide_eq_false (by omega) | decide | (simp; done) | (simp; omega)) rfl) rfl ?_
      refine SQ_pu rfl (RD_move rfl) rfl ?_
      refine SQ_pyes rfl rfl rfl (by first | rfl | exact decide_eq_true (by omega) | exact decide_eq_false (by omega) | decide | (simp; done) | (simp; omega)) (RD_move rfl) rfl ?_
      refine SQ_pyes rfl rfl rfl (by first | rfl | exact decide_eq_true (by omega) | exact decide_eq_false (by omega) | decide | (simp; done) | (simp; omega)) (RD_move rfl) rfl ?_
      refine SQ_yes rfl rfl rfl (by first | rfl | exact decide_eq_true (by omega) | exact decide_eq_false (by omega) | decide | (simp; done) | (simp; omega)) (RD_loadA (vs := EnvD.cells wY) Try.isAgg39 Try.sizeOf39 rfl rfl) Has.wh rfl ?_
      refine SQ_one (SA_call rfl (.mk rfl rfl (by first | rfl | exact decide_eq_true (by omega) | exact decide_eq_false (by omega) | decide | (simp; done) | (simp; omega))) Try.call29 (.cons rfl (.cons rfl (.nil))) (CallsK.at (w_EnvDigest k ⟨wl6, wS1⟩ wY wYg.2.2 (by simp [wlen]) wl6 3 wnum.2.2.1 wnum.2.1)) (lts rfl) ?_)
      rintro _ L19 ⟨rfl, hL19⟩
      refine ⟨.lands hL19 (.w rfl (.h Has.wh (.h Has.wh (.nil)))), ?_⟩
      refine SQ.lands hL19 ?_
      refine SQ_one (SA_call rfl (.mk rfl rfl (by first | rfl | exact decide_eq_true (by omega) | exact decide_eq_false (by omega) | decide | (simp; done) | (simp; omega))) Try.call47 (.cons rfl (.cons rfl (.nil))) (CallsK.at (clog_Has p (wg1 k.p q) 3)) (lts rfl) ?_)
      rintro _ L20 ⟨rfl, hL20⟩
      refine ⟨.lands hL20 (.h Has.wh (.h Has.wh (.h Has.wh (.nil)))), ?_⟩
      refine SQ.lands hL20 ?_
      refine SQ_pu rfl (RD_pick_t rfl (by first | rfl | exact decide_eq_true (by omega) | exact decide_eq_false (by omega) | decide | (simp; done) | (simp; omega)) rfl) rfl ?_
      refine SQ_pu rfl (RD_move rfl) rfl ?_
      refine SQ_pyes rfl rfl rfl (by first | rfl | exact decide_eq_true (by omega) | exact decide_eq_false (by omega) | decide | (simp; done) | (simp; omega)) (RD_move rfl) rfl ?_
      refine SQ_one (SA_call rfl (.mk rfl rfl (by first | rfl | exact decide_eq_true (by omega) | exact decide_eq_false (by omega) | decide | (simp; done) | (simp; omega))) Try.call47 (.cons rfl (.cons rfl (.nil))) (CallsK.at (clog_Has p (wg1 k.p q) 0)) (lts rfl) ?_)
      rintro _ L21 ⟨rfl, hL21⟩
      refine ⟨.lands hL21 (.h Has.wh (.h Has.wh (.h Has.wh (.nil)))), ?_⟩
      refine SQ.lands hL21 ?_
      refine SQ_pyes rfl rfl rfl (by first | rfl | exact decide_eq_true (by omega) | exact decide_eq_false (by omega) | decide | (simp; done) | (simp; omega)) (RD_not rfl) rfl ?_
      refine SQ_pu rfl (RD_pick_t rfl (by first | rfl | exact decide_eq_true (by omega) | exact decide_eq_false (by omega) | decide | (simp; done) | (simp; omega)) rfl) rfl ?_
      refine SQ_pu rfl (RD_assign rfl) rfl ?_
      refine SQ_nil ?_
      refine SN.le (l := [(0, _)]) ?_ (.cons rfl (.nil))
      refine SN_seq ?_
      refine SC_ret1 rfl rfl ?_
      exact ⟨rfl, .fin⟩
  · refine SA_ox rfl .free (OX_lit Try.underlying31 Try.type39 rfl rfl rfl rfl (.cons rfl (.nil)) (.cons rfl rfl (.nil))) rfl ?_
    rintro _ _ ⟨b36, rfl, rfl⟩
    refine ⟨.w rfl (.nil), ?_⟩
    refine SQ_call rfl Try.call34 (.cons rfl (.nil)) (CallsK.at (cert_Root k ⟨wl3, wS1⟩ (by simp [wlen]) wl3 1 wnum.2.2.2.1 wnum.2.2.2.2.1)) (lts rfl) ?_
    rintro _ L5 ⟨rfl, hL5⟩
    refine ⟨.lands hL5 (.h Has.wh (.nil)), ?_⟩
    try dsimp only at hL5
    refine SQ.lands hL5 ?_
    refine SQ_pu rfl (RD_build (.cons rfl (.nil)) built30_1) rfl ?_
    refine SQ_pu rfl (RD_build (.cons rfl (.cons rfl (.cons rfl (.nil)))) built33_0_2_3) rfl ?_
    refine SQ_call rfl Try.call39 (.cons rfl (.cons rfl (.nil))) (CallsK.at2 (tree_Add' q (tS0 k.p) k rfl ⟨wl3, wS1⟩ ⟨1, 0, 0, 1, ⟨none, 0, 0, []⟩, ⟨some ⟨b36, 0, none⟩, 1, 1, [wX]⟩⟩ rfl rfl ⟨rfl, rfl, by simp, by simp, fun e h => by simp at h; subst h; exact wXg.2.2⟩ (by simp [wlen]) 4 0 (vS1 k.p) wl4 ((wT1 k.p).1))) (lts rfl) ?_
    rintro _ L6 ⟨rfl, hL6⟩
    refine ⟨.lands hL6 (.h Has.wh (.nil)), ?_⟩
    try dsimp only at hL6
    refine SQ.lands hL6 ?_
    refine SQ_pu rfl (RD_move rfl) rfl ?_
    refine SQ_pu rfl (RD_extract rfl rfl) rfl ?_
    refine SQ_pu rfl (RD_extract rfl rfl) rfl ?_
    refine SQ_pu rfl (RD_assign rfl) rfl ?_
    refine SQ_pu rfl (RD_assign rfl) rfl ?_
    refine SQ_nil ?_
    refine SN.le (l := [(1, _), (2, _), (3, _), (4, _), (5, _), (6, _)]) ?_ (.cons rfl (.cons rfl (.cons rfl (.cons rfl (.cons rfl (.cons rfl (.nil)))))))
    refine SN_seq ?_
    refine SC_seq ?_
    refine SC_region ?_
    refine SR_pu (RD_move rfl) rfl ?_
    refine SR_pu (RD_move rfl) rfl ?_
    refine SR_pu (RD_build (.cons rfl (.cons rfl (.nil))) built30_0_1) rfl ?_
    refine SR_rd (RD_loadA (vs := EnvD.cells wX) Try.isAgg39 Try.sizeOf39 rfl rfl) Has.wh rfl ?_
    refine SR_rd (RD_loadA (vs := EnvD.cells wY) Try.isAgg39 Try.sizeOf39 rfl rfl) Has.wh rfl ?_
    refine SR_ox (OX_lit Try.underlying31 Try.type39 rfl rfl rfl rfl (.cons rfl (.cons rfl (.nil))) (.cons rfl rfl (.cons rfl rfl (.nil)))) rfl ?_
    rintro _ _ ⟨b47, rfl, rfl⟩
    refine SR_pu (RD_build (.cons rfl (.cons rfl (.cons rfl (.nil)))) built33_0_2_3) rfl ?_
    refine SR_call Try.call39 (.cons rfl (.cons rfl (.nil))) (CallsK.at2 (tree_Add' q (vS1 k.p) k rfl ⟨wl4, wS1⟩ ⟨2, 0, 1, 4, ⟨none, 0, 0, []⟩, ⟨some ⟨b47, 0, none⟩, 2, 2, [wX, wY]⟩⟩ rfl rfl ⟨rfl, rfl, by simp, by simp, fun e h => by simp at h; rcases h with h | h <;> subst h; exact wXg.2.2; exact wYg.2.2⟩ (by simp [wlen]) 5 0 (vS2 k.p) wl5 ((wT2 k.p).1))) (lts rfl) ?_
    rintro _ L7 ⟨rfl, hL7⟩
    try dsimp only at hL7
    refine SR.lands hL7 ?_
    refine SR_pu (RD_move rfl) rfl ?_
    refine SR_pu (RD_extract rfl rfl) rfl ?_
    refine SR_pu (RD_extract rfl rfl) rfl ?_
    refine SR_pu (RD_assign rfl) rfl ?_
    refine SR_pu (RD_assign rfl) rfl ?_
    refine SR_nil ?_
    refine SN.le (l := [(1, _), (2, _), (3, _), (4, _), (5, _), (6, _), (8, _)]) ?_ (.cons rfl (.cons rfl (.cons rfl (.cons rfl (.cons rfl (.cons rfl (.cons rfl (.nil))))))))
    refine SN_seq ?_
    refine SC_seq ?_
    refine SC_region ?_
    refine SR_pu (RD_move rfl) rfl ?_
    refine SR_pu (RD_move rfl) rfl ?_
    refine SR_pu (RD_build (.cons rfl (.cons rfl (.nil))) built30_0_1) rfl ?_
    refine SR_pu (RD_build (.cons rfl (.cons rfl (.nil))) built33_0_2) rfl ?_
    refine SR_call Try.call39 (.cons rfl (.cons rfl (.nil))) (CallsK.at2 (tree_Add' q (vS2 k.p) k rfl ⟨wl5, wS1⟩ ⟨3, 0, 1, 4, ⟨none, 0, 0, []⟩, ⟨none, 0, 0, []⟩⟩ rfl rfl ⟨rfl, rfl, by simp, by simp, fun e h => by simp at h; done⟩ (by simp [wlen]) 6 0 (vS3 k.p) wl6 ((wT3 k.p).1))) (lts rfl) ?_
    rintro _ L8 ⟨rfl, hL8⟩
    try dsimp only at hL8
    refine SR.lands hL8 ?_
    refine SR_pu (RD_move rfl) rfl ?_
    refine SR_pu (RD_extract rfl rfl) rfl ?_
    refine SR_pu (RD_extract rfl rfl) rfl ?_
    refine SR_pu (RD_assign rfl) rfl ?_
    refine SR_pu (RD_assign rfl) rfl ?_
    refine SR_nil ?_
    refine SN.le (l := [(1, _), (3, _), (4, _), (5, _), (6, _), (8, _), (10, _)]) ?_ (.cons rfl (.cons rfl (.cons rfl (.cons rfl (.cons rfl (.cons rfl (.cons rfl (.nil))))))))
    refine SN_seq ?_
    refine SC_seq ?_
    refine SC_drawn (.cons 0 true (.cons 2 true (.cons 1 false (.cons 3 false (.cons 4 true (.cons 5 true (.cons 6 true (.cons 7 true (.cons 8 false (.cons 9 true (.cons 10 true (.cons 11 true (.cons 12 true (.cons 13 false (.cons 14 true (.cons 15 true (.cons 16 true (.cons 17 true (.cons 18 false (.cons 19 true (.cons 20 true (.cons 21 true (.cons 22 true (.cons 23 false (.cons 24 true (.cons 25 true (.cons 26 true (.cons 27 true (.cons 29 true (.cons 28 false (.cons 30 true (.cons 31 true (.cons 32 true (.cons 33 true (.cons 34 false (.cons 35 true (.cons 36 true (.cons 37 true (.cons 38 true (.cons 40 true (.cons 41 true (.alts [39, 42] (fun i => bif Nat.beq i 39 then (.cons 42 false (.cons 43 false (.cons 44 true (.cons 45 true (.cons 46 true (.cons 47 true (.cons 48 true (.cons 49 false (.cons 50 false (.cons 51 true (.cons 52 true (.cons 53 true (.cons 54 false (.cons 55 true (.cons 56 true (.cons 57 true (.nil))))))))))))))))) else (.cons 39 false (.cons 43 false (.cons 44 true (.cons 45 true (.cons 46 true (.cons 47 true (.cons 48 true (.cons 49 false (.cons 50 false (.cons 51 true (.cons 52 true (.cons 53 true (.cons 54 false (.cons 55 true (.cons 56 true (.cons 57 true (.nil)))))))))))))))))))))))))))))))))))))))))))))))))))))))))))) (by kernel_rfl) (by kernel_rfl) ?_
    refine SQ_pu rfl (RD_move rfl) rfl ?_
    refine SQ_pu rfl (RD_move rfl) rfl ?_
    refine SQ_call rfl Try.call42 (.cons rfl (.nil)) (CallsK.at (clog_Tip p (wg0 k.p q))) (lts rfl) ?_
    rintro _ L9 ⟨rfl, hL9⟩
    refine ⟨.nil, ?_⟩
    refine SQ.lands hL9 ?_
    refine SQ_call rfl Try.call34 (.cons rfl (.nil)) (CallsK.at (cert_Root k ⟨wl6, wS1⟩ (by simp [wlen]) wl6 1 wnum.2.2.2.2.2.1 wnum.2.2.2.2.2.2.1)) (lts rfl) ?_
    rintro _ L10 ⟨rfl, hL10⟩
    refine ⟨.nil, ?_⟩
    try dsimp only at hL10
    refine SQ.lands hL10 ?_
    refine SQ_pu rfl (RD_eql rfl rfl) rfl ?_
    refine SQ_pu rfl (RD_move rfl) rfl ?_
    refine SQ_pyes rfl rfl rfl (by first | rfl | exact decide_eq_true (by omega) | exact decide_eq_false (by omega) | decide | (simp; done) | (simp; omega)) (RD_move rfl) rfl ?_
    refine SQ_pyes rfl rfl rfl (by first | rfl | exact decide_eq_true (by omega) | exact decide_eq_false (by omega) | decide | (simp; done) | (simp; omega)) (RD_move rfl) rfl ?_
    refine SQ_one (SA_call rfl (.mk rfl rfl (by first | rfl | exact decide_eq_true (by omega) | exact decide_eq_false (by omega) | decide | (simp; done) | (simp; omega))) Try.call40 (.cons rfl (.cons rfl (.nil))) (CallsK.at3 (clog_Commit_yes' p q (wg0 k.p q) rfl (vS3 k.p) k ⟨wl6, wS1⟩ rfl (wT3 k.p).2.2 5 ⟨_, rfl⟩ ⟨_, rfl⟩ (by simp [vS3, mget, viewOf, wA, wB, wC]) (by simp [vS3, mget, viewOf, wg0, zBlk]) (wAr k.p) (by simp [wg0]) (by simp [wlen]) true (wg1 k.p q) (wc1 k.p q k.p))) (lts rfl) ?_)
    rintro _ L11 ⟨rfl, hL11⟩
    refine ⟨.nil, ?_⟩
    refine SQ.lands hL11 ?_
    refine SQ_pu rfl (RD_pick_t rfl (by first | rfl | exact decide_eq_true (by omega) | exact decide_eq_false (by omega) | decide | (simp; done) | (simp; omega)) rfl) rfl ?_
    refine SQ_pu rfl (RD_move rfl) rfl ?_
    refine SQ_pyes rfl rfl rfl (by first | rfl | exact decide_eq_true (by omega) | exact decide_eq_false (by omega) | decide | (simp; done) | (simp; omega)) (RD_move rfl) rfl ?_
    refine SQ_pyes rfl rfl rfl (by first | rfl | exact decide_eq_true (by omega) | exact decide_eq_false (by omega) | decide | (simp; done) | (simp; omega)) (RD_move rfl) rfl ?_
    refine SQ_one (SA_call rfl (.mk rfl rfl (by first | rfl | exact decide_eq_true (by omega) | exact decide_eq_false (by omega) | decide | (simp; done) | (simp; omega))) Try.call40 (.cons rfl (.cons rfl (.nil))) (CallsK.at3 (clog_Commit_yes' p q (wg1 k.p q) rfl (vS3 k.p) k ⟨wl6, wS1⟩ rfl (wT3 k.p).2.2 4 ⟨_, rfl⟩ ⟨_, rfl⟩ (by simp [vS3, mget, viewOf, wA, wB, wC]) (by simp [vS3, mget, viewOf, wg1, wA, wB]) (wAr k.p) (by simp [wg1]) (by simp [wlen]) true (wg1 k.p q) (wc2 k.p q k.p))) (lts rfl) ?_)
    rintro _ L12 ⟨rfl, hL12⟩
    refine ⟨.nil, ?_⟩
    refine SQ.lands hL12 ?_
    refine SQ_pu rfl (RD_pick_t rfl (by first | rfl | exact decide_eq_true (by omega) | exact decide_eq_false (by omega) | decide | (simp; done) | (simp; omega)) rfl) rfl ?_
    refine SQ_pu rfl (RD_move rfl) rfl ?_
    refine SQ_pyes rfl rfl rfl (by first | rfl | exact decide_eq_true (by omega) | exact decide_eq_false (by omega) | decide | (simp; done) | (simp; omega)) (RD_move rfl) rfl ?_
    refine SQ_pyes rfl rfl rfl (by first | rfl | exact decide_eq_true (by omega) | exact decide_eq_false (by omega) | decide | (simp; done) | (simp; omega)) (RD_move rfl) rfl ?_
    refine SQ_one (SA_call rfl (.mk rfl rfl (by first | rfl | exact decide_eq_true (by omega) | exact decide_eq_false (by omega) | decide | (simp; done) | (simp; omega))) Try.call40 (.cons rfl (.cons rfl (.nil))) (CallsK.at3 (clog_Commit_yes' p q (wg1 k.p q) rfl (vS3 k.p) k ⟨wl6, wS1⟩ rfl (wT3 k.p).2.2 6 ⟨_, rfl⟩ ⟨_, rfl⟩ (by simp [vS3, mget, viewOf, wA, wB, wC]) (by simp [vS3, mget, viewOf, wg1, wA, wB]) (wAr k.p) (by simp [wg1]) (by simp [wlen]) false (wg1 k.p q) (wc3 k.p q k.p))) (lts rfl) ?_)
    rintro _ L13 ⟨rfl, hL13⟩
    refine ⟨.nil, ?_⟩
    refine SQ.lands hL13 ?_
    refine SQ_pyes rfl rfl rfl (by first | rfl | exact decide_eq_true (by omega) | exact decide_eq_false (by omega) | decide | (simp; done) | (simp; omega)) (RD_not rfl) rfl ?_
    refine SQ_pu rfl (RD_pick_t rfl (by first | rfl | exact decide_eq_true (by omega) | exact decide_eq_false (by omega) | decide | (simp; done) | (simp; omega)) rfl) rfl ?_
    refine SQ_pu rfl (RD_move rfl) rfl ?_
    refine SQ_pyes rfl rfl rfl (by first | rfl | exact decide_eq_true (by omega) | exact decide_eq_false (by omega) | decide | (simp; done) | (simp; omega)) (RD_move rfl) rfl ?_
    refine SQ_one (SA_call rfl (.mk rfl rfl (by first | rfl | exact decide_eq_true (by omega) | exact decide_eq_false (by omega) | decide | (simp; done) | (simp; omega))) Try.call40 (.cons rfl (.cons rfl (.nil))) (CallsK.at3 (clog_Commit_no' p q (wg1 k.p q) rfl (vS3 k.p) k ⟨wl6, wS1⟩ rfl (wT3 k.p).2.2 99 rfl)) (lts rfl) ?_)
    rintro _ L14 ⟨rfl, hL14⟩
    refine ⟨.nil, ?_⟩
    refine SQ.lands hL14 ?_
    refine SQ_pyes rfl rfl rfl (by first | rfl | exact decide_eq_true (by omega) | exact decide_eq_false (by omega) | decide | (simp; done) | (simp; omega)) (RD_not rfl) rfl ?_
    refine SQ_pu rfl (RD_pick_t rfl (by first | rfl | exact decide_eq_true (by omega) | exact decide_eq_false (by omega) | decide | (simp; done) | (simp; omega)) rfl) rfl ?_
    refine SQ_pu rfl (RD_move rfl) rfl ?_
    refine SQ_pyes rfl rfl rfl (by first | rfl | exact decide_eq_true (by omega) | exact decide_eq_false (by omega) | decide | (simp; done) | (simp; omega)) (RD_move rfl) rfl ?_
    refine SQ_pyes rfl rfl rfl (by first | rfl | exact decide_eq_true (by omega) | exact decide_eq_false (by omega) | decide | (simp; done) | (simp; omega)) (RD_move rfl) rfl ?_
    refine SQ_one (SA_call rfl (.mk rfl rfl (by first | rfl | exact decide_eq_true (by omega) | exact decide_eq_false (by omega) | decide | (simp; done) | (simp; omega))) Try.call42 (.cons rfl (.nil)) (CallsK.at (clog_Tip p (wg1 k.p q))) (lts rfl) ?_)
    rintro _ L15 ⟨rfl, hL15⟩
    refine ⟨.nil, ?_⟩
    refine SQ.lands hL15 ?_
    refine SQ_pyes rfl rfl rfl (by first | rfl | exact decide_eq_true (by omega) | exact decide_eq_false (by omega) | decide | (simp; done) | (simp; omega)) (RD_eql rfl rfl) rfl ?_
    refine SQ_pu rfl (RD_pick_t rfl (by first | rfl | exact decide_eq_true (by omega) | exact decide_eq_false (by omega) | decide | (simp; done) | (simp; omega)) rfl) rfl ?_
    refine SQ_pu rfl (RD_move rfl) rfl ?_
    refine SQ_pyes rfl rfl rfl (by first | rfl | exact decide_eq_true (by omega) | exact decide_eq_false (by omega) | decide | (simp; done) | (simp; omega)) (RD_move rfl) rfl ?_
    refine SQ_one (SA_call rfl (.mk rfl rfl (by first | rfl | exact decide_eq_true (by omega) | exact decide_eq_false (by omega) | decide | (simp; done) | (simp; omega))) Try.call45 (.cons rfl (.nil)) (CallsK.at (clog_Len p (wg1 k.p q))) (lts rfl) ?_)
    rintro _ L16 ⟨rfl, hL16⟩
    refine ⟨.nil, ?_⟩
    refine SQ.lands hL16 ?_
    refine SQ_pyes rfl rfl rfl (by first | rfl | exact decide_eq_true (by omega) | exact decide_eq_false (by omega) | decide | (simp; done) | (simp; omega)) (RD_eql rfl rfl) rfl ?_
    refine SQ_pu rfl (RD_pick_t rfl (by first | rfl | exact decide_eq_true (by omega) | exact decide_eq_false (by omega) | decide | (simp; done) | (simp; omega)) rfl) rfl ?_
    refine SQ_pu rfl (RD_move rfl) rfl ?_
    refine SQ_pyes rfl rfl rfl (by first | rfl | exact decide_eq_true (by omega) | exact decide_eq_false (by omega) | decide | (simp; done) | (simp; omega)) (RD_move rfl) rfl ?_
    refine SQ_yes rfl rfl rfl (by first | rfl | exact decide_eq_true (by omega) | exact decide_eq_false (by omega) | decide | (simp; done) | (simp; omega)) (RD_loadA (vs := EnvD.cells wX) Try.isAgg39 Try.sizeOf39 rfl rfl) Has.wh rfl ?_
    refine SQ_yes rfl rfl rfl (by first | rfl | exact decide_eq_true (by omega) | exact decide_eq_false (by omega) | decide | (simp; done) | (simp; omega)) (RD_loadA (vs := EnvD.cells wY) Try.isAgg39 Try.sizeOf39 rfl rfl) Has.wh rfl ?_
    refine SQ_two ?_ ?_
    · refine SA_call rfl (.mk rfl rfl (by first | rfl | exact decide_eq_true (by omega) | exact decide_eq_false (by omega) | decide | (simp; done) | (simp; omega))) Try.call41 (.cons rfl (.nil)) (CallsK.at (clog_Envs p (wg1 k.p q) (by simp [wg1]))) (lts rfl) ?_
      rintro _ L17 ⟨ea, ec, rfl, hL17⟩
      refine ⟨.lands hL17 (.h Has.wh (.h Has.wh (.nil))), ?_⟩
      refine SQ.lands hL17 ?_
      refine SQ_one (SA_ox rfl (.mk rfl rfl (by first | rfl | exact decide_eq_true (by omega) | exact decide_eq_false (by omega) | decide | (simp; done) | (simp; omega))) (OX_lit Try.underlying31 Try.type39 rfl rfl rfl rfl (.cons rfl (.cons rfl (.nil))) (.cons rfl rfl (.cons rfl rfl (.nil)))) rfl ?_)
      rintro _ _ ⟨b102, rfl, rfl⟩
      refine ⟨.w rfl (.w rfl (.nil)), ?_⟩
      refine SQ_one (SA_call rfl (.mk rfl rfl (by first | rfl | exact decide_eq_true (by omega) | exact decide_eq_false (by omega) | decide | (simp; done) | (simp; omega))) Try.call18 (.cons rfl (.cons rfl (.nil))) (ref_Same14 ea 2 ec [wX, wY] rfl rfl (some ⟨b102, 0, none⟩) 2 2 [wX, wY] rfl rfl (by omega)) (lts rfl) ?_)
      rintro _ L18 ⟨rfl, hL18⟩
      refine ⟨.lands hL18 (.h Has.wh (.h Has.wh (.nil))), ?_⟩
      refine SQ.lands hL18 ?_
      refine SQ_pu rfl (RD_pick_t rfl (by first | rfl | exact decide_eq_true (by omega) | exact decide_eq_false (by omega) | decide | (simp; done) | (simp; omega)) rfl) rfl ?_
      refine SQ_pu rfl (RD_move rfl) rfl ?_
      refine SQ_pyes rfl rfl rfl (by first | rfl | exact decide_eq_true (by omega) | exact decide_eq_false (by omega) | decide | (simp; done) | (simp; omega)) (RD_move rfl) rfl ?_
      refine SQ_pyes rfl rfl rfl (by first | rfl | exact decide_eq_true (by omega) | exact decide_eq_false (by omega) | decide | (simp; done) | (simp; omega)) (RD_move rfl) rfl ?_
      refine SQ_yes rfl rfl rfl (by first | rfl | exact decide_eq_true (by omega) | exact decide_eq_false (by omega) | decide | (simp; done) | (simp; omega)) (RD_loadA (vs := EnvD.cells wY) Try.isAgg39 Try.sizeOf39 rfl rfl) Has.wh rfl ?_
      refine SQ_one (SA_call rfl (.mk rfl rfl (by first | rfl | exact decide_eq_true (by omega) | exact decide_eq_false (by omega) | decide | (simp; done) | (simp; omega))) Try.call29 (.cons rfl (.cons rfl (.nil))) (CallsK.at (w_EnvDigest k ⟨wl6, wS1⟩ wY wYg.2.2 (by simp [wlen]) wl6 3 wnum.2.2.1 wnum.2.1)) (lts rfl) ?_)
      rintro _ L19 ⟨rfl, hL19⟩
      refine ⟨.lands hL19 (.w rfl (.h Has.wh (.h Has.wh (.nil)))), ?_⟩
      refine SQ.lands hL19 ?_
      refine SQ_one (SA_call rfl (.mk rfl rfl (by first | rfl | exact decide_eq_true (by omega) | exact decide_eq_false (by omega) | decide | (simp; done) | (simp; omega))) Try.call47 (.cons rfl (.cons rfl (.nil))) (CallsK.at (clog_Has p (wg1 k.p q) 3)) (lts rfl) ?_)
      rintro _ L20 ⟨rfl, hL20⟩
      refine ⟨.lands hL20 (.h Has.wh (.h Has.wh (.h Has.wh (.nil)))), ?_⟩
      refine SQ.lands hL20 ?_
      refine SQ_pu rfl (RD_pick_t rfl (by first | rfl | exact decide_eq_true (by omega) | exact decide_eq_false (by omega) | decide | (simp; done) | (simp; omega)) rfl) rfl ?_
      refine SQ_pu rfl (RD_move rfl) rfl ?_
      refine SQ_pyes rfl rfl rfl (by first | rfl | exact decide_eq_true (by omega) | exact decide_eq_false (by omega) | decide | (simp; done) | (simp; omega)) (RD_move rfl) rfl ?_
      refine SQ_one (SA_call rfl (.mk rfl rfl (by first | rfl | exact decide_eq_true (by omega) | exact decide_eq_false (by omega) | decide | (simp; done) | (simp; omega))) Try.call47 (.cons rfl (.cons rfl (.nil))) (CallsK.at (clog_Has p (wg1 k.p q) 0)) (lts rfl) ?_)
      rintro _ L21 ⟨rfl, hL21⟩
      refine ⟨.lands hL21 (.h Has.wh (.h Has.wh (.h Has.wh (.nil)))), ?_⟩
      refine SQ.lands hL21 ?_
      refine SQ_pyes rfl rfl rfl (by first | rfl | exact decide_eq_true (by omega) | exact decide_eq_false (by omega) | decide | (simp; done) | (simp; omega)) (RD_not rfl) rfl ?_
      refine SQ_pu rfl (RD_pick_t rfl (by first | rfl | exact decide_eq_true (by omega) | exact decide_eq_false (by omega) | decide | (simp; done) | (simp; omega)) rfl) rfl ?_
      refine SQ_pu rfl (RD_assign rfl) rfl ?_
      refine SQ_nil ?_
      refine SN.le (l := [(0, _)]) ?_ (.cons rfl (.nil))
      refine SN_seq ?_
      refine SC_ret1 rfl rfl ?_
      exact ⟨rfl, .fin⟩
    · refine SA_ox rfl (.mk rfl rfl (by first | rfl | exact decide_eq_true (by omega) | exact decide_eq_false (by omega) | decide | (simp; done) | (simp; omega))) (OX_lit Try.underlying31 Try.type39 rfl rfl rfl rfl (.cons rfl (.cons rfl (.nil))) (.cons rfl rfl (.cons rfl rfl (.nil)))) rfl ?_
      rintro _ _ ⟨b102, rfl, rfl⟩
      refine ⟨.w rfl (.w rfl (.nil)), ?_⟩
      refine SQ_one (SA_call rfl (.mk rfl rfl (by first | rfl | exact decide_eq_true (by omega) | exact decide_eq_false (by omega) | decide | (simp; done) | (simp; omega))) Try.call41 (.cons rfl (.nil)) (CallsK.at (clog_Envs p (wg1 k.p q) (by simp [wg1]))) (lts rfl) ?_)
      rintro _ L17 ⟨ea, ec, rfl, hL17⟩
      refine ⟨.lands hL17 (.h Has.wh (.h Has.wh (.nil))), ?_⟩
      refine SQ.lands hL17 ?_
      refine SQ_one (SA_call rfl (.mk rfl rfl (by first | rfl | exact decide_eq_true (by omega) | exact decide_eq_false (by omega) | decide | (simp; done) | (simp; omega))) Try.call18 (.cons rfl (.cons rfl (.nil))) (ref_Same14 ea 2 ec [wX, wY] rfl rfl (some ⟨b102, 0, none⟩) 2 2 [wX, wY] rfl rfl (by omega)) (lts rfl) ?_)
      rintro _ L18 ⟨rfl, hL18⟩
      refine ⟨.lands hL18 (.h Has.wh (.h Has.wh (.nil))), ?_⟩
      refine SQ.lands hL18 ?_
      refine SQ_pu rfl (RD_pick_t rfl (by first | rfl | exact decide_eq_true (by omega) | exact decide_eq_false (by omega) | decide | (simp; done) | (simp; omega)) rfl) rfl ?_
      refine SQ_pu rfl (RD_move rfl) rfl ?_
      refine SQ_pyes rfl rfl rfl (by first | rfl | exact decide_eq_true (by omega) | exact decide_eq_false (by omega) | decide | (simp; done) | (simp; omega)) (RD_move rfl) rfl ?_
      refine SQ_pyes rfl rfl rfl (by first | rfl | exact decide_eq_true (by omega) | exact decide_eq_false (by omega) | decide | (simp; done) | (simp; omega)) (RD_move rfl) rfl ?_
      refine SQ_yes rfl rfl rfl (by first | rfl | exact decide_eq_true (by omega) | exact decide_eq_false (by omega) | decide | (simp; done) | (simp; omega)) (RD_loadA (vs := EnvD.cells wY) Try.isAgg39 Try.sizeOf39 rfl rfl) Has.wh rfl ?_
      refine SQ_one (SA_call rfl (.mk rfl rfl (by first | rfl | exact decide_eq_true (by omega) | exact decide_eq_false (by omega) | decide | (simp; done) | (simp; omega))) Try.call29 (.cons rfl (.cons rfl (.nil))) (CallsK.at (w_EnvDigest k ⟨wl6, wS1⟩ wY wYg.2.2 (by simp [wlen]) wl6 3 wnum.2.2.1 wnum.2.1)) (lts rfl) ?_)
      rintro _ L19 ⟨rfl, hL19⟩
      refine ⟨.lands hL19 (.w rfl (.h Has.wh (.h Has.wh (.nil)))), ?_⟩
      refine SQ.lands hL19 ?_
      refine SQ_one (SA_call rfl (.mk rfl rfl (by first | rfl | exact decide_eq_true (by omega) | exact decide_eq_false (by omega) | decide | (simp; done) | (simp; omega))) Try.call47 (.cons rfl (.cons rfl (.nil))) (CallsK.at (clog_Has p (wg1 k.p q) 3)) (lts rfl) ?_)
      rintro _ L20 ⟨rfl, hL20⟩
      refine ⟨.lands hL20 (.h Has.wh (.h Has.wh (.h Has.wh (.nil)))), ?_⟩
      refine SQ.lands hL20 ?_
      refine SQ_pu rfl (RD_pick_t rfl (by first | rfl | exact decide_eq_true (by omega) | exact decide_eq_false (by omega) | decide | (simp; done) | (simp; omega)) rfl) rfl ?_
      refine SQ_pu rfl (RD_move rfl) rfl ?_
      refine SQ_pyes rfl rfl rfl (by first | rfl | exact decide_eq_true (by omega) | exact decide_eq_false (by omega) | decide | (simp; done) | (simp; omega)) (RD_move rfl) rfl ?_
      refine SQ_one (SA_call rfl (.mk rfl rfl (by first | rfl | exact decide_eq_true (by omega) | exact decide_eq_false (by omega) | decide | (simp; done) | (simp; omega))) Try.call47 (.cons rfl (.cons rfl (.nil))) (CallsK.at (clog_Has p (wg1 k.p q) 0)) (lts rfl) ?_)
      rintro _ L21 ⟨rfl, hL21⟩
      refine ⟨.lands hL21 (.h Has.wh (.h Has.wh (.h Has.wh (.nil)))), ?_⟩
      refine SQ.lands hL21 ?_
      refine SQ_pyes rfl rfl rfl (by first | rfl | exact decide_eq_true (by omega) | exact decide_eq_false (by omega) | decide | (simp; done) | (simp; omega)) (RD_not rfl) rfl ?_
      refine SQ_pu rfl (RD_pick_t rfl (by first | rfl | exact decide_eq_true (by omega) | exact decide_eq_false (by omega) | decide | (simp; done) | (simp; omega)) rfl) rfl ?_
      refine SQ_pu rfl (RD_assign rfl) rfl ?_
      refine SQ_nil ?_
      refine SN.le (l := [(0, _)]) ?_ (.cons rfl (.nil))
      refine SN_seq ?_
      refine SC_ret1 rfl rfl ?_
      exact ⟨rfl, .fin⟩

end Go.Proofs.Ytnifaajdiolbjaa
