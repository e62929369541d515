/- What is fixed grows along ways, takes no envelope twice, and never goes back: the statement. -/
import Derived.Test.YtnifaajdiolbjaaPw
namespace Go.Proofs.Ytnifaajdiolbjaa
open Go Go.Proofs
set_option maxRecDepth 100000
def fo (i : Nat) : List EnvD := (List.range i).map fun j : Nat => ⟨(j : Int) % 4, (j : Int), 1, ((j + 1 : Nat) : Int)⟩
theorem fo_succ (i : Nat) : fo (i + 1) = fo i ++ [⟨(i : Int) % 4, (i : Int), 1, ((i + 1 : Nat) : Int)⟩] := by simp [fo, List.range_succ]
theorem fo_len (i : Nat) : (fo i).length = i := by simp [fo]
theorem fo_good {e : EnvD} (h : e ∈ fo 6) : e.Good := by
  simp only [fo, List.mem_map, List.mem_range] at h
  obtain ⟨j, hj, rfl⟩ := h
  exact ⟨by unfold I64; dsimp only; omega, by unfold I64; dsimp only; omega, ⟨by dsimp only; omega, by dsimp only; omega⟩⟩
/-- A block as it stands in a row of blocks. -/
abbrev BE : Type := Blk × Option Addr × Nat
def beC (y : BE) : List Value := [.int .i64 y.1.view, .int .i64 y.1.author, .int .i64 y.1.jv, .int .i64 y.1.jb, .slice none 0 0, .slice y.2.1 y.1.envs.length y.2.2]
instance onesBE (y : BE) : Ones (beC y) := by unfold beC; infer_instance
instance onesBEs (l : List BE) : Ones (l.flatMap beC) := ⟨fun v hv => by
  obtain ⟨e, _, he⟩ := List.mem_flatMap.1 hv
  exact (onesBE e).h v he⟩
theorem be_get {l : List BE} {i : Nat} {e : BE} (h : l[i]? = some e) (o : Nat) (ho : o < 6) : (l.flatMap beC)[i * 6 + o]? = (beC e)[o]? := by
  induction l generalizing i with
  | nil => simp at h
  | cons x l ih =>
    cases i with
    | zero => simp at h; subst h; rw [List.flatMap_cons, Nat.zero_mul, Nat.zero_add, List.getElem?_append_left (by show o < 6; exact ho)]
    | succ i =>
      rw [List.flatMap_cons, List.getElem?_append_right (by show 6 ≤ _; omega), show (beC x).length = 6 from rfl, show (i + 1) * 6 + o - 6 = i * 6 + o by omega]
      exact ih (by simpa using h)
theorem be_len (l : List BE) : (l.flatMap beC).length = l.length * 6 := by
  induction l with
  | nil => rfl
  | cons x l ih => rw [List.flatMap_cons, List.length_append, ih, show (beC x).length = 6 from rfl, List.length_cons]; omega
theorem be_blk {l : List BE} {i : Nat} {b : Blk} (h : (l.map (·.1))[i]? = some b) : ∃ y, l[i]? = some y ∧ y.1 = b := by
  rw [List.getElem?_map] at h
  obtain ⟨y, h1, h2⟩ := Option.map_eq_some_iff.1 h
  exact ⟨y, h1, h2⟩
theorem phasRow_slice {L : List HProp} {a : Option Addr} {cs : List Value} {z c : Nat} [h : HasRow L a cs] (d k : Nat) (hk : d + k ≤ c) : HasRow L (sBase a d z c) ((cs.drop (d * z)).take (k * z)) := by
  by_cases hc : c = d
  · obtain rfl : k = 0 := by omega
    have e : sBase a d z c = a := if_pos hc
    rw [e]
    exact hasRow_take 0 (by simp)
  · have e : sBase a d z c = a.map (·.add (d * z)) := if_neg hc
    rw [e]
    exact ⟨⟨rowR.up, fun q hq => rowR_slice (h.r.2 q hq) (d * z) (k * z)⟩⟩
theorem pRD_cutLH {P : Program} {l : Env} {ty : TypeId} {x lo hi : Operand} {t e z m c : Nat} {a : Option Addr} {kl kh : IntKind} {il ih : Int} (d k : Nat) (hs : ∀ w, (underlying t).run P w = .ok (.slice e) w) (hz : ∀ w, (sizeOf e).run P w = .ok z w)
    (hx : ev l x = some (.slice a m c)) (hl : ev l lo = some (.int kl il)) (hh : ev l hi = some (.int kh ih)) (e1 : il = (d : Int)) (e2 : ih = ((d + k : Nat) : Int)) (h2 : d + k ≤ c) : RD P l (.slice t x (some lo) (some hi) none) ty RU (.slice (sBase a d z c) k (c - d)) := by
  subst e1; subst e2
  have := RD_slice (P := P) (l := l) (ty := ty) (km := .i64) (im := c) hs hz hx (.inr ⟨lo, rfl, hl⟩) (.inr ⟨hi, rfl, hh⟩) (.inl ⟨rfl, rfl⟩) (by omega) (by omega) (by omega) (Int.le_refl _)
  have e3 : ((d + k : Nat) : Int).toNat - (d : Int).toNat = k := by omega
  rw [e3] at this
  simpa using this
theorem env_one {l : List EnvD} {j : Nat} {e : EnvD} (h : l[j]? = some e) : [e].flatMap EnvD.cells = ((l.flatMap EnvD.cells).drop (j * 4)).take (1 * 4) := by
  induction l generalizing j with
  | nil => simp at h
  | cons x l ih =>
    cases j with
    | zero => simp at h; subst h; simp [EnvD.cells]
    | succ j =>
      rw [ih (by simpa using h), List.flatMap_cons, show (j + 1) * 4 = x.cells.length + j * 4 by rw [EnvD.cells_len]; omega, List.drop_length_add_append]
theorem grow_has {l : List (List UInt8)} {es : List EnvD} {e : EnvD} (hes : EG l es) (he : e.Good) : decide (((dnum l (envB e) : Nat) : Int) ∈ numsE l es) = decide ((((growE es [e]).length : Nat) : Int) = (es.length : Nat)) := by
  refine decide_eq_decide.2 ?_
  rw [numE_mem hes he, growE_one]
  by_cases h : e ∈ es
  · simp [h]
  · simp [h]; omega
theorem gW_mem {bs : List Blk} {Q : EnvD → Prop} (h : ∀ b ∈ bs, ∀ e ∈ b.envs, Q e) : ∀ (P : List Nat) (es : List EnvD), (∀ e ∈ es, Q e) → ∀ e ∈ gW bs es P, Q e
  | [], _, he => he
  | z :: P, es, he => gW_mem h P _ fun e hm => (growE_mem.1 hm).elim (he e) fun h2 => by
    cases hz : bs[z]? with
    | none => rw [hz] at h2; simp at h2
    | some b => rw [hz] at h2; exact h b (List.mem_of_getElem? hz) e h2
theorem gW_nodup {bs : List Blk} : ∀ (P : List Nat) (es : List EnvD), es.Nodup → (gW bs es P).Nodup
  | [], _, he => he
  | _ :: P, _, he => gW_nodup P _ (growE_nodup _ _ he)
theorem gW_snoc (bs : List Blk) (es : List EnvD) (P : List Nat) (z : Nat) : gW bs es (P ++ [z]) = growE (gW bs es P) (bs[z]?.elim [] Blk.envs) := by simp [gW]
theorem PB.small {w : Nat} {s : TS} {l : List (List UInt8)} {ds : List Int} {bs : List Blk} (h : PB w s l ds bs) {d : Int} {b : Blk} (hd : mget s.T d = some b) : d ≤ l.length := by
  by_cases hr : d = s.root
  · rw [hr, h.tl.root]; have := dnum_le l rootB; omega
  · rw [(h.tl.blk d b hd hr).2.2.2]; have := dnum_le l (blkB l b); omega
theorem PB.vws {w : Nat} {s : TS} {l : List (List UInt8)} {ds : List Int} {bs : List Blk} (h : PB w s l ds bs) (hn : bs.length ≤ 50) (d : Int) : (viewOf (mget s.T d)).toNat ≤ 1000 := by
  cases hd : mget s.T d with
  | none => simp [viewOf]
  | some b =>
    obtain ⟨j, hj, e⟩ := List.getElem_of_mem (h.mem d b hd)
    have hlen := h.len
    have hb := h.get j d _ (by rw [List.getElem?_eq_getElem hj, e]) (List.getElem?_eq_getElem (by omega))
    rw [hd] at hb
    have := h.vw _ (List.getElem_mem (l := bs) (n := j) (by omega))
    rw [← Option.some.inj hb] at this
    simp [viewOf]; omega
theorem PB.arena {w : Nat} {s : TS} {l : List (List UInt8)} {ds : List Int} {bs : List Blk} (h : PB w s l ds bs) : ∀ x b, mget s.T x = some b → ∀ e ∈ b.envs, envB e ∈ l := fun d b hd e he => by
  obtain ⟨j, hj, e2⟩ := List.getElem_of_mem (h.mem d b hd)
  have hlen := h.len
  have hb := h.get j d _ (by rw [List.getElem?_eq_getElem hj, e2]) (List.getElem?_eq_getElem (by omega))
  rw [hd] at hb
  have hm := h.eg _ (List.getElem_mem (l := bs) (n := j) (by omega))
  rw [← Option.some.inj hb] at hm
  exact (hm e he).2
structure PQ (w : Nat) (F : List HProp) (a0 : Option Addr) (l0 : List Int) (a1 : Option Addr) (l1 : List Int) (a2 : Option Addr) (l2 : List Int) (x : Nat × TS × List (List UInt8) × List Int × List BE × List HProp) : Prop where
  abs : Abs x.2.2.2.2.2
  lands : Lands x.2.2.2.2.2 F
  rows : ∀ (i : Nat) y, x.2.2.2.2.1[i]? = some y → HasRow x.2.2.2.2.2 y.2.1 (y.1.envs.flatMap EnvD.cells)
  pb : PB w x.2.1 x.2.2.1 x.2.2.2.1 (x.2.2.2.2.1.map (·.1))
  hl : x.2.2.1.length ≤ 10 + 10 * x.1
  n : x.2.2.2.2.1.length = x.1 + 1
  few : ∀ y ∈ x.2.2.2.2.1, (∀ e ∈ y.1.envs, e ∈ fo 6) ∧ y.1.envs.length ≤ 6
  fe : ∀ e ∈ fo 6, envB e ∈ x.2.2.1
  r0 : HasRow x.2.2.2.2.2 a0 (l0.map intV)
  r1 : HasRow x.2.2.2.2.2 a1 (l1.map intV)
  r2 : HasRow x.2.2.2.2.2 a2 (l2.map intV)

theorem ref_grow1 {W : World} {F : List HProp} [Abs F] (a : Option Addr) (n c : Nat) (xs : List EnvD) (hn : xs.length = n) [HasRow F a (xs.flatMap EnvD.cells)] (fa : Option Addr) (fc : Nat) (ys : List EnvD) [HasRow F fa (ys.flatMap EnvD.cells)] (j : Nat) (e : EnvD) (he : ys[j]? = some e) (hfc : ys.length ≤ fc) (hb : n ≤ 100000) :
    CallsK W Try.prog 44 #[.slice a n c, .slice (sBase fa j 4 fc) 1 (fc - j)] F (fun v L => ∃ oa oc, v = .slice oa (growE xs [e]).length oc ∧ Lands L (rowP 39 4 oa (growE xs [e]).length oc ((growE xs [e]).flatMap EnvD.cells) :: F)) := by
  have hj := (List.getElem?_eq_some_iff.1 he).1
  haveI : HasRow F (sBase fa j 4 fc) ([e].flatMap EnvD.cells) := by rw [env_one he]; exact phasRow_slice (z := 4) j 1 (by omega)
  exact ref_grow a n c xs rfl hn (sBase fa j 4 fc) 1 (fc - j) [e] rfl rfl hb (by omega)

set_option maxHeartbeats 2000000 in
theorem law_ClogPlays {W : World} {F : List HProp} [Abs F] (a0 : Option Addr) (n0 c0 : Nat) (l0 : List Int) [HasRow F a0 (l0.map intV)] (hn0 : l0.length = n0) (a1 : Option Addr) (n1 c1 : Nat) (l1 : List Int) [HasRow F a1 (l1.map intV)] (hn1 : l1.length = n1) (a2 : Option Addr) (n2 c2 : Nat) (l2 : List Int) [HasRow F a2 (l2.map intV)] (hn2 : l2.length = n2) :
    CallsK W Try.prog 8 #[.slice a0 n0 c0, .slice a1 n1 c1, .slice a2 n2 c2] (F) (fun v L => v = .bool true ∧ Lands L F) := by
  refine CallsK_enter (n := 289) Try.func8 rfl rfl rfl ?_
  refine SC_seq ?_
  refine SC_region ?_
  refine SR_pu (RD_assign rfl) rfl ?_
  refine SR_nil ?_
  refine SN.le (l := [(0, _), (1, _), (2, _)]) ?_ (.cons rfl (.cons rfl (.cons rfl (.nil))))
  refine SN_seq ?_
  refine SC_seq ?_
  refine SC_region ?_
  refine SR_call Try.call16 (.cons rfl (.nil)) (enve_New 1) (lts rfl) ?_
  rintro _ L0 ⟨k, rfl, hL0⟩
  refine SR.lands (hL0.trans (Lands.cons vault_new)) ?_
  refine SR_pu (RD_assign rfl) rfl ?_
  refine SR_nil ?_
  refine SN.le (l := [(0, _), (1, _), (2, _), (7, _)]) ?_ (.cons rfl (.cons rfl (.cons rfl (.cons rfl (.nil)))))
  refine SN_seq ?_
  refine SC_seq ?_
  refine SC_seq ?_
  refine SC_region ?_
  refine SR_pu (RD_move rfl) rfl ?_
  refine SR_pu (RD_eqlP Try.underlying35 rfl rfl) rfl ?_
  refine SR_nil ?_
  refine SN.le (l := [(0, _), (1, _), (2, _), (7, _), (34, _)]) ?_ (.cons rfl (.cons rfl (.cons rfl (.cons rfl (.cons rfl (.nil))))))
  refine SN_seq ?_
  refine SC_cond_false rfl (rfl) ?_
  refine SC_skip ?_
  refine SN_seq ?_
  refine SC_seq ?_
  refine SC_region ?_
  refine SR_pu (RD_move rfl) rfl ?_
  refine SR_call Try.call37 (.cons rfl (.nil)) (CallsK.at (tree_New k ⟨[], []⟩ (by simp) [rootB] 1 (by decide +kernel) (by decide +kernel))) (lts rfl) ?_
  rintro _ L1 ⟨q, rfl, hL1⟩
  try dsimp only at hL1
  refine SR.lands (hL1 : Lands L1 (At treeI q (tS0 k.p) :: _)) ?_
  refine SR_pu (RD_assign rfl) rfl ?_
  refine SR_nil ?_
  refine SN.le (l := [(0, _), (1, _), (2, _), (7, _), (8, _)]) ?_ (.cons rfl (.cons rfl (.cons rfl (.cons rfl (.cons rfl (.nil))))))
  refine SN_seq ?_
  refine SC_seq ?_
  refine SC_region ?_
  refine SR_pu (RD_move rfl) rfl ?_
  refine SR_pu (RD_move rfl) rfl ?_
  refine SR_call Try.call38 (.cons rfl (.cons rfl (.nil))) (CallsK.at (clog_New k.p q (tS0 k.p))) (lts rfl) ?_
  rintro _ L2 ⟨p, rfl, hL2⟩
  change Lands L2 (At logI p ⟨k.p, q, 1, [], []⟩ :: _) at hL2
  refine SR.lands hL2 ?_
  refine SR_pu (RD_assign rfl) rfl ?_
  refine SR_nil ?_
  refine SN.le (l := [(0, _), (1, _), (2, _), (7, _), (8, _), (9, _)]) ?_ (.cons rfl (.cons rfl (.cons rfl (.cons rfl (.cons rfl (.cons rfl (.nil)))))))
  refine SN_seq ?_
  refine SC_seq ?_
  refine SC_seq ?_
  refine SC_region ?_
  refine SR_pu (RD_move rfl) rfl ?_
  refine SR_pu (RD_eqlP Try.underlying68 rfl rfl) rfl ?_
  refine SR_pu (RD_move rfl) rfl ?_
  refine SR_yes rfl rfl (rfl) ?_
  refine SR_pu (RD_move rfl) rfl ?_
  refine SR_yes rfl rfl (rfl) ?_
  refine SR_pu (RD_eqlP Try.underlying70 rfl rfl) rfl ?_
  refine SR_pu (RD_pick_f rfl (rfl) rfl) rfl ?_
  refine SR_nil ?_
  refine SN.le (l := [(0, _), (1, _), (2, _), (7, _), (8, _), (9, _), (45, _)]) ?_ (.cons rfl (.cons rfl (.cons rfl (.cons rfl (.cons rfl (.cons rfl (.cons rfl (.nil))))))))
  refine SN_seq ?_
  refine SC_cond_false rfl (rfl) ?_
  refine SC_skip ?_
  refine SN_seq ?_
  refine SC_seq ?_
  refine SC_region ?_
  refine SR_pu (RD_assign rfl) rfl ?_
  refine SR_nil ?_
  refine SN.le (l := [(0, _), (1, _), (2, _), (7, _), (8, _), (9, _), (10, _)]) ?_ (.cons rfl (.cons rfl (.cons rfl (.cons rfl (.cons rfl (.cons rfl (.cons rfl (.nil))))))))
  refine SN_seq ?_
  refine SC_seq ?_
  refine SC_seq ?_
  refine SC_region ?_
  refine SR_pu (RD_assign rfl) rfl ?_
  refine SR_nil ?_
  refine SN.le (l := [(0, _), (1, _), (2, _), (7, _), (8, _), (9, _), (10, _), (11, _)]) ?_ (.cons rfl (.cons rfl (.cons rfl (.cons rfl (.cons rfl (.cons rfl (.cons rfl (.cons rfl (.nil)))))))))
  refine SN_seq ?_
  refine SC_block ?_
  refine SC_ind (X := Nat × List (List UInt8) × List (Int × List Int) × Option Addr × Nat) (fun x => (x.1 ≤ 6 ∧ ∀ e ∈ fo x.1, envB e ∈ x.2.1) ∧ Ext [rootB] x.2.1 ∧ x.2.1.length ≤ 1 + x.1) (fun x => 6 - x.1) (fun x => [(0, .slice a0 n0 c0), (1, .slice a1 n1 c1), (2, .slice a2 n2 c2), (7, .pointer (some ⟨k.p, 0, none⟩)), (8, .pointer (some ⟨q, 0, none⟩)), (9, .pointer (some ⟨p, 0, none⟩)), (10, .slice x.2.2.2.1 x.1 x.2.2.2.2), (11, .int .i64 (x.1 : Nat))]) (fun x => rowP 39 4 x.2.2.2.1 x.1 x.2.2.2.2 ((fo x.1).flatMap EnvD.cells) :: At treeI q (tS0 k.p) :: At worldI k ⟨x.2.1, x.2.2.1⟩ :: At vaultI k.v x.1 :: At logI p ⟨k.p, q, 1, [], []⟩ :: F) ((0, [rootB], [], none, 0)) (⟨⟨by simp, fun e he => by simp [fo] at he⟩, Ext.same, by simp⟩) (.cons rfl (.cons rfl (.cons rfl (.cons rfl (.cons rfl (.cons rfl (.cons rfl (.cons rfl (.nil))))))))) (((row_new 39 4 none).trans (show Lands _ (rowP 39 4 none 0 0 [] :: At treeI q (tS0 k.p) :: At worldI k ⟨[rootB], []⟩ :: At vaultI k.v 0 :: At logI p ⟨k.p, q, 1, [], []⟩ :: F) from .fin))) ?_
  intro ⟨i, l, S, fa, fc⟩ hi ih
  obtain ⟨⟨hi1, hfe⟩, hx1, hx2⟩ := hi
  dsimp only at hi1 hfe hx1 hx2 ih ⊢
  refine SC_seq ?_
  refine SC_seq ?_
  refine SC_region ?_
  refine SR_pu (RD_move rfl) rfl ?_
  refine SR_pu (RD_lss rfl rfl) rfl ?_
  refine SR_nil ?_
  refine SN.le (l := [(0, _), (1, _), (2, _), (7, _), (8, _), (9, _), (10, _), (11, _), (47, _)]) ?_ (.cons rfl (.cons rfl (.cons rfl (.cons rfl (.cons rfl (.cons rfl (.cons rfl (.cons rfl (.cons rfl (.nil))))))))))
  refine SN_seq ?_
  refine SC_cond rfl (fun hc47 => ?_) (fun hc47 => ?_)
  · have hin : i < 6 := by simp at hc47; omega
    refine SC_skip ?_
    refine SN_seq ?_
    refine SC_seq ?_
    refine SC_block ?_
    refine SC_region ?_
    refine SR_pu (RD_move rfl) rfl ?_
    refine SR_pu (RD_move rfl) rfl ?_
    refine SR_pu (RD_move rfl) rfl ?_
    refine SR_pu (RD_mask 2 rfl rfl rfl (by decide) 4 rfl) rfl ?_
    refine SR_pu (RD_move rfl) rfl ?_
    first
      | refine SR_pu (RD_conv64 Try.runUnderlying3 Try.runUnderlying37 rfl (by omega) (by omega)) rfl ?_
      | refine SR_pu (RD_convI Try.runUnderlying3 Try.runUnderlying37 rfl) rfl ?_
    refine SR_call Try.call35 (.cons rfl (.cons rfl (.cons rfl (.cons rfl (.cons rfl (.nil)))))) (CallsK.at2 (w_Make k ⟨l, S⟩ i (by omega) ((i : Int) % 4) (i : Int) 1 (by omega) (by omega) (by omega) none 0 0 [] rfl (by simp) (by dsimp only; omega))) (lts rfl) ?_
    rintro _ L4 ⟨rfl, hL4⟩
    try dsimp only at hL4
    refine SR.lands hL4 ?_
    refine SR_ox (OX_lit Try.underlying31 Try.type39 rfl rfl rfl rfl (.cons rfl (.nil)) (.cons rfl rfl (.nil))) rfl ?_
    rintro _ _ ⟨b57, rfl, rfl⟩
    refine SR_ox (OX_app 4 Try.underlying31 Try.underlying31 Try.type39 rfl rfl rfl rfl rfl (by first | rfl | simp; done | (simp; omega)) 32 rfl (by omega) (by omega)) rfl ?_
    rintro _ _ ⟨a58, c58, rfl, rfl⟩
    refine SR_pu (RD_assign rfl) rfl ?_
    refine SR_nil ?_
    refine SN.le (l := [(0, _), (1, _), (2, _), (7, _), (8, _), (9, _), (10, _), (11, _)]) ?_ (.cons rfl (.cons rfl (.cons rfl (.cons rfl (.cons rfl (.cons rfl (.cons rfl (.cons rfl (.nil)))))))))
    refine SN_block ?_
    refine SN_seq ?_
    refine SC_region ?_
    refine SR_pu (RD_move rfl) rfl ?_
    refine SR_pu (RD_addi rfl rfl (by omega) (by omega)) rfl ?_
    refine SR_pu (RD_assign rfl) rfl ?_
    refine SR_nil ?_
    refine SN.le (l := [(0, _), (1, _), (2, _), (7, _), (8, _), (9, _), (10, _), (11, _)]) ?_ (.cons rfl (.cons rfl (.cons rfl (.cons rfl (.cons rfl (.cons rfl (.cons rfl (.cons rfl (.nil)))))))))
    refine SC_again (ih ((i + 1, dput l (envB ⟨(i : Int) % 4, (i : Int), 1, ((i + 1 : Nat) : Int)⟩), addTo S (1000 + (i : Int) % 4) (dnum (dput l (envB ⟨(i : Int) % 4, (i : Int), 1, ((i + 1 : Nat) : Int)⟩)) (envB ⟨(i : Int) % 4, (i : Int), 1, ((i + 1 : Nat) : Int)⟩) : Nat), a58, c58)) (⟨⟨by dsimp only; omega, fun e he => by dsimp only at he ⊢; rw [fo_succ] at he; exact (List.mem_append.1 he).elim (fun h => (Ext.put _ _).mem (hfe e h)) fun h => by simp at h; subst h; exact dput_mem _ _⟩, hx1.trans (Ext.put _ _), by have := dput_len l (envB ⟨(i : Int) % 4, (i : Int), 1, ((i + 1 : Nat) : Int)⟩); dsimp only; omega⟩) (by dsimp only; omega)) (by dsimp only; rw [fo_succ, List.flatMap_append, List.flatMap_cons, List.flatMap_nil]; exact .fin) (.cons rfl (.cons rfl (.cons rfl (.cons rfl (.cons rfl (.cons rfl (.cons rfl (.cons' rfl (ie (by dsimp only; omega)) (.nil)))))))))
  · have hin : i = 6 := by simp at hc47; omega
    subst hin
    clear ih
    have hr1 : dput l rootB = l := dput_idem (hx1.mem (by simp))
    have hr2 : dnum l rootB = 1 := by rw [hx1.num (by simp)]; simp [dnum]
    refine SC_exit rfl ?_
    refine SN_seq ?_
    refine SC_seq ?_
    refine SC_region ?_
    refine SR_pu (RD_move rfl) rfl ?_
    refine SR_call Try.call34 (.cons rfl (.nil)) (CallsK.at (cert_Root k ⟨l, S⟩ (by dsimp only; omega) l 1 hr1 hr2)) (lts rfl) ?_
    rintro _ L5 ⟨rfl, hL5⟩
    try dsimp only at hL5
    refine SR.lands hL5 ?_
    refine SR_ox (OX_lit1 Try.underlying22 Try.type3 rfl rfl rfl rfl (.cons rfl (.nil)) (.cons rfl (.nil))) rfl ?_
    rintro _ _ ⟨b61, rfl, rfl⟩
    refine SR_pu (RD_build (.nil) built33) rfl ?_
    refine SR_ox (OX_lit Try.underlying41 Try.type33 rfl rfl rfl rfl (.cons rfl (.nil)) (.cons rfl rfl (.nil))) rfl ?_
    rintro _ _ ⟨b63, rfl, rfl⟩
    refine SR_pu (RD_assign rfl) rfl ?_
    refine SR_pu (RD_assign rfl) rfl ?_
    refine SR_nil ?_
    refine SN.le (l := [(0, _), (1, _), (2, _), (7, _), (8, _), (9, _), (10, _), (12, _), (13, _)]) ?_ (.cons rfl (.cons rfl (.cons rfl (.cons rfl (.cons rfl (.cons rfl (.cons rfl (.cons rfl (.cons rfl (.nil))))))))))
    refine SN_seq ?_
    refine SC_seq ?_
    refine SC_seq ?_
    refine SC_region ?_
    refine SR_pu (RD_assign rfl) rfl ?_
    refine SR_nil ?_
    refine SN.le (l := [(0, _), (1, _), (2, _), (7, _), (8, _), (9, _), (10, _), (12, _), (13, _), (14, _)]) ?_ (.cons rfl (.cons rfl (.cons rfl (.cons rfl (.cons rfl (.cons rfl (.cons rfl (.cons rfl (.cons rfl (.cons rfl (.nil)))))))))))
    refine SN_seq ?_
    refine SC_block ?_
    obtain ⟨N, hN⟩ : ∃ N : Nat, N = min n0 20 := ⟨_, rfl⟩
    refine SC_ind (X := {x : Nat × TS × List (List UInt8) × List Int × List BE × List HProp // PQ k.p F a0 l0 a1 l1 a2 l2 x} × Option Addr × Nat × Option Addr × Nat) (fun x => x.1.1.1 ≤ N) (fun x => N - x.1.1.1) (fun x => [(0, .slice a0 n0 c0), (1, .slice a1 n1 c1), (2, .slice a2 n2 c2), (7, .pointer (some ⟨k.p, 0, none⟩)), (8, .pointer (some ⟨q, 0, none⟩)), (9, .pointer (some ⟨p, 0, none⟩)), (10, .slice fa 6 fc), (12, .slice x.2.1 (x.1.1.1 + 1) x.2.2.1), (13, .slice x.2.2.2.1 (x.1.1.1 + 1) x.2.2.2.2), (14, .int .i64 (x.1.1.1 : Nat))]) (fun x => rowP 3 1 x.2.1 (x.1.1.1 + 1) x.2.2.1 (x.1.1.2.2.2.1.map intV) :: rowP 33 6 x.2.2.2.1 (x.1.1.1 + 1) x.2.2.2.2 (x.1.1.2.2.2.2.1.flatMap beC) :: rowP 39 4 fa 6 fc ((fo 6).flatMap EnvD.cells) :: At treeI q x.1.1.2.1 :: At worldI k ⟨x.1.1.2.2.1, S⟩ :: At logI p ⟨k.p, q, 1, [], []⟩ :: x.1.1.2.2.2.2.2) ((⟨(0, tS0 k.p, l, [1], [(zBlk, none, 0)], F), ⟨inferInstance, .fin, fun i y hy => by
      dsimp only at hy ⊢
      have hi0 := (List.getElem?_eq_some_iff.1 hy).1
      simp at hi0; subst hi0; simp at hy; subst hy
      exact (HasRow.nil : HasRow F none []), PB.start k.p hx1, by dsimp only; omega, rfl, fun y hy => by simp at hy; subst hy; exact ⟨fun e he => (nomatch he), by simp [zBlk]⟩, hfe, inferInstance, inferInstance, inferInstance⟩⟩, some ⟨b61, 0, none⟩, 1, some ⟨b63, 0, none⟩, 1)) (by simp) (.cons rfl (.cons rfl (.cons rfl (.cons rfl (.cons rfl (.cons rfl (.cons rfl (.cons rfl (.cons rfl (.cons rfl (.nil))))))))))) ((Lands.trans (.fin : Lands _ (pt b61 (.cells [.int .i64 (1 : Nat)].toArray 3) :: pt b63 (.cells ([Value.int .i64 0, .int .i64 0, .int .i64 0, .int .i64 0, .slice none 0 0, .slice none 0 0] ++ []).toArray 33) :: rowP 39 4 fa 6 fc ((fo 6).flatMap EnvD.cells) :: At treeI q (tS0 k.p) :: At worldI k ⟨l, S⟩ :: At logI p ⟨k.p, q, 1, [], []⟩ :: F)) ((lit_row (E := 3) (z := 1) (b := b61) (cs := [.int .i64 (1 : Nat)]) 1 rfl).trans ((Lands.cons (lit_row (E := 33) (z := 6) (b := b63) (cs := [Value.int .i64 0, .int .i64 0, .int .i64 0, .int .i64 0, .slice none 0 0, .slice none 0 0] ++ []) 1 rfl)).trans (show Lands _ (rowP 3 1 (some ⟨b61, 0, none⟩) 1 1 [.int .i64 (1 : Nat)] :: rowP 33 6 (some ⟨b63, 0, none⟩) 1 1 ([Value.int .i64 0, .int .i64 0, .int .i64 0, .int .i64 0, .slice none 0 0, .slice none 0 0] ++ []) :: rowP 39 4 fa 6 fc ((fo 6).flatMap EnvD.cells) :: At treeI q (tS0 k.p) :: At worldI k ⟨l, S⟩ :: At logI p ⟨k.p, q, 1, [], []⟩ :: F) from .fin))))) ?_
    intro ⟨⟨⟨i, st, l, ds, BL, G⟩, hX⟩, da, dc, ba, bc⟩ hi ih1
    clear hx1 hx2 hr1 hr2 hi1 hfe
    dsimp only at hi ih1 ⊢
    haveI := hX.abs
    have hG : Lands G F := hX.lands
    have hrows : ∀ (i : Nat) y, BL[i]? = some y → HasRow G y.2.1 (y.1.envs.flatMap EnvD.cells) := hX.rows
    have hpb : PB k.p st l ds (BL.map (·.1)) := hX.pb
    have hll : l.length ≤ 10 + 10 * i := hX.hl
    have hBl : BL.length = i + 1 := hX.n
    have hfw : ∀ y ∈ BL, (∀ e ∈ y.1.envs, e ∈ fo 6) ∧ y.1.envs.length ≤ 6 := hX.few
    have hfe : ∀ e ∈ fo 6, envB e ∈ l := hX.fe
    have hdl : ds.length = i + 1 := by have := hpb.len; rw [List.length_map] at this; omega
    have hbsl : (BL.map (·.1)).length = i + 1 := by rw [List.length_map]; exact hBl
    haveI : HasRow G a0 (l0.map intV) := hX.r0
    haveI : HasRow G a1 (l1.map intV) := hX.r1
    haveI : HasRow G a2 (l2.map intV) := hX.r2
    clear hX
    refine SC_seq ?_
    refine SC_seq ?_
    refine SC_join (X := Unit) (fun x => [(0, .slice a0 n0 c0), (1, .slice a1 n1 c1), (2, .slice a2 n2 c2), (7, .pointer (some ⟨k.p, 0, none⟩)), (8, .pointer (some ⟨q, 0, none⟩)), (9, .pointer (some ⟨p, 0, none⟩)), (10, .slice fa 6 fc), (12, .slice da (i + 1) dc), (13, .slice ba (i + 1) bc), (14, .int .i64 (i : Nat)), (71, .bool (decide (i < N)))]) (fun x => rowP 3 1 da (i + 1) dc (ds.map intV) :: rowP 33 6 ba (i + 1) bc (BL.flatMap beC) :: rowP 39 4 fa 6 fc ((fo 6).flatMap EnvD.cells) :: At treeI q st :: At worldI k ⟨l, S⟩ :: At logI p ⟨k.p, q, 1, [], []⟩ :: G) (fun _ => ?_) (fun J0 => ?_)
    · refine SN_seq ?_
      refine SC_cond rfl (fun hc71 => ?_) (fun hc71 => ?_)
      · have hin : i < N := of_decide_eq_true hc71
        obtain ⟨z, hz⟩ : ∃ z, l0[i]? = some z := ⟨_, List.getElem?_eq_getElem (by omega)⟩
        obtain ⟨u, hu⟩ : ∃ u : Nat, z % 256 % ((i + 1 : Nat) : Int) = (u : Int) := ⟨(z % 256 % ((i + 1 : Nat) : Int)).toNat, by rw [Int.toNat_of_nonneg (Int.emod_nonneg _ (by omega))]⟩
        have hul : u < i + 1 := by have := Int.emod_lt_of_pos (z % 256) (show (0 : Int) < ((i + 1 : Nat) : Int) by omega); omega
        obtain ⟨d, hd⟩ : ∃ d, ds[u]? = some d := ⟨_, List.getElem?_eq_getElem (by omega)⟩
        obtain ⟨y, hy⟩ : ∃ y, BL[u]? = some y := ⟨_, List.getElem?_eq_getElem (by omega)⟩
        have hyb : (BL.map (·.1))[u]? = some y.1 := by rw [List.getElem?_map, hy]; rfl
        have hyv := hpb.vw _ (List.mem_of_getElem? hyb)
        rw [hbsl] at hyv
        obtain ⟨qq, hqq⟩ : ∃ qq, z.fdiv (2 ^ min (8 : Int).toNat IntKind.i64.bits) % 4 = qq := ⟨_, rfl⟩
        have hq4 : 0 ≤ qq ∧ qq ≤ 3 := by omega
        refine SC_skip ?_
        refine SN_seq ?_
        refine SC_seq ?_
        refine SC_block ?_
        refine SC_seq ?_
        refine SC_region ?_
        refine SR_pu (RD_move rfl) rfl ?_
        refine SR_pu (RD_move rfl) rfl ?_
        refine SR_rd (RD_ixO (i := (i : Nat)) (cs := l0.map intV) Try.runUnderlying22 Try.sizeOf3 rfl rfl (by simpa using hn0) (by omega) (by omega)) Has.ro rfl ?_
        refine SR_rd (RD_loadO (v := intV z) (cs := l0.map intV) Try.isAgg3 rfl (by simp [hz])) Has.ro rfl ?_
        refine SR_pu (RD_mask 8 rfl rfl rfl (by decide) 256 rfl) rfl ?_
        refine SR_pu (RD_move rfl) rfl ?_
        refine SR_pu (RD_len Try.runUnderlying22 rfl) rfl ?_
        refine SR_pu (RD_remi rfl rfl (by omega) (by omega)) rfl ?_
        refine SR_pu (RD_assign rfl) rfl ?_
        refine SR_nil ?_
        refine SN.le (l := [(0, _), (1, _), (2, _), (7, _), (8, _), (9, _), (10, _), (12, _), (13, _), (14, _), (15, _)]) ?_ (.cons rfl (.cons rfl (.cons rfl (.cons rfl (.cons rfl (.cons rfl (.cons rfl (.cons rfl (.cons rfl (.cons rfl (.cons rfl (.nil))))))))))))
        rw [hu]
        refine SN_seq ?_
        refine SC_seq ?_
        refine SC_drawn (.cons 0 true (.cons 1 true (.cons 2 true (.cons 3 true (.cons 4 true (.cons 5 true (.cons 6 true (.cons 7 true (.cons 8 true (.cons 9 true (.cons 10 true (.cons 11 true (.cons 12 true (.cons 13 true (.cons 14 true (.cons 15 true (.cons 16 true (.cons 17 true (.cons 18 true (.cons 19 true (.cons 20 true (.cons 21 true (.cons 22 true (.cons 23 true (.cons 24 true (.cons 25 false (.cons 26 false (.nil)))))))))))))))))))))))))))) (by kernel_rfl) (by kernel_rfl) ?_
        refine SQ_pu rfl (RD_move rfl) rfl ?_
        refine SQ_pu rfl (RD_move rfl) rfl ?_
        refine SQ_rd rfl (RD_ixO (i := (u : Nat)) (cs := BL.flatMap beC) Try.runUnderlying41 Try.sizeOf33 rfl rfl (by rw [be_len, hBl]) (by omega) (by omega)) Has.ro rfl ?_
        refine SQ_rd rfl (RD_fieldAddrO (cs := BL.flatMap beC) 0 Try.runUnderlying33 rfl rfl Try.sizeOf3 rfl (by rw [be_len]; omega)) Has.ro rfl ?_
        refine SQ_rd rfl (RD_loadO (v := .int .i64 y.1.view) (cs := BL.flatMap beC) Try.isAgg3 rfl (be_get hy 0 (by omega))) Has.ro rfl ?_
        refine SQ_pu rfl (RD_addi rfl rfl (by omega) (by omega)) rfl ?_
        refine SQ_pu rfl (RD_move rfl) rfl ?_
        refine SQ_pu rfl (RD_move rfl) rfl ?_
        refine SQ_rd rfl (RD_ixO (i := (i : Nat)) (cs := l0.map intV) Try.runUnderlying22 Try.sizeOf3 rfl rfl (by simpa using hn0) (by omega) (by omega)) Has.ro rfl ?_
        refine SQ_rd rfl (RD_loadO (v := intV z) (cs := l0.map intV) Try.isAgg3 rfl (by simp [hz])) Has.ro rfl ?_
        refine SQ_pu rfl (RD_shr rfl rfl (by omega)) rfl ?_
        refine SQ_pu rfl (RD_mask 2 rfl rfl rfl (by decide) 4 rfl) rfl ?_
        refine SQ_pu rfl (RD_addi rfl rfl (by omega) (by omega)) rfl ?_
        refine SQ_pu rfl (RD_move rfl) rfl ?_
        refine SQ_pu rfl (RD_move rfl) rfl ?_
        refine SQ_pu rfl (RD_move rfl) rfl ?_
        refine SQ_rd rfl (RD_ixO (i := (u : Nat)) (cs := BL.flatMap beC) Try.runUnderlying41 Try.sizeOf33 rfl rfl (by rw [be_len, hBl]) (by omega) (by omega)) Has.ro rfl ?_
        refine SQ_rd rfl (RD_fieldAddrO (cs := BL.flatMap beC) 0 Try.runUnderlying33 rfl rfl Try.sizeOf3 rfl (by rw [be_len]; omega)) Has.ro rfl ?_
        refine SQ_rd rfl (RD_loadO (v := .int .i64 y.1.view) (cs := BL.flatMap beC) Try.isAgg3 rfl (be_get hy 0 (by omega))) Has.ro rfl ?_
        refine SQ_pu rfl (RD_move rfl) rfl ?_
        refine SQ_pu rfl (RD_move rfl) rfl ?_
        refine SQ_rd rfl (RD_ixO (i := (u : Nat)) (cs := ds.map intV) Try.runUnderlying22 Try.sizeOf3 rfl rfl (by simp; omega) (by omega) (by omega)) Has.ro rfl ?_
        refine SQ_rd rfl (RD_loadO (v := intV d) (cs := ds.map intV) Try.isAgg3 rfl (by simp [hd])) Has.ro rfl ?_
        refine SQ_pu rfl (RD_build (.cons rfl (.cons rfl (.nil))) built30_0_1) rfl ?_
        refine SQ_pu rfl (RD_build (.cons rfl (.cons rfl (.cons rfl (.nil)))) built33_0_1_2) rfl ?_
        refine SQ_ox rfl (OX_alloc Try.zeroValue33 rfl) rfl ?_
        rintro _ _ ⟨b16, rfl, rfl⟩
        refine ⟨.h Has.ro (.h Has.ro (.h Has.ro (.h Has.ro (.h Has.ro (.h Has.ro (.h Has.ro (.h Has.ro (.h Has.ro (.h Has.ro (.nil)))))))))), ?_⟩
        refine SQ_ox0 rfl (OX_stA Try.sizeOf33 rfl rfl rfl rfl) ?_
        rintro _ _ rfl
        refine ⟨.w rfl (.w rfl (.w rfl (.w rfl (.w rfl (.w rfl (.w rfl (.w rfl (.w rfl (.w rfl (.nil)))))))))), ?_⟩
        refine SQ_nil ?_
        refine SN.le (l := [(0, _), (1, _), (2, _), (7, _), (8, _), (9, _), (10, _), (12, _), (13, _), (14, _), (16, _)]) ?_ (.cons rfl (.cons rfl (.cons rfl (.cons rfl (.cons rfl (.cons rfl (.cons rfl (.cons rfl (.cons rfl (.cons rfl (.cons rfl (.nil))))))))))))
        rw [hqq]
        refine SN_seq ?_
        refine SC_seq ?_
        refine SC_seq ?_
        refine SC_region ?_
        refine SR_pu (RD_assign rfl) rfl ?_
        refine SR_nil ?_
        refine SN.le (l := [(0, _), (1, _), (2, _), (7, _), (8, _), (9, _), (10, _), (12, _), (13, _), (14, _), (16, _), (17, _)]) ?_ (.cons rfl (.cons rfl (.cons rfl (.cons rfl (.cons rfl (.cons rfl (.cons rfl (.cons rfl (.cons rfl (.cons rfl (.cons rfl (.cons rfl (.nil)))))))))))))
        refine SN_seq ?_
        refine SC_block ?_
        refine SC_ind (X := Nat × List EnvD × Option Addr × Nat) (fun x => x.1 ≤ 6 ∧ x.2.1.length ≤ x.1 ∧ ∀ e ∈ x.2.1, e ∈ fo 6) (fun x => 6 - x.1) (fun x => [(0, .slice a0 n0 c0), (1, .slice a1 n1 c1), (2, .slice a2 n2 c2), (7, .pointer (some ⟨k.p, 0, none⟩)), (8, .pointer (some ⟨q, 0, none⟩)), (9, .pointer (some ⟨p, 0, none⟩)), (10, .slice fa 6 fc), (12, .slice da (i + 1) dc), (13, .slice ba (i + 1) bc), (14, .int .i64 (i : Nat)), (16, .pointer (some ⟨b16, 0, none⟩)), (17, .int .i64 (x.1 : Nat))]) (fun x => rowP 39 4 x.2.2.1 (x.2.1).length x.2.2.2 ((x.2.1).flatMap EnvD.cells) :: pt b16 (.cells [.int .i64 (y.1.view + 1 + qq), .int .i64 (i : Nat), .int .i64 y.1.view, .int .i64 d, .slice none 0 0, .slice x.2.2.1 (x.2.1).length x.2.2.2].toArray 33) :: rowP 3 1 da (i + 1) dc (ds.map intV) :: rowP 33 6 ba (i + 1) bc (BL.flatMap beC) :: rowP 39 4 fa 6 fc ((fo 6).flatMap EnvD.cells) :: At treeI q st :: At worldI k ⟨l, S⟩ :: At logI p ⟨k.p, q, 1, [], []⟩ :: G) ((0, [], none, 0)) (⟨by simp, by simp, fun e he => nomatch he⟩) (.cons rfl (.cons rfl (.cons rfl (.cons rfl (.cons rfl (.cons rfl (.cons rfl (.cons rfl (.cons rfl (.cons rfl (.cons rfl (.cons rfl (.nil))))))))))))) (((row_new 39 4 none).trans (show Lands _ (rowP 39 4 none 0 0 [] :: pt b16 (.cells [.int .i64 (y.1.view + 1 + qq), .int .i64 (i : Nat), .int .i64 y.1.view, .int .i64 d, .slice none 0 0, .slice none 0 0].toArray 33) :: rowP 3 1 da (i + 1) dc (ds.map intV) :: rowP 33 6 ba (i + 1) bc (BL.flatMap beC) :: rowP 39 4 fa 6 fc ((fo 6).flatMap EnvD.cells) :: At treeI q st :: At worldI k ⟨l, S⟩ :: At logI p ⟨k.p, q, 1, [], []⟩ :: G) from .fin))) ?_
        intro ⟨j, E, ea, ec⟩ hi ih2
        obtain ⟨hj1, hj2, hj3⟩ := hi
        dsimp only at hj1 hj2 hj3 ih2 ⊢
        refine SC_seq ?_
        refine SC_seq ?_
        refine SC_join (X := Unit) (fun x => [(0, .slice a0 n0 c0), (1, .slice a1 n1 c1), (2, .slice a2 n2 c2), (7, .pointer (some ⟨k.p, 0, none⟩)), (8, .pointer (some ⟨q, 0, none⟩)), (9, .pointer (some ⟨p, 0, none⟩)), (10, .slice fa 6 fc), (12, .slice da (i + 1) dc), (13, .slice ba (i + 1) bc), (14, .int .i64 (i : Nat)), (16, .pointer (some ⟨b16, 0, none⟩)), (17, .int .i64 (j : Nat)), (114, .bool (decide ((j : Int) < 6) && decide ((i : Int) < (n1 : Int))))]) (fun x => rowP 39 4 ea E.length ec (E.flatMap EnvD.cells) :: pt b16 (.cells [.int .i64 (y.1.view + 1 + qq), .int .i64 (i : Nat), .int .i64 y.1.view, .int .i64 d, .slice none 0 0, .slice ea E.length ec].toArray 33) :: rowP 3 1 da (i + 1) dc (ds.map intV) :: rowP 33 6 ba (i + 1) bc (BL.flatMap beC) :: rowP 39 4 fa 6 fc ((fo 6).flatMap EnvD.cells) :: At treeI q st :: At worldI k ⟨l, S⟩ :: At logI p ⟨k.p, q, 1, [], []⟩ :: G) (fun _ => ?_) (fun J0 => ?_)
        · refine SN_seq ?_
          refine SC_cond rfl (fun hc114 => ?_) (fun hc114 => ?_)
          · have hjn : j < 6 ∧ i < n1 := by simp at hc114; omega
            obtain ⟨z1, hz1⟩ : ∃ z, l1[i]? = some z := ⟨_, List.getElem?_eq_getElem (by omega)⟩
            obtain ⟨e, he⟩ : ∃ e, (fo 6)[j]? = some e := ⟨_, List.getElem?_eq_getElem (by rw [fo_len]; omega)⟩
            refine SC_skip ?_
            refine SN_seq ?_
            refine SC_seq ?_
            refine SC_block ?_
            refine SC_seq ?_
            refine SC_region ?_
            refine SR_pu (RD_move rfl) rfl ?_
            refine SR_pu (RD_move rfl) rfl ?_
            refine SR_rd (RD_ixO (i := (i : Nat)) (cs := l1.map intV) Try.runUnderlying22 Try.sizeOf3 rfl rfl (by simpa using hn1) (by omega) (by omega)) Has.ro rfl ?_
            refine SR_rd (RD_loadO (v := intV z1) (cs := l1.map intV) Try.isAgg3 rfl (by simp [hz1])) Has.ro rfl ?_
            refine SR_pu (RD_move rfl) rfl ?_
            refine SR_pu (RD_muli rfl rfl (by omega) (by omega)) rfl ?_
            first
              | refine SR_pu (RD_conv64 Try.runUnderlying3 Try.runUnderlying40 rfl (by omega) (by omega)) rfl ?_
              | refine SR_pu (RD_convI Try.runUnderlying3 Try.runUnderlying40 rfl) rfl ?_
            refine SR_pu (RD_shr rfl rfl (by omega)) rfl ?_
            refine SR_pu (RD_mask 2 rfl rfl rfl (by decide) 4 rfl) rfl ?_
            refine SR_pu (RD_eql rfl rfl) rfl ?_
            refine SR_nil ?_
            refine SN.le (l := [(0, _), (1, _), (2, _), (7, _), (8, _), (9, _), (10, _), (12, _), (13, _), (14, _), (16, _), (17, _), (126, _)]) ?_ (.cons rfl (.cons rfl (.cons rfl (.cons rfl (.cons rfl (.cons rfl (.cons rfl (.cons rfl (.cons rfl (.cons rfl (.cons rfl (.cons rfl (.cons rfl (.nil))))))))))))))
            refine SN_seq ?_
            refine SC_cond rfl (fun hc126 => ?_) (fun hc126 => ?_)
            · refine SC_drawn (.cons 0 true (.cons 1 true (.cons 2 true (.cons 3 true (.cons 4 true (.cons 5 true (.cons 6 false (.cons 7 false (.cons 8 true (.cons 9 false (.nil))))))))))) (by kernel_rfl) (by kernel_rfl) ?_
              first
                | refine SQ_pu rfl (RD_fieldAddr 5 Try.runUnderlying33 rfl rfl Try.sizeOf31 rfl) rfl ?_
                | refine SQ_rd rfl (RD_fieldAddrO 5 Try.runUnderlying33 rfl rfl Try.sizeOf31 rfl (by simp <;> omega)) Has.ro rfl ?_
              refine SQ_rd rfl (RD_load Try.isAgg31 rfl) (Has.ce rfl) rfl ?_
              refine SQ_pu rfl (RD_move rfl) rfl ?_
              refine SQ_pu rfl (RD_move rfl) rfl ?_
              refine SQ_rd rfl (RD_ixO (i := (j : Nat)) (cs := (fo 6).flatMap EnvD.cells) Try.runUnderlying31 Try.sizeOf39 rfl rfl (by rw [env_len, fo_len]) (by omega) (by omega)) Has.ro rfl ?_
              refine SQ_rd rfl (RD_loadAO (vs := EnvD.cells e) (cs := (fo 6).flatMap EnvD.cells) Try.isAgg39 Try.sizeOf39 rfl rfl (by decide) (fun o v h => by have ho : o < 4 := (List.getElem?_eq_some_iff.1 h).1; rw [show ((j : Nat) : Int).toNat * (3 + 1) + o = j * 4 + o by omega, env_get he o ho]; exact h)) Has.ro rfl ?_
              refine SQ_ox rfl (OX_lit Try.underlying31 Try.type39 rfl rfl rfl rfl (.cons rfl (.nil)) (.cons rfl rfl (.nil))) rfl ?_
              rintro _ _ ⟨b133, rfl, rfl⟩
              refine ⟨.w rfl (.h Has.ro (.h (Has.ce rfl) (.nil))), ?_⟩
              refine SQ_ox rfl (OX_app 4 Try.underlying31 Try.underlying31 Try.type39 rfl rfl rfl rfl rfl (by simp [EnvD.cells]) 32 rfl (by omega) (by omega)) rfl ?_
              rintro _ _ ⟨a134, c134, rfl, rfl⟩
              refine ⟨.h Has.ro (.h Has.ro (.w rfl (.nil))), ?_⟩
              first
                | refine SQ_pu rfl (RD_fieldAddr 5 Try.runUnderlying33 rfl rfl Try.sizeOf31 rfl) rfl ?_
                | refine SQ_rd rfl (RD_fieldAddrO 5 Try.runUnderlying33 rfl rfl Try.sizeOf31 rfl (by simp <;> omega)) Has.ro rfl ?_
              refine SQ_ox0 rfl (OX_st Try.sizeOf31 rfl rfl) ?_
              rintro _ _ rfl
              refine ⟨.w rfl (.w rfl (.w rfl (.nil))), ?_⟩
              refine SQ_nil ?_
              refine SN.le (l := [(0, _), (1, _), (2, _), (7, _), (8, _), (9, _), (10, _), (12, _), (13, _), (14, _), (16, _), (17, _)]) ?_ (.cons rfl (.cons rfl (.cons rfl (.cons rfl (.cons rfl (.cons rfl (.cons rfl (.cons rfl (.cons rfl (.cons rfl (.cons rfl (.cons rfl (.nil)))))))))))))
              rw [show EnvD.cells e ++ [] = [e].flatMap EnvD.cells from rfl]
              refine SN_block ?_
              refine SN_seq ?_
              refine SC_region ?_
              refine SR_pu (RD_move rfl) rfl ?_
              refine SR_pu (RD_addi rfl rfl (by omega) (by omega)) rfl ?_
              refine SR_pu (RD_assign rfl) rfl ?_
              refine SR_nil ?_
              refine SN.le (l := [(0, _), (1, _), (2, _), (7, _), (8, _), (9, _), (10, _), (12, _), (13, _), (14, _), (16, _), (17, _)]) ?_ (.cons rfl (.cons rfl (.cons rfl (.cons rfl (.cons rfl (.cons rfl (.cons rfl (.cons rfl (.cons rfl (.cons rfl (.cons rfl (.cons rfl (.nil)))))))))))))
              refine SC_again (ih2 ((j + 1, E ++ [e], a134, c134)) (⟨by dsimp only; omega, by simp; omega, fun x hx => (List.mem_append.1 hx).elim (hj3 x) fun h => by simp at h; subst h; exact List.mem_of_getElem? he⟩) (by dsimp only; omega)) (by dsimp only; rw [List.length_append, List.flatMap_append]; exact .fin) (.cons rfl (.cons rfl (.cons rfl (.cons rfl (.cons rfl (.cons rfl (.cons rfl (.cons rfl (.cons rfl (.cons rfl (.cons rfl (.cons' rfl (ie (by dsimp only; omega)) (.nil)))))))))))))
            · refine SC_skip ?_
              refine SN_block ?_
              refine SN_seq ?_
              refine SC_region ?_
              refine SR_pu (RD_move rfl) rfl ?_
              refine SR_pu (RD_addi rfl rfl (by omega) (by omega)) rfl ?_
              refine SR_pu (RD_assign rfl) rfl ?_
              refine SR_nil ?_
              refine SN.le (l := [(0, _), (1, _), (2, _), (7, _), (8, _), (9, _), (10, _), (12, _), (13, _), (14, _), (16, _), (17, _)]) ?_ (.cons rfl (.cons rfl (.cons rfl (.cons rfl (.cons rfl (.cons rfl (.cons rfl (.cons rfl (.cons rfl (.cons rfl (.cons rfl (.cons rfl (.nil)))))))))))))
              refine SC_again (ih2 ((j + 1, E, ea, ec)) (⟨by dsimp only; omega, by dsimp only; omega, hj3⟩) (by dsimp only; omega)) (.fin) (.cons rfl (.cons rfl (.cons rfl (.cons rfl (.cons rfl (.cons rfl (.cons rfl (.cons rfl (.cons rfl (.cons rfl (.cons rfl (.cons' rfl (ie (by dsimp only; omega)) (.nil)))))))))))))
          · clear ih2
            have hA := hpb.add hd hyb hq4 hbsl (E := E) (fun e he => fo_good (hj3 e he)) (by omega) (by omega) (by omega)
            obtain ⟨D, st2, hadd, hpb2⟩ := hA
            have hbl := blkL_len l ⟨y.1.view + 1 + qq, (i : Int), y.1.view, d, [], E⟩
            dsimp only at hbl
            have hbx := blkL_ext l ⟨y.1.view + 1 + qq, (i : Int), y.1.view, d, [], E⟩
            obtain ⟨l2, hl2⟩ : ∃ l2, blkL l ⟨y.1.view + 1 + qq, (i : Int), y.1.view, d, [], E⟩ = l2 := ⟨_, rfl⟩
            rw [hl2] at hadd hpb2 hbl hbx
            refine SC_exit rfl ?_
            refine SN_seq ?_
            refine SC_seq ?_
            refine SC_region ?_
            refine SR_pu (RD_move rfl) rfl ?_
            refine SR_rd (RD_loadA (vs := BlkD.cells ⟨y.1.view + 1 + qq, (i : Nat), y.1.view, d, ⟨none, 0, 0, []⟩, ⟨ea, E.length, ec, E⟩⟩) Try.isAgg33 Try.sizeOf33 rfl rfl) Has.wh rfl ?_
            refine SR_call Try.call39 (.cons rfl (.cons rfl (.nil))) (CallsK.at2 (tree_Add' q st k hpb.w ⟨l, S⟩ ⟨y.1.view + 1 + qq, (i : Nat), y.1.view, d, ⟨none, 0, 0, []⟩, ⟨ea, E.length, ec, E⟩⟩ rfl rfl ⟨rfl, rfl, by simp, by dsimp only; omega, fun e he => (fo_good (hj3 e he)).2.2⟩ (by dsimp only; omega) D 0 st2 l2 hadd)) (lts rfl) ?_
            rintro _ L6 ⟨rfl, hL6⟩
            try dsimp only at hL6
            refine SR.lands hL6 ?_
            refine SR_pu (RD_move rfl) rfl ?_
            refine SR_pu (RD_extract (v := .int .i64 D) rfl rfl) rfl ?_
            refine SR_pu (RD_extract (v := .int .i64 0) rfl rfl) rfl ?_
            refine SR_pu (RD_assign rfl) rfl ?_
            refine SR_pu (RD_assign rfl) rfl ?_
            refine SR_nil ?_
            refine SN.le (l := [(0, _), (1, _), (2, _), (7, _), (8, _), (9, _), (10, _), (12, _), (13, _), (14, _), (16, _), (18, _), (19, _)]) ?_ (.cons rfl (.cons rfl (.cons rfl (.cons rfl (.cons rfl (.cons rfl (.cons rfl (.cons rfl (.cons rfl (.cons rfl (.cons rfl (.cons rfl (.cons rfl (.nil))))))))))))))
            refine SN_seq ?_
            refine SC_seq ?_
            refine SC_seq ?_
            refine SC_region ?_
            refine SR_pu (RD_move rfl) rfl ?_
            refine SR_pu (RD_neq rfl rfl) rfl ?_
            refine SR_nil ?_
            refine SN.le (l := [(0, _), (1, _), (2, _), (7, _), (8, _), (9, _), (10, _), (12, _), (13, _), (14, _), (16, _), (18, _), (143, _)]) ?_ (.cons rfl (.cons rfl (.cons rfl (.cons rfl (.cons rfl (.cons rfl (.cons rfl (.cons rfl (.cons rfl (.cons rfl (.cons rfl (.cons rfl (.cons rfl (.nil))))))))))))))
            refine SN_seq ?_
            refine SC_cond_false rfl (rfl) ?_
            refine SC_skip ?_
            refine SN_seq ?_
            refine SC_join (X := Option Addr × Nat × Option Addr × Nat) (fun x => [(0, .slice a0 n0 c0), (1, .slice a1 n1 c1), (2, .slice a2 n2 c2), (7, .pointer (some ⟨k.p, 0, none⟩)), (8, .pointer (some ⟨q, 0, none⟩)), (9, .pointer (some ⟨p, 0, none⟩)), (10, .slice fa 6 fc), (12, .slice x.1 (i + 1 + 1) x.2.1), (13, .slice x.2.2.1 (i + 1 + 1) x.2.2.2), (14, .int .i64 (i : Nat))]) (fun x => rowP 3 1 x.1 (i + 1 + 1) x.2.1 (ds.map intV ++ [Value.int .i64 D]) :: rowP 33 6 x.2.2.1 (i + 1 + 1) x.2.2.2 (BL.flatMap beC ++ ([.int .i64 (y.1.view + 1 + qq), .int .i64 (i : Nat), .int .i64 y.1.view, .int .i64 d, .slice none 0 0, .slice ea E.length ec] ++ [])) :: rowP 39 4 ea E.length ec (E.flatMap EnvD.cells) :: rowP 39 4 fa 6 fc ((fo 6).flatMap EnvD.cells) :: At treeI q st2 :: At worldI k ⟨l2, S⟩ :: At logI p ⟨k.p, q, 1, [], []⟩ :: G) (fun ⟨da2, dc2, ba2, bc2⟩ => ?_) (fun J0 => ?_)
            · dsimp only
              rw [show ds.map intV ++ [Value.int .i64 D] = (ds ++ [D]).map intV by simp [intV]]
              rw [show BL.flatMap beC ++ ([.int .i64 (y.1.view + 1 + qq), .int .i64 (i : Nat), .int .i64 y.1.view, .int .i64 d, .slice none 0 0, .slice ea E.length ec] ++ []) = (BL ++ [((⟨y.1.view + 1 + qq, (i : Int), y.1.view, d, [], E⟩, ea, ec) : BE)]).flatMap beC by rw [List.flatMap_append]; rfl]
              refine SN_block ?_
              refine SN_seq ?_
              refine SC_region ?_
              refine SR_pu (RD_move rfl) rfl ?_
              refine SR_pu (RD_addi rfl rfl (by omega) (by omega)) rfl ?_
              refine SR_pu (RD_assign rfl) rfl ?_
              refine SR_nil ?_
              refine SN.le (l := [(0, _), (1, _), (2, _), (7, _), (8, _), (9, _), (10, _), (12, _), (13, _), (14, _)]) ?_ (.cons rfl (.cons rfl (.cons rfl (.cons rfl (.cons rfl (.cons rfl (.cons rfl (.cons rfl (.cons rfl (.cons rfl (.nil)))))))))))
              refine SC_again (ih1 ((⟨(i + 1, st2, l2, ds ++ [D], BL ++ [((⟨y.1.view + 1 + qq, (i : Int), y.1.view, d, [], E⟩, ea, ec) : BE)], (rowP 39 4 ea E.length ec (E.flatMap EnvD.cells) :: G)), ⟨inferInstance, .trans .fin hG, fun r w hw => by
                dsimp only at hw ⊢
                by_cases hr : r < BL.length
                · rw [List.getElem?_append_left hr] at hw
                  haveI := hrows r w hw
                  infer_instance
                · have hr2 := (List.getElem?_eq_some_iff.1 hw).1
                  simp at hr2
                  rw [List.getElem?_append_right (by omega), show r - BL.length = 0 by omega] at hw
                  cases hw
                  infer_instance, by simpa using hpb2, by dsimp only; omega, by simp [hBl], fun w hw => (List.mem_append.1 hw).elim (hfw w) fun h => by simp at h; subst h; exact ⟨hj3, by dsimp only; omega⟩, fun e he => hbx.mem (hfe e he), inferInstance, inferInstance, inferInstance⟩⟩, da2, dc2, ba2, bc2)) (by dsimp only; omega) (by dsimp only; omega)) ((show Lands _ (rowP 3 1 da2 ((i + 1) + 1) dc2 ((ds ++ [D]).map intV) :: rowP 33 6 ba2 ((i + 1) + 1) bc2 ((BL ++ [((⟨y.1.view + 1 + qq, (i : Int), y.1.view, d, [], E⟩, ea, ec) : BE)]).flatMap beC) :: rowP 39 4 fa 6 fc ((fo 6).flatMap EnvD.cells) :: At treeI q st2 :: At worldI k ⟨l2, S⟩ :: At logI p ⟨k.p, q, 1, [], []⟩ :: rowP 39 4 ea E.length ec (E.flatMap EnvD.cells) :: G) from .fin)) (.cons rfl (.cons rfl (.cons rfl (.cons rfl (.cons rfl (.cons rfl (.cons rfl (.cons rfl (.cons rfl (.cons' rfl (ie (by dsimp only; omega)) (.nil)))))))))))
            · refine SC_drawn (.cons 0 true (.cons 1 true (.cons 4 true (.cons 5 true (.alts [2, 6] (fun i => bif Nat.beq i 2 then (.alts [3, 6] (fun i => bif Nat.beq i 3 then (.cons 6 false (.cons 7 false (.cons 8 true (.cons 9 true (.nil))))) else (.cons 3 false (.cons 7 false (.cons 8 true (.cons 9 true (.nil))))))) else (.cons 2 false (.cons 3 false (.cons 7 false (.cons 8 true (.cons 9 true (.nil)))))))))))) (by kernel_rfl) (by kernel_rfl) ?_
              refine SQ_pu rfl (RD_move rfl) rfl ?_
              refine SQ_pu rfl (RD_move rfl) rfl ?_
              refine SQ_pu rfl (RD_move rfl) rfl ?_
              refine SQ_rd rfl (RD_loadA (vs := [.int .i64 (y.1.view + 1 + qq), .int .i64 (i : Nat), .int .i64 y.1.view, .int .i64 d, .slice none 0 0, .slice ea E.length ec]) Try.isAgg33 Try.sizeOf33 rfl rfl) Has.wh rfl ?_
              refine SQ_two ?_ ?_
              · refine SA_ox rfl .free (OX_lit1 Try.underlying22 Try.type3 rfl rfl rfl rfl (.cons rfl (.nil)) (.cons rfl (.nil))) rfl ?_
                rintro _ _ ⟨b146, rfl, rfl⟩
                refine ⟨.h Has.wh (.nil), ?_⟩
                refine SQ_two ?_ ?_
                · refine SA_ox rfl .free (OX_app 1 Try.underlying22 Try.underlying22 Try.type3 rfl rfl rfl rfl rfl (by first | rfl | simp; done | (simp; omega)) 8 rfl (by omega) (by omega)) rfl ?_
                  rintro _ _ ⟨a147, c147, rfl, rfl⟩
                  refine ⟨.h Has.wh (.nil), ?_⟩
                  refine SQ_ox rfl (OX_lit Try.underlying41 Try.type33 rfl rfl rfl rfl (.cons rfl (.nil)) (.cons rfl rfl (.nil))) rfl ?_
                  rintro _ _ ⟨b150, rfl, rfl⟩
                  refine ⟨.w rfl (.nil), ?_⟩
                  refine SQ_ox rfl (OX_app 6 Try.underlying41 Try.underlying41 Try.type33 rfl rfl rfl rfl rfl (by first | rfl | simp) 80 rfl (by omega) (by omega)) rfl ?_
                  rintro _ _ ⟨a151, c151, rfl, rfl⟩
                  refine ⟨.h Has.wh (.nil), ?_⟩
                  refine SQ_pu rfl (RD_assign rfl) rfl ?_
                  refine SQ_pu rfl (RD_assign rfl) rfl ?_
                  refine SQ_nil ?_
                  refine SN.le (l := [(0, _), (1, _), (2, _), (7, _), (8, _), (9, _), (10, _), (12, _), (13, _), (14, _)]) ?_ (.cons rfl (.cons rfl (.cons rfl (.cons rfl (.cons rfl (.cons rfl (.cons rfl (.cons rfl (.cons rfl (.cons rfl (.nil)))))))))))
                  exact J0 ((a147, c147, a151, c151)) _ _ (.cons rfl (.cons rfl (.cons rfl (.cons rfl (.cons rfl (.cons rfl (.cons rfl (.cons rfl (.cons rfl (.cons rfl (.nil))))))))))) (.fin)
                · refine SA_ox rfl .free (OX_lit Try.underlying41 Try.type33 rfl rfl rfl rfl (.cons rfl (.nil)) (.cons rfl rfl (.nil))) rfl ?_
                  rintro _ _ ⟨b150, rfl, rfl⟩
                  refine ⟨.w rfl (.nil), ?_⟩
                  refine SQ_ox rfl (OX_app 1 Try.underlying22 Try.underlying22 Try.type3 rfl rfl rfl rfl rfl (by first | rfl | simp; done | (simp; omega)) 8 rfl (by omega) (by omega)) rfl ?_
                  rintro _ _ ⟨a147, c147, rfl, rfl⟩
                  refine ⟨.h Has.wh (.nil), ?_⟩
                  refine SQ_ox rfl (OX_app 6 Try.underlying41 Try.underlying41 Try.type33 rfl rfl rfl rfl rfl (by first | rfl | simp) 80 rfl (by omega) (by omega)) rfl ?_
                  rintro _ _ ⟨a151, c151, rfl, rfl⟩
                  refine ⟨.h Has.wh (.nil), ?_⟩
                  refine SQ_pu rfl (RD_assign rfl) rfl ?_
                  refine SQ_pu rfl (RD_assign rfl) rfl ?_
                  refine SQ_nil ?_
                  refine SN.le (l := [(0, _), (1, _), (2, _), (7, _), (8, _), (9, _), (10, _), (12, _), (13, _), (14, _)]) ?_ (.cons rfl (.cons rfl (.cons rfl (.cons rfl (.cons rfl (.cons rfl (.cons rfl (.cons rfl (.cons rfl (.cons rfl (.nil)))))))))))
                  exact J0 ((a147, c147, a151, c151)) _ _ (.cons rfl (.cons rfl (.cons rfl (.cons rfl (.cons rfl (.cons rfl (.cons rfl (.cons rfl (.cons rfl (.cons rfl (.nil))))))))))) (.fin)
              · refine SA_ox rfl .free (OX_lit Try.underlying41 Try.type33 rfl rfl rfl rfl (.cons rfl (.nil)) (.cons rfl rfl (.nil))) rfl ?_
                rintro _ _ ⟨b150, rfl, rfl⟩
                refine ⟨.w rfl (.nil), ?_⟩
                refine SQ_ox rfl (OX_lit1 Try.underlying22 Try.type3 rfl rfl rfl rfl (.cons rfl (.nil)) (.cons rfl (.nil))) rfl ?_
                rintro _ _ ⟨b146, rfl, rfl⟩
                refine ⟨.h Has.wh (.nil), ?_⟩
                refine SQ_ox rfl (OX_app 1 Try.underlying22 Try.underlying22 Try.type3 rfl rfl rfl rfl rfl (by first | rfl | simp; done | (simp; omega)) 8 rfl (by omega) (by omega)) rfl ?_
                rintro _ _ ⟨a147, c147, rfl, rfl⟩
                refine ⟨.h Has.wh (.nil), ?_⟩
                refine SQ_ox rfl (OX_app 6 Try.underlying41 Try.underlying41 Try.type33 rfl rfl rfl rfl rfl (by first | rfl | simp) 80 rfl (by omega) (by omega)) rfl ?_
                rintro _ _ ⟨a151, c151, rfl, rfl⟩
                refine ⟨.h Has.wh (.nil), ?_⟩
                refine SQ_pu rfl (RD_assign rfl) rfl ?_
                refine SQ_pu rfl (RD_assign rfl) rfl ?_
                refine SQ_nil ?_
                refine SN.le (l := [(0, _), (1, _), (2, _), (7, _), (8, _), (9, _), (10, _), (12, _), (13, _), (14, _)]) ?_ (.cons rfl (.cons rfl (.cons rfl (.cons rfl (.cons rfl (.cons rfl (.cons rfl (.cons rfl (.cons rfl (.cons rfl (.nil)))))))))))
                exact J0 ((a147, c147, a151, c151)) _ _ (.cons rfl (.cons rfl (.cons rfl (.cons rfl (.cons rfl (.cons rfl (.cons rfl (.cons rfl (.cons rfl (.cons rfl (.nil))))))))))) (.fin)
        · refine SC_region ?_
          refine SR_pu (RD_move rfl) rfl ?_
          refine SR_pu (RD_lss rfl rfl) rfl ?_
          refine SR_pu (RD_move rfl) rfl ?_
          refine SR_guard rfl rfl (fun hg20_2 => ?_) (fun hg20_2 => ?_)
          · refine SR_yes rfl rfl (hg20_2) ?_
            refine SR_pu (RD_move rfl) rfl ?_
            refine SR_yes rfl rfl (hg20_2) ?_
            refine SR_pu (RD_move rfl) rfl ?_
            refine SR_yes rfl rfl (hg20_2) ?_
            refine SR_pu (RD_len Try.runUnderlying22 rfl) rfl ?_
            refine SR_yes rfl rfl (hg20_2) ?_
            refine SR_pu (RD_lss rfl rfl) rfl ?_
            refine SR_pu (RD_pick_t rfl (hg20_2) rfl) rfl ?_
            refine SR_nil ?_
            refine SN.le (l := [(0, _), (1, _), (2, _), (7, _), (8, _), (9, _), (10, _), (12, _), (13, _), (14, _), (16, _), (17, _), (114, _)]) ?_ (.cons rfl (.cons rfl (.cons rfl (.cons rfl (.cons rfl (.cons rfl (.cons rfl (.cons rfl (.cons rfl (.cons rfl (.cons rfl (.cons rfl (.cons rfl (.nil))))))))))))))
            exact J0 (()) _ _ (.cons rfl (.cons rfl (.cons rfl (.cons rfl (.cons rfl (.cons rfl (.cons rfl (.cons rfl (.cons rfl (.cons rfl (.cons rfl (.cons rfl (.cons' rfl (congrArg Value.bool (by rw [show decide ((j : Int) < 6) = true from hg20_2, Bool.true_and])) (.nil)))))))))))))) (.fin)
          · refine SR_no rfl rfl (hg20_2) (lts rfl) ?_
            refine SR_no rfl rfl (hg20_2) (lts rfl) ?_
            refine SR_no rfl rfl (hg20_2) (lts rfl) ?_
            refine SR_no rfl rfl (hg20_2) (lts rfl) ?_
            refine SR_pu (RD_pick_f rfl (hg20_2) rfl) rfl ?_
            refine SR_nil ?_
            refine SN.le (l := [(0, _), (1, _), (2, _), (7, _), (8, _), (9, _), (10, _), (12, _), (13, _), (14, _), (16, _), (17, _), (114, _)]) ?_ (.cons rfl (.cons rfl (.cons rfl (.cons rfl (.cons rfl (.cons rfl (.cons rfl (.cons rfl (.cons rfl (.cons rfl (.cons rfl (.cons rfl (.cons rfl (.nil))))))))))))))
            exact J0 (()) _ _ (.cons rfl (.cons rfl (.cons rfl (.cons rfl (.cons rfl (.cons rfl (.cons rfl (.cons rfl (.cons rfl (.cons rfl (.cons rfl (.cons rfl (.cons' rfl (congrArg Value.bool (by rw [show decide ((j : Int) < 6) = false from hg20_2, Bool.false_and])) (.nil)))))))))))))) (.fin)
      · have hin : i = N := by have := of_decide_eq_false hc71; omega
        clear ih1
        refine SC_exit rfl ?_
        refine SN_seq ?_
        refine SC_seq ?_
        refine SC_region ?_
        refine SR_pu (RD_assign rfl) rfl ?_
        refine SR_nil ?_
        refine SN.le (l := [(2, _), (7, _), (9, _), (10, _), (12, _), (13, _), (20, _)]) ?_ (.cons rfl (.cons rfl (.cons rfl (.cons rfl (.cons rfl (.cons rfl (.cons rfl (.nil))))))))
        refine SN_seq ?_
        refine SC_seq ?_
        refine SC_region ?_
        refine SR_pu (RD_assign rfl) rfl ?_
        refine SR_nil ?_
        refine SN.le (l := [(2, _), (7, _), (9, _), (10, _), (12, _), (13, _), (20, _), (21, _)]) ?_ (.cons rfl (.cons rfl (.cons rfl (.cons rfl (.cons rfl (.cons rfl (.cons rfl (.cons rfl (.nil)))))))))
        refine SN_seq ?_
        refine SC_seq ?_
        refine SC_seq ?_
        refine SC_region ?_
        refine SR_pu (RD_assign rfl) rfl ?_
        refine SR_nil ?_
        refine SN.le (l := [(2, _), (7, _), (9, _), (10, _), (12, _), (13, _), (20, _), (21, _), (22, _)]) ?_ (.cons rfl (.cons rfl (.cons rfl (.cons rfl (.cons rfl (.cons rfl (.cons rfl (.cons rfl (.cons rfl (.nil))))))))))
        refine SN_seq ?_
        refine SC_block ?_
        obtain ⟨M, hM⟩ : ∃ M : Nat, M = min n2 30 := ⟨_, rfl⟩
        have hvw := hpb.vws (by omega)
        have har := hpb.arena
        rw [show (⟨k.p, q, 1, [], []⟩ : LS) = (LS.of k.p q 1 l []) from rfl]
        refine SC_ind (X := Nat × {x : Nat × Int × List EnvD // (x.1 < i + 1 ∧ ds[x.1]? = some x.2.1) ∧ EG l x.2.2 ∧ x.2.2.Nodup ∧ ∀ e ∈ x.2.2, e ∈ fo 6} × Option Addr × Nat) (fun x => x.1 ≤ M) (fun x => M - x.1) (fun x => [(2, .slice a2 n2 c2), (7, .pointer (some ⟨k.p, 0, none⟩)), (9, .pointer (some ⟨p, 0, none⟩)), (10, .slice fa 6 fc), (12, .slice da (i + 1) dc), (13, .slice ba (i + 1) bc), (20, .int .i64 (x.2.1.1.1 : Nat)), (21, .slice x.2.2.1 x.2.1.1.2.2.length x.2.2.2), (22, .int .i64 (x.1 : Nat))]) (fun x => rowP 39 4 x.2.2.1 x.2.1.1.2.2.length x.2.2.2 (x.2.1.1.2.2.flatMap EnvD.cells) :: rowP 3 1 da (i + 1) dc (ds.map intV) :: rowP 33 6 ba (i + 1) bc (BL.flatMap beC) :: rowP 39 4 fa 6 fc ((fo 6).flatMap EnvD.cells) :: At treeI q st :: At worldI k ⟨l, S⟩ :: At logI p (LS.of k.p q x.2.1.1.2.1 l x.2.1.1.2.2) :: G) ((0, ⟨(0, 1, []), ⟨by simp, hpb.first⟩, fun x hx => (nomatch hx), by simp, fun e he => nomatch he⟩, none, 0)) (by simp) (.cons rfl (.cons rfl (.cons rfl (.cons rfl (.cons rfl (.cons rfl (.cons rfl (.cons rfl (.cons rfl (.nil)))))))))) (((row_new 39 4 none).trans (show Lands _ (rowP 39 4 none 0 0 [] :: rowP 3 1 da (i + 1) dc (ds.map intV) :: rowP 33 6 ba (i + 1) bc (BL.flatMap beC) :: rowP 39 4 fa 6 fc ((fo 6).flatMap EnvD.cells) :: At treeI q st :: At worldI k ⟨l, S⟩ :: At logI p (LS.of k.p q 1 l []) :: G) from .fin))) ?_
        intro ⟨o, ⟨⟨tp, dt, wn⟩, ⟨htl, hdt⟩, hwe, hwd, hwf⟩, wa, wc⟩ hi ih3
        dsimp only at hi htl hdt hwe hwd hwf ih3 ⊢
        refine SC_seq ?_
        refine SC_seq ?_
        refine SC_join (X := Unit) (fun x => [(2, .slice a2 n2 c2), (7, .pointer (some ⟨k.p, 0, none⟩)), (9, .pointer (some ⟨p, 0, none⟩)), (10, .slice fa 6 fc), (12, .slice da (i + 1) dc), (13, .slice ba (i + 1) bc), (20, .int .i64 (tp : Nat)), (21, .slice wa wn.length wc), (22, .int .i64 (o : Nat)), (159, .bool (decide (o < M)))]) (fun x => rowP 39 4 wa wn.length wc (wn.flatMap EnvD.cells) :: rowP 3 1 da (i + 1) dc (ds.map intV) :: rowP 33 6 ba (i + 1) bc (BL.flatMap beC) :: rowP 39 4 fa 6 fc ((fo 6).flatMap EnvD.cells) :: At treeI q st :: At worldI k ⟨l, S⟩ :: At logI p (LS.of k.p q dt l wn) :: G) (fun _ => ?_) (fun J0 => ?_)
        · refine SN_seq ?_
          refine SC_cond rfl (fun hc159 => ?_) (fun hc159 => ?_)
          · have hon : o < M := of_decide_eq_true hc159
            obtain ⟨z, hz⟩ : ∃ z, l2[o]? = some z := ⟨_, List.getElem?_eq_getElem (by omega)⟩
            obtain ⟨u, hu⟩ : ∃ u : Nat, z % 256 % ((i + 1 : Nat) : Int) = (u : Int) := ⟨(z % 256 % ((i + 1 : Nat) : Int)).toNat, by rw [Int.toNat_of_nonneg (Int.emod_nonneg _ (by omega))]⟩
            have hul : u < i + 1 := by have := Int.emod_lt_of_pos (z % 256) (show (0 : Int) < ((i + 1 : Nat) : Int) by omega); omega
            obtain ⟨du, hdu⟩ : ∃ d, ds[u]? = some d := ⟨_, List.getElem?_eq_getElem (by omega)⟩
            have hwn6 : wn.length ≤ 6 := by have := nodup_len hwd (B := fo 6) hwf; rwa [fo_len] at this
            refine SC_skip ?_
            refine SN_seq ?_
            refine SC_seq ?_
            refine SC_block ?_
            refine SC_seq ?_
            refine SC_region ?_
            refine SR_pu (RD_move rfl) rfl ?_
            refine SR_pu (RD_move rfl) rfl ?_
            refine SR_rd (RD_ixO (i := (o : Nat)) (cs := l2.map intV) Try.runUnderlying22 Try.sizeOf3 rfl rfl (by simpa using hn2) (by omega) (by omega)) Has.ro rfl ?_
            refine SR_rd (RD_loadO (v := intV z) (cs := l2.map intV) Try.isAgg3 rfl (by simp [hz])) Has.ro rfl ?_
            refine SR_pu (RD_mask 8 rfl rfl rfl (by decide) 256 rfl) rfl ?_
            refine SR_pu (RD_move rfl) rfl ?_
            refine SR_pu (RD_len Try.runUnderlying22 rfl) rfl ?_
            refine SR_pu (RD_remi rfl rfl (by omega) (by omega)) rfl ?_
            refine SR_pu (RD_assign rfl) rfl ?_
            refine SR_nil ?_
            refine SN.le (l := [(2, _), (7, _), (9, _), (10, _), (12, _), (13, _), (20, _), (21, _), (22, _), (23, _)]) ?_ (.cons rfl (.cons rfl (.cons rfl (.cons rfl (.cons rfl (.cons rfl (.cons rfl (.cons rfl (.cons rfl (.cons rfl (.nil)))))))))))
            rw [hu]
            refine SN_seq ?_
            refine SC_seq ?_
            refine SC_region ?_
            refine SR_pu (RD_move rfl) rfl ?_
            refine SR_pu (RD_move rfl) rfl ?_
            refine SR_pu (RD_move rfl) rfl ?_
            refine SR_call Try.call46 (.cons rfl (.cons rfl (.cons rfl (.nil)))) (plaw_Way hpb (by omega) da (i + 1) dc rfl (by omega) ba (i + 1) bc (es := BL.flatMap beC) (by rw [be_len, List.length_map]) (fun r b hb => by obtain ⟨w, hw1, hw2⟩ := be_blk hb; rw [be_get hw1 3 (by omega), ← hw2]; rfl) hbsl u (by omega)) (lts rfl) ?_
            rintro _ L7 ⟨W1, w1a, w1c, hW1, hW1l, rfl, hL7⟩
            refine SR.lands hL7 ?_
            refine SR_pu (RD_assign rfl) rfl ?_
            refine SR_nil ?_
            refine SN.le (l := [(2, _), (7, _), (9, _), (10, _), (12, _), (13, _), (20, _), (21, _), (22, _), (23, _), (24, _)]) ?_ (.cons rfl (.cons rfl (.cons rfl (.cons rfl (.cons rfl (.cons rfl (.cons rfl (.cons rfl (.cons rfl (.cons rfl (.cons rfl (.nil))))))))))))
            refine SN_seq ?_
            refine SC_seq ?_
            refine SC_region ?_
            refine SR_pu (RD_move rfl) rfl ?_
            refine SR_pu (RD_move rfl) rfl ?_
            refine SR_pu (RD_move rfl) rfl ?_
            refine SR_call Try.call46 (.cons rfl (.cons rfl (.cons rfl (.nil)))) (plaw_Way hpb (by omega) da (i + 1) dc rfl (by omega) ba (i + 1) bc (es := BL.flatMap beC) (by rw [be_len, List.length_map]) (fun r b hb => by obtain ⟨w, hw1, hw2⟩ := be_blk hb; rw [be_get hw1 3 (by omega), ← hw2]; rfl) hbsl tp (by omega)) (lts rfl) ?_
            rintro _ L8 ⟨W2, w2a, w2c, hW2, hW2l, rfl, hL8⟩
            refine SR.lands hL8 ?_
            refine SR_pu (RD_assign rfl) rfl ?_
            refine SR_nil ?_
            refine SN.le (l := [(2, _), (7, _), (9, _), (10, _), (12, _), (13, _), (20, _), (21, _), (22, _), (23, _), (24, _), (25, _)]) ?_ (.cons rfl (.cons rfl (.cons rfl (.cons rfl (.cons rfl (.cons rfl (.cons rfl (.cons rfl (.cons rfl (.cons rfl (.cons rfl (.cons rfl (.nil)))))))))))))
            refine SN_seq ?_
            refine SC_seq ?_
            refine SC_region ?_
            refine SR_pu (RD_assign rfl) rfl ?_
            refine SR_pu (RD_assign rfl) rfl ?_
            refine SR_nil ?_
            refine SN.le (l := [(2, _), (7, _), (9, _), (10, _), (12, _), (13, _), (20, _), (21, _), (22, _), (23, _), (24, _), (25, _), (26, _), (27, _)]) ?_ (.cons rfl (.cons rfl (.cons rfl (.cons rfl (.cons rfl (.cons rfl (.cons rfl (.cons rfl (.cons rfl (.cons rfl (.cons rfl (.cons rfl (.cons rfl (.cons rfl (.nil)))))))))))))))
            refine SN_seq ?_
            refine SC_seq ?_
            refine SC_seq ?_
            refine SC_region ?_
            refine SR_pu (RD_assign rfl) rfl ?_
            refine SR_nil ?_
            refine SN.le (l := [(2, _), (7, _), (9, _), (10, _), (12, _), (13, _), (20, _), (21, _), (22, _), (23, _), (24, _), (25, _), (26, _), (27, _), (28, _)]) ?_ (.cons rfl (.cons rfl (.cons rfl (.cons rfl (.cons rfl (.cons rfl (.cons rfl (.cons rfl (.cons rfl (.cons rfl (.cons rfl (.cons rfl (.cons rfl (.cons rfl (.cons rfl (.nil))))))))))))))))
            refine SN_seq ?_
            refine SC_block ?_
            refine SC_ind (X := Nat × Int) (fun x => x.1 ≤ W1.length ∧ ((x.2 = -1 ∧ tp ∉ W1.take x.1) ∨ ∃ t : Nat, x.2 = t ∧ W1[t]? = some tp)) (fun x => W1.length - x.1) (fun x => [(2, .slice a2 n2 c2), (7, .pointer (some ⟨k.p, 0, none⟩)), (9, .pointer (some ⟨p, 0, none⟩)), (10, .slice fa 6 fc), (12, .slice da (i + 1) dc), (13, .slice ba (i + 1) bc), (20, .int .i64 (tp : Nat)), (21, .slice wa wn.length wc), (22, .int .i64 (o : Nat)), (23, .int .i64 (u : Nat)), (24, .slice w1a W1.length w1c), (25, .slice w2a W2.length w2c), (26, .int .i64 x.2), (27, .bool false), (28, .int .i64 (x.1 : Nat))]) (fun x => rowP 3 1 w1a W1.length w1c (W1.map pnatV) :: rowP 3 1 w2a W2.length w2c (W2.map pnatV) :: rowP 39 4 wa wn.length wc (wn.flatMap EnvD.cells) :: rowP 3 1 da (i + 1) dc (ds.map intV) :: rowP 33 6 ba (i + 1) bc (BL.flatMap beC) :: rowP 39 4 fa 6 fc ((fo 6).flatMap EnvD.cells) :: At treeI q st :: At worldI k ⟨l, S⟩ :: At logI p (LS.of k.p q dt l wn) :: G) ((0, -1)) (⟨by simp, .inl ⟨rfl, by simp⟩⟩) (.cons rfl (.cons rfl (.cons rfl (.cons rfl (.cons rfl (.cons rfl (.cons rfl (.cons rfl (.cons rfl (.cons rfl (.cons rfl (.cons rfl (.cons rfl (.cons rfl (.cons rfl (.nil)))))))))))))))) (.fin) ?_
            intro ⟨j, bh⟩ hi ih4
            obtain ⟨hj2, hbh⟩ := hi
            dsimp only at hj2 hbh ih4 ⊢
            refine SC_seq ?_
            refine SC_seq ?_
            refine SC_region ?_
            refine SR_pu (RD_move rfl) rfl ?_
            refine SR_pu (RD_move rfl) rfl ?_
            refine SR_pu (RD_len Try.runUnderlying22 rfl) rfl ?_
            refine SR_pu (RD_lss rfl rfl) rfl ?_
            refine SR_nil ?_
            refine SN.le (l := [(2, _), (7, _), (9, _), (10, _), (12, _), (13, _), (20, _), (21, _), (22, _), (23, _), (24, _), (25, _), (26, _), (27, _), (28, _), (181, _)]) ?_ (.cons rfl (.cons rfl (.cons rfl (.cons rfl (.cons rfl (.cons rfl (.cons rfl (.cons rfl (.cons rfl (.cons rfl (.cons rfl (.cons rfl (.cons rfl (.cons rfl (.cons rfl (.cons rfl (.nil)))))))))))))))))
            refine SN_seq ?_
            refine SC_cond rfl (fun hc181 => ?_) (fun hc181 => ?_)
            · have hjn : j < W1.length := by simp at hc181; omega
              obtain ⟨y, hy⟩ : ∃ z, W1[j]? = some z := ⟨_, List.getElem?_eq_getElem hjn⟩
              have htk : W1.take (j + 1) = W1.take j ++ [y] := by rw [List.take_add_one, hy]; rfl
              refine SC_skip ?_
              refine SN_seq ?_
              refine SC_seq ?_
              refine SC_block ?_
              refine SC_seq ?_
              refine SC_region ?_
              refine SR_pu (RD_move rfl) rfl ?_
              refine SR_pu (RD_move rfl) rfl ?_
              refine SR_rd (RD_ixO (i := (j : Nat)) (cs := W1.map pnatV) Try.runUnderlying22 Try.sizeOf3 rfl rfl (by simp) (by omega) (by omega)) Has.ro rfl ?_
              refine SR_rd (RD_loadO (v := pnatV y) (cs := W1.map pnatV) Try.isAgg3 rfl (by simp [hy])) Has.ro rfl ?_
              refine SR_pu (RD_move rfl) rfl ?_
              refine SR_pu (RD_eql rfl rfl) rfl ?_
              refine SR_nil ?_
              refine SN.le (l := [(2, _), (7, _), (9, _), (10, _), (12, _), (13, _), (20, _), (21, _), (22, _), (23, _), (24, _), (25, _), (26, _), (27, _), (28, _), (189, _)]) ?_ (.cons rfl (.cons rfl (.cons rfl (.cons rfl (.cons rfl (.cons rfl (.cons rfl (.cons rfl (.cons rfl (.cons rfl (.cons rfl (.cons rfl (.cons rfl (.cons rfl (.cons rfl (.cons rfl (.nil)))))))))))))))))
              refine SN_seq ?_
              refine SC_cond rfl (fun hc189 => ?_) (fun hc189 => ?_)
              · have he : y = tp := by simp at hc189; omega
                refine SC_region ?_
                refine SR_pu (RD_move rfl) rfl ?_
                refine SR_pu (RD_assign rfl) rfl ?_
                refine SR_nil ?_
                refine SN.le (l := [(2, _), (7, _), (9, _), (10, _), (12, _), (13, _), (20, _), (21, _), (22, _), (23, _), (24, _), (25, _), (26, _), (27, _), (28, _)]) ?_ (.cons rfl (.cons rfl (.cons rfl (.cons rfl (.cons rfl (.cons rfl (.cons rfl (.cons rfl (.cons rfl (.cons rfl (.cons rfl (.cons rfl (.cons rfl (.cons rfl (.cons rfl (.nil))))))))))))))))
                refine SN_block ?_
                refine SN_seq ?_
                refine SC_region ?_
                refine SR_pu (RD_move rfl) rfl ?_
                refine SR_pu (RD_addi rfl rfl (by omega) (by omega)) rfl ?_
                refine SR_pu (RD_assign rfl) rfl ?_
                refine SR_nil ?_
                refine SN.le (l := [(2, _), (7, _), (9, _), (10, _), (12, _), (13, _), (20, _), (21, _), (22, _), (23, _), (24, _), (25, _), (26, _), (27, _), (28, _)]) ?_ (.cons rfl (.cons rfl (.cons rfl (.cons rfl (.cons rfl (.cons rfl (.cons rfl (.cons rfl (.cons rfl (.cons rfl (.cons rfl (.cons rfl (.cons rfl (.cons rfl (.cons rfl (.nil))))))))))))))))
                refine SC_again (ih4 ((j + 1, (j : Int))) (⟨by dsimp only; omega, .inr ⟨j, rfl, by rw [hy, he]⟩⟩) (by dsimp only; omega)) (.fin) (.cons rfl (.cons rfl (.cons rfl (.cons rfl (.cons rfl (.cons rfl (.cons rfl (.cons rfl (.cons rfl (.cons rfl (.cons rfl (.cons rfl (.cons rfl (.cons rfl (.cons' rfl (ie (by dsimp only; omega)) (.nil))))))))))))))))
              · have he : ¬ y = tp := by simp at hc189; omega
                refine SC_skip ?_
                refine SN_block ?_
                refine SN_seq ?_
                refine SC_region ?_
                refine SR_pu (RD_move rfl) rfl ?_
                refine SR_pu (RD_addi rfl rfl (by omega) (by omega)) rfl ?_
                refine SR_pu (RD_assign rfl) rfl ?_
                refine SR_nil ?_
                refine SN.le (l := [(2, _), (7, _), (9, _), (10, _), (12, _), (13, _), (20, _), (21, _), (22, _), (23, _), (24, _), (25, _), (26, _), (27, _), (28, _)]) ?_ (.cons rfl (.cons rfl (.cons rfl (.cons rfl (.cons rfl (.cons rfl (.cons rfl (.cons rfl (.cons rfl (.cons rfl (.cons rfl (.cons rfl (.cons rfl (.cons rfl (.cons rfl (.nil))))))))))))))))
                refine SC_again (ih4 ((j + 1, bh)) (⟨by dsimp only; omega, hbh.imp (fun h => ⟨h.1, fun hx => by dsimp only at hx; rw [htk] at hx; rcases List.mem_append.1 hx with h2 | h2; exact h.2 h2; simp at h2; exact he h2.symm⟩) id⟩) (by dsimp only; omega)) (.fin) (.cons rfl (.cons rfl (.cons rfl (.cons rfl (.cons rfl (.cons rfl (.cons rfl (.cons rfl (.cons rfl (.cons rfl (.cons rfl (.cons rfl (.cons rfl (.cons rfl (.cons' rfl (ie (by dsimp only; omega)) (.nil))))))))))))))))
            · have hjn : j = W1.length := by simp at hc181; omega
              rw [hjn, List.take_length] at hbh
              clear ih4
              refine SC_exit rfl ?_
              refine SN_seq ?_
              refine SC_seq ?_
              refine SC_seq ?_
              refine SC_region ?_
              refine SR_pu (RD_assign rfl) rfl ?_
              refine SR_nil ?_
              refine SN.le (l := [(2, _), (7, _), (9, _), (10, _), (12, _), (13, _), (20, _), (21, _), (22, _), (23, _), (24, _), (25, _), (26, _), (27, _), (29, _)]) ?_ (.cons rfl (.cons rfl (.cons rfl (.cons rfl (.cons rfl (.cons rfl (.cons rfl (.cons rfl (.cons rfl (.cons rfl (.cons rfl (.cons rfl (.cons rfl (.cons rfl (.cons rfl (.nil))))))))))))))))
              refine SN_seq ?_
              refine SC_block ?_
              refine SC_ind (X := Nat) (fun r => r ≤ W2.length) (fun r => W2.length - r) (fun r => [(2, .slice a2 n2 c2), (7, .pointer (some ⟨k.p, 0, none⟩)), (9, .pointer (some ⟨p, 0, none⟩)), (10, .slice fa 6 fc), (12, .slice da (i + 1) dc), (13, .slice ba (i + 1) bc), (20, .int .i64 (tp : Nat)), (21, .slice wa wn.length wc), (22, .int .i64 (o : Nat)), (23, .int .i64 (u : Nat)), (24, .slice w1a W1.length w1c), (25, .slice w2a W2.length w2c), (26, .int .i64 bh), (27, .bool (decide (u ∈ W2.take r))), (29, .int .i64 (r : Nat))]) (fun r => rowP 3 1 w1a W1.length w1c (W1.map pnatV) :: rowP 3 1 w2a W2.length w2c (W2.map pnatV) :: rowP 39 4 wa wn.length wc (wn.flatMap EnvD.cells) :: rowP 3 1 da (i + 1) dc (ds.map intV) :: rowP 33 6 ba (i + 1) bc (BL.flatMap beC) :: rowP 39 4 fa 6 fc ((fo 6).flatMap EnvD.cells) :: At treeI q st :: At worldI k ⟨l, S⟩ :: At logI p (LS.of k.p q dt l wn) :: G) (0) (by omega) (.cons rfl (.cons rfl (.cons rfl (.cons rfl (.cons rfl (.cons rfl (.cons rfl (.cons rfl (.cons rfl (.cons rfl (.cons rfl (.cons rfl (.cons rfl (.cons' rfl (by simp) (.cons rfl (.nil)))))))))))))))) (.fin) ?_
              intro r hi ih5
              have hr1 := hi
              refine SC_seq ?_
              refine SC_seq ?_
              refine SC_region ?_
              refine SR_pu (RD_move rfl) rfl ?_
              refine SR_pu (RD_move rfl) rfl ?_
              refine SR_pu (RD_len Try.runUnderlying22 rfl) rfl ?_
              refine SR_pu (RD_lss rfl rfl) rfl ?_
              refine SR_nil ?_
              refine SN.le (l := [(2, _), (7, _), (9, _), (10, _), (12, _), (13, _), (20, _), (21, _), (22, _), (23, _), (24, _), (25, _), (26, _), (27, _), (29, _), (194, _)]) ?_ (.cons rfl (.cons rfl (.cons rfl (.cons rfl (.cons rfl (.cons rfl (.cons rfl (.cons rfl (.cons rfl (.cons rfl (.cons rfl (.cons rfl (.cons rfl (.cons rfl (.cons rfl (.cons rfl (.nil)))))))))))))))))
              refine SN_seq ?_
              refine SC_cond rfl (fun hc194 => ?_) (fun hc194 => ?_)
              · have hrn : r < W2.length := by simp at hc194; omega
                obtain ⟨y, hy⟩ : ∃ z, W2[r]? = some z := ⟨_, List.getElem?_eq_getElem hrn⟩
                have htk : W2.take (r + 1) = W2.take r ++ [y] := by rw [List.take_add_one, hy]; rfl
                refine SC_skip ?_
                refine SN_seq ?_
                refine SC_seq ?_
                refine SC_block ?_
                refine SC_region ?_
                refine SR_pu (RD_move rfl) rfl ?_
                refine SR_pu (RD_move rfl) rfl ?_
                refine SR_guard rfl rfl (fun hg45_1 => ?_) (fun hg45_1 => ?_)
                · refine SR_yes rfl rfl (hg45_1) ?_
                  refine SR_pu (RD_move rfl) rfl ?_
                  refine SR_yes rfl rfl (hg45_1) ?_
                  refine SR_pu (RD_move rfl) rfl ?_
                  refine SR_yes rfl rfl (hg45_1) ?_
                  refine SR_rd (RD_ixO (i := (r : Nat)) (cs := W2.map pnatV) Try.runUnderlying22 Try.sizeOf3 rfl rfl (by simp) (by omega) (by omega)) Has.ro rfl ?_
                  refine SR_yes rfl rfl (hg45_1) ?_
                  refine SR_rd (RD_loadO (v := pnatV y) (cs := W2.map pnatV) Try.isAgg3 rfl (by simp [hy])) Has.ro rfl ?_
                  refine SR_yes rfl rfl (hg45_1) ?_
                  refine SR_pu (RD_move rfl) rfl ?_
                  refine SR_yes rfl rfl (hg45_1) ?_
                  refine SR_pu (RD_eql rfl rfl) rfl ?_
                  refine SR_pu (RD_pick_f rfl (hg45_1) rfl) rfl ?_
                  refine SR_pu (RD_assign rfl) rfl ?_
                  refine SR_nil ?_
                  refine SN.le (l := [(2, _), (7, _), (9, _), (10, _), (12, _), (13, _), (20, _), (21, _), (22, _), (23, _), (24, _), (25, _), (26, _), (27, _), (29, _)]) ?_ (.cons rfl (.cons rfl (.cons rfl (.cons rfl (.cons rfl (.cons rfl (.cons rfl (.cons rfl (.cons rfl (.cons rfl (.cons rfl (.cons rfl (.cons rfl (.cons rfl (.cons rfl (.nil))))))))))))))))
                  refine SN_block ?_
                  refine SN_seq ?_
                  refine SC_region ?_
                  refine SR_pu (RD_move rfl) rfl ?_
                  refine SR_pu (RD_addi rfl rfl (by omega) (by omega)) rfl ?_
                  refine SR_pu (RD_assign rfl) rfl ?_
                  refine SR_nil ?_
                  refine SN.le (l := [(2, _), (7, _), (9, _), (10, _), (12, _), (13, _), (20, _), (21, _), (22, _), (23, _), (24, _), (25, _), (26, _), (27, _), (29, _)]) ?_ (.cons rfl (.cons rfl (.cons rfl (.cons rfl (.cons rfl (.cons rfl (.cons rfl (.cons rfl (.cons rfl (.cons rfl (.cons rfl (.cons rfl (.cons rfl (.cons rfl (.cons rfl (.nil))))))))))))))))
                  refine SC_again (ih5 (r + 1) (by omega) (by omega)) (.fin) (.cons rfl (.cons rfl (.cons rfl (.cons rfl (.cons rfl (.cons rfl (.cons rfl (.cons rfl (.cons rfl (.cons rfl (.cons rfl (.cons rfl (.cons rfl (.cons' rfl (congrArg Value.bool (by rw [htk, show decide (u ∈ W2.take r ++ [y]) = (decide (u ∈ W2.take r) || decide (u = y)) by simp, show decide (u ∈ W2.take r) = false from hg45_1, Bool.false_or]; exact decide_eq_decide.2 (by omega))) (.cons' rfl (ie (by omega)) (.nil))))))))))))))))
                · refine SR_no rfl rfl (hg45_1) (lts rfl) ?_
                  refine SR_no rfl rfl (hg45_1) (lts rfl) ?_
                  refine SR_no rfl rfl (hg45_1) (lts rfl) ?_
                  refine SR_no rfl rfl (hg45_1) (lts rfl) ?_
                  refine SR_no rfl rfl (hg45_1) (lts rfl) ?_
                  refine SR_no rfl rfl (hg45_1) (lts rfl) ?_
                  refine SR_pu (RD_pick_t rfl (hg45_1) rfl) rfl ?_
                  refine SR_pu (RD_assign rfl) rfl ?_
                  refine SR_nil ?_
                  refine SN.le (l := [(2, _), (7, _), (9, _), (10, _), (12, _), (13, _), (20, _), (21, _), (22, _), (23, _), (24, _), (25, _), (26, _), (27, _), (29, _)]) ?_ (.cons rfl (.cons rfl (.cons rfl (.cons rfl (.cons rfl (.cons rfl (.cons rfl (.cons rfl (.cons rfl (.cons rfl (.cons rfl (.cons rfl (.cons rfl (.cons rfl (.cons rfl (.nil))))))))))))))))
                  refine SN_block ?_
                  refine SN_seq ?_
                  refine SC_region ?_
                  refine SR_pu (RD_move rfl) rfl ?_
                  refine SR_pu (RD_addi rfl rfl (by omega) (by omega)) rfl ?_
                  refine SR_pu (RD_assign rfl) rfl ?_
                  refine SR_nil ?_
                  refine SN.le (l := [(2, _), (7, _), (9, _), (10, _), (12, _), (13, _), (20, _), (21, _), (22, _), (23, _), (24, _), (25, _), (26, _), (27, _), (29, _)]) ?_ (.cons rfl (.cons rfl (.cons rfl (.cons rfl (.cons rfl (.cons rfl (.cons rfl (.cons rfl (.cons rfl (.cons rfl (.cons rfl (.cons rfl (.cons rfl (.cons rfl (.cons rfl (.nil))))))))))))))))
                  refine SC_again (ih5 (r + 1) (by omega) (by omega)) (.fin) (.cons rfl (.cons rfl (.cons rfl (.cons rfl (.cons rfl (.cons rfl (.cons rfl (.cons rfl (.cons rfl (.cons rfl (.cons rfl (.cons rfl (.cons rfl (.cons' rfl (congrArg Value.bool (by rw [htk, show decide (u ∈ W2.take r ++ [y]) = (decide (u ∈ W2.take r) || decide (u = y)) by simp, show decide (u ∈ W2.take r) = true from hg45_1]; rfl)) (.cons' rfl (ie (by omega)) (.nil))))))))))))))))
              · have hrn : r = W2.length := by simp at hc194; omega
                rw [show W2.take r = W2 by rw [hrn, List.take_length]]
                clear ih5
                obtain ⟨hcA, hcB, hcC, hcD⟩ := hpb.commit (t := q) hdt hdu hW1 hW2 hwe
                have hlenpb := hpb.len
                have hpos : 0 < ds.length := by omega
                have hW1l := hW1.lt hlenpb hpos
                obtain ⟨bu, hbu⟩ : ∃ b, (BL.map (·.1))[u]? = some b := ⟨_, List.getElem?_eq_getElem (by omega)⟩
                have hgu := hpb.get u du bu hdu hbu
                obtain ⟨bt, hbt⟩ : ∃ b, (BL.map (·.1))[tp]? = some b := ⟨_, List.getElem?_eq_getElem (by omega)⟩
                have hgt := hpb.get tp dt bt hdt hbt
                refine SC_exit rfl ?_
                refine SN_seq ?_
                refine SC_seq ?_
                refine SC_seq ?_
                refine SC_join (X := {x : Int × List EnvD // (bh = -1 ∧ x = (dt, wn)) ∨ ∃ on : Nat, bh = on ∧ W1[on]? = some tp ∧ x = (du, gW (BL.map (·.1)) wn (W1.take on).reverse)}) (fun x => [(2, .slice a2 n2 c2), (7, .pointer (some ⟨k.p, 0, none⟩)), (9, .pointer (some ⟨p, 0, none⟩)), (10, .slice fa 6 fc), (12, .slice da (i + 1) dc), (13, .slice ba (i + 1) bc), (20, .int .i64 (tp : Nat)), (21, .slice wa wn.length wc), (22, .int .i64 (o : Nat)), (23, .int .i64 (u : Nat)), (24, .slice w1a W1.length w1c), (26, .int .i64 bh), (223, .bool false)]) (fun x => rowP 3 1 w1a W1.length w1c (W1.map pnatV) :: rowP 39 4 wa wn.length wc (wn.flatMap EnvD.cells) :: rowP 3 1 da (i + 1) dc (ds.map intV) :: rowP 33 6 ba (i + 1) bc (BL.flatMap beC) :: rowP 39 4 fa 6 fc ((fo 6).flatMap EnvD.cells) :: At treeI q st :: At worldI k ⟨l, S⟩ :: At logI p (LS.of k.p q x.1.1 l x.1.2) :: G) (fun ⟨⟨dd, EE⟩, hX⟩ => ?_) (fun J0 => ?_)
                · dsimp only
                  refine SN_seq ?_
                  refine SC_cond_false rfl (rfl) ?_
                  refine SC_skip ?_
                  refine SN_seq ?_
                  refine SC_seq ?_
                  refine SC_seq ?_
                  refine SC_region ?_
                  refine SR_pu (RD_move rfl) rfl ?_
                  refine SR_pu (RD_geq rfl rfl) rfl ?_
                  refine SR_nil ?_
                  refine SN.le (l := [(2, _), (7, _), (9, _), (10, _), (12, _), (13, _), (20, _), (21, _), (22, _), (23, _), (24, _), (26, _), (225, _)]) ?_ (.cons rfl (.cons rfl (.cons rfl (.cons rfl (.cons rfl (.cons rfl (.cons rfl (.cons rfl (.cons rfl (.cons rfl (.cons rfl (.cons rfl (.cons rfl (.nil))))))))))))))
                  refine SN_seq ?_
                  refine SC_join (X := {x : Nat × Int × List EnvD // (x.1 < i + 1 ∧ ds[x.1]? = some x.2.1) ∧ EG l x.2.2 ∧ x.2.2.Nodup ∧ ∀ e ∈ x.2.2, e ∈ fo 6} × Option Addr × Nat) (fun x => [(2, .slice a2 n2 c2), (7, .pointer (some ⟨k.p, 0, none⟩)), (9, .pointer (some ⟨p, 0, none⟩)), (10, .slice fa 6 fc), (12, .slice da (i + 1) dc), (13, .slice ba (i + 1) bc), (20, .int .i64 (x.1.1.1 : Nat)), (21, .slice x.2.1 x.1.1.2.2.length x.2.2), (22, .int .i64 (o : Nat))]) (fun x => rowP 39 4 x.2.1 x.1.1.2.2.length x.2.2 (x.1.1.2.2.flatMap EnvD.cells) :: rowP 3 1 da (i + 1) dc (ds.map intV) :: rowP 33 6 ba (i + 1) bc (BL.flatMap beC) :: rowP 39 4 fa 6 fc ((fo 6).flatMap EnvD.cells) :: At treeI q st :: At worldI k ⟨l, S⟩ :: At logI p (LS.of k.p q x.1.1.2.1 l x.1.1.2.2) :: G) (fun ⟨⟨⟨tp3, dt3, wn3⟩, ⟨htl3, hdt3⟩, hwe3, hwd3, hwf3⟩, wa3, wc3⟩ => ?_) (fun J0 => ?_)
                  · clear hX
                    clear hbh
                    dsimp only at htl3 hdt3 hwe3 hwd3 hwf3 ⊢
                    have hwn3 : wn3.length ≤ 6 := by have := nodup_len hwd3 (B := fo 6) hwf3; rwa [fo_len] at this
                    refine SN_seq ?_
                    refine SC_seq ?_
                    refine SC_seq ?_
                    refine SC_drawn (.cons 0 true (.cons 2 true (.cons 3 true (.cons 4 true (.cons 5 true (.cons 1 false (.cons 6 true (.cons 7 true (.cons 8 true (.cons 10 true (.cons 11 true (.cons 9 false (.cons 12 true (.cons 13 true (.cons 14 true (.cons 15 true (.cons 17 true (.cons 16 false (.cons 18 false (.cons 19 true (.cons 20 true (.nil)))))))))))))))))))))) (by kernel_rfl) (by kernel_rfl) ?_
                    refine SQ_pu rfl (RD_move rfl) rfl ?_
                    refine SQ_pu rfl (RD_move rfl) rfl ?_
                    refine SQ_pu rfl (RD_move rfl) rfl ?_
                    refine SQ_rd rfl (RD_ixO (i := (tp3 : Nat)) (cs := ds.map intV) Try.runUnderlying22 Try.sizeOf3 rfl rfl (by simp; omega) (by omega) (by omega)) Has.ro rfl ?_
                    refine SQ_rd rfl (RD_loadO (v := intV dt3) (cs := ds.map intV) Try.isAgg3 rfl (by simp [hdt3])) Has.ro rfl ?_
                    refine SQ_call rfl Try.call42 (.cons rfl (.nil)) (CallsK.at (clog_Tip p (LS.of k.p q dt3 l wn3))) (lts rfl) ?_
                    rintro _ L12 ⟨rfl, hL12⟩
                    refine ⟨.lands hL12 (.h Has.ro (.h Has.ro (.nil))), ?_⟩
                    refine SQ.lands hL12 ?_
                    refine SQ_pu rfl (RD_neq rfl rfl) rfl ?_
                    refine SQ_pu rfl (RD_move rfl) rfl ?_
                    refine SQ_pyes rfl rfl rfl (by simp [LS.of]) (RD_move rfl) rfl ?_
                    refine SQ_pyes rfl rfl rfl (by simp [LS.of]) (RD_move rfl) rfl ?_
                    refine SQ_pyes rfl rfl rfl (by simp [LS.of]) (RD_len Try.runUnderlying31 rfl) rfl ?_
                    refine SQ_one (SA_call rfl (.mk rfl rfl (by simp [LS.of])) Try.call45 (.cons rfl (.nil)) (CallsK.at (clog_Len p (LS.of k.p q dt3 l wn3))) (lts rfl) ?_)
                    rintro _ L13 ⟨rfl, hL13⟩
                    refine ⟨.lands hL13 (.h Has.ro (.h Has.ro (.nil))), ?_⟩
                    refine SQ.lands hL13 ?_
                    refine SQ_pyes rfl rfl rfl (by simp [LS.of]) (RD_neq rfl rfl) rfl ?_
                    refine SQ_pu rfl (RD_pick_f rfl (by simp [LS.of]) rfl) rfl ?_
                    refine SQ_pu rfl (RD_move rfl) rfl ?_
                    refine SQ_pyes rfl rfl rfl (by simp [LS.of]) (RD_move rfl) rfl ?_
                    refine SQ_pyes rfl rfl rfl (by simp [LS.of]) (RD_move rfl) rfl ?_
                    refine SQ_one (SA_call rfl (.mk rfl rfl (by simp [LS.of])) Try.call41 (.cons rfl (.nil)) (CallsK.at (clog_Envs p (LS.of k.p q dt3 l wn3) (show wn3.length ≤ 100000000 by omega))) (lts rfl) ?_)
                    rintro _ L14 ⟨va, vc, rfl, hL14⟩
                    change Lands L14 (rowP 39 4 va wn3.length vc (wn3.flatMap EnvD.cells) :: _) at hL14
                    refine ⟨.lands hL14 (.h Has.ro (.h Has.ro (.nil))), ?_⟩
                    refine SQ.lands hL14 ?_
                    refine SQ_one (SA_call rfl (.mk rfl rfl (by simp [LS.of])) Try.call18 (.cons rfl (.cons rfl (.nil))) (ref_Same14 va _ vc wn3 rfl rfl wa3 _ wc3 wn3 rfl rfl (show wn3.length ≤ _ by omega)) (lts rfl) ?_)
                    rintro _ L15 ⟨rfl, hL15⟩
                    refine ⟨.lands hL15 (.h Has.ro (.h Has.ro (.nil))), ?_⟩
                    rw [decide_eq_true rfl]
                    refine SQ.lands hL15 ?_
                    refine SQ_pyes rfl rfl rfl (by simp [LS.of]) (RD_not rfl) rfl ?_
                    refine SQ_pu rfl (RD_pick_f rfl (by simp [LS.of]) rfl) rfl ?_
                    refine SQ_nil ?_
                    refine SN.le (l := [(2, _), (7, _), (9, _), (10, _), (12, _), (13, _), (20, _), (21, _), (22, _), (263, _)]) ?_ (.cons rfl (.cons rfl (.cons rfl (.cons rfl (.cons rfl (.cons rfl (.cons rfl (.cons rfl (.cons rfl (.cons rfl (.nil)))))))))))
                    refine SN_seq ?_
                    refine SC_cond_false rfl (rfl) ?_
                    refine SC_skip ?_
                    refine SN_seq ?_
                    refine SC_seq ?_
                    refine SC_region ?_
                    refine SR_pu (RD_assign rfl) rfl ?_
                    refine SR_nil ?_
                    refine SN.le (l := [(2, _), (7, _), (9, _), (10, _), (12, _), (13, _), (20, _), (21, _), (22, _), (31, _)]) ?_ (.cons rfl (.cons rfl (.cons rfl (.cons rfl (.cons rfl (.cons rfl (.cons rfl (.cons rfl (.cons rfl (.cons rfl (.nil)))))))))))
                    refine SN_seq ?_
                    refine SC_block ?_
                    refine SC_ind (X := Nat) (fun j => j ≤ 6) (fun j => 6 - j) (fun j => [(2, .slice a2 n2 c2), (7, .pointer (some ⟨k.p, 0, none⟩)), (9, .pointer (some ⟨p, 0, none⟩)), (10, .slice fa 6 fc), (12, .slice da (i + 1) dc), (13, .slice ba (i + 1) bc), (20, .int .i64 (tp3 : Nat)), (21, .slice wa3 wn3.length wc3), (22, .int .i64 (o : Nat)), (31, .int .i64 (j : Nat))]) (fun j => rowP 39 4 wa3 wn3.length wc3 (wn3.flatMap EnvD.cells) :: rowP 3 1 da (i + 1) dc (ds.map intV) :: rowP 33 6 ba (i + 1) bc (BL.flatMap beC) :: rowP 39 4 fa 6 fc ((fo 6).flatMap EnvD.cells) :: At treeI q st :: At worldI k ⟨l, S⟩ :: At logI p (LS.of k.p q dt3 l wn3) :: G) (0) (by omega) (.cons rfl (.cons rfl (.cons rfl (.cons rfl (.cons rfl (.cons rfl (.cons rfl (.cons rfl (.cons rfl (.cons rfl (.nil))))))))))) (.fin) ?_
                    intro j hi ih7
                    have hj6 := hi
                    refine SC_seq ?_
                    refine SC_seq ?_
                    refine SC_region ?_
                    refine SR_pu (RD_move rfl) rfl ?_
                    refine SR_pu (RD_lss rfl rfl) rfl ?_
                    refine SR_nil ?_
                    refine SN.le (l := [(2, _), (7, _), (9, _), (10, _), (12, _), (13, _), (20, _), (21, _), (22, _), (31, _), (265, _)]) ?_ (.cons rfl (.cons rfl (.cons rfl (.cons rfl (.cons rfl (.cons rfl (.cons rfl (.cons rfl (.cons rfl (.cons rfl (.cons rfl (.nil))))))))))))
                    refine SN_seq ?_
                    refine SC_cond rfl (fun hc265 => ?_) (fun hc265 => ?_)
                    · have hjn : j < 6 := by simp at hc265; omega
                      obtain ⟨e, he⟩ : ∃ e, (fo 6)[j]? = some e := ⟨_, List.getElem?_eq_getElem (by rw [fo_len]; omega)⟩
                      have hem := List.mem_of_getElem? he
                      have heg := fo_good hem
                      have hgh := grow_has hwe3 heg
                      refine SC.row_len (a := fa) fun _ hfc => ?_
                      refine SC_skip ?_
                      refine SN_seq ?_
                      refine SC_seq ?_
                      refine SC_block ?_
                      refine SC_seq ?_
                      refine SC_drawn (.cons 0 true (.cons 1 true (.cons 2 true (.cons 3 true (.cons 4 true (.cons 5 true (.cons 8 true (.cons 9 true (.cons 10 true (.cons 11 true (.cons 12 true (.cons 13 true (.cons 16 true (.cons 17 true (.cons 6 false (.cons 7 false (.cons 14 false (.cons 15 true (.cons 18 true (.cons 19 true (.nil))))))))))))))))))))) (by kernel_rfl) (by kernel_rfl) ?_
                      refine SQ_pu rfl (RD_move rfl) rfl ?_
                      refine SQ_pu rfl (RD_move rfl) rfl ?_
                      refine SQ_pu rfl (RD_move rfl) rfl ?_
                      refine SQ_pu rfl (RD_move rfl) rfl ?_
                      refine SQ_rd rfl (RD_ixO (i := (j : Nat)) (cs := (fo 6).flatMap EnvD.cells) Try.runUnderlying31 Try.sizeOf39 rfl rfl (by rw [env_len, fo_len]) (by omega) (by omega)) Has.ro rfl ?_
                      refine SQ_rd rfl (RD_loadAO (vs := EnvD.cells e) (cs := (fo 6).flatMap EnvD.cells) Try.isAgg39 Try.sizeOf39 rfl rfl (by decide) (fun o v h => by have ho : o < 4 := (List.getElem?_eq_some_iff.1 h).1; rw [show ((j : Nat) : Int).toNat * (3 + 1) + o = j * 4 + o by omega, env_get he o ho]; exact h)) Has.ro rfl ?_
                      refine SQ_pu rfl (RD_move rfl) rfl ?_
                      refine SQ_pu rfl (RD_move rfl) rfl ?_
                      refine SQ_pu rfl (RD_move rfl) rfl ?_
                      refine SQ_pu rfl (RD_move rfl) rfl ?_
                      refine SQ_pu rfl (RD_addi rfl rfl (by omega) (by omega)) rfl ?_
                      refine SQ_pu rfl (pRD_cutLH j 1 Try.runUnderlying31 Try.sizeOf39 rfl rfl rfl rfl (by omega) (by omega)) rfl ?_
                      refine SQ_pu rfl (RD_move rfl) rfl ?_
                      refine SQ_pu rfl (RD_len Try.runUnderlying31 rfl) rfl ?_
                      refine SQ_call rfl Try.call29 (.cons rfl (.cons rfl (.nil))) (CallsK.at (w_EnvDigest k ⟨l, S⟩ e heg.2.2 (by dsimp only; omega) l _ (dput_idem (hfe e hem)) rfl)) (lts rfl) ?_
                      rintro _ L16 ⟨rfl, hL16⟩
                      refine ⟨.lands hL16 (.w rfl (.h Has.ro (.nil))), ?_⟩
                      refine SQ.lands hL16 ?_
                      refine SQ_call rfl Try.call47 (.cons rfl (.cons rfl (.nil))) (CallsK.at (clog_Has p (LS.of k.p q dt3 l wn3) ((dnum l (envB e) : Nat) : Int))) (lts rfl) ?_
                      rintro _ L17 ⟨rfl, hL17⟩
                      refine ⟨.lands hL17 (.h Has.ro (.h Has.ro (.nil))), ?_⟩
                      refine SQ.lands hL17 ?_
                      refine SQ_call rfl Try.call44 (.cons rfl (.cons rfl (.nil))) (ref_grow1 wa3 wn3.length wc3 wn3 rfl fa fc (fo 6) j e he (by rw [fo_len]; exact hfc) (by omega)) (lts rfl) ?_
                      rintro _ L18 ⟨ga, gc, rfl, hL18⟩
                      refine ⟨.lands hL18 (.h Has.ro (.h Has.ro (.nil))), ?_⟩
                      refine SQ.lands hL18 ?_
                      refine SQ_pu rfl (RD_len Try.runUnderlying31 rfl) rfl ?_
                      refine SQ_pu rfl (RD_eql rfl rfl) rfl ?_
                      refine SQ_pu rfl (RD_neqB Try.underlying4 rfl rfl) rfl ?_
                      refine SQ_nil ?_
                      refine SN.le (l := [(2, _), (7, _), (9, _), (10, _), (12, _), (13, _), (20, _), (21, _), (22, _), (31, _), (287, _)]) ?_ (.cons rfl (.cons rfl (.cons rfl (.cons rfl (.cons rfl (.cons rfl (.cons rfl (.cons rfl (.cons rfl (.cons rfl (.cons rfl (.nil))))))))))))
                      refine SN_seq ?_
                      refine SC_cond_false rfl (by rw [show (LS.of k.p q dt3 l wn3).ks = numsE l wn3 from rfl, hgh]; simp) ?_
                      refine SC_skip ?_
                      refine SN_block ?_
                      refine SN_seq ?_
                      refine SC_region ?_
                      refine SR_pu (RD_move rfl) rfl ?_
                      refine SR_pu (RD_addi rfl rfl (by omega) (by omega)) rfl ?_
                      refine SR_pu (RD_assign rfl) rfl ?_
                      refine SR_nil ?_
                      refine SN.le (l := [(2, _), (7, _), (9, _), (10, _), (12, _), (13, _), (20, _), (21, _), (22, _), (31, _)]) ?_ (.cons rfl (.cons rfl (.cons rfl (.cons rfl (.cons rfl (.cons rfl (.cons rfl (.cons rfl (.cons rfl (.cons rfl (.nil)))))))))))
                      refine SC_again (ih7 (j + 1) (by omega) (by omega)) (.fin) (.cons rfl (.cons rfl (.cons rfl (.cons rfl (.cons rfl (.cons rfl (.cons rfl (.cons rfl (.cons rfl (.cons' rfl (ie (by omega)) (.nil)))))))))))
                    · clear ih7
                      refine SC_exit rfl ?_
                      refine SN_block ?_
                      refine SN_seq ?_
                      refine SC_region ?_
                      refine SR_pu (RD_move rfl) rfl ?_
                      refine SR_pu (RD_addi rfl rfl (by omega) (by omega)) rfl ?_
                      refine SR_pu (RD_assign rfl) rfl ?_
                      refine SR_nil ?_
                      refine SN.le (l := [(2, _), (7, _), (9, _), (10, _), (12, _), (13, _), (20, _), (21, _), (22, _)]) ?_ (.cons rfl (.cons rfl (.cons rfl (.cons rfl (.cons rfl (.cons rfl (.cons rfl (.cons rfl (.cons rfl (.nil))))))))))
                      refine SC_again (ih3 ((o + 1, ⟨(tp3, dt3, wn3), ⟨htl3, hdt3⟩, hwe3, hwd3, hwf3⟩, wa3, wc3)) (by dsimp only; omega) (by dsimp only; omega)) (.fin) (.cons rfl (.cons rfl (.cons rfl (.cons rfl (.cons rfl (.cons rfl (.cons rfl (.cons rfl (.cons' rfl (ie (by dsimp only; omega)) (.nil))))))))))
                  · refine SC_cond rfl (fun hc225 => ?_) (fun hc225 => ?_)
                    · obtain ⟨on, hbo, hon2, hxe⟩ : ∃ on : Nat, bh = on ∧ W1[on]? = some tp ∧ (dd, EE) = (du, gW (BL.map (·.1)) wn (W1.take on).reverse) := by
                        rcases hX with ⟨h1, _⟩ | h
                        · exfalso; have := of_decide_eq_true hc225; omega
                        · exact h
                      simp only [Prod.mk.injEq] at hxe
                      obtain ⟨hd1, hd2⟩ := hxe
                      rw [hbo, hd1, hd2]
                      have honl := (List.getElem?_eq_some_iff.1 hon2).1
                      refine SC_seq ?_
                      refine SC_region ?_
                      refine SR_pu (RD_move rfl) rfl ?_
                      refine SR_pu (RD_assign rfl) rfl ?_
                      refine SR_nil ?_
                      refine SN.le (l := [(2, _), (7, _), (9, _), (10, _), (12, _), (13, _), (20, _), (21, _), (22, _), (24, _), (26, _)]) ?_ (.cons rfl (.cons rfl (.cons rfl (.cons rfl (.cons rfl (.cons rfl (.cons rfl (.cons rfl (.cons rfl (.cons rfl (.cons rfl (.nil))))))))))))
                      refine SN_seq ?_
                      refine SC_seq ?_
                      refine SC_region ?_
                      refine SR_pu (RD_move rfl) rfl ?_
                      refine SR_pu (RD_subi rfl rfl (by omega) (by omega)) rfl ?_
                      refine SR_pu (RD_assign rfl) rfl ?_
                      refine SR_nil ?_
                      refine SN.le (l := [(2, _), (7, _), (9, _), (10, _), (12, _), (13, _), (20, _), (21, _), (22, _), (24, _), (30, _)]) ?_ (.cons rfl (.cons rfl (.cons rfl (.cons rfl (.cons rfl (.cons rfl (.cons rfl (.cons rfl (.cons rfl (.cons rfl (.cons rfl (.nil))))))))))))
                      refine SN_seq ?_
                      refine SC_block ?_
                      have hT0l : (W1.take on).length = on := by rw [List.length_take]; omega
                      have hT1 : gW (BL.map (·.1)) wn ((W1.take on).drop (((on : Int) - 1) + 1).toNat).reverse = wn := by rw [show ((on : Int) - 1 + 1).toNat = on by omega, List.drop_of_length_le (by omega)]; rfl
                      refine SC_ind (X := Int × Option Addr × Nat) (fun x => -2 ≤ x.1 ∧ x.1 ≤ (on : Int) - 1) (fun x => (x.1 + 2).toNat) (fun x => [(2, .slice a2 n2 c2), (7, .pointer (some ⟨k.p, 0, none⟩)), (9, .pointer (some ⟨p, 0, none⟩)), (10, .slice fa 6 fc), (12, .slice da (i + 1) dc), (13, .slice ba (i + 1) bc), (20, .int .i64 (u : Nat)), (21, .slice x.2.1 (gW (BL.map (·.1)) wn ((W1.take on).drop (x.1 + 1).toNat).reverse).length x.2.2), (22, .int .i64 (o : Nat)), (24, .slice w1a W1.length w1c), (30, .int .i64 x.1)]) (fun x => rowP 39 4 x.2.1 (gW (BL.map (·.1)) wn ((W1.take on).drop (x.1 + 1).toNat).reverse).length x.2.2 ((gW (BL.map (·.1)) wn ((W1.take on).drop (x.1 + 1).toNat).reverse).flatMap EnvD.cells) :: rowP 3 1 w1a W1.length w1c (W1.map pnatV) :: rowP 3 1 da (i + 1) dc (ds.map intV) :: rowP 33 6 ba (i + 1) bc (BL.flatMap beC) :: rowP 39 4 fa 6 fc ((fo 6).flatMap EnvD.cells) :: At treeI q st :: At worldI k ⟨l, S⟩ :: At logI p (LS.of k.p q du l (gW (BL.map (·.1)) wn (W1.take on).reverse)) :: G) (((on : Int) - 1, wa, wc)) (⟨by dsimp only; omega, by dsimp only; omega⟩) (.cons rfl (.cons rfl (.cons rfl (.cons rfl (.cons rfl (.cons rfl (.cons rfl (.cons' rfl (by dsimp only; rw [hT1]) (.cons rfl (.cons rfl (.cons rfl (.nil)))))))))))) ((by dsimp only; rw [hT1]; exact .fin)) ?_
                      intro ⟨jj, ta, tc⟩ hi ih6
                      obtain ⟨hi2, hi3⟩ := hi
                      dsimp only at hi2 hi3 ih6 ⊢
                      refine SC_seq ?_
                      refine SC_seq ?_
                      refine SC_region ?_
                      refine SR_pu (RD_move rfl) rfl ?_
                      refine SR_pu (RD_geq rfl rfl) rfl ?_
                      refine SR_nil ?_
                      refine SN.le (l := [(2, _), (7, _), (9, _), (10, _), (12, _), (13, _), (20, _), (21, _), (22, _), (24, _), (30, _), (230, _)]) ?_ (.cons rfl (.cons rfl (.cons rfl (.cons rfl (.cons rfl (.cons rfl (.cons rfl (.cons rfl (.cons rfl (.cons rfl (.cons rfl (.cons rfl (.nil)))))))))))))
                      refine SN_seq ?_
                      refine SC_cond rfl (fun hc230 => ?_) (fun hc230 => ?_)
                      · have hi0 : 0 ≤ jj := by simpa using hc230
                        obtain ⟨r, rfl⟩ : ∃ r : Nat, jj = (r : Int) := ⟨jj.toNat, by omega⟩
                        have hrl : r < (W1.take on).length := by omega
                        obtain ⟨y, hy⟩ : ∃ z, (W1.take on)[r]? = some z := ⟨_, List.getElem?_eq_getElem hrl⟩
                        have hy1 : W1[r]? = some y := by rw [List.getElem?_take] at hy; split at hy; exact hy; cases hy
                        have hyl := hW1l y (List.mem_of_getElem? hy1)
                        obtain ⟨yb, hyb⟩ : ∃ y2, BL[y]? = some y2 := ⟨_, List.getElem?_eq_getElem (by omega)⟩
                        haveI := hrows y yb hyb
                        have hye := hfw yb (List.mem_of_getElem? hyb)
                        have hdrop : gW (BL.map (·.1)) wn ((W1.take on).drop (((r : Nat) : Int) - 1 + 1).toNat).reverse = growE (gW (BL.map (·.1)) wn ((W1.take on).drop (((r : Nat) : Int) + 1).toNat).reverse) yb.1.envs := by
                          rw [show (((r : Nat) : Int) - 1 + 1).toNat = r by omega, show (((r : Nat) : Int) + 1).toNat = r + 1 by omega, List.drop_eq_getElem_cons hrl, List.reverse_cons, gW_snoc, (List.getElem?_eq_some_iff.1 hy).2, List.getElem?_map, hyb]
                          rfl
                        obtain ⟨gw, hgw⟩ : ∃ x, gW (BL.map (·.1)) wn ((W1.take on).drop (((r : Nat) : Int) + 1).toNat).reverse = x := ⟨_, rfl⟩
                        have hgl : gw.length ≤ 6 := by
                          rw [← hgw]
                          have := nodup_len (gW_nodup (bs := (BL.map (·.1))) ((W1.take on).drop (((r : Nat) : Int) + 1).toNat).reverse wn hwd) (B := fo 6) (gW_mem (fun b hb e he => by obtain ⟨w, hw1, hw2⟩ := List.mem_map.1 hb; rw [← hw2] at he; exact (hfw w hw1).1 e he) _ _ hwf)
                          rwa [fo_len] at this
                        rw [hgw] at hdrop ⊢
                        refine SC_skip ?_
                        refine SN_seq ?_
                        refine SC_seq ?_
                        refine SC_block ?_
                        refine SC_region ?_
                        refine SR_pu (RD_move rfl) rfl ?_
                        refine SR_pu (RD_move rfl) rfl ?_
                        refine SR_pu (RD_move rfl) rfl ?_
                        refine SR_pu (RD_move rfl) rfl ?_
                        refine SR_rd (RD_ixO (i := (r : Nat)) (cs := W1.map pnatV) Try.runUnderlying22 Try.sizeOf3 rfl rfl (by simp) (by omega) (by omega)) Has.ro rfl ?_
                        refine SR_rd (RD_loadO (v := pnatV y) (cs := W1.map pnatV) Try.isAgg3 rfl (by simp [hy1])) Has.ro rfl ?_
                        refine SR_rd (RD_ixO (i := (y : Nat)) (cs := BL.flatMap beC) Try.runUnderlying41 Try.sizeOf33 rfl rfl (by rw [be_len, hBl]) (by omega) (by omega)) Has.ro rfl ?_
                        refine SR_rd (RD_fieldAddrO (cs := BL.flatMap beC) 5 Try.runUnderlying33 rfl rfl Try.sizeOf31 rfl (by rw [be_len]; omega)) Has.ro rfl ?_
                        refine SR_rd (RD_loadO (v := .slice yb.2.1 yb.1.envs.length yb.2.2) (cs := BL.flatMap beC) Try.isAgg31 rfl (be_get hyb 5 (by omega))) Has.ro rfl ?_
                        refine SR_call Try.call44 (.cons rfl (.cons rfl (.nil))) (ref_grow ta gw.length tc gw rfl rfl yb.2.1 yb.1.envs.length yb.2.2 yb.1.envs rfl rfl (by omega) (by omega)) (lts rfl) ?_
                        rintro _ L11 ⟨oa, oc, rfl, hL11⟩
                        refine SR.lands hL11 ?_
                        refine SR_pu (RD_assign rfl) rfl ?_
                        refine SR_nil ?_
                        refine SN.le (l := [(2, _), (7, _), (9, _), (10, _), (12, _), (13, _), (20, _), (21, _), (22, _), (24, _), (30, _)]) ?_ (.cons rfl (.cons rfl (.cons rfl (.cons rfl (.cons rfl (.cons rfl (.cons rfl (.cons rfl (.cons rfl (.cons rfl (.cons rfl (.nil))))))))))))
                        refine SN_block ?_
                        refine SN_seq ?_
                        refine SC_region ?_
                        refine SR_pu (RD_move rfl) rfl ?_
                        refine SR_pu (RD_subi rfl rfl (by omega) (by omega)) rfl ?_
                        refine SR_pu (RD_assign rfl) rfl ?_
                        refine SR_nil ?_
                        refine SN.le (l := [(2, _), (7, _), (9, _), (10, _), (12, _), (13, _), (20, _), (21, _), (22, _), (24, _), (30, _)]) ?_ (.cons rfl (.cons rfl (.cons rfl (.cons rfl (.cons rfl (.cons rfl (.cons rfl (.cons rfl (.cons rfl (.cons rfl (.cons rfl (.nil))))))))))))
                        refine SC_again (ih6 (((r : Int) - 1, oa, oc)) (⟨by dsimp only; omega, by dsimp only; omega⟩) (by dsimp only; omega)) (by dsimp only; rw [hdrop]; exact .fin) (.cons rfl (.cons rfl (.cons rfl (.cons rfl (.cons rfl (.cons rfl (.cons rfl (.cons' rfl (by dsimp only; rw [hdrop]) (.cons rfl (.cons rfl (.cons rfl (.nil))))))))))))
                      · have hi0 : jj < 0 := by simpa using hc230
                        clear ih6
                        rw [show (jj + 1).toNat = 0 by omega, List.drop_zero]
                        refine SC_exit rfl ?_
                        exact J0 ((⟨(u, du, gW (BL.map (·.1)) wn (W1.take on).reverse), ⟨by dsimp only; omega, hdu⟩, hpb.gW_eg _ _ hwe, gW_nodup _ _ hwd, gW_mem (fun b hb e he => by obtain ⟨w, hw1, hw2⟩ := List.mem_map.1 hb; rw [← hw2] at he; exact (hfw w hw1).1 e he) _ _ hwf⟩, ta, tc)) _ _ (.cons rfl (.cons rfl (.cons rfl (.cons rfl (.cons rfl (.cons rfl (.cons rfl (.cons rfl (.cons rfl (.nil)))))))))) (.fin)
                    · have hxe : (dd, EE) = (dt, wn) := by
                        rcases hX with ⟨_, h⟩ | ⟨on, h1, _⟩
                        · exact h
                        · exfalso; have := of_decide_eq_false hc225; omega
                      simp only [Prod.mk.injEq] at hxe
                      obtain ⟨hd1, hd2⟩ := hxe
                      rw [hd1, hd2]
                      refine SC_skip ?_
                      exact J0 ((⟨(tp, dt, wn), ⟨htl, hdt⟩, hwe, hwd, hwf⟩, wa, wc)) _ _ (.cons rfl (.cons rfl (.cons rfl (.cons rfl (.cons rfl (.cons rfl (.cons rfl (.cons rfl (.cons rfl (.nil)))))))))) (.fin)
                · rcases hbh with ⟨hb1, hb2⟩ | ⟨on, hb1, hb2⟩
                  · obtain ⟨rr, hrr⟩ : ∃ r, r = decide (u ∈ W2) := ⟨_, rfl⟩
                    obtain ⟨dd, hdd⟩ : ∃ d, d = dt := ⟨_, rfl⟩
                    obtain ⟨EE, hEE⟩ : ∃ e, e = wn := ⟨_, rfl⟩
                    have hcm : LS.commit l st (LS.of k.p q dt l wn) du = (rr, (LS.of k.p q dd l EE)) := by
                      rw [hrr, hdd, hEE]
                      by_cases hm : u ∈ W2
                      · rw [hcA hm, decide_eq_true hm]
                      · rw [hcB hm hb2, decide_eq_false hm]
                    refine SC_region ?_
                    refine SR_pu (RD_move rfl) rfl ?_
                    refine SR_pu (RD_move rfl) rfl ?_
                    refine SR_pu (RD_move rfl) rfl ?_
                    refine SR_rd (RD_ixO (i := (u : Nat)) (cs := ds.map intV) Try.runUnderlying22 Try.sizeOf3 rfl rfl (by simp; omega) (by omega) (by omega)) Has.ro rfl ?_
                    refine SR_rd (RD_loadO (v := intV du) (cs := ds.map intV) Try.isAgg3 rfl (by simp [hdu])) Has.ro rfl ?_
                    refine SR_call Try.call40 (.cons rfl (.cons rfl (.nil))) (CallsK.at3 (clog_Commit_yes' p q (LS.of k.p q dt l wn) rfl st k ⟨l, S⟩ rfl hpb.ok du ⟨_, hgu⟩ ⟨_, hgt⟩ (hvw du) (hvw dt) har (show wn.length ≤ 1000000 by omega) (by dsimp only; omega) rr (LS.of k.p q dd l EE) hcm)) (lts rfl) ?_
                    rintro _ L9 ⟨rfl, hL9⟩
                    refine SR.lands hL9 ?_
                    refine SR_pu (RD_move rfl) rfl ?_
                    refine SR_pu (RD_geq rfl rfl) rfl ?_
                    refine SR_pu (RD_move rfl) rfl ?_
                    refine SR_yes rfl rfl (decide_eq_false (by omega)) ?_
                    refine SR_pu (RD_move rfl) rfl ?_
                    refine SR_pu (RD_pick_f rfl (decide_eq_false (by omega)) rfl) rfl ?_
                    refine SR_pu (RD_neqB Try.underlying4 rfl rfl) rfl ?_
                    refine SR_pu (RD_move rfl) rfl ?_
                    refine SR_yes rfl rfl (by rw [hrr]; simp) ?_
                    refine SR_pu (RD_move rfl) rfl ?_
                    refine SR_yes rfl rfl (by rw [hrr]; simp) ?_
                    refine SR_pu (RD_move rfl) rfl ?_
                    refine SR_yes rfl rfl (by rw [hrr]; simp) ?_
                    refine SR_pu (RD_addi rfl rfl (by omega) (by omega)) rfl ?_
                    refine SR_yes rfl rfl (by rw [hrr]; simp) ?_
                    refine SR_call Try.call40 (.cons rfl (.cons rfl (.nil))) (CallsK.at3 (clog_Commit_no' p q (LS.of k.p q dd l EE) rfl st k ⟨l, S⟩ rfl hpb.ok (1099511627776 + (o : Int)) (by cases hc : mget st.T (1099511627776 + (o : Int)) with | none => rfl | some b => have := hpb.small hc; omega))) (lts rfl) ?_
                    rintro _ L10 ⟨rfl, hL10⟩
                    refine SR.lands hL10 ?_
                    refine SR_pu (RD_pick_f rfl (by rw [hrr]; simp) rfl) rfl ?_
                    refine SR_nil ?_
                    refine SN.le (l := [(2, _), (7, _), (9, _), (10, _), (12, _), (13, _), (20, _), (21, _), (22, _), (23, _), (24, _), (26, _), (223, _)]) ?_ (.cons rfl (.cons rfl (.cons rfl (.cons rfl (.cons rfl (.cons rfl (.cons rfl (.cons rfl (.cons rfl (.cons rfl (.cons rfl (.cons rfl (.cons rfl (.nil))))))))))))))
                    exact J0 (⟨(dd, EE), .inl ⟨hb1, by rw [hdd, hEE]⟩⟩) _ _ (.cons rfl (.cons rfl (.cons rfl (.cons rfl (.cons rfl (.cons rfl (.cons rfl (.cons rfl (.cons rfl (.cons rfl (.cons rfl (.cons rfl (.cons rfl (.nil)))))))))))))) (.fin)
                  · obtain ⟨rr, hrr⟩ : ∃ r, r = true := ⟨_, rfl⟩
                    obtain ⟨dd, hdd⟩ : ∃ d, d = du := ⟨_, rfl⟩
                    obtain ⟨EE, hEE⟩ : ∃ e, e = gW (BL.map (·.1)) wn (W1.take on).reverse := ⟨_, rfl⟩
                    have hcm : LS.commit l st (LS.of k.p q dt l wn) du = (rr, (LS.of k.p q dd l EE)) := by
                      rw [hrr, hdd, hEE]
                      by_cases hm : u ∈ W2
                      · obtain ⟨h0, h1⟩ := hcD hm on hb2
                        subst h0; subst h1
                        rw [hdt] at hdu
                        cases hdu
                        rw [hcA hm]; rfl
                      · rw [hcC hm on hb2]
                    refine SC_region ?_
                    refine SR_pu (RD_move rfl) rfl ?_
                    refine SR_pu (RD_move rfl) rfl ?_
                    refine SR_pu (RD_move rfl) rfl ?_
                    refine SR_rd (RD_ixO (i := (u : Nat)) (cs := ds.map intV) Try.runUnderlying22 Try.sizeOf3 rfl rfl (by simp; omega) (by omega) (by omega)) Has.ro rfl ?_
                    refine SR_rd (RD_loadO (v := intV du) (cs := ds.map intV) Try.isAgg3 rfl (by simp [hdu])) Has.ro rfl ?_
                    refine SR_call Try.call40 (.cons rfl (.cons rfl (.nil))) (CallsK.at3 (clog_Commit_yes' p q (LS.of k.p q dt l wn) rfl st k ⟨l, S⟩ rfl hpb.ok du ⟨_, hgu⟩ ⟨_, hgt⟩ (hvw du) (hvw dt) har (show wn.length ≤ 1000000 by omega) (by dsimp only; omega) rr (LS.of k.p q dd l EE) hcm)) (lts rfl) ?_
                    rintro _ L9 ⟨rfl, hL9⟩
                    refine SR.lands hL9 ?_
                    refine SR_pu (RD_move rfl) rfl ?_
                    refine SR_pu (RD_geq rfl rfl) rfl ?_
                    refine SR_pu (RD_move rfl) rfl ?_
                    refine SR_no rfl rfl (decide_eq_true (by omega)) (lts rfl) ?_
                    refine SR_pu (RD_pick_t rfl (decide_eq_true (by omega)) rfl) rfl ?_
                    refine SR_pu (RD_neqB Try.underlying4 rfl rfl) rfl ?_
                    refine SR_pu (RD_move rfl) rfl ?_
                    refine SR_yes rfl rfl (by rw [hrr]; rfl) ?_
                    refine SR_pu (RD_move rfl) rfl ?_
                    refine SR_yes rfl rfl (by rw [hrr]; rfl) ?_
                    refine SR_pu (RD_move rfl) rfl ?_
                    refine SR_yes rfl rfl (by rw [hrr]; rfl) ?_
                    refine SR_pu (RD_addi rfl rfl (by omega) (by omega)) rfl ?_
                    refine SR_yes rfl rfl (by rw [hrr]; rfl) ?_
                    refine SR_call Try.call40 (.cons rfl (.cons rfl (.nil))) (CallsK.at3 (clog_Commit_no' p q (LS.of k.p q dd l EE) rfl st k ⟨l, S⟩ rfl hpb.ok (1099511627776 + (o : Int)) (by cases hc : mget st.T (1099511627776 + (o : Int)) with | none => rfl | some b => have := hpb.small hc; omega))) (lts rfl) ?_
                    rintro _ L10 ⟨rfl, hL10⟩
                    refine SR.lands hL10 ?_
                    refine SR_pu (RD_pick_f rfl (by rw [hrr]; rfl) rfl) rfl ?_
                    refine SR_nil ?_
                    refine SN.le (l := [(2, _), (7, _), (9, _), (10, _), (12, _), (13, _), (20, _), (21, _), (22, _), (23, _), (24, _), (26, _), (223, _)]) ?_ (.cons rfl (.cons rfl (.cons rfl (.cons rfl (.cons rfl (.cons rfl (.cons rfl (.cons rfl (.cons rfl (.cons rfl (.cons rfl (.cons rfl (.cons rfl (.nil))))))))))))))
                    exact J0 (⟨(dd, EE), .inr ⟨on, hb1, hb2, by rw [hdd, hEE]⟩⟩) _ _ (.cons rfl (.cons rfl (.cons rfl (.cons rfl (.cons rfl (.cons rfl (.cons rfl (.cons rfl (.cons rfl (.cons rfl (.cons rfl (.cons rfl (.cons rfl (.nil)))))))))))))) (.fin)
          · clear ih3
            refine SC_exit rfl ?_
            refine SN_seq ?_
            refine SC_seq ?_
            refine SC_region ?_
            refine SR_call Try.call43 (.nil) (clog_awake) (lts rfl) ?_
            rintro _ L19 ⟨rfl, hL19⟩
            refine SR.lands hL19 ?_
            refine SR_pu (RD_assign rfl) rfl ?_
            refine SR_nil ?_
            refine SN.le (l := [(6, _)]) ?_ (.cons rfl (.nil))
            refine SN_seq ?_
            refine SC_ret1 rfl rfl ?_
            exact ⟨rfl, Lands.trans (.fin : Lands _ G) hG⟩
        · refine SC_region ?_
          refine SR_pu (RD_move rfl) rfl ?_
          refine SR_pu (RD_move rfl) rfl ?_
          refine SR_pu (RD_len Try.runUnderlying22 rfl) rfl ?_
          refine SR_pu (RD_lss rfl rfl) rfl ?_
          refine SR_pu (RD_move rfl) rfl ?_
          refine SR_guard rfl rfl (fun hg31_4 => ?_) (fun hg31_4 => ?_)
          · refine SR_yes rfl rfl (hg31_4) ?_
            refine SR_pu (RD_move rfl) rfl ?_
            refine SR_yes rfl rfl (hg31_4) ?_
            refine SR_pu (RD_lss rfl rfl) rfl ?_
            refine SR_pu (RD_pick_t rfl (hg31_4) rfl) rfl ?_
            refine SR_nil ?_
            refine SN.le (l := [(2, _), (7, _), (9, _), (10, _), (12, _), (13, _), (20, _), (21, _), (22, _), (159, _)]) ?_ (.cons rfl (.cons rfl (.cons rfl (.cons rfl (.cons rfl (.cons rfl (.cons rfl (.cons rfl (.cons rfl (.cons rfl (.nil)))))))))))
            exact J0 (()) _ _ (.cons rfl (.cons rfl (.cons rfl (.cons rfl (.cons rfl (.cons rfl (.cons rfl (.cons rfl (.cons rfl (.cons' rfl (congrArg Value.bool (decide_eq_decide.2 (by have := of_decide_eq_true hg31_4; omega))) (.nil))))))))))) (.fin)
          · refine SR_no rfl rfl (hg31_4) (lts rfl) ?_
            refine SR_no rfl rfl (hg31_4) (lts rfl) ?_
            refine SR_pu (RD_pick_f rfl (hg31_4) rfl) rfl ?_
            refine SR_nil ?_
            refine SN.le (l := [(2, _), (7, _), (9, _), (10, _), (12, _), (13, _), (20, _), (21, _), (22, _), (159, _)]) ?_ (.cons rfl (.cons rfl (.cons rfl (.cons rfl (.cons rfl (.cons rfl (.cons rfl (.cons rfl (.cons rfl (.cons rfl (.nil)))))))))))
            exact J0 (()) _ _ (.cons rfl (.cons rfl (.cons rfl (.cons rfl (.cons rfl (.cons rfl (.cons rfl (.cons rfl (.cons rfl (.cons' rfl (congrArg Value.bool (decide_eq_false (by have := of_decide_eq_false hg31_4; omega)).symm) (.nil))))))))))) (.fin)
    · refine SC_region ?_
      refine SR_pu (RD_move rfl) rfl ?_
      refine SR_pu (RD_move rfl) rfl ?_
      refine SR_pu (RD_len Try.runUnderlying22 rfl) rfl ?_
      refine SR_pu (RD_lss rfl rfl) rfl ?_
      refine SR_pu (RD_move rfl) rfl ?_
      refine SR_guard rfl rfl (fun hg15_4 => ?_) (fun hg15_4 => ?_)
      · refine SR_yes rfl rfl (hg15_4) ?_
        refine SR_pu (RD_move rfl) rfl ?_
        refine SR_yes rfl rfl (hg15_4) ?_
        refine SR_pu (RD_lss rfl rfl) rfl ?_
        refine SR_pu (RD_pick_t rfl (hg15_4) rfl) rfl ?_
        refine SR_nil ?_
        refine SN.le (l := [(0, _), (1, _), (2, _), (7, _), (8, _), (9, _), (10, _), (12, _), (13, _), (14, _), (71, _)]) ?_ (.cons rfl (.cons rfl (.cons rfl (.cons rfl (.cons rfl (.cons rfl (.cons rfl (.cons rfl (.cons rfl (.cons rfl (.cons rfl (.nil))))))))))))
        exact J0 (()) _ _ (.cons rfl (.cons rfl (.cons rfl (.cons rfl (.cons rfl (.cons rfl (.cons rfl (.cons rfl (.cons rfl (.cons rfl (.cons' rfl (congrArg Value.bool (decide_eq_decide.2 (by have := of_decide_eq_true hg15_4; omega))) (.nil)))))))))))) (.fin)
      · refine SR_no rfl rfl (hg15_4) (lts rfl) ?_
        refine SR_no rfl rfl (hg15_4) (lts rfl) ?_
        refine SR_pu (RD_pick_f rfl (hg15_4) rfl) rfl ?_
        refine SR_nil ?_
        refine SN.le (l := [(0, _), (1, _), (2, _), (7, _), (8, _), (9, _), (10, _), (12, _), (13, _), (14, _), (71, _)]) ?_ (.cons rfl (.cons rfl (.cons rfl (.cons rfl (.cons rfl (.cons rfl (.cons rfl (.cons rfl (.cons rfl (.cons rfl (.cons rfl (.nil))))))))))))
        exact J0 (()) _ _ (.cons rfl (.cons rfl (.cons rfl (.cons rfl (.cons rfl (.cons rfl (.cons rfl (.cons rfl (.cons rfl (.cons rfl (.cons' rfl (congrArg Value.bool (decide_eq_false (by have := of_decide_eq_false hg15_4; omega)).symm) (.nil)))))))))))) (.fin)

end Go.Proofs.Ytnifaajdiolbjaa
