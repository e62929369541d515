/- The statement on the writer and the reader: what is written is read back. -/
import Derived.Test.YtdjkllhnkbobfaaWl3
namespace Go.Proofs.Ytdjkllhnkbobfaa
open Go Go.Proofs
set_option maxRecDepth 100000
/-- One part is asked for; a reader that has answered unlike is asked no more. -/
def rdPart (q : Part) (st : (List UInt8 × Bool) × Bool) : (List UInt8 × Bool) × Bool :=
  if st.2 = true then (if q.k % 4 = 0 then ((rdNum st.1).2, decide (((rdNum st.1).1 : Int) = q.x)) else if q.k % 4 = 1 then ((rdNum st.1).2, decide (IntKind.i64.wrap (rdNum st.1).1 = IntKind.i64.wrap q.x)) else ((rdText st.1).2, decide ((rdText st.1).1 = q.s.bs))) else st
def rdParts (l : List Part) (st : (List UInt8 × Bool) × Bool) : (List UInt8 × Bool) × Bool := l.foldl (fun st q => rdPart q st) st
theorem rdParts_take {l : List Part} {i : Nat} {q : Part} (st : (List UInt8 × Bool) × Bool) (h : l[i]? = some q) : rdParts (l.take (i + 1)) st = rdPart q (rdParts (l.take i) st) := by
  rw [List.take_add_one, h]; simp [rdParts]
theorem rdText_len (s : List UInt8 × Bool) : (rdText s).2.1.length ≤ s.1.length := by
  have h := rdNum_len s
  unfold rdText
  dsimp only
  split
  · exact h
  · simp; omega
theorem rdPart_len (q : Part) (st : (List UInt8 × Bool) × Bool) : (rdPart q st).1.1.length ≤ st.1.1.length := by
  have h := rdNum_len st.1
  have h2 := rdText_len st.1
  unfold rdPart
  split
  · split
    · exact h
    · split
      · exact h
      · exact h2
  · exact Nat.le_refl _
theorem rdParts_len : ∀ (l : List Part) (st : (List UInt8 × Bool) × Bool), (rdParts l st).1.1.length ≤ st.1.1.length
  | [], _ => Nat.le_refl _
  | q :: l, st => Nat.le_trans (rdParts_len l (rdPart q st)) (rdPart_len q st)
/-- A part fits: small, and of its length. -/
def Part.Fit (q : Part) : Prop := (0 ≤ q.x ∧ q.x < 18446744073709551616) ∧ q.s.n ≤ 300 ∧ q.s.bs.length = q.s.n
theorem rdPart_good {q : Part} (hq : q.Fit) (r : List UInt8) : rdPart q ((q.enc ++ r, false), true) = ((r, false), true) := by
  obtain ⟨hx, hn, hb⟩ := hq
  unfold rdPart Part.enc
  rw [if_pos rfl]
  have e0 : (q.x % 18446744073709551616).toNat = q.x.toNat := by omega
  by_cases h0 : q.k % 4 = 0
  · rw [if_pos h0, if_pos (.inl h0), rdNum_bei, e0]
    simp; omega
  · rw [if_neg h0]
    by_cases h1 : q.k % 4 = 1
    · rw [if_pos h1, if_pos (.inr h1), rdNum_bei, e0]
      have : ((q.x.toNat : Nat) : Int) = q.x := by omega
      simp [this]
    · rw [if_neg h1, if_neg (by omega), ← hb, rdText_put _ _ (by omega)]
      simp
theorem rdParts_good : ∀ (l : List Part) (_ : ∀ q ∈ l, q.Fit) (r : List UInt8), rdParts l ((encP l ++ r, false), true) = ((r, false), true)
  | [], _, r => by simp [rdParts, encP]
  | q :: l, h, r => by
    have e : encP (q :: l) ++ r = q.enc ++ (encP l ++ r) := by simp [encP]
    show rdParts l (rdPart q _) = _
    rw [e, rdPart_good (h q (by simp))]
    exact rdParts_good l (fun y hy => h y (by simp [hy])) r
theorem rdNum_bad (bs : List UInt8) : rdNum (bs, true) = (0, (bs, true)) := by simp [rdNum]
theorem rdPart_bad (q : Part) (st : (List UInt8 × Bool) × Bool) (h : st.1.2 = true) : (rdPart q st).1.2 = true := by
  obtain ⟨⟨bs, b⟩, ok⟩ := st
  simp at h; subst h
  unfold rdPart
  split
  · split
    · rw [rdNum_bad]
    · split
      · rw [rdNum_bad]
      · unfold rdText; rw [rdNum_bad]; simp
  · rfl
theorem rdParts_bad : ∀ (l : List Part) (st : (List UInt8 × Bool) × Bool), st.1.2 = true → (rdParts l st).1.2 = true
  | [], _, h => h
  | q :: l, st, h => rdParts_bad l (rdPart q st) (rdPart_bad q st h)
theorem rdNum_cut {bs : List UInt8} (h : bs.length < 8) : rdNum (bs, false) = (0, (bs, true)) := by simp [rdNum, h]
theorem rdPart_cut {q : Part} (hq : q.Fit) (c : Nat) (hc : c < q.enc.length) : (rdPart q ((q.enc.take c, false), true)).1.2 = true := by
  obtain ⟨hx, hn, hb⟩ := hq
  unfold rdPart
  rw [if_pos rfl]
  by_cases h01 : q.k % 4 = 0 ∨ q.k % 4 = 1
  · have e : q.enc = bei q.x := if_pos h01
    rw [e, bei_length] at hc
    have h8 : (q.enc.take c).length < 8 := by simp [e]; omega
    rw [rdNum_cut h8]
    rcases h01 with h0 | h1
    · rw [if_pos h0]
    · rw [if_neg (by omega), if_pos h1]
  · have e : q.enc = bei (q.s.n : Int) ++ q.s.bs := if_neg h01
    rw [if_neg (by omega), if_neg (by omega)]
    by_cases h8 : c < 8
    · have h8 : (q.enc.take c).length < 8 := by simp; omega
      unfold rdText; rw [rdNum_cut h8]; simp
    · have e2 : q.enc.take c = bei (q.s.n : Int) ++ q.s.bs.take (c - 8) := by rw [e, List.take_append, bei_length, List.take_of_length_le (by rw [bei_length]; omega)]
      have hl : q.enc.length = 8 + q.s.n := by rw [e]; simp [bei_length, hb]
      unfold rdText
      rw [e2, rdNum_bei]
      dsimp only
      rw [if_pos (.inr (by simp; omega))]
theorem rdParts_cut : ∀ (l : List Part) (_ : ∀ q ∈ l, q.Fit) (c : Nat), c < (encP l).length → (rdParts l (((encP l).take c, false), true)).1.2 = true
  | [], _, c, h => by simp [encP] at h
  | q :: l, h, c, hc => by
    have e : encP (q :: l) = q.enc ++ encP l := by simp [encP]
    rw [e] at hc ⊢
    show (rdParts l (rdPart q _)).1.2 = true
    by_cases h1 : c < q.enc.length
    · rw [List.take_append_of_le_length (by omega)]
      exact rdParts_bad l _ (rdPart_cut (h q (by simp)) c h1)
    · rw [List.take_append, List.take_of_length_le (by omega), rdPart_good (h q (by simp))]
      exact rdParts_cut l (fun y hy => h y (by simp [hy])) _ (by simp at hc; omega)
/-- What the reader is given: all; one byte more; or less, where there is something to leave out. -/
def Given (md : Nat) (w bs : List UInt8) : Prop := (md = 0 ∧ bs = w) ∨ (md = 1 ∧ bs = w ++ [0]) ∨ (md = 2 ∧ w.length = 0 ∧ bs = w) ∨ (md = 2 ∧ ∃ c, c < w.length ∧ bs = w.take c)
/-- The law's own test is passed. -/
def Passes (md : Nat) (w : List UInt8) (st : (List UInt8 × Bool) × Bool) : Prop := (md < 2 → st.2 = true) ∧ (rdDone st.1 = true ↔ (md = 0 ∨ (md = 2 ∧ w.length = 0)))
theorem passes {md : Nat} {l : List Part} {bs : List UInt8} (h : ∀ q ∈ l, q.Fit) (g : Given md (encP l) bs) : Passes md (encP l) (rdParts l ((bs, false), true)) := by
  rcases g with ⟨rfl, rfl⟩ | ⟨rfl, rfl⟩ | ⟨rfl, h0, rfl⟩ | ⟨rfl, c, hc, rfl⟩
  · have := rdParts_good l h []
    rw [List.append_nil] at this
    rw [this]; exact ⟨fun _ => rfl, by simp [rdDone]⟩
  · rw [rdParts_good l h [0]]; exact ⟨fun _ => rfl, by simp [rdDone]⟩
  · have := rdParts_good l h []
    rw [List.append_nil] at this
    rw [this]; exact ⟨fun _ => rfl, by simp [rdDone, h0]⟩
  · have := rdParts_cut l h c hc
    have e : rdDone (rdParts l (((encP l).take c, false), true)).1 = false := by simp [rdDone, this]
    refine ⟨fun h => by omega, ?_⟩
    rw [e]
    constructor
    · intro h; cases h
    · intro h; omega

theorem law_WireBack {W : World} {F : List HProp} [Abs F] (a : Option Addr) (n c : Nat) (l : List Part) [HasRow F a (l.flatMap Part.cells)] (hn : l.length = n) (hl : ∀ q ∈ l, q.Ok F) (at_ : Int) :
    CallsK W Try.prog 6 #[.slice a n c, .int .i64 at_] (F) (fun v L => v = .bool true ∧ Lands L F) := by
  refine CallsK_enter (n := 204) Try.func6 rfl rfl rfl ?_
  refine SC_seq ?_
  refine SC_region ?_
  refine SR_pu (RD_assign rfl) rfl ?_
  refine SR_nil ?_
  refine SN.le (l := [(0, _), (1, _)]) ?_ (.cons rfl (.cons rfl (.nil)))
  refine SN_seq ?_
  refine SC_seq ?_
  refine SC_region ?_
  refine SR_call Try.call16 (.nil) (wire_New) (lts rfl) ?_
  rintro _ L0 ⟨p, rfl, hL0⟩
  refine SR.lands hL0 ?_
  refine SR_pu (RD_assign rfl) rfl ?_
  refine SR_nil ?_
  refine SN.le (l := [(0, _), (1, _), (5, _)]) ?_ (.cons rfl (.cons rfl (.cons rfl (.nil))))
  refine SN_seq ?_
  refine SC_seq ?_
  refine SC_seq ?_
  refine SC_region ?_
  refine SR_pu (RD_move rfl) rfl ?_
  refine SR_pu (RD_eqlP Try.underlying27 rfl rfl) rfl ?_
  refine SR_nil ?_
  refine SN.le (l := [(0, _), (1, _), (5, _), (16, _)]) ?_ (.cons rfl (.cons rfl (.cons rfl (.cons rfl (.nil)))))
  refine SN_seq ?_
  refine SC_cond_false rfl (rfl) ?_
  refine SC_skip ?_
  refine SN_seq ?_
  refine SC_seq ?_
  refine SC_region ?_
  refine SR_pu (RD_assign rfl) rfl ?_
  refine SR_nil ?_
  refine SN.le (l := [(0, _), (1, _), (5, _), (6, _)]) ?_ (.cons rfl (.cons rfl (.cons rfl (.cons rfl (.nil)))))
  refine SN_seq ?_
  refine SC_seq ?_
  refine SC_seq ?_
  refine SC_region ?_
  refine SR_pu (RD_assign rfl) rfl ?_
  refine SR_nil ?_
  refine SN.le (l := [(0, _), (1, _), (5, _), (6, _), (7, _)]) ?_ (.cons rfl (.cons rfl (.cons rfl (.cons rfl (.cons rfl (.nil))))))
  refine SN_seq ?_
  refine SC_block ?_
  refine SC_ind (X := Nat × Option Addr × Nat) (fun x => x.1 ≤ 20 ∧ x.1 ≤ l.length ∧ ∀ q ∈ l.take x.1, q.Fit) (fun x => 20 - x.1) (fun x => [(0, .slice a n c), (1, .int .i64 at_), (5, .pointer (some ⟨p, 0, none⟩)), (6, .slice x.2.1 (encP (l.take x.1)).length x.2.2), (7, .int .i64 (x.1 : Nat))]) (fun x => At writerI p (encP (l.take x.1)) :: rowP 5 1 x.2.1 (encP (l.take x.1)).length x.2.2 ((encP (l.take x.1)).map byteV) :: F) ((0, none, 0)) (⟨by show 0 ≤ 20; omega, Nat.zero_le _, by simp⟩) (.cons rfl (.cons rfl (.cons rfl (.cons rfl (.cons rfl (.nil)))))) ((show Lands _ (At writerI p [] :: rowP 5 1 none 0 0 [] :: F) from (row_new 5 1 none).trans .fin)) ?_
  intro x hi ih
  obtain ⟨i, a6, c6⟩ := x
  dsimp only at hi ih ⊢
  obtain ⟨hi1, hil0, hsm⟩ := hi
  have hel := encP_len (l.take i) fun z hz => (hsm z hz).2
  have htl : (l.take i).length ≤ 20 := by simp; omega
  refine SC_seq ?_
  refine SC_seq ?_
  refine SC_region ?_
  refine SR_pu (RD_move rfl) rfl ?_
  refine SR_pu (RD_move rfl) rfl ?_
  refine SR_pu (RD_len Try.runUnderlying41 rfl) rfl ?_
  refine SR_pu (RD_lss rfl rfl) rfl ?_
  refine SR_pu (RD_move rfl) rfl ?_
  refine SR_guard rfl rfl (fun hg6_4 => ?_) (fun hg6_4 => ?_)
  · refine SR_yes rfl rfl (hg6_4) ?_
    refine SR_pu (RD_move rfl) rfl ?_
    refine SR_yes rfl rfl (hg6_4) ?_
    refine SR_pu (RD_lss rfl rfl) rfl ?_
    refine SR_pu (RD_pick_t rfl (hg6_4) rfl) rfl ?_
    refine SR_nil ?_
    refine SN.le (l := [(0, _), (1, _), (5, _), (6, _), (7, _), (24, _)]) ?_ (.cons rfl (.cons rfl (.cons rfl (.cons rfl (.cons rfl (.cons rfl (.nil)))))))
    refine SN_seq ?_
    refine SC_cond rfl (fun hc24 => ?_) (fun hc24 => ?_)
    · have hil : i < l.length := by simp at hg6_4; omega
      have hi20 : i < 20 := by simp at hc24; omega
      obtain ⟨q, hq⟩ : ∃ q, l[i]? = some q := ⟨_, List.getElem?_eq_getElem hil⟩
      have hok := hl q (List.mem_of_getElem? hq)
      haveI := hok.s.r
      refine SC_skip ?_
      refine SN_seq ?_
      refine SC_seq ?_
      refine SC_block ?_
      refine SC_seq ?_
      refine SC_seq ?_
      refine SC_region ?_
      refine SR_pu (RD_move rfl) rfl ?_
      refine SR_pu (RD_move rfl) rfl ?_
      refine SR_rd (RD_ixO (cs := l.flatMap Part.cells) Try.runUnderlying41 Try.sizeOf43 rfl rfl (by rw [flat_len Part.cells_len, hn]) (by omega) (by omega)) Has.ro rfl ?_
      refine SR_rd (RD_fieldAddrO (cs := l.flatMap Part.cells) 2 Try.runUnderlying43 rfl rfl Try.sizeOf25 rfl (by rw [flat_len Part.cells_len, hn]; omega)) Has.ro rfl ?_
      refine SR_rd (RD_loadO (v := q.s.val) (cs := l.flatMap Part.cells) Try.isAgg25 rfl (flat_get Part.cells_len 2 hq (by omega))) Has.ro rfl ?_
      refine SR_pu (RD_len Try.runUnderlying25 rfl) rfl ?_
      refine SR_pu (RD_gtr rfl rfl) rfl ?_
      refine SR_nil ?_
      refine SN.le (l := [(0, _), (1, _), (5, _), (6, _), (7, _), (33, _)]) ?_ (.cons rfl (.cons rfl (.cons rfl (.cons rfl (.cons rfl (.cons rfl (.nil)))))))
      refine SN_seq ?_
      refine SC_cond rfl (fun hc33 => ?_) (fun hc33 => ?_)
      · refine SC_seq ?_
        refine SC_region ?_
        refine SR_call Try.call15 (.nil) (wire_awake) (lts rfl) ?_
        rintro _ L9 ⟨rfl, hL9⟩
        refine SR.lands hL9 ?_
        refine SR_pu (RD_assign rfl) rfl ?_
        refine SR_nil ?_
        refine SN.le (l := [(4, _)]) ?_ (.cons rfl (.nil))
        refine SN_seq ?_
        refine SC_ret1 rfl rfl ?_
        exact ⟨rfl, .fin⟩
      · have hs300 : q.s.n ≤ 300 := by simp at hc33; omega
        have hfit : q.Fit := ⟨hok.hx, hs300, hok.s.hn⟩
        refine SC_skip ?_
        refine SN_seq ?_
        refine SC_seq ?_
        refine SC_region ?_
        refine SR_pu (RD_move rfl) rfl ?_
        refine SR_pu (RD_move rfl) rfl ?_
        refine SR_rd (RD_ixO (cs := l.flatMap Part.cells) Try.runUnderlying41 Try.sizeOf43 rfl rfl (by rw [flat_len Part.cells_len, hn]) (by omega) (by omega)) Has.ro rfl ?_
        refine SR_rd (RD_fieldAddrO (cs := l.flatMap Part.cells) 0 Try.runUnderlying43 rfl rfl Try.sizeOf3 rfl (by rw [flat_len Part.cells_len, hn]; omega)) Has.ro rfl ?_
        refine SR_rd (RD_loadO (v := .int .i64 q.k) (cs := l.flatMap Part.cells) Try.isAgg3 rfl (flat_get Part.cells_len 0 hq (by omega))) Has.ro rfl ?_
        refine SR_pu (RD_mask 2 rfl rfl rfl (by decide) 4 rfl) rfl ?_
        refine SR_nil ?_
        refine SN.le (l := [(0, _), (1, _), (5, _), (6, _), (7, _), (40, _)]) ?_ (.cons rfl (.cons rfl (.cons rfl (.cons rfl (.cons rfl (.cons rfl (.nil)))))))
        refine SN_seq ?_
        refine SC_block ?_
        refine SC_seq ?_
        refine SC_region ?_
        refine SR_pu (RD_eql rfl rfl) rfl ?_
        refine SR_pu (RD_assign rfl) rfl ?_
        refine SR_nil ?_
        refine SN.le (l := [(0, _), (1, _), (5, _), (6, _), (7, _), (40, _), (56, _)]) ?_ (.cons rfl (.cons rfl (.cons rfl (.cons rfl (.cons rfl (.cons rfl (.cons rfl (.nil))))))))
        refine SN_seq ?_
        refine SC_cond rfl (fun hc56 => ?_) (fun hc56 => ?_)
        · have hk : q.k % 4 = 0 := by simpa using hc56
          have henc : q.enc = bei q.x := if_pos (.inl hk)
          have hsum := encP_take hq
          rw [henc] at hsum
          refine SC_seq ?_
          refine SC_region ?_
          refine SR_pu (RD_move rfl) rfl ?_
          refine SR_pu (RD_move rfl) rfl ?_
          refine SR_pu (RD_move rfl) rfl ?_
          refine SR_rd (RD_ixO (cs := l.flatMap Part.cells) Try.runUnderlying41 Try.sizeOf43 rfl rfl (by rw [flat_len Part.cells_len, hn]) (by omega) (by omega)) Has.ro rfl ?_
          refine SR_rd (RD_fieldAddrO (cs := l.flatMap Part.cells) 1 Try.runUnderlying43 rfl rfl Try.sizeOf23 rfl (by rw [flat_len Part.cells_len, hn]; omega)) Has.ro rfl ?_
          refine SR_rd (RD_loadO (v := .int .u64 q.x) (cs := l.flatMap Part.cells) Try.isAgg23 rfl (flat_get Part.cells_len 1 hq (by omega))) Has.ro rfl ?_
          refine SR_call Try.call19 (.cons rfl (.cons rfl (.nil))) (CallsK.at (wire_Num p (encP (l.take i)) q.x hok.hx (by omega))) (lts rfl) ?_
          rintro _ L1 ⟨rfl, hL1⟩
          refine SR.lands hL1 ?_
          refine SR_nil ?_
          refine SN.le (l := [(0, _), (1, _), (5, _), (6, _), (7, _)]) ?_ (.cons rfl (.cons rfl (.cons rfl (.cons rfl (.cons rfl (.nil))))))
          refine SN_seq ?_
          refine SC_region ?_
          refine SR_pu (RD_move rfl) rfl ?_
          refine SR_pu (RD_move rfl) rfl ?_
          refine SR_pu (RD_move rfl) rfl ?_
          refine SR_rd (RD_ixO (cs := l.flatMap Part.cells) Try.runUnderlying41 Try.sizeOf43 rfl rfl (by rw [flat_len Part.cells_len, hn]) (by omega) (by omega)) Has.ro rfl ?_
          refine SR_rd (RD_fieldAddrO (cs := l.flatMap Part.cells) 1 Try.runUnderlying43 rfl rfl Try.sizeOf23 rfl (by rw [flat_len Part.cells_len, hn]; omega)) Has.ro rfl ?_
          refine SR_rd (RD_loadO (v := .int .u64 q.x) (cs := l.flatMap Part.cells) Try.isAgg23 rfl (flat_get Part.cells_len 1 hq (by omega))) Has.ro rfl ?_
          refine SR_call Try.call26 (.cons rfl (.nil)) (ref_Num q.x hok.hx) (lts rfl) ?_
          rintro _ L2 ⟨a2, c2, rfl, hL2⟩
          refine SR.lands hL2 ?_
          refine SR_ox (OX_app 1 Try.underlying25 Try.underlying25 Try.type5 rfl rfl rfl rfl rfl (by first | rfl | simp; done | (simp; omega)) 1 rfl (by omega) (by omega)) rfl ?_
          rintro _ _ ⟨a72, c72, rfl, rfl⟩
          refine SR_pu (RD_assign rfl) rfl ?_
          refine SR_nil ?_
          refine SN.le (l := [(0, _), (1, _), (5, _), (6, _), (7, _)]) ?_ (.cons rfl (.cons rfl (.cons rfl (.cons rfl (.cons rfl (.nil))))))
          refine SN_block ?_
          refine SN_block ?_
          refine SN_seq ?_
          refine SC_region ?_
          refine SR_pu (RD_move rfl) rfl ?_
          refine SR_pu (RD_addi rfl rfl (by omega) (by omega)) rfl ?_
          refine SR_pu (RD_assign rfl) rfl ?_
          refine SR_nil ?_
          refine SN.le (l := [(0, _), (1, _), (5, _), (6, _), (7, _)]) ?_ (.cons rfl (.cons rfl (.cons rfl (.cons rfl (.cons rfl (.nil))))))
          refine SC_again (ih ((i + 1, a72, c72)) (⟨by show i + 1 ≤ 20; omega, by show i + 1 ≤ l.length; omega, fun z hz => by rw [List.take_add_one, hq] at hz; rcases List.mem_append.1 hz with hz | hz; exact hsm z hz; simp at hz; subst hz; exact hfit⟩) (by show 20 - (i + 1) < 20 - i; omega)) (?_) (.cons rfl (.cons rfl (.cons rfl (.cons' rfl (?_) (.cons' rfl (ie (by dsimp only; omega)) (.nil))))))
          · simp only [hsum, List.length_append, bei_length, List.map_append, hok.s.hn]; exact .fin
          · rw [hsum, List.length_append, bei_length]
        · refine SC_seq ?_
          refine SC_region ?_
          refine SR_pu (RD_eql rfl rfl) rfl ?_
          refine SR_pu (RD_assign rfl) rfl ?_
          refine SR_nil ?_
          refine SN.le (l := [(0, _), (1, _), (5, _), (6, _), (7, _), (73, _)]) ?_ (.cons rfl (.cons rfl (.cons rfl (.cons rfl (.cons rfl (.cons rfl (.nil)))))))
          refine SN_seq ?_
          refine SC_cond rfl (fun hc73 => ?_) (fun hc73 => ?_)
          · have hk : q.k % 4 = 1 := by simpa using hc73
            have henc : q.enc = bei q.x := if_pos (.inr hk)
            have hsum := encP_take hq
            rw [henc] at hsum
            refine SC_seq ?_
            refine SC_region ?_
            refine SR_pu (RD_move rfl) rfl ?_
            refine SR_pu (RD_move rfl) rfl ?_
            refine SR_pu (RD_move rfl) rfl ?_
            refine SR_rd (RD_ixO (cs := l.flatMap Part.cells) Try.runUnderlying41 Try.sizeOf43 rfl rfl (by rw [flat_len Part.cells_len, hn]) (by omega) (by omega)) Has.ro rfl ?_
            refine SR_rd (RD_fieldAddrO (cs := l.flatMap Part.cells) 1 Try.runUnderlying43 rfl rfl Try.sizeOf23 rfl (by rw [flat_len Part.cells_len, hn]; omega)) Has.ro rfl ?_
            refine SR_rd (RD_loadO (v := .int .u64 q.x) (cs := l.flatMap Part.cells) Try.isAgg23 rfl (flat_get Part.cells_len 1 hq (by omega))) Has.ro rfl ?_
            refine SR_pu (RD_convI Try.runUnderlying23 Try.runUnderlying3 rfl) rfl ?_
            refine SR_call Try.call17 (.cons rfl (.cons rfl (.nil))) (CallsK.at (wire_Int p (encP (l.take i)) (IntKind.i64.wrap q.x) (by omega))) (lts rfl) ?_
            rintro _ L1 ⟨rfl, hL1⟩
            rw [bei_wrapi] at hL1
            refine SR.lands hL1 ?_
            refine SR_nil ?_
            refine SN.le (l := [(0, _), (1, _), (5, _), (6, _), (7, _)]) ?_ (.cons rfl (.cons rfl (.cons rfl (.cons rfl (.cons rfl (.nil))))))
            refine SN_seq ?_
            refine SC_region ?_
            refine SR_pu (RD_move rfl) rfl ?_
            refine SR_pu (RD_move rfl) rfl ?_
            refine SR_pu (RD_move rfl) rfl ?_
            refine SR_rd (RD_ixO (cs := l.flatMap Part.cells) Try.runUnderlying41 Try.sizeOf43 rfl rfl (by rw [flat_len Part.cells_len, hn]) (by omega) (by omega)) Has.ro rfl ?_
            refine SR_rd (RD_fieldAddrO (cs := l.flatMap Part.cells) 1 Try.runUnderlying43 rfl rfl Try.sizeOf23 rfl (by rw [flat_len Part.cells_len, hn]; omega)) Has.ro rfl ?_
            refine SR_rd (RD_loadO (v := .int .u64 q.x) (cs := l.flatMap Part.cells) Try.isAgg23 rfl (flat_get Part.cells_len 1 hq (by omega))) Has.ro rfl ?_
            refine SR_call Try.call26 (.cons rfl (.nil)) (ref_Num q.x hok.hx) (lts rfl) ?_
            rintro _ L2 ⟨a2, c2, rfl, hL2⟩
            refine SR.lands hL2 ?_
            refine SR_ox (OX_app 1 Try.underlying25 Try.underlying25 Try.type5 rfl rfl rfl rfl rfl (by first | rfl | simp; done | (simp; omega)) 1 rfl (by omega) (by omega)) rfl ?_
            rintro _ _ ⟨a90, c90, rfl, rfl⟩
            refine SR_pu (RD_assign rfl) rfl ?_
            refine SR_nil ?_
            refine SN.le (l := [(0, _), (1, _), (5, _), (6, _), (7, _)]) ?_ (.cons rfl (.cons rfl (.cons rfl (.cons rfl (.cons rfl (.nil))))))
            refine SN_block ?_
            refine SN_block ?_
            refine SN_seq ?_
            refine SC_region ?_
            refine SR_pu (RD_move rfl) rfl ?_
            refine SR_pu (RD_addi rfl rfl (by omega) (by omega)) rfl ?_
            refine SR_pu (RD_assign rfl) rfl ?_
            refine SR_nil ?_
            refine SN.le (l := [(0, _), (1, _), (5, _), (6, _), (7, _)]) ?_ (.cons rfl (.cons rfl (.cons rfl (.cons rfl (.cons rfl (.nil))))))
            refine SC_again (ih ((i + 1, a90, c90)) (⟨by show i + 1 ≤ 20; omega, by show i + 1 ≤ l.length; omega, fun z hz => by rw [List.take_add_one, hq] at hz; rcases List.mem_append.1 hz with hz | hz; exact hsm z hz; simp at hz; subst hz; exact hfit⟩) (by show 20 - (i + 1) < 20 - i; omega)) (?_) (.cons rfl (.cons rfl (.cons rfl (.cons' rfl (?_) (.cons' rfl (ie (by dsimp only; omega)) (.nil))))))
            · simp only [hsum, List.length_append, bei_length, List.map_append, hok.s.hn]; exact .fin
            · rw [hsum, List.length_append, bei_length]
          · have hk : ¬ (q.k % 4 = 0 ∨ q.k % 4 = 1) := by simp at hc56 hc73; omega
            have henc : q.enc = bei (q.s.n : Int) ++ q.s.bs := if_neg hk
            have hsum := encP_take hq
            rw [henc] at hsum
            refine SC_seq ?_
            refine SC_region ?_
            refine SR_pu (RD_move rfl) rfl ?_
            refine SR_pu (RD_move rfl) rfl ?_
            refine SR_pu (RD_move rfl) rfl ?_
            refine SR_rd (RD_ixO (cs := l.flatMap Part.cells) Try.runUnderlying41 Try.sizeOf43 rfl rfl (by rw [flat_len Part.cells_len, hn]) (by omega) (by omega)) Has.ro rfl ?_
            refine SR_rd (RD_fieldAddrO (cs := l.flatMap Part.cells) 2 Try.runUnderlying43 rfl rfl Try.sizeOf25 rfl (by rw [flat_len Part.cells_len, hn]; omega)) Has.ro rfl ?_
            refine SR_rd (RD_loadO (v := q.s.val) (cs := l.flatMap Part.cells) Try.isAgg25 rfl (flat_get Part.cells_len 2 hq (by omega))) Has.ro rfl ?_
            refine SR_call Try.call18 (.cons rfl (.cons rfl (.nil))) (CallsK.at (wire_Text p (encP (l.take i)) q.s.bs q.s.a q.s.n q.s.c rfl hok.s.hn (by omega))) (lts rfl) ?_
            rintro _ L1 ⟨rfl, hL1⟩
            refine SR.lands hL1 ?_
            refine SR_nil ?_
            refine SN.le (l := [(0, _), (1, _), (5, _), (6, _), (7, _)]) ?_ (.cons rfl (.cons rfl (.cons rfl (.cons rfl (.cons rfl (.nil))))))
            refine SN_seq ?_
            refine SC_region ?_
            refine SR_pu (RD_move rfl) rfl ?_
            refine SR_pu (RD_move rfl) rfl ?_
            refine SR_pu (RD_move rfl) rfl ?_
            refine SR_rd (RD_ixO (cs := l.flatMap Part.cells) Try.runUnderlying41 Try.sizeOf43 rfl rfl (by rw [flat_len Part.cells_len, hn]) (by omega) (by omega)) Has.ro rfl ?_
            refine SR_rd (RD_fieldAddrO (cs := l.flatMap Part.cells) 2 Try.runUnderlying43 rfl rfl Try.sizeOf25 rfl (by rw [flat_len Part.cells_len, hn]; omega)) Has.ro rfl ?_
            refine SR_rd (RD_loadO (v := q.s.val) (cs := l.flatMap Part.cells) Try.isAgg25 rfl (flat_get Part.cells_len 2 hq (by omega))) Has.ro rfl ?_
            refine SR_call Try.call22 (.cons rfl (.nil)) (haveI : Ones (q.s.bs.map byteV) := inferInstance; ref_Text q.s.a q.s.n q.s.c q.s.bs rfl hok.s.hn (by omega)) (lts rfl) ?_
            rintro _ L2 ⟨a2, c2, rfl, hL2⟩
            refine SR.lands hL2 ?_
            refine SR_ox (OX_app 1 Try.underlying25 Try.underlying25 Try.type5 rfl rfl rfl rfl rfl (by simp [bei_length, hok.s.hn]) 1 rfl (by omega) (by omega)) rfl ?_
            rintro _ _ ⟨a55, c55, rfl, rfl⟩
            refine SR_pu (RD_assign rfl) rfl ?_
            refine SR_nil ?_
            refine SN.le (l := [(0, _), (1, _), (5, _), (6, _), (7, _)]) ?_ (.cons rfl (.cons rfl (.cons rfl (.cons rfl (.cons rfl (.nil))))))
            refine SN_block ?_
            refine SN_block ?_
            refine SN_seq ?_
            refine SC_region ?_
            refine SR_pu (RD_move rfl) rfl ?_
            refine SR_pu (RD_addi rfl rfl (by omega) (by omega)) rfl ?_
            refine SR_pu (RD_assign rfl) rfl ?_
            refine SR_nil ?_
            refine SN.le (l := [(0, _), (1, _), (5, _), (6, _), (7, _)]) ?_ (.cons rfl (.cons rfl (.cons rfl (.cons rfl (.cons rfl (.nil))))))
            refine SC_again (ih ((i + 1, a55, c55)) (⟨by show i + 1 ≤ 20; omega, by show i + 1 ≤ l.length; omega, fun z hz => by rw [List.take_add_one, hq] at hz; rcases List.mem_append.1 hz with hz | hz; exact hsm z hz; simp at hz; subst hz; exact hfit⟩) (by show 20 - (i + 1) < 20 - i; omega)) (?_) (.cons rfl (.cons rfl (.cons rfl (.cons' rfl (?_) (.cons' rfl (ie (by dsimp only; omega)) (.nil))))))
            · simp only [hsum, List.length_append, bei_length, List.map_append, hok.s.hn]; exact .fin
            · rw [hsum, List.length_append, List.length_append, hok.s.hn, bei_length]
    · have hps : l.take i = l.take 20 := by rw [List.take_eq_take_iff]; (simp at hc24; omega)
      rw [hps] at hsm hel ⊢
      obtain ⟨w, hw⟩ : ∃ w, encP (l.take 20) = w := ⟨_, rfl⟩
      have hwl : w.length ≤ 6160 := by rw [← hw]; have h9 : (l.take 20).length ≤ 20 := List.length_take_le ..; omega
      rw [hw]
      refine SC_exit rfl ?_
      refine SN_seq ?_
      refine SC_seq ?_
      refine SC_region ?_
      refine SR_pu (RD_move rfl) rfl ?_
      refine SR_call Try.call20 (.cons rfl (.nil)) (CallsK.at (wire_Bytes p w (by omega))) (lts rfl) ?_
      rintro _ L3 ⟨a92, c92, rfl, hL3⟩
      refine SR.lands hL3 ?_
      refine SR_pu (RD_assign rfl) rfl ?_
      refine SR_nil ?_
      refine SN.le (l := [(0, _), (1, _), (6, _), (8, _)]) ?_ (.cons rfl (.cons rfl (.cons rfl (.cons rfl (.nil)))))
      refine SN_seq ?_
      refine SC_seq ?_
      refine SC_seq ?_
      refine SC_region ?_
      refine SR_pu (RD_move rfl) rfl ?_
      refine SR_pu (RD_move rfl) rfl ?_
      refine SR_call Try.call21 (.cons rfl (.cons rfl (.nil))) (ref_Same _ _ _ w rfl rfl _ _ _ w rfl rfl) (lts rfl) ?_
      rintro _ L4 ⟨rfl, hL4⟩
      refine SR.lands hL4 ?_
      refine SR_pu (RD_not rfl) rfl ?_
      refine SR_nil ?_
      refine SN.le (l := [(0, _), (1, _), (8, _), (96, _)]) ?_ (.cons rfl (.cons rfl (.cons rfl (.cons rfl (.nil)))))
      refine SN_seq ?_
      refine SC_cond_false rfl (by simp) ?_
      refine SC_skip ?_
      refine SN_seq ?_
      refine SC_seq ?_
      refine SC_seq ?_
      refine SC_region ?_
      refine SR_pu (RD_assign rfl) rfl ?_
      refine SR_nil ?_
      refine SN.le (l := [(0, _), (1, _), (8, _), (9, _)]) ?_ (.cons rfl (.cons rfl (.cons rfl (.cons rfl (.nil)))))
      refine SN_seq ?_
      refine SC_block ?_
      refine SC_ind (X := Nat) (fun md => md ≤ 3) (fun md => 3 - md) (fun md => [(0, .slice a n c), (1, .int .i64 at_), (8, .slice a92 w.length c92), (9, .int .i64 (md : Nat))]) (fun md => rowP 5 1 a92 w.length c92 (w.map byteV) :: F) (0) (by omega) (.cons rfl (.cons rfl (.cons rfl (.cons rfl (.nil))))) (.fin) ?_
      intro md hi ih
      refine SC_seq ?_
      refine SC_seq ?_
      refine SC_region ?_
      refine SR_pu (RD_move rfl) rfl ?_
      refine SR_pu (RD_lss rfl rfl) rfl ?_
      refine SR_nil ?_
      refine SN.le (l := [(0, _), (1, _), (8, _), (9, _), (98, _)]) ?_ (.cons rfl (.cons rfl (.cons rfl (.cons rfl (.cons rfl (.nil))))))
      refine SN_seq ?_
      refine SC_cond rfl (fun hc98 => ?_) (fun hc98 => ?_)
      · have hmd : md < 3 := by simp at hc98; omega
        refine SC_skip ?_
        refine SN_seq ?_
        refine SC_seq ?_
        refine SC_block ?_
        refine SC_seq ?_
        refine SC_joinS2 (X := {x : Option Addr × Nat × List UInt8 // Given md w x.2.2}) (fun x => [(0, .slice a n c), (1, .int .i64 at_), (8, .slice a92 w.length c92), (9, .int .i64 (md : Nat)), (10, .slice x.1.1 x.1.2.2.length x.1.2.1)]) (fun x => rowP 5 1 x.1.1 x.1.2.2.length x.1.2.1 (x.1.2.2.map byteV) :: rowP 5 1 a92 w.length c92 (w.map byteV) :: F) (fun x => ?_) (fun J0 => ?_)
        · obtain ⟨⟨a10, c10, bs⟩, hgv⟩ := x
          dsimp only at hgv ⊢
          have hbl : bs.length ≤ 6161 := by rcases hgv with ⟨_, rfl⟩ | ⟨_, rfl⟩ | ⟨_, _, rfl⟩ | ⟨_, e, _, rfl⟩ <;> (try simp) <;> omega
          refine SN_seq ?_
          refine SC_seq ?_
          refine SC_region ?_
          refine SR_pu (RD_move rfl) rfl ?_
          refine SR_call Try.call23 (.cons rfl (.nil)) (wire_Read bs _ _ _ rfl rfl (by omega)) (lts rfl) ?_
          rintro _ L5 ⟨r, rfl, hL5⟩
          refine SR.lands hL5 ?_
          refine SR_pu (RD_assign rfl) rfl ?_
          refine SR_nil ?_
          refine SN.le (l := [(0, _), (1, _), (8, _), (9, _), (11, _)]) ?_ (.cons rfl (.cons rfl (.cons rfl (.cons rfl (.cons rfl (.nil))))))
          refine SN_seq ?_
          refine SC_seq ?_
          refine SC_seq ?_
          refine SC_region ?_
          refine SR_pu (RD_move rfl) rfl ?_
          refine SR_pu (RD_eqlP Try.underlying38 rfl rfl) rfl ?_
          refine SR_nil ?_
          refine SN.le (l := [(0, _), (1, _), (8, _), (9, _), (11, _), (126, _)]) ?_ (.cons rfl (.cons rfl (.cons rfl (.cons rfl (.cons rfl (.cons rfl (.nil)))))))
          refine SN_seq ?_
          refine SC_cond_false rfl (rfl) ?_
          refine SC_skip ?_
          refine SN_seq ?_
          refine SC_seq ?_
          refine SC_region ?_
          refine SR_pu (RD_assign rfl) rfl ?_
          refine SR_nil ?_
          refine SN.le (l := [(0, _), (1, _), (8, _), (9, _), (11, _), (12, _)]) ?_ (.cons rfl (.cons rfl (.cons rfl (.cons rfl (.cons rfl (.cons rfl (.nil)))))))
          refine SN_seq ?_
          refine SC_seq ?_
          refine SC_seq ?_
          refine SC_region ?_
          refine SR_pu (RD_assign rfl) rfl ?_
          refine SR_nil ?_
          refine SN.le (l := [(0, _), (1, _), (8, _), (9, _), (11, _), (12, _), (13, _)]) ?_ (.cons rfl (.cons rfl (.cons rfl (.cons rfl (.cons rfl (.cons rfl (.cons rfl (.nil))))))))
          refine SN_seq ?_
          refine SC_block ?_
          refine SC_ind (X := Nat) (fun i => i ≤ 20 ∧ i ≤ l.length) (fun i => 20 - i) (fun i => [(0, .slice a n c), (1, .int .i64 at_), (8, .slice a92 w.length c92), (9, .int .i64 (md : Nat)), (11, .pointer (some ⟨r, 0, none⟩)), (12, .bool (rdParts (l.take i) ((bs, false), true)).2), (13, .int .i64 (i : Nat))]) (fun i => At readerI r (rdParts (l.take i) ((bs, false), true)).1 :: rowP 5 1 a92 w.length c92 (w.map byteV) :: F) (0) (⟨by omega, Nat.zero_le _⟩) (.cons rfl (.cons rfl (.cons rfl (.cons rfl (.cons rfl (.cons rfl (.cons rfl (.nil)))))))) ((show Lands _ (At readerI r (bs, false) :: rowP 5 1 a92 w.length c92 (w.map byteV) :: F) from .fin)) ?_
          intro i hi ih2
          obtain ⟨hi1, hil0⟩ := hi
          have hrl := rdParts_len (l.take i) ((bs, false), true)
          have hrl2 : (rdParts (l.take i) ((bs, false), true)).1.1.length ≤ 1000000 := by simp at hrl; omega
          refine SC_seq ?_
          refine SC_seq ?_
          refine SC_region ?_
          refine SR_pu (RD_move rfl) rfl ?_
          refine SR_pu (RD_move rfl) rfl ?_
          refine SR_pu (RD_len Try.runUnderlying41 rfl) rfl ?_
          refine SR_pu (RD_lss rfl rfl) rfl ?_
          refine SR_pu (RD_move rfl) rfl ?_
          refine SR_guard rfl rfl (fun hg35_4 => ?_) (fun hg35_4 => ?_)
          · refine SR_yes rfl rfl (hg35_4) ?_
            refine SR_pu (RD_move rfl) rfl ?_
            refine SR_yes rfl rfl (hg35_4) ?_
            refine SR_pu (RD_lss rfl rfl) rfl ?_
            refine SR_pu (RD_pick_t rfl (hg35_4) rfl) rfl ?_
            refine SR_nil ?_
            refine SN.le (l := [(0, _), (1, _), (8, _), (9, _), (11, _), (12, _), (13, _), (134, _)]) ?_ (.cons rfl (.cons rfl (.cons rfl (.cons rfl (.cons rfl (.cons rfl (.cons rfl (.cons rfl (.nil)))))))))
            refine SN_seq ?_
            refine SC_cond rfl (fun hc134 => ?_) (fun hc134 => ?_)
            · have hil : i < l.length := by simp at hg35_4; omega
              have hi20 : i < 20 := by simp at hc134; omega
              obtain ⟨q, hq⟩ : ∃ q, l[i]? = some q := ⟨_, List.getElem?_eq_getElem hil⟩
              have hok := hl q (List.mem_of_getElem? hq)
              haveI := hok.s.r
              have hstep := rdParts_take ((bs, false), true) hq
              obtain ⟨st, hst⟩ : ∃ st, rdParts (l.take i) ((bs, false), true) = st := ⟨_, rfl⟩
              rw [hst] at hrl2 hstep ⊢
              refine SC_skip ?_
              refine SN_seq ?_
              refine SC_seq ?_
              refine SC_block ?_
              refine SC_seq ?_
              refine SC_region ?_
              refine SR_pu (RD_move rfl) rfl ?_
              refine SR_pu (RD_move rfl) rfl ?_
              refine SR_rd (RD_ixO (cs := l.flatMap Part.cells) Try.runUnderlying41 Try.sizeOf43 rfl rfl (by rw [flat_len Part.cells_len, hn]) (by omega) (by omega)) Has.ro rfl ?_
              refine SR_rd (RD_fieldAddrO (cs := l.flatMap Part.cells) 0 Try.runUnderlying43 rfl rfl Try.sizeOf3 rfl (by rw [flat_len Part.cells_len, hn]; omega)) Has.ro rfl ?_
              refine SR_rd (RD_loadO (v := .int .i64 q.k) (cs := l.flatMap Part.cells) Try.isAgg3 rfl (flat_get Part.cells_len 0 hq (by omega))) Has.ro rfl ?_
              refine SR_pu (RD_mask 2 rfl rfl rfl (by decide) 4 rfl) rfl ?_
              refine SR_nil ?_
              refine SN.le (l := [(0, _), (1, _), (8, _), (9, _), (11, _), (12, _), (13, _), (142, _)]) ?_ (.cons rfl (.cons rfl (.cons rfl (.cons rfl (.cons rfl (.cons rfl (.cons rfl (.cons rfl (.nil)))))))))
              refine SN_seq ?_
              refine SC_block ?_
              refine SC_seq ?_
              refine SC_region ?_
              refine SR_pu (RD_eql rfl rfl) rfl ?_
              refine SR_pu (RD_assign rfl) rfl ?_
              refine SR_nil ?_
              refine SN.le (l := [(0, _), (1, _), (8, _), (9, _), (11, _), (12, _), (13, _), (142, _), (154, _)]) ?_ (.cons rfl (.cons rfl (.cons rfl (.cons rfl (.cons rfl (.cons rfl (.cons rfl (.cons rfl (.cons rfl (.nil))))))))))
              refine SN_seq ?_
              refine SC_cond rfl (fun hc154 => ?_) (fun hc154 => ?_)
              · have hk : q.k % 4 = 0 := by simpa using hc154
                refine SC_drawn (.cons 0 true (.cons 1 true (.cons 2 true (.cons 4 true (.cons 5 true (.cons 6 true (.cons 7 true (.cons 8 true (.cons 3 false (.cons 9 true (.cons 10 true (.cons 11 true (.nil))))))))))))) (by kernel_rfl) (by kernel_rfl) ?_
                refine SQ_pu rfl (RD_move rfl) rfl ?_
                refine SQ_pu rfl (RD_move rfl) rfl ?_
                refine SQ_guard (i := 2) rfl rfl rfl (fun hg40_1 => ?_) (fun hg40_1 => ?_)
                · refine SQ_pyes rfl rfl rfl (hg40_1) (RD_move rfl) rfl ?_
                  refine SQ_pyes rfl rfl rfl (hg40_1) (RD_move rfl) rfl ?_
                  refine SQ_pyes rfl rfl rfl (hg40_1) (RD_move rfl) rfl ?_
                  refine SQ_yes rfl rfl rfl (hg40_1) (RD_ixO (cs := l.flatMap Part.cells) Try.runUnderlying41 Try.sizeOf43 rfl rfl (by rw [flat_len Part.cells_len, hn]) (by omega) (by omega)) Has.ro rfl ?_
                  refine SQ_yes rfl rfl rfl (hg40_1) (RD_fieldAddrO (cs := l.flatMap Part.cells) 1 Try.runUnderlying43 rfl rfl Try.sizeOf23 rfl (by rw [flat_len Part.cells_len, hn]; omega)) Has.ro rfl ?_
                  refine SQ_yes rfl rfl rfl (hg40_1) (RD_loadO (v := .int .u64 q.x) (cs := l.flatMap Part.cells) Try.isAgg23 rfl (flat_get Part.cells_len 1 hq (by omega))) Has.ro rfl ?_
                  refine SQ_one (SA_call rfl (.mk rfl rfl (hg40_1)) Try.call27 (.cons rfl (.nil)) (CallsK.at (reader_Num r st.1 (by omega))) (lts rfl) ?_)
                  rintro _ L6 ⟨rfl, hL6⟩
                  refine ⟨.lands hL6 (.h Has.ro (.h Has.ro (.h Has.ro (.nil)))), ?_⟩
                  refine SQ.lands hL6 ?_
                  refine SQ_pyes rfl rfl rfl (hg40_1) (RD_eql rfl rfl) rfl ?_
                  refine SQ_pu rfl (RD_pick_t rfl (hg40_1) rfl) rfl ?_
                  refine SQ_pu rfl (RD_assign rfl) rfl ?_
                  refine SQ_nil ?_
                  refine SN.le (l := [(0, _), (1, _), (8, _), (9, _), (11, _), (12, _), (13, _)]) ?_ (.cons rfl (.cons rfl (.cons rfl (.cons rfl (.cons rfl (.cons rfl (.cons rfl (.nil))))))))
                  refine SN_block ?_
                  refine SN_block ?_
                  refine SN_seq ?_
                  refine SC_region ?_
                  refine SR_pu (RD_move rfl) rfl ?_
                  refine SR_pu (RD_addi rfl rfl (by omega) (by omega)) rfl ?_
                  refine SR_pu (RD_assign rfl) rfl ?_
                  refine SR_nil ?_
                  refine SN.le (l := [(0, _), (1, _), (8, _), (9, _), (11, _), (12, _), (13, _)]) ?_ (.cons rfl (.cons rfl (.cons rfl (.cons rfl (.cons rfl (.cons rfl (.cons rfl (.nil))))))))
                  have hfin := hstep; rw [rdPart, if_pos hg40_1, if_pos hk] at hfin
                  refine SC_again (ih2 (i + 1) (⟨by omega, by omega⟩) (by omega)) (by rw [hfin]; exact .fin) (.cons rfl (.cons rfl (.cons rfl (.cons rfl (.cons rfl (.cons' rfl (by rw [hfin]) (.cons' rfl (ie (by omega)) (.nil))))))))
                · refine SQ_no rfl rfl rfl (hg40_1) (lts rfl) ?_
                  refine SQ_no rfl rfl rfl (hg40_1) (lts rfl) ?_
                  refine SQ_no rfl rfl rfl (hg40_1) (lts rfl) ?_
                  refine SQ_no rfl rfl rfl (hg40_1) (lts rfl) ?_
                  refine SQ_no rfl rfl rfl (hg40_1) (lts rfl) ?_
                  refine SQ_no rfl rfl rfl (hg40_1) (lts rfl) ?_
                  refine SQ_no1 rfl rfl rfl (hg40_1) (lts rfl) ?_
                  refine SQ_no rfl rfl rfl (hg40_1) (lts rfl) ?_
                  refine SQ_pu rfl (RD_pick_f rfl (hg40_1) rfl) rfl ?_
                  refine SQ_pu rfl (RD_assign rfl) rfl ?_
                  refine SQ_nil ?_
                  refine SN.le (l := [(0, _), (1, _), (8, _), (9, _), (11, _), (12, _), (13, _)]) ?_ (.cons rfl (.cons rfl (.cons rfl (.cons rfl (.cons rfl (.cons rfl (.cons rfl (.nil))))))))
                  refine SN_block ?_
                  refine SN_block ?_
                  refine SN_seq ?_
                  refine SC_region ?_
                  refine SR_pu (RD_move rfl) rfl ?_
                  refine SR_pu (RD_addi rfl rfl (by omega) (by omega)) rfl ?_
                  refine SR_pu (RD_assign rfl) rfl ?_
                  refine SR_nil ?_
                  refine SN.le (l := [(0, _), (1, _), (8, _), (9, _), (11, _), (12, _), (13, _)]) ?_ (.cons rfl (.cons rfl (.cons rfl (.cons rfl (.cons rfl (.cons rfl (.cons rfl (.nil))))))))
                  have hfin := hstep; rw [rdPart, if_neg (by simp at hg40_1; simp [hg40_1])] at hfin
                  refine SC_again (ih2 (i + 1) (⟨by omega, by omega⟩) (by omega)) (by rw [hfin]; exact .fin) (.cons rfl (.cons rfl (.cons rfl (.cons rfl (.cons rfl (.cons' rfl (by rw [hfin]; simp at hg40_1; simp [hg40_1]) (.cons' rfl (ie (by omega)) (.nil))))))))
              · refine SC_seq ?_
                refine SC_region ?_
                refine SR_pu (RD_eql rfl rfl) rfl ?_
                refine SR_pu (RD_assign rfl) rfl ?_
                refine SR_nil ?_
                refine SN.le (l := [(0, _), (1, _), (8, _), (9, _), (11, _), (12, _), (13, _), (167, _)]) ?_ (.cons rfl (.cons rfl (.cons rfl (.cons rfl (.cons rfl (.cons rfl (.cons rfl (.cons rfl (.nil)))))))))
                refine SN_seq ?_
                refine SC_cond rfl (fun hc167 => ?_) (fun hc167 => ?_)
                · have hk : q.k % 4 = 1 := by simpa using hc167
                  have hk0 : ¬ q.k % 4 = 0 := by omega
                  refine SC_drawn (.cons 0 true (.cons 1 true (.cons 2 true (.cons 4 true (.cons 5 true (.cons 6 true (.cons 7 true (.cons 8 true (.cons 9 true (.cons 3 false (.cons 10 true (.cons 11 true (.cons 12 true (.nil)))))))))))))) (by kernel_rfl) (by kernel_rfl) ?_
                  refine SQ_pu rfl (RD_move rfl) rfl ?_
                  refine SQ_pu rfl (RD_move rfl) rfl ?_
                  refine SQ_guard (i := 2) rfl rfl rfl (fun hg42_1 => ?_) (fun hg42_1 => ?_)
                  · refine SQ_pyes rfl rfl rfl (hg42_1) (RD_move rfl) rfl ?_
                    refine SQ_pyes rfl rfl rfl (hg42_1) (RD_move rfl) rfl ?_
                    refine SQ_pyes rfl rfl rfl (hg42_1) (RD_move rfl) rfl ?_
                    refine SQ_yes rfl rfl rfl (hg42_1) (RD_ixO (cs := l.flatMap Part.cells) Try.runUnderlying41 Try.sizeOf43 rfl rfl (by rw [flat_len Part.cells_len, hn]) (by omega) (by omega)) Has.ro rfl ?_
                    refine SQ_yes rfl rfl rfl (hg42_1) (RD_fieldAddrO (cs := l.flatMap Part.cells) 1 Try.runUnderlying43 rfl rfl Try.sizeOf23 rfl (by rw [flat_len Part.cells_len, hn]; omega)) Has.ro rfl ?_
                    refine SQ_yes rfl rfl rfl (hg42_1) (RD_loadO (v := .int .u64 q.x) (cs := l.flatMap Part.cells) Try.isAgg23 rfl (flat_get Part.cells_len 1 hq (by omega))) Has.ro rfl ?_
                    refine SQ_pyes rfl rfl rfl (hg42_1) (RD_convI Try.runUnderlying23 Try.runUnderlying3 rfl) rfl ?_
                    refine SQ_one (SA_call rfl (.mk rfl rfl (hg42_1)) Try.call28 (.cons rfl (.nil)) (CallsK.at (reader_Int r st.1 (by omega))) (lts rfl) ?_)
                    rintro _ L6 ⟨rfl, hL6⟩
                    refine ⟨.lands hL6 (.h Has.ro (.h Has.ro (.h Has.ro (.nil)))), ?_⟩
                    refine SQ.lands hL6 ?_
                    refine SQ_pyes rfl rfl rfl (hg42_1) (RD_eql rfl rfl) rfl ?_
                    refine SQ_pu rfl (RD_pick_t rfl (hg42_1) rfl) rfl ?_
                    refine SQ_pu rfl (RD_assign rfl) rfl ?_
                    refine SQ_nil ?_
                    refine SN.le (l := [(0, _), (1, _), (8, _), (9, _), (11, _), (12, _), (13, _)]) ?_ (.cons rfl (.cons rfl (.cons rfl (.cons rfl (.cons rfl (.cons rfl (.cons rfl (.nil))))))))
                    refine SN_block ?_
                    refine SN_block ?_
                    refine SN_seq ?_
                    refine SC_region ?_
                    refine SR_pu (RD_move rfl) rfl ?_
                    refine SR_pu (RD_addi rfl rfl (by omega) (by omega)) rfl ?_
                    refine SR_pu (RD_assign rfl) rfl ?_
                    refine SR_nil ?_
                    refine SN.le (l := [(0, _), (1, _), (8, _), (9, _), (11, _), (12, _), (13, _)]) ?_ (.cons rfl (.cons rfl (.cons rfl (.cons rfl (.cons rfl (.cons rfl (.cons rfl (.nil))))))))
                    have hfin := hstep; rw [rdPart, if_pos hg42_1, if_neg hk0, if_pos hk] at hfin
                    refine SC_again (ih2 (i + 1) (⟨by omega, by omega⟩) (by omega)) (by rw [hfin]; exact .fin) (.cons rfl (.cons rfl (.cons rfl (.cons rfl (.cons rfl (.cons' rfl (by rw [hfin]) (.cons' rfl (ie (by omega)) (.nil))))))))
                  · refine SQ_no rfl rfl rfl (hg42_1) (lts rfl) ?_
                    refine SQ_no rfl rfl rfl (hg42_1) (lts rfl) ?_
                    refine SQ_no rfl rfl rfl (hg42_1) (lts rfl) ?_
                    refine SQ_no rfl rfl rfl (hg42_1) (lts rfl) ?_
                    refine SQ_no rfl rfl rfl (hg42_1) (lts rfl) ?_
                    refine SQ_no rfl rfl rfl (hg42_1) (lts rfl) ?_
                    refine SQ_no rfl rfl rfl (hg42_1) (lts rfl) ?_
                    refine SQ_no1 rfl rfl rfl (hg42_1) (lts rfl) ?_
                    refine SQ_no rfl rfl rfl (hg42_1) (lts rfl) ?_
                    refine SQ_pu rfl (RD_pick_f rfl (hg42_1) rfl) rfl ?_
                    refine SQ_pu rfl (RD_assign rfl) rfl ?_
                    refine SQ_nil ?_
                    refine SN.le (l := [(0, _), (1, _), (8, _), (9, _), (11, _), (12, _), (13, _)]) ?_ (.cons rfl (.cons rfl (.cons rfl (.cons rfl (.cons rfl (.cons rfl (.cons rfl (.nil))))))))
                    refine SN_block ?_
                    refine SN_block ?_
                    refine SN_seq ?_
                    refine SC_region ?_
                    refine SR_pu (RD_move rfl) rfl ?_
                    refine SR_pu (RD_addi rfl rfl (by omega) (by omega)) rfl ?_
                    refine SR_pu (RD_assign rfl) rfl ?_
                    refine SR_nil ?_
                    refine SN.le (l := [(0, _), (1, _), (8, _), (9, _), (11, _), (12, _), (13, _)]) ?_ (.cons rfl (.cons rfl (.cons rfl (.cons rfl (.cons rfl (.cons rfl (.cons rfl (.nil))))))))
                    have hfin := hstep; rw [rdPart, if_neg (by simp at hg42_1; simp [hg42_1])] at hfin
                    refine SC_again (ih2 (i + 1) (⟨by omega, by omega⟩) (by omega)) (by rw [hfin]; exact .fin) (.cons rfl (.cons rfl (.cons rfl (.cons rfl (.cons rfl (.cons' rfl (by rw [hfin]; simp at hg42_1; simp [hg42_1]) (.cons' rfl (ie (by omega)) (.nil))))))))
                · have hk0 : ¬ q.k % 4 = 0 := by simp at hc154; omega
                  have hk : ¬ q.k % 4 = 1 := by simp at hc167; omega
                  refine SC_drawn (.cons 0 true (.cons 1 true (.cons 2 true (.cons 4 true (.cons 5 true (.cons 6 true (.cons 7 true (.cons 8 true (.cons 3 false (.cons 9 false (.cons 10 true (.cons 11 true (.nil))))))))))))) (by kernel_rfl) (by kernel_rfl) ?_
                  refine SQ_pu rfl (RD_move rfl) rfl ?_
                  refine SQ_pu rfl (RD_move rfl) rfl ?_
                  refine SQ_guard (i := 2) rfl rfl rfl (fun hg38_1 => ?_) (fun hg38_1 => ?_)
                  · refine SQ_pyes rfl rfl rfl (hg38_1) (RD_move rfl) rfl ?_
                    refine SQ_pyes rfl rfl rfl (hg38_1) (RD_move rfl) rfl ?_
                    refine SQ_pyes rfl rfl rfl (hg38_1) (RD_move rfl) rfl ?_
                    refine SQ_yes rfl rfl rfl (hg38_1) (RD_ixO (cs := l.flatMap Part.cells) Try.runUnderlying41 Try.sizeOf43 rfl rfl (by rw [flat_len Part.cells_len, hn]) (by omega) (by omega)) Has.ro rfl ?_
                    refine SQ_yes rfl rfl rfl (hg38_1) (RD_fieldAddrO (cs := l.flatMap Part.cells) 2 Try.runUnderlying43 rfl rfl Try.sizeOf25 rfl (by rw [flat_len Part.cells_len, hn]; omega)) Has.ro rfl ?_
                    refine SQ_yes rfl rfl rfl (hg38_1) (RD_loadO (v := q.s.val) (cs := l.flatMap Part.cells) Try.isAgg25 rfl (flat_get Part.cells_len 2 hq (by omega))) Has.ro rfl ?_
                    refine SQ_one (SA_call rfl (.mk rfl rfl (hg38_1)) Try.call24 (.cons rfl (.nil)) (CallsK.at (reader_Text r st.1 (by omega))) (lts rfl) ?_)
                    rintro _ L6 ⟨a6, c6, rfl, hL6⟩
                    refine ⟨.lands hL6 (.h Has.ro (.h Has.ro (.h Has.ro (.nil)))), ?_⟩
                    refine SQ.lands hL6 ?_
                    refine SQ_one (SA_call rfl (.mk rfl rfl (hg38_1)) Try.call21 (.cons rfl (.cons rfl (.nil))) (ref_Same _ _ _ (rdText st.1).1 rfl rfl q.s.a q.s.n q.s.c q.s.bs rfl hok.s.hn) (lts rfl) ?_)
                    rintro _ L7 ⟨rfl, hL7⟩
                    refine ⟨.lands hL7 (.w rfl (.h Has.ro (.h Has.ro (.nil)))), ?_⟩
                    refine SQ.lands hL7 ?_
                    refine SQ_pu rfl (RD_pick_t rfl (hg38_1) rfl) rfl ?_
                    refine SQ_pu rfl (RD_assign rfl) rfl ?_
                    refine SQ_nil ?_
                    refine SN.le (l := [(0, _), (1, _), (8, _), (9, _), (11, _), (12, _), (13, _)]) ?_ (.cons rfl (.cons rfl (.cons rfl (.cons rfl (.cons rfl (.cons rfl (.cons rfl (.nil))))))))
                    refine SN_block ?_
                    refine SN_block ?_
                    refine SN_seq ?_
                    refine SC_region ?_
                    refine SR_pu (RD_move rfl) rfl ?_
                    refine SR_pu (RD_addi rfl rfl (by omega) (by omega)) rfl ?_
                    refine SR_pu (RD_assign rfl) rfl ?_
                    refine SR_nil ?_
                    refine SN.le (l := [(0, _), (1, _), (8, _), (9, _), (11, _), (12, _), (13, _)]) ?_ (.cons rfl (.cons rfl (.cons rfl (.cons rfl (.cons rfl (.cons rfl (.cons rfl (.nil))))))))
                    have hfin := hstep; rw [rdPart, if_pos hg38_1, if_neg hk0, if_neg hk] at hfin
                    refine SC_again (ih2 (i + 1) (⟨by omega, by omega⟩) (by omega)) (by rw [hfin]; exact .fin) (.cons rfl (.cons rfl (.cons rfl (.cons rfl (.cons rfl (.cons' rfl (by rw [hfin]) (.cons' rfl (ie (by omega)) (.nil))))))))
                  · refine SQ_no rfl rfl rfl (hg38_1) (lts rfl) ?_
                    refine SQ_no rfl rfl rfl (hg38_1) (lts rfl) ?_
                    refine SQ_no rfl rfl rfl (hg38_1) (lts rfl) ?_
                    refine SQ_no rfl rfl rfl (hg38_1) (lts rfl) ?_
                    refine SQ_no rfl rfl rfl (hg38_1) (lts rfl) ?_
                    refine SQ_no rfl rfl rfl (hg38_1) (lts rfl) ?_
                    refine SQ_no1 rfl rfl rfl (hg38_1) (lts rfl) ?_
                    refine SQ_no1 rfl rfl rfl (hg38_1) (lts rfl) ?_
                    refine SQ_pu rfl (RD_pick_f rfl (hg38_1) rfl) rfl ?_
                    refine SQ_pu rfl (RD_assign rfl) rfl ?_
                    refine SQ_nil ?_
                    refine SN.le (l := [(0, _), (1, _), (8, _), (9, _), (11, _), (12, _), (13, _)]) ?_ (.cons rfl (.cons rfl (.cons rfl (.cons rfl (.cons rfl (.cons rfl (.cons rfl (.nil))))))))
                    refine SN_block ?_
                    refine SN_block ?_
                    refine SN_seq ?_
                    refine SC_region ?_
                    refine SR_pu (RD_move rfl) rfl ?_
                    refine SR_pu (RD_addi rfl rfl (by omega) (by omega)) rfl ?_
                    refine SR_pu (RD_assign rfl) rfl ?_
                    refine SR_nil ?_
                    refine SN.le (l := [(0, _), (1, _), (8, _), (9, _), (11, _), (12, _), (13, _)]) ?_ (.cons rfl (.cons rfl (.cons rfl (.cons rfl (.cons rfl (.cons rfl (.cons rfl (.nil))))))))
                    have hfin := hstep; rw [rdPart, if_neg (by simp at hg38_1; simp [hg38_1])] at hfin
                    refine SC_again (ih2 (i + 1) (⟨by omega, by omega⟩) (by omega)) (by rw [hfin]; exact .fin) (.cons rfl (.cons rfl (.cons rfl (.cons rfl (.cons rfl (.cons' rfl (by rw [hfin]; simp at hg38_1; simp [hg38_1]) (.cons' rfl (ie (by omega)) (.nil))))))))
            · have hps : l.take i = l.take 20 := by rw [List.take_eq_take_iff]; (simp at hc134; omega)
              rw [hps]
              have hpass := passes hsm (hw.symm ▸ hgv)
              rw [hw] at hpass
              obtain ⟨st, hst⟩ : ∃ st, rdParts (l.take 20) ((bs, false), true) = st := ⟨_, rfl⟩
              rw [hst] at hpass ⊢
              obtain ⟨hp1, hp2⟩ := hpass
              have hD : rdDone st.1 = decide (md = 0 ∨ (md = 2 ∧ w.length = 0)) := by rw [Bool.eq_iff_iff, hp2]; simp
              refine SC_exit rfl ?_
              refine SN_seq ?_
              refine SC_seq ?_
              refine SC_region ?_
              refine SR_pu (RD_move rfl) rfl ?_
              refine SR_pu (RD_lss rfl rfl) rfl ?_
              refine SR_pu (RD_move rfl) rfl ?_
              refine SR_guard rfl rfl (fun hg43_2 => ?_) (fun hg43_2 => ?_)
              · refine SR_yes rfl rfl (hg43_2) ?_
                refine SR_pu (RD_move rfl) rfl ?_
                refine SR_yes rfl rfl (hg43_2) ?_
                refine SR_pu (RD_not rfl) rfl ?_
                refine SR_pu (RD_pick_t rfl (hg43_2) rfl) rfl ?_
                refine SR_pu (RD_move rfl) rfl ?_
                refine SR_yes rfl rfl (by rw [hp1 (by simp at hg43_2; omega)]; rfl) ?_
                refine SR_pu (RD_move rfl) rfl ?_
                refine SR_yes rfl rfl (by rw [hp1 (by simp at hg43_2; omega)]; rfl) ?_
                refine SR_call Try.call25 (.cons rfl (.nil)) (CallsK.at (reader_Done r st.1)) (lts rfl) ?_
                rintro _ L8 ⟨rfl, hL8⟩
                refine SR.lands hL8 ?_
                refine SR_yes rfl rfl (by rw [hp1 (by simp at hg43_2; omega)]; rfl) ?_
                refine SR_pu (RD_move rfl) rfl ?_
                refine SR_yes rfl rfl (by rw [hp1 (by simp at hg43_2; omega)]; rfl) ?_
                refine SR_pu (RD_eql rfl rfl) rfl ?_
                refine SR_yes rfl rfl (by rw [hp1 (by simp at hg43_2; omega)]; rfl) ?_
                refine SR_pu (RD_move rfl) rfl ?_
                refine SR_guard rfl rfl (fun hg43_11 => ?_) (fun hg43_11 => ?_)
                · refine SR_yes rfl rfl (hg43_11) ?_
                  refine SR_pu (RD_move rfl) rfl ?_
                  refine SR_yes rfl rfl (hg43_11) ?_
                  refine SR_pu (RD_eql rfl rfl) rfl ?_
                  refine SR_yes rfl rfl (hg43_11) ?_
                  refine SR_pu (RD_move rfl) rfl ?_
                  refine SR_guard rfl rfl (fun hg43_14 => ?_) (fun hg43_14 => ?_)
                  · refine SR_yes rfl rfl (hg43_14) ?_
                    refine SR_pu (RD_move rfl) rfl ?_
                    refine SR_yes rfl rfl (hg43_14) ?_
                    refine SR_pu (RD_len Try.runUnderlying25 rfl) rfl ?_
                    refine SR_yes rfl rfl (hg43_14) ?_
                    refine SR_pu (RD_eql rfl rfl) rfl ?_
                    refine SR_yes rfl rfl (hg43_11) ?_
                    refine SR_pu (RD_pick_t rfl (hg43_14) rfl) rfl ?_
                    refine SR_yes rfl rfl (by rw [hp1 (by simp at hg43_2; omega)]; rfl) ?_
                    refine SR_pu (RD_pick_f rfl (hg43_11) rfl) rfl ?_
                    refine SR_yes rfl rfl (by rw [hp1 (by simp at hg43_2; omega)]; rfl) ?_
                    refine SR_pu (RD_neqB Try.underlying4 rfl rfl) rfl ?_
                    refine SR_pu (RD_pick_f rfl (by rw [hp1 (by simp at hg43_2; omega)]; rfl) rfl) rfl ?_
                    refine SR_nil ?_
                    refine SN.le (l := [(0, _), (1, _), (8, _), (9, _), (202, _)]) ?_ (.cons rfl (.cons rfl (.cons rfl (.cons rfl (.cons rfl (.nil))))))
                    refine SN_seq ?_
                    refine SC_cond_false rfl (by first | (have e1 : md = 0 := (by simp at hg43_11; omega); simp [hD, e1]; done) | (have e2 : md = 2 := (by simp at hg43_14; omega); simp [hD, e2]; done) | (have e1 : ¬ md = 0 := (by simp at hg43_11; omega); have e2 : ¬ md = 2 := (by simp at hg43_14; omega); simp [hD, e1, e2]; done)) ?_
                    refine SC_skip ?_
                    refine SN_block ?_
                    refine SN_seq ?_
                    refine SC_region ?_
                    refine SR_pu (RD_move rfl) rfl ?_
                    refine SR_pu (RD_addi rfl rfl (by omega) (by omega)) rfl ?_
                    refine SR_pu (RD_assign rfl) rfl ?_
                    refine SR_nil ?_
                    refine SN.le (l := [(0, _), (1, _), (8, _), (9, _)]) ?_ (.cons rfl (.cons rfl (.cons rfl (.cons rfl (.nil)))))
                    refine SC_again (ih (md + 1) (by omega) (by omega)) (.fin) (.cons rfl (.cons rfl (.cons rfl (.cons' rfl (ie (by omega)) (.nil)))))
                  · refine SR_no rfl rfl (hg43_14) (lts rfl) ?_
                    refine SR_no rfl rfl (hg43_14) (lts rfl) ?_
                    refine SR_no rfl rfl (hg43_14) (lts rfl) ?_
                    refine SR_yes rfl rfl (hg43_11) ?_
                    refine SR_pu (RD_pick_f rfl (hg43_14) rfl) rfl ?_
                    refine SR_yes rfl rfl (by rw [hp1 (by simp at hg43_2; omega)]; rfl) ?_
                    refine SR_pu (RD_pick_f rfl (hg43_11) rfl) rfl ?_
                    refine SR_yes rfl rfl (by rw [hp1 (by simp at hg43_2; omega)]; rfl) ?_
                    refine SR_pu (RD_neqB Try.underlying4 rfl rfl) rfl ?_
                    refine SR_pu (RD_pick_f rfl (by rw [hp1 (by simp at hg43_2; omega)]; rfl) rfl) rfl ?_
                    refine SR_nil ?_
                    refine SN.le (l := [(0, _), (1, _), (8, _), (9, _), (202, _)]) ?_ (.cons rfl (.cons rfl (.cons rfl (.cons rfl (.cons rfl (.nil))))))
                    refine SN_seq ?_
                    refine SC_cond_false rfl (by first | (have e1 : md = 0 := (by simp at hg43_11; omega); simp [hD, e1]; done) | (have e2 : md = 2 := (by simp at hg43_14; omega); simp [hD, e2]; done) | (have e1 : ¬ md = 0 := (by simp at hg43_11; omega); have e2 : ¬ md = 2 := (by simp at hg43_14; omega); simp [hD, e1, e2]; done)) ?_
                    refine SC_skip ?_
                    refine SN_block ?_
                    refine SN_seq ?_
                    refine SC_region ?_
                    refine SR_pu (RD_move rfl) rfl ?_
                    refine SR_pu (RD_addi rfl rfl (by omega) (by omega)) rfl ?_
                    refine SR_pu (RD_assign rfl) rfl ?_
                    refine SR_nil ?_
                    refine SN.le (l := [(0, _), (1, _), (8, _), (9, _)]) ?_ (.cons rfl (.cons rfl (.cons rfl (.cons rfl (.nil)))))
                    refine SC_again (ih (md + 1) (by omega) (by omega)) (.fin) (.cons rfl (.cons rfl (.cons rfl (.cons' rfl (ie (by omega)) (.nil)))))
                · refine SR_no rfl rfl (hg43_11) (lts rfl) ?_
                  refine SR_no rfl rfl (hg43_11) (lts rfl) ?_
                  refine SR_no rfl rfl (hg43_11) (lts rfl) ?_
                  refine SR_nou  rfl rfl (lts rfl) ?_
                  refine SR_nou  rfl rfl (lts rfl) ?_
                  refine SR_nou  rfl rfl (lts rfl) ?_
                  refine SR_no rfl rfl (hg43_11) (lts rfl) ?_
                  refine SR_yes rfl rfl (by rw [hp1 (by simp at hg43_2; omega)]; rfl) ?_
                  refine SR_pu (RD_pick_t rfl (hg43_11) rfl) rfl ?_
                  refine SR_yes rfl rfl (by rw [hp1 (by simp at hg43_2; omega)]; rfl) ?_
                  refine SR_pu (RD_neqB Try.underlying4 rfl rfl) rfl ?_
                  refine SR_pu (RD_pick_f rfl (by rw [hp1 (by simp at hg43_2; omega)]; rfl) rfl) rfl ?_
                  refine SR_nil ?_
                  refine SN.le (l := [(0, _), (1, _), (8, _), (9, _), (202, _)]) ?_ (.cons rfl (.cons rfl (.cons rfl (.cons rfl (.cons rfl (.nil))))))
                  refine SN_seq ?_
                  refine SC_cond_false rfl (by first | (have e1 : md = 0 := (by simp at hg43_11; omega); simp [hD, e1]; done) | (have e2 : md = 2 := (by simp at hg43_14; omega); simp [hD, e2]; done) | (have e1 : ¬ md = 0 := (by simp at hg43_11; omega); have e2 : ¬ md = 2 := (by simp at hg43_14; omega); simp [hD, e1, e2]; done)) ?_
                  refine SC_skip ?_
                  refine SN_block ?_
                  refine SN_seq ?_
                  refine SC_region ?_
                  refine SR_pu (RD_move rfl) rfl ?_
                  refine SR_pu (RD_addi rfl rfl (by omega) (by omega)) rfl ?_
                  refine SR_pu (RD_assign rfl) rfl ?_
                  refine SR_nil ?_
                  refine SN.le (l := [(0, _), (1, _), (8, _), (9, _)]) ?_ (.cons rfl (.cons rfl (.cons rfl (.cons rfl (.nil)))))
                  refine SC_again (ih (md + 1) (by omega) (by omega)) (.fin) (.cons rfl (.cons rfl (.cons rfl (.cons' rfl (ie (by omega)) (.nil)))))
              · refine SR_no rfl rfl (hg43_2) (lts rfl) ?_
                refine SR_no rfl rfl (hg43_2) (lts rfl) ?_
                refine SR_pu (RD_pick_f rfl (hg43_2) rfl) rfl ?_
                refine SR_pu (RD_move rfl) rfl ?_
                refine SR_yes rfl rfl (rfl) ?_
                refine SR_pu (RD_move rfl) rfl ?_
                refine SR_yes rfl rfl (rfl) ?_
                refine SR_call Try.call25 (.cons rfl (.nil)) (CallsK.at (reader_Done r st.1)) (lts rfl) ?_
                rintro _ L8 ⟨rfl, hL8⟩
                refine SR.lands hL8 ?_
                refine SR_yes rfl rfl (rfl) ?_
                refine SR_pu (RD_move rfl) rfl ?_
                refine SR_yes rfl rfl (rfl) ?_
                refine SR_pu (RD_eql rfl rfl) rfl ?_
                refine SR_yes rfl rfl (rfl) ?_
                refine SR_pu (RD_move rfl) rfl ?_
                refine SR_guard rfl rfl (fun hg43_11 => ?_) (fun hg43_11 => ?_)
                · refine SR_yes rfl rfl (hg43_11) ?_
                  refine SR_pu (RD_move rfl) rfl ?_
                  refine SR_yes rfl rfl (hg43_11) ?_
                  refine SR_pu (RD_eql rfl rfl) rfl ?_
                  refine SR_yes rfl rfl (hg43_11) ?_
                  refine SR_pu (RD_move rfl) rfl ?_
                  refine SR_guard rfl rfl (fun hg43_14 => ?_) (fun hg43_14 => ?_)
                  · refine SR_yes rfl rfl (hg43_14) ?_
                    refine SR_pu (RD_move rfl) rfl ?_
                    refine SR_yes rfl rfl (hg43_14) ?_
                    refine SR_pu (RD_len Try.runUnderlying25 rfl) rfl ?_
                    refine SR_yes rfl rfl (hg43_14) ?_
                    refine SR_pu (RD_eql rfl rfl) rfl ?_
                    refine SR_yes rfl rfl (hg43_11) ?_
                    refine SR_pu (RD_pick_t rfl (hg43_14) rfl) rfl ?_
                    refine SR_yes rfl rfl (rfl) ?_
                    refine SR_pu (RD_pick_f rfl (hg43_11) rfl) rfl ?_
                    refine SR_yes rfl rfl (rfl) ?_
                    refine SR_pu (RD_neqB Try.underlying4 rfl rfl) rfl ?_
                    refine SR_pu (RD_pick_f rfl (rfl) rfl) rfl ?_
                    refine SR_nil ?_
                    refine SN.le (l := [(0, _), (1, _), (8, _), (9, _), (202, _)]) ?_ (.cons rfl (.cons rfl (.cons rfl (.cons rfl (.cons rfl (.nil))))))
                    refine SN_seq ?_
                    refine SC_cond_false rfl (by first | (have e1 : md = 0 := (by simp at hg43_11; omega); simp [hD, e1]; done) | (have e2 : md = 2 := (by simp at hg43_14; omega); simp [hD, e2]; done) | (have e1 : ¬ md = 0 := (by simp at hg43_11; omega); have e2 : ¬ md = 2 := (by simp at hg43_14; omega); simp [hD, e1, e2]; done)) ?_
                    refine SC_skip ?_
                    refine SN_block ?_
                    refine SN_seq ?_
                    refine SC_region ?_
                    refine SR_pu (RD_move rfl) rfl ?_
                    refine SR_pu (RD_addi rfl rfl (by omega) (by omega)) rfl ?_
                    refine SR_pu (RD_assign rfl) rfl ?_
                    refine SR_nil ?_
                    refine SN.le (l := [(0, _), (1, _), (8, _), (9, _)]) ?_ (.cons rfl (.cons rfl (.cons rfl (.cons rfl (.nil)))))
                    refine SC_again (ih (md + 1) (by omega) (by omega)) (.fin) (.cons rfl (.cons rfl (.cons rfl (.cons' rfl (ie (by omega)) (.nil)))))
                  · refine SR_no rfl rfl (hg43_14) (lts rfl) ?_
                    refine SR_no rfl rfl (hg43_14) (lts rfl) ?_
                    refine SR_no rfl rfl (hg43_14) (lts rfl) ?_
                    refine SR_yes rfl rfl (hg43_11) ?_
                    refine SR_pu (RD_pick_f rfl (hg43_14) rfl) rfl ?_
                    refine SR_yes rfl rfl (rfl) ?_
                    refine SR_pu (RD_pick_f rfl (hg43_11) rfl) rfl ?_
                    refine SR_yes rfl rfl (rfl) ?_
                    refine SR_pu (RD_neqB Try.underlying4 rfl rfl) rfl ?_
                    refine SR_pu (RD_pick_f rfl (rfl) rfl) rfl ?_
                    refine SR_nil ?_
                    refine SN.le (l := [(0, _), (1, _), (8, _), (9, _), (202, _)]) ?_ (.cons rfl (.cons rfl (.cons rfl (.cons rfl (.cons rfl (.nil))))))
                    refine SN_seq ?_
                    refine SC_cond_false rfl (by first | (have e1 : md = 0 := (by simp at hg43_11; omega); simp [hD, e1]; done) | (have e2 : md = 2 := (by simp at hg43_14; omega); simp [hD, e2]; done) | (have e1 : ¬ md = 0 := (by simp at hg43_11; omega); have e2 : ¬ md = 2 := (by simp at hg43_14; omega); simp [hD, e1, e2]; done)) ?_
                    refine SC_skip ?_
                    refine SN_block ?_
                    refine SN_seq ?_
                    refine SC_region ?_
                    refine SR_pu (RD_move rfl) rfl ?_
                    refine SR_pu (RD_addi rfl rfl (by omega) (by omega)) rfl ?_
                    refine SR_pu (RD_assign rfl) rfl ?_
                    refine SR_nil ?_
                    refine SN.le (l := [(0, _), (1, _), (8, _), (9, _)]) ?_ (.cons rfl (.cons rfl (.cons rfl (.cons rfl (.nil)))))
                    refine SC_again (ih (md + 1) (by omega) (by omega)) (.fin) (.cons rfl (.cons rfl (.cons rfl (.cons' rfl (ie (by omega)) (.nil)))))
                · refine SR_no rfl rfl (hg43_11) (lts rfl) ?_
                  refine SR_no rfl rfl (hg43_11) (lts rfl) ?_
                  refine SR_no rfl rfl (hg43_11) (lts rfl) ?_
                  refine SR_nou  rfl rfl (lts rfl) ?_
                  refine SR_nou  rfl rfl (lts rfl) ?_
                  refine SR_nou  rfl rfl (lts rfl) ?_
                  refine SR_no rfl rfl (hg43_11) (lts rfl) ?_
                  refine SR_yes rfl rfl (rfl) ?_
                  refine SR_pu (RD_pick_t rfl (hg43_11) rfl) rfl ?_
                  refine SR_yes rfl rfl (rfl) ?_
                  refine SR_pu (RD_neqB Try.underlying4 rfl rfl) rfl ?_
                  refine SR_pu (RD_pick_f rfl (rfl) rfl) rfl ?_
                  refine SR_nil ?_
                  refine SN.le (l := [(0, _), (1, _), (8, _), (9, _), (202, _)]) ?_ (.cons rfl (.cons rfl (.cons rfl (.cons rfl (.cons rfl (.nil))))))
                  refine SN_seq ?_
                  refine SC_cond_false rfl (by first | (have e1 : md = 0 := (by simp at hg43_11; omega); simp [hD, e1]; done) | (have e2 : md = 2 := (by simp at hg43_14; omega); simp [hD, e2]; done) | (have e1 : ¬ md = 0 := (by simp at hg43_11; omega); have e2 : ¬ md = 2 := (by simp at hg43_14; omega); simp [hD, e1, e2]; done)) ?_
                  refine SC_skip ?_
                  refine SN_block ?_
                  refine SN_seq ?_
                  refine SC_region ?_
                  refine SR_pu (RD_move rfl) rfl ?_
                  refine SR_pu (RD_addi rfl rfl (by omega) (by omega)) rfl ?_
                  refine SR_pu (RD_assign rfl) rfl ?_
                  refine SR_nil ?_
                  refine SN.le (l := [(0, _), (1, _), (8, _), (9, _)]) ?_ (.cons rfl (.cons rfl (.cons rfl (.cons rfl (.nil)))))
                  refine SC_again (ih (md + 1) (by omega) (by omega)) (.fin) (.cons rfl (.cons rfl (.cons rfl (.cons' rfl (ie (by omega)) (.nil)))))
          · refine SR_no rfl rfl (hg35_4) (lts rfl) ?_
            refine SR_no rfl rfl (hg35_4) (lts rfl) ?_
            refine SR_pu (RD_pick_f rfl (hg35_4) rfl) rfl ?_
            refine SR_nil ?_
            refine SN.le (l := [(0, _), (1, _), (8, _), (9, _), (11, _), (12, _), (13, _), (134, _)]) ?_ (.cons rfl (.cons rfl (.cons rfl (.cons rfl (.cons rfl (.cons rfl (.cons rfl (.cons rfl (.nil)))))))))
            refine SN_seq ?_
            have hps : l.take i = l.take 20 := by rw [List.take_eq_take_iff]; (simp at hg35_4; omega)
            rw [hps]
            have hpass := passes hsm (hw.symm ▸ hgv)
            rw [hw] at hpass
            obtain ⟨st, hst⟩ : ∃ st, rdParts (l.take 20) ((bs, false), true) = st := ⟨_, rfl⟩
            rw [hst] at hpass ⊢
            obtain ⟨hp1, hp2⟩ := hpass
            have hD : rdDone st.1 = decide (md = 0 ∨ (md = 2 ∧ w.length = 0)) := by rw [Bool.eq_iff_iff, hp2]; simp
            refine SC_cond_false rfl (rfl) ?_
            refine SC_exit rfl ?_
            refine SN_seq ?_
            refine SC_seq ?_
            refine SC_region ?_
            refine SR_pu (RD_move rfl) rfl ?_
            refine SR_pu (RD_lss rfl rfl) rfl ?_
            refine SR_pu (RD_move rfl) rfl ?_
            refine SR_guard rfl rfl (fun hg43_2 => ?_) (fun hg43_2 => ?_)
            · refine SR_yes rfl rfl (hg43_2) ?_
              refine SR_pu (RD_move rfl) rfl ?_
              refine SR_yes rfl rfl (hg43_2) ?_
              refine SR_pu (RD_not rfl) rfl ?_
              refine SR_pu (RD_pick_t rfl (hg43_2) rfl) rfl ?_
              refine SR_pu (RD_move rfl) rfl ?_
              refine SR_yes rfl rfl (by rw [hp1 (by simp at hg43_2; omega)]; rfl) ?_
              refine SR_pu (RD_move rfl) rfl ?_
              refine SR_yes rfl rfl (by rw [hp1 (by simp at hg43_2; omega)]; rfl) ?_
              refine SR_call Try.call25 (.cons rfl (.nil)) (CallsK.at (reader_Done r st.1)) (lts rfl) ?_
              rintro _ L8 ⟨rfl, hL8⟩
              refine SR.lands hL8 ?_
              refine SR_yes rfl rfl (by rw [hp1 (by simp at hg43_2; omega)]; rfl) ?_
              refine SR_pu (RD_move rfl) rfl ?_
              refine SR_yes rfl rfl (by rw [hp1 (by simp at hg43_2; omega)]; rfl) ?_
              refine SR_pu (RD_eql rfl rfl) rfl ?_
              refine SR_yes rfl rfl (by rw [hp1 (by simp at hg43_2; omega)]; rfl) ?_
              refine SR_pu (RD_move rfl) rfl ?_
              refine SR_guard rfl rfl (fun hg43_11 => ?_) (fun hg43_11 => ?_)
              · refine SR_yes rfl rfl (hg43_11) ?_
                refine SR_pu (RD_move rfl) rfl ?_
                refine SR_yes rfl rfl (hg43_11) ?_
                refine SR_pu (RD_eql rfl rfl) rfl ?_
                refine SR_yes rfl rfl (hg43_11) ?_
                refine SR_pu (RD_move rfl) rfl ?_
                refine SR_guard rfl rfl (fun hg43_14 => ?_) (fun hg43_14 => ?_)
                · refine SR_yes rfl rfl (hg43_14) ?_
                  refine SR_pu (RD_move rfl) rfl ?_
                  refine SR_yes rfl rfl (hg43_14) ?_
                  refine SR_pu (RD_len Try.runUnderlying25 rfl) rfl ?_
                  refine SR_yes rfl rfl (hg43_14) ?_
                  refine SR_pu (RD_eql rfl rfl) rfl ?_
                  refine SR_yes rfl rfl (hg43_11) ?_
                  refine SR_pu (RD_pick_t rfl (hg43_14) rfl) rfl ?_
                  refine SR_yes rfl rfl (by rw [hp1 (by simp at hg43_2; omega)]; rfl) ?_
                  refine SR_pu (RD_pick_f rfl (hg43_11) rfl) rfl ?_
                  refine SR_yes rfl rfl (by rw [hp1 (by simp at hg43_2; omega)]; rfl) ?_
                  refine SR_pu (RD_neqB Try.underlying4 rfl rfl) rfl ?_
                  refine SR_pu (RD_pick_f rfl (by rw [hp1 (by simp at hg43_2; omega)]; rfl) rfl) rfl ?_
                  refine SR_nil ?_
                  refine SN.le (l := [(0, _), (1, _), (8, _), (9, _), (202, _)]) ?_ (.cons rfl (.cons rfl (.cons rfl (.cons rfl (.cons rfl (.nil))))))
                  refine SN_seq ?_
                  refine SC_cond_false rfl (by first | (have e1 : md = 0 := (by simp at hg43_11; omega); simp [hD, e1]; done) | (have e2 : md = 2 := (by simp at hg43_14; omega); simp [hD, e2]; done) | (have e1 : ¬ md = 0 := (by simp at hg43_11; omega); have e2 : ¬ md = 2 := (by simp at hg43_14; omega); simp [hD, e1, e2]; done)) ?_
                  refine SC_skip ?_
                  refine SN_block ?_
                  refine SN_seq ?_
                  refine SC_region ?_
                  refine SR_pu (RD_move rfl) rfl ?_
                  refine SR_pu (RD_addi rfl rfl (by omega) (by omega)) rfl ?_
                  refine SR_pu (RD_assign rfl) rfl ?_
                  refine SR_nil ?_
                  refine SN.le (l := [(0, _), (1, _), (8, _), (9, _)]) ?_ (.cons rfl (.cons rfl (.cons rfl (.cons rfl (.nil)))))
                  refine SC_again (ih (md + 1) (by omega) (by omega)) (.fin) (.cons rfl (.cons rfl (.cons rfl (.cons' rfl (ie (by omega)) (.nil)))))
                · refine SR_no rfl rfl (hg43_14) (lts rfl) ?_
                  refine SR_no rfl rfl (hg43_14) (lts rfl) ?_
                  refine SR_no rfl rfl (hg43_14) (lts rfl) ?_
                  refine SR_yes rfl rfl (hg43_11) ?_
                  refine SR_pu (RD_pick_f rfl (hg43_14) rfl) rfl ?_
                  refine SR_yes rfl rfl (by rw [hp1 (by simp at hg43_2; omega)]; rfl) ?_
                  refine SR_pu (RD_pick_f rfl (hg43_11) rfl) rfl ?_
                  refine SR_yes rfl rfl (by rw [hp1 (by simp at hg43_2; omega)]; rfl) ?_
                  refine SR_pu (RD_neqB Try.underlying4 rfl rfl) rfl ?_
                  refine SR_pu (RD_pick_f rfl (by rw [hp1 (by simp at hg43_2; omega)]; rfl) rfl) rfl ?_
                  refine SR_nil ?_
                  refine SN.le (l := [(0, _), (1, _), (8, _), (9, _), (202, _)]) ?_ (.cons rfl (.cons rfl (.cons rfl (.cons rfl (.cons rfl (.nil))))))
                  refine SN_seq ?_
                  refine SC_cond_false rfl (by first | (have e1 : md = 0 := (by simp at hg43_11; omega); simp [hD, e1]; done) | (have e2 : md = 2 := (by simp at hg43_14; omega); simp [hD, e2]; done) | (have e1 : ¬ md = 0 := (by simp at hg43_11; omega); have e2 : ¬ md = 2 := (by simp at hg43_14; omega); simp [hD, e1, e2]; done)) ?_
                  refine SC_skip ?_
                  refine SN_block ?_
                  refine SN_seq ?_
                  refine SC_region ?_
                  refine SR_pu (RD_move rfl) rfl ?_
                  refine SR_pu (RD_addi rfl rfl (by omega) (by omega)) rfl ?_
                  refine SR_pu (RD_assign rfl) rfl ?_
                  refine SR_nil ?_
                  refine SN.le (l := [(0, _), (1, _), (8, _), (9, _)]) ?_ (.cons rfl (.cons rfl (.cons rfl (.cons rfl (.nil)))))
                  refine SC_again (ih (md + 1) (by omega) (by omega)) (.fin) (.cons rfl (.cons rfl (.cons rfl (.cons' rfl (ie (by omega)) (.nil)))))
              · refine SR_no rfl rfl (hg43_11) (lts rfl) ?_
                refine SR_no rfl rfl (hg43_11) (lts rfl) ?_
                refine SR_no rfl rfl (hg43_11) (lts rfl) ?_
                refine SR_nou  rfl rfl (lts rfl) ?_
                refine SR_nou  rfl rfl (lts rfl) ?_
                refine SR_nou  rfl rfl (lts rfl) ?_
                refine SR_no rfl rfl (hg43_11) (lts rfl) ?_
                refine SR_yes rfl rfl (by rw [hp1 (by simp at hg43_2; omega)]; rfl) ?_
                refine SR_pu (RD_pick_t rfl (hg43_11) rfl) rfl ?_
                refine SR_yes rfl rfl (by rw [hp1 (by simp at hg43_2; omega)]; rfl) ?_
                refine SR_pu (RD_neqB Try.underlying4 rfl rfl) rfl ?_
                refine SR_pu (RD_pick_f rfl (by rw [hp1 (by simp at hg43_2; omega)]; rfl) rfl) rfl ?_
                refine SR_nil ?_
                refine SN.le (l := [(0, _), (1, _), (8, _), (9, _), (202, _)]) ?_ (.cons rfl (.cons rfl (.cons rfl (.cons rfl (.cons rfl (.nil))))))
                refine SN_seq ?_
                refine SC_cond_false rfl (by first | (have e1 : md = 0 := (by simp at hg43_11; omega); simp [hD, e1]; done) | (have e2 : md = 2 := (by simp at hg43_14; omega); simp [hD, e2]; done) | (have e1 : ¬ md = 0 := (by simp at hg43_11; omega); have e2 : ¬ md = 2 := (by simp at hg43_14; omega); simp [hD, e1, e2]; done)) ?_
                refine SC_skip ?_
                refine SN_block ?_
                refine SN_seq ?_
                refine SC_region ?_
                refine SR_pu (RD_move rfl) rfl ?_
                refine SR_pu (RD_addi rfl rfl (by omega) (by omega)) rfl ?_
                refine SR_pu (RD_assign rfl) rfl ?_
                refine SR_nil ?_
                refine SN.le (l := [(0, _), (1, _), (8, _), (9, _)]) ?_ (.cons rfl (.cons rfl (.cons rfl (.cons rfl (.nil)))))
                refine SC_again (ih (md + 1) (by omega) (by omega)) (.fin) (.cons rfl (.cons rfl (.cons rfl (.cons' rfl (ie (by omega)) (.nil)))))
            · refine SR_no rfl rfl (hg43_2) (lts rfl) ?_
              refine SR_no rfl rfl (hg43_2) (lts rfl) ?_
              refine SR_pu (RD_pick_f rfl (hg43_2) rfl) rfl ?_
              refine SR_pu (RD_move rfl) rfl ?_
              refine SR_yes rfl rfl (rfl) ?_
              refine SR_pu (RD_move rfl) rfl ?_
              refine SR_yes rfl rfl (rfl) ?_
              refine SR_call Try.call25 (.cons rfl (.nil)) (CallsK.at (reader_Done r st.1)) (lts rfl) ?_
              rintro _ L8 ⟨rfl, hL8⟩
              refine SR.lands hL8 ?_
              refine SR_yes rfl rfl (rfl) ?_
              refine SR_pu (RD_move rfl) rfl ?_
              refine SR_yes rfl rfl (rfl) ?_
              refine SR_pu (RD_eql rfl rfl) rfl ?_
              refine SR_yes rfl rfl (rfl) ?_
              refine SR_pu (RD_move rfl) rfl ?_
              refine SR_guard rfl rfl (fun hg43_11 => ?_) (fun hg43_11 => ?_)
              · refine SR_yes rfl rfl (hg43_11) ?_
                refine SR_pu (RD_move rfl) rfl ?_
                refine SR_yes rfl rfl (hg43_11) ?_
                refine SR_pu (RD_eql rfl rfl) rfl ?_
                refine SR_yes rfl rfl (hg43_11) ?_
                refine SR_pu (RD_move rfl) rfl ?_
                refine SR_guard rfl rfl (fun hg43_14 => ?_) (fun hg43_14 => ?_)
                · refine SR_yes rfl rfl (hg43_14) ?_
                  refine SR_pu (RD_move rfl) rfl ?_
                  refine SR_yes rfl rfl (hg43_14) ?_
                  refine SR_pu (RD_len Try.runUnderlying25 rfl) rfl ?_
                  refine SR_yes rfl rfl (hg43_14) ?_
                  refine SR_pu (RD_eql rfl rfl) rfl ?_
                  refine SR_yes rfl rfl (hg43_11) ?_
                  refine SR_pu (RD_pick_t rfl (hg43_14) rfl) rfl ?_
                  refine SR_yes rfl rfl (rfl) ?_
                  refine SR_pu (RD_pick_f rfl (hg43_11) rfl) rfl ?_
                  refine SR_yes rfl rfl (rfl) ?_
                  refine SR_pu (RD_neqB Try.underlying4 rfl rfl) rfl ?_
                  refine SR_pu (RD_pick_f rfl (rfl) rfl) rfl ?_
                  refine SR_nil ?_
                  refine SN.le (l := [(0, _), (1, _), (8, _), (9, _), (202, _)]) ?_ (.cons rfl (.cons rfl (.cons rfl (.cons rfl (.cons rfl (.nil))))))
                  refine SN_seq ?_
                  refine SC_cond_false rfl (by first | (have e1 : md = 0 := (by simp at hg43_11; omega); simp [hD, e1]; done) | (have e2 : md = 2 := (by simp at hg43_14; omega); simp [hD, e2]; done) | (have e1 : ¬ md = 0 := (by simp at hg43_11; omega); have e2 : ¬ md = 2 := (by simp at hg43_14; omega); simp [hD, e1, e2]; done)) ?_
                  refine SC_skip ?_
                  refine SN_block ?_
                  refine SN_seq ?_
                  refine SC_region ?_
                  refine SR_pu (RD_move rfl) rfl ?_
                  refine SR_pu (RD_addi rfl rfl (by omega) (by omega)) rfl ?_
                  refine SR_pu (RD_assign rfl) rfl ?_
                  refine SR_nil ?_
                  refine SN.le (l := [(0, _), (1, _), (8, _), (9, _)]) ?_ (.cons rfl (.cons rfl (.cons rfl (.cons rfl (.nil)))))
                  refine SC_again (ih (md + 1) (by omega) (by omega)) (.fin) (.cons rfl (.cons rfl (.cons rfl (.cons' rfl (ie (by omega)) (.nil)))))
                · refine SR_no rfl rfl (hg43_14) (lts rfl) ?_
                  refine SR_no rfl rfl (hg43_14) (lts rfl) ?_
                  refine SR_no rfl rfl (hg43_14) (lts rfl) ?_
                  refine SR_yes rfl rfl (hg43_11) ?_
                  refine SR_pu (RD_pick_f rfl (hg43_14) rfl) rfl ?_
                  refine SR_yes rfl rfl (rfl) ?_
                  refine SR_pu (RD_pick_f rfl (hg43_11) rfl) rfl ?_
                  refine SR_yes rfl rfl (rfl) ?_
                  refine SR_pu (RD_neqB Try.underlying4 rfl rfl) rfl ?_
                  refine SR_pu (RD_pick_f rfl (rfl) rfl) rfl ?_
                  refine SR_nil ?_
                  refine SN.le (l := [(0, _), (1, _), (8, _), (9, _), (202, _)]) ?_ (.cons rfl (.cons rfl (.cons rfl (.cons rfl (.cons rfl (.nil))))))
                  refine SN_seq ?_
                  refine SC_cond_false rfl (by first | (have e1 : md = 0 := (by simp at hg43_11; omega); simp [hD, e1]; done) | (have e2 : md = 2 := (by simp at hg43_14; omega); simp [hD, e2]; done) | (have e1 : ¬ md = 0 := (by simp at hg43_11; omega); have e2 : ¬ md = 2 := (by simp at hg43_14; omega); simp [hD, e1, e2]; done)) ?_
                  refine SC_skip ?_
                  refine SN_block ?_
                  refine SN_seq ?_
                  refine SC_region ?_
                  refine SR_pu (RD_move rfl) rfl ?_
                  refine SR_pu (RD_addi rfl rfl (by omega) (by omega)) rfl ?_
                  refine SR_pu (RD_assign rfl) rfl ?_
                  refine SR_nil ?_
                  refine SN.le (l := [(0, _), (1, _), (8, _), (9, _)]) ?_ (.cons rfl (.cons rfl (.cons rfl (.cons rfl (.nil)))))
                  refine SC_again (ih (md + 1) (by omega) (by omega)) (.fin) (.cons rfl (.cons rfl (.cons rfl (.cons' rfl (ie (by omega)) (.nil)))))
              · refine SR_no rfl rfl (hg43_11) (lts rfl) ?_
                refine SR_no rfl rfl (hg43_11) (lts rfl) ?_
                refine SR_no rfl rfl (hg43_11) (lts rfl) ?_
                refine SR_nou  rfl rfl (lts rfl) ?_
                refine SR_nou  rfl rfl (lts rfl) ?_
                refine SR_nou  rfl rfl (lts rfl) ?_
                refine SR_no rfl rfl (hg43_11) (lts rfl) ?_
                refine SR_yes rfl rfl (rfl) ?_
                refine SR_pu (RD_pick_t rfl (hg43_11) rfl) rfl ?_
                refine SR_yes rfl rfl (rfl) ?_
                refine SR_pu (RD_neqB Try.underlying4 rfl rfl) rfl ?_
                refine SR_pu (RD_pick_f rfl (rfl) rfl) rfl ?_
                refine SR_nil ?_
                refine SN.le (l := [(0, _), (1, _), (8, _), (9, _), (202, _)]) ?_ (.cons rfl (.cons rfl (.cons rfl (.cons rfl (.cons rfl (.nil))))))
                refine SN_seq ?_
                refine SC_cond_false rfl (by first | (have e1 : md = 0 := (by simp at hg43_11; omega); simp [hD, e1]; done) | (have e2 : md = 2 := (by simp at hg43_14; omega); simp [hD, e2]; done) | (have e1 : ¬ md = 0 := (by simp at hg43_11; omega); have e2 : ¬ md = 2 := (by simp at hg43_14; omega); simp [hD, e1, e2]; done)) ?_
                refine SC_skip ?_
                refine SN_block ?_
                refine SN_seq ?_
                refine SC_region ?_
                refine SR_pu (RD_move rfl) rfl ?_
                refine SR_pu (RD_addi rfl rfl (by omega) (by omega)) rfl ?_
                refine SR_pu (RD_assign rfl) rfl ?_
                refine SR_nil ?_
                refine SN.le (l := [(0, _), (1, _), (8, _), (9, _)]) ?_ (.cons rfl (.cons rfl (.cons rfl (.cons rfl (.nil)))))
                refine SC_again (ih (md + 1) (by omega) (by omega)) (.fin) (.cons rfl (.cons rfl (.cons rfl (.cons' rfl (ie (by omega)) (.nil)))))
        · refine SC_region ?_
          refine SR_ox (OX_buildSlice0 Try.runUnderlying25 Try.sizeOf5) rfl ?_
          rintro _ _ ⟨b101, rfl, rfl⟩
          refine SR_pu (RD_move rfl) rfl ?_
          refine SR_ox (OX_app0 1 Try.underlying25 Try.underlying25 Try.type5 rfl rfl rfl rfl rfl (by simp) 1 rfl (by omega) (by omega)) rfl ?_
          rintro _ _ ⟨a103, c103, rfl, rfl⟩
          refine SR_pu (RD_assign rfl) rfl ?_
          refine SR_nil ?_
          refine SN.le (l := [(0, _), (1, _), (8, _), (9, _), (10, _)]) ?_ (.cons rfl (.cons rfl (.cons rfl (.cons rfl (.cons rfl (.nil))))))
          refine SN_seq ?_
          refine SC_seq ?_
          refine SC_seq ?_
          refine SC_region ?_
          refine SR_pu (RD_move rfl) rfl ?_
          refine SR_pu (RD_eql rfl rfl) rfl ?_
          refine SR_nil ?_
          refine SN.le (l := [(0, _), (1, _), (8, _), (9, _), (10, _), (105, _)]) ?_ (.cons rfl (.cons rfl (.cons rfl (.cons rfl (.cons rfl (.cons rfl (.nil)))))))
          refine SN_seq ?_
          refine SC_cond rfl (fun hc105 => ?_) (fun hc105 => ?_)
          · have h1 : md = 1 := by simp at hc105; omega
            refine SC_region ?_
            refine SR_pu (RD_move rfl) rfl ?_
            refine SR_ox (OX_lit1 Try.underlying25 Try.type5 rfl rfl rfl rfl (.cons rfl (.nil)) (.cons rfl (.nil))) rfl ?_
            rintro _ _ ⟨b107, rfl, rfl⟩
            refine SR_ox (OX_app 1 Try.underlying25 Try.underlying25 Try.type5 rfl rfl rfl rfl rfl (by first | rfl | simp; done | (simp; omega)) 1 rfl (by omega) (by omega)) rfl ?_
            rintro _ _ ⟨a108, c108, rfl, rfl⟩
            refine SR_pu (RD_assign rfl) rfl ?_
            refine SR_nil ?_
            refine SN.le (l := [(0, _), (1, _), (8, _), (9, _), (10, _)]) ?_ (.cons rfl (.cons rfl (.cons rfl (.cons rfl (.cons rfl (.nil))))))
            refine SN_seq ?_
            refine SC_seq ?_
            refine SC_seq ?_
            refine SC_region ?_
            refine SR_pu (RD_move rfl) rfl ?_
            refine SR_pu (RD_eql rfl rfl) rfl ?_
            refine SR_pu (RD_move rfl) rfl ?_
            refine SR_no rfl rfl (by simp [h1]) (lts rfl) ?_
            refine SR_no rfl rfl (by simp [h1]) (lts rfl) ?_
            refine SR_no rfl rfl (by simp [h1]) (lts rfl) ?_
            refine SR_pu (RD_pick_f rfl (by simp [h1]) rfl) rfl ?_
            refine SR_nil ?_
            refine SN.le (l := [(0, _), (1, _), (8, _), (9, _), (10, _), (115, _)]) ?_ (.cons rfl (.cons rfl (.cons rfl (.cons rfl (.cons rfl (.cons rfl (.nil)))))))
            refine SN_seq ?_
            have e1 : (w ++ [0]).length = w.length + 1 := by simp
            have e2 : (w ++ [0]).map byteV = w.map byteV ++ [.int .u8 0] := by simp [byteV]
            refine SC_cond_false rfl (rfl) ?_
            refine SC_skip ?_
            exact J0 (⟨(a108, c108, w ++ [0]), .inr (.inl ⟨h1, rfl⟩)⟩) _ _ (.cons rfl (.cons rfl (.cons rfl (.cons rfl (.cons' rfl (by rw [e1]) (.nil)))))) (by dsimp only; rw [e1, e2]; exact .fin)
          · have h1 : ¬ md = 1 := by simp at hc105; omega
            refine SC_skip ?_
            refine SN_seq ?_
            refine SC_seq ?_
            refine SC_seq ?_
            refine SC_region ?_
            refine SR_pu (RD_move rfl) rfl ?_
            refine SR_pu (RD_eql rfl rfl) rfl ?_
            refine SR_pu (RD_move rfl) rfl ?_
            refine SR_guard rfl rfl (fun hg28_2 => ?_) (fun hg28_2 => ?_)
            · refine SR_yes rfl rfl (hg28_2) ?_
              refine SR_pu (RD_move rfl) rfl ?_
              refine SR_yes rfl rfl (hg28_2) ?_
              refine SR_pu (RD_len Try.runUnderlying25 rfl) rfl ?_
              refine SR_yes rfl rfl (hg28_2) ?_
              refine SR_pu (RD_gtr rfl rfl) rfl ?_
              refine SR_pu (RD_pick_t rfl (hg28_2) rfl) rfl ?_
              refine SR_nil ?_
              refine SN.le (l := [(0, _), (1, _), (8, _), (9, _), (10, _), (115, _)]) ?_ (.cons rfl (.cons rfl (.cons rfl (.cons rfl (.cons rfl (.cons rfl (.nil)))))))
              refine SN_seq ?_
              refine SC_cond rfl (fun hc115 => ?_) (fun hc115 => ?_)
              · have h0 : 0 < w.length := by simp at hc115; omega
                obtain ⟨k, hk⟩ : ∃ k : Nat, at_ % 65536 % (w.length : Int) = (k : Int) := ⟨(at_ % 65536 % (w.length : Int)).toNat, by rw [Int.toNat_of_nonneg (Int.emod_nonneg _ (by omega))]⟩
                have hkb : k < w.length := by have := Int.emod_lt_of_pos (at_ % 65536) (show (0 : Int) < w.length by omega); omega
                have e3 : (w.take k).length = k := by simp; omega
                have e4 : (w.take k).map byteV = (w.map byteV).take (k * 1) := by simp [List.map_take]
                refine SC.row_len (a := a103) fun _ hcap => ?_
                refine SC_region ?_
                refine SR_pu (RD_move rfl) rfl ?_
                refine SR_pu (RD_move rfl) rfl ?_
                refine SR_pu (RD_mask 16 rfl rfl rfl (by decide) 65536 rfl) rfl ?_
                refine SR_pu (RD_move rfl) rfl ?_
                refine SR_pu (RD_len Try.runUnderlying25 rfl) rfl ?_
                refine SR_pu (RD_remk rfl rfl (by omega) (by omega) hk) rfl ?_
                refine SR_pu (RD_cutH Try.runUnderlying25 Try.sizeOf5 rfl rfl (by omega) (by omega)) rfl ?_
                refine SR_pu (RD_assign rfl) rfl ?_
                refine SR_nil ?_
                refine SN.le (l := [(0, _), (1, _), (8, _), (9, _), (10, _)]) ?_ (.cons rfl (.cons rfl (.cons rfl (.cons rfl (.cons rfl (.nil))))))
                exact J0 (⟨(a103, c103, w.take k), .inr (.inr (.inr ⟨by simp at hg28_2; omega, k, hkb, rfl⟩))⟩) _ _ (.cons rfl (.cons rfl (.cons rfl (.cons rfl (.cons' rfl (by rw [e3]; rfl) (.nil)))))) (by dsimp only; rw [e3, e4]; exact (row_take k (by omega)).trans .fin)
              · refine SC_skip ?_
                exact J0 (⟨(a103, c103, w), .inr (.inr (.inl ⟨by simp at hg28_2; omega, by simp at hc115; simp [hc115], rfl⟩))⟩) _ _ (.cons rfl (.cons rfl (.cons rfl (.cons rfl (.cons rfl (.nil)))))) (.fin)
            · refine SR_no rfl rfl (hg28_2) (lts rfl) ?_
              refine SR_no rfl rfl (hg28_2) (lts rfl) ?_
              refine SR_no rfl rfl (hg28_2) (lts rfl) ?_
              refine SR_pu (RD_pick_f rfl (hg28_2) rfl) rfl ?_
              refine SR_nil ?_
              refine SN.le (l := [(0, _), (1, _), (8, _), (9, _), (10, _), (115, _)]) ?_ (.cons rfl (.cons rfl (.cons rfl (.cons rfl (.cons rfl (.cons rfl (.nil)))))))
              refine SN_seq ?_
              refine SC_cond_false rfl (rfl) ?_
              refine SC_skip ?_
              exact J0 (⟨(a103, c103, w), .inl ⟨by simp at hg28_2; omega, rfl⟩⟩) _ _ (.cons rfl (.cons rfl (.cons rfl (.cons rfl (.cons rfl (.nil)))))) (.fin)
      · refine SC_exit rfl ?_
        refine SN_seq ?_
        refine SC_seq ?_
        refine SC_region ?_
        refine SR_call Try.call15 (.nil) (wire_awake) (lts rfl) ?_
        rintro _ L9 ⟨rfl, hL9⟩
        refine SR.lands hL9 ?_
        refine SR_pu (RD_assign rfl) rfl ?_
        refine SR_nil ?_
        refine SN.le (l := [(4, _)]) ?_ (.cons rfl (.nil))
        refine SN_seq ?_
        refine SC_ret1 rfl rfl ?_
        exact ⟨rfl, .fin⟩
  · refine SR_no rfl rfl (hg6_4) (lts rfl) ?_
    refine SR_no rfl rfl (hg6_4) (lts rfl) ?_
    refine SR_pu (RD_pick_f rfl (hg6_4) rfl) rfl ?_
    refine SR_nil ?_
    refine SN.le (l := [(0, _), (1, _), (5, _), (6, _), (7, _), (24, _)]) ?_ (.cons rfl (.cons rfl (.cons rfl (.cons rfl (.cons rfl (.cons rfl (.nil)))))))
    refine SN_seq ?_
    have hps : l.take i = l.take 20 := by rw [List.take_eq_take_iff]; (simp at hg6_4; omega)
    rw [hps] at hsm hel ⊢
    obtain ⟨w, hw⟩ : ∃ w, encP (l.take 20) = w := ⟨_, rfl⟩
    have hwl : w.length ≤ 6160 := by rw [← hw]; have h9 : (l.take 20).length ≤ 20 := List.length_take_le ..; omega
    rw [hw]
    refine SC_cond_false rfl (rfl) ?_
    refine SC_exit rfl ?_
    refine SN_seq ?_
    refine SC_seq ?_
    refine SC_region ?_
    refine SR_pu (RD_move rfl) rfl ?_
    refine SR_call Try.call20 (.cons rfl (.nil)) (CallsK.at (wire_Bytes p w (by omega))) (lts rfl) ?_
    rintro _ L3 ⟨a92, c92, rfl, hL3⟩
    refine SR.lands hL3 ?_
    refine SR_pu (RD_assign rfl) rfl ?_
    refine SR_nil ?_
    refine SN.le (l := [(0, _), (1, _), (6, _), (8, _)]) ?_ (.cons rfl (.cons rfl (.cons rfl (.cons rfl (.nil)))))
    refine SN_seq ?_
    refine SC_seq ?_
    refine SC_seq ?_
    refine SC_region ?_
    refine SR_pu (RD_move rfl) rfl ?_
    refine SR_pu (RD_move rfl) rfl ?_
    refine SR_call Try.call21 (.cons rfl (.cons rfl (.nil))) (ref_Same _ _ _ w rfl rfl _ _ _ w rfl rfl) (lts rfl) ?_
    rintro _ L4 ⟨rfl, hL4⟩
    refine SR.lands hL4 ?_
    refine SR_pu (RD_not rfl) rfl ?_
    refine SR_nil ?_
    refine SN.le (l := [(0, _), (1, _), (8, _), (96, _)]) ?_ (.cons rfl (.cons rfl (.cons rfl (.cons rfl (.nil)))))
    refine SN_seq ?_
    refine SC_cond_false rfl (by simp) ?_
    refine SC_skip ?_
    refine SN_seq ?_
    refine SC_seq ?_
    refine SC_seq ?_
    refine SC_region ?_
    refine SR_pu (RD_assign rfl) rfl ?_
    refine SR_nil ?_
    refine SN.le (l := [(0, _), (1, _), (8, _), (9, _)]) ?_ (.cons rfl (.cons rfl (.cons rfl (.cons rfl (.nil)))))
    refine SN_seq ?_
    refine SC_block ?_
    refine SC_ind (X := Nat) (fun md => md ≤ 3) (fun md => 3 - md) (fun md => [(0, .slice a n c), (1, .int .i64 at_), (8, .slice a92 w.length c92), (9, .int .i64 (md : Nat))]) (fun md => rowP 5 1 a92 w.length c92 (w.map byteV) :: F) (0) (by omega) (.cons rfl (.cons rfl (.cons rfl (.cons rfl (.nil))))) (.fin) ?_
    intro md hi ih
    refine SC_seq ?_
    refine SC_seq ?_
    refine SC_region ?_
    refine SR_pu (RD_move rfl) rfl ?_
    refine SR_pu (RD_lss rfl rfl) rfl ?_
    refine SR_nil ?_
    refine SN.le (l := [(0, _), (1, _), (8, _), (9, _), (98, _)]) ?_ (.cons rfl (.cons rfl (.cons rfl (.cons rfl (.cons rfl (.nil))))))
    refine SN_seq ?_
    refine SC_cond rfl (fun hc98 => ?_) (fun hc98 => ?_)
    · have hmd : md < 3 := by simp at hc98; omega
      refine SC_skip ?_
      refine SN_seq ?_
      refine SC_seq ?_
      refine SC_block ?_
      refine SC_seq ?_
      refine SC_joinS2 (X := {x : Option Addr × Nat × List UInt8 // Given md w x.2.2}) (fun x => [(0, .slice a n c), (1, .int .i64 at_), (8, .slice a92 w.length c92), (9, .int .i64 (md : Nat)), (10, .slice x.1.1 x.1.2.2.length x.1.2.1)]) (fun x => rowP 5 1 x.1.1 x.1.2.2.length x.1.2.1 (x.1.2.2.map byteV) :: rowP 5 1 a92 w.length c92 (w.map byteV) :: F) (fun x => ?_) (fun J0 => ?_)
      · obtain ⟨⟨a10, c10, bs⟩, hgv⟩ := x
        dsimp only at hgv ⊢
        have hbl : bs.length ≤ 6161 := by rcases hgv with ⟨_, rfl⟩ | ⟨_, rfl⟩ | ⟨_, _, rfl⟩ | ⟨_, e, _, rfl⟩ <;> (try simp) <;> omega
        refine SN_seq ?_
        refine SC_seq ?_
        refine SC_region ?_
        refine SR_pu (RD_move rfl) rfl ?_
        refine SR_call Try.call23 (.cons rfl (.nil)) (wire_Read bs _ _ _ rfl rfl (by omega)) (lts rfl) ?_
        rintro _ L5 ⟨r, rfl, hL5⟩
        refine SR.lands hL5 ?_
        refine SR_pu (RD_assign rfl) rfl ?_
        refine SR_nil ?_
        refine SN.le (l := [(0, _), (1, _), (8, _), (9, _), (11, _)]) ?_ (.cons rfl (.cons rfl (.cons rfl (.cons rfl (.cons rfl (.nil))))))
        refine SN_seq ?_
        refine SC_seq ?_
        refine SC_seq ?_
        refine SC_region ?_
        refine SR_pu (RD_move rfl) rfl ?_
        refine SR_pu (RD_eqlP Try.underlying38 rfl rfl) rfl ?_
        refine SR_nil ?_
        refine SN.le (l := [(0, _), (1, _), (8, _), (9, _), (11, _), (126, _)]) ?_ (.cons rfl (.cons rfl (.cons rfl (.cons rfl (.cons rfl (.cons rfl (.nil)))))))
        refine SN_seq ?_
        refine SC_cond_false rfl (rfl) ?_
        refine SC_skip ?_
        refine SN_seq ?_
        refine SC_seq ?_
        refine SC_region ?_
        refine SR_pu (RD_assign rfl) rfl ?_
        refine SR_nil ?_
        refine SN.le (l := [(0, _), (1, _), (8, _), (9, _), (11, _), (12, _)]) ?_ (.cons rfl (.cons rfl (.cons rfl (.cons rfl (.cons rfl (.cons rfl (.nil)))))))
        refine SN_seq ?_
        refine SC_seq ?_
        refine SC_seq ?_
        refine SC_region ?_
        refine SR_pu (RD_assign rfl) rfl ?_
        refine SR_nil ?_
        refine SN.le (l := [(0, _), (1, _), (8, _), (9, _), (11, _), (12, _), (13, _)]) ?_ (.cons rfl (.cons rfl (.cons rfl (.cons rfl (.cons rfl (.cons rfl (.cons rfl (.nil))))))))
        refine SN_seq ?_
        refine SC_block ?_
        refine SC_ind (X := Nat) (fun i => i ≤ 20 ∧ i ≤ l.length) (fun i => 20 - i) (fun i => [(0, .slice a n c), (1, .int .i64 at_), (8, .slice a92 w.length c92), (9, .int .i64 (md : Nat)), (11, .pointer (some ⟨r, 0, none⟩)), (12, .bool (rdParts (l.take i) ((bs, false), true)).2), (13, .int .i64 (i : Nat))]) (fun i => At readerI r (rdParts (l.take i) ((bs, false), true)).1 :: rowP 5 1 a92 w.length c92 (w.map byteV) :: F) (0) (⟨by omega, Nat.zero_le _⟩) (.cons rfl (.cons rfl (.cons rfl (.cons rfl (.cons rfl (.cons rfl (.cons rfl (.nil)))))))) ((show Lands _ (At readerI r (bs, false) :: rowP 5 1 a92 w.length c92 (w.map byteV) :: F) from .fin)) ?_
        intro i hi ih2
        obtain ⟨hi1, hil0⟩ := hi
        have hrl := rdParts_len (l.take i) ((bs, false), true)
        have hrl2 : (rdParts (l.take i) ((bs, false), true)).1.1.length ≤ 1000000 := by simp at hrl; omega
        refine SC_seq ?_
        refine SC_seq ?_
        refine SC_region ?_
        refine SR_pu (RD_move rfl) rfl ?_
        refine SR_pu (RD_move rfl) rfl ?_
        refine SR_pu (RD_len Try.runUnderlying41 rfl) rfl ?_
        refine SR_pu (RD_lss rfl rfl) rfl ?_
        refine SR_pu (RD_move rfl) rfl ?_
        refine SR_guard rfl rfl (fun hg35_4 => ?_) (fun hg35_4 => ?_)
        · refine SR_yes rfl rfl (hg35_4) ?_
          refine SR_pu (RD_move rfl) rfl ?_
          refine SR_yes rfl rfl (hg35_4) ?_
          refine SR_pu (RD_lss rfl rfl) rfl ?_
          refine SR_pu (RD_pick_t rfl (hg35_4) rfl) rfl ?_
          refine SR_nil ?_
          refine SN.le (l := [(0, _), (1, _), (8, _), (9, _), (11, _), (12, _), (13, _), (134, _)]) ?_ (.cons rfl (.cons rfl (.cons rfl (.cons rfl (.cons rfl (.cons rfl (.cons rfl (.cons rfl (.nil)))))))))
          refine SN_seq ?_
          refine SC_cond rfl (fun hc134 => ?_) (fun hc134 => ?_)
          · have hil : i < l.length := by simp at hg35_4; omega
            have hi20 : i < 20 := by simp at hc134; omega
            obtain ⟨q, hq⟩ : ∃ q, l[i]? = some q := ⟨_, List.getElem?_eq_getElem hil⟩
            have hok := hl q (List.mem_of_getElem? hq)
            haveI := hok.s.r
            have hstep := rdParts_take ((bs, false), true) hq
            obtain ⟨st, hst⟩ : ∃ st, rdParts (l.take i) ((bs, false), true) = st := ⟨_, rfl⟩
            rw [hst] at hrl2 hstep ⊢
            refine SC_skip ?_
            refine SN_seq ?_
            refine SC_seq ?_
            refine SC_block ?_
            refine SC_seq ?_
            refine SC_region ?_
            refine SR_pu (RD_move rfl) rfl ?_
            refine SR_pu (RD_move rfl) rfl ?_
            refine SR_rd (RD_ixO (cs := l.flatMap Part.cells) Try.runUnderlying41 Try.sizeOf43 rfl rfl (by rw [flat_len Part.cells_len, hn]) (by omega) (by omega)) Has.ro rfl ?_
            refine SR_rd (RD_fieldAddrO (cs := l.flatMap Part.cells) 0 Try.runUnderlying43 rfl rfl Try.sizeOf3 rfl (by rw [flat_len Part.cells_len, hn]; omega)) Has.ro rfl ?_
            refine SR_rd (RD_loadO (v := .int .i64 q.k) (cs := l.flatMap Part.cells) Try.isAgg3 rfl (flat_get Part.cells_len 0 hq (by omega))) Has.ro rfl ?_
            refine SR_pu (RD_mask 2 rfl rfl rfl (by decide) 4 rfl) rfl ?_
            refine SR_nil ?_
            refine SN.le (l := [(0, _), (1, _), (8, _), (9, _), (11, _), (12, _), (13, _), (142, _)]) ?_ (.cons rfl (.cons rfl (.cons rfl (.cons rfl (.cons rfl (.cons rfl (.cons rfl (.cons rfl (.nil)))))))))
            refine SN_seq ?_
            refine SC_block ?_
            refine SC_seq ?_
            refine SC_region ?_
            refine SR_pu (RD_eql rfl rfl) rfl ?_
            refine SR_pu (RD_assign rfl) rfl ?_
            refine SR_nil ?_
            refine SN.le (l := [(0, _), (1, _), (8, _), (9, _), (11, _), (12, _), (13, _), (142, _), (154, _)]) ?_ (.cons rfl (.cons rfl (.cons rfl (.cons rfl (.cons rfl (.cons rfl (.cons rfl (.cons rfl (.cons rfl (.nil))))))))))
            refine SN_seq ?_
            refine SC_cond rfl (fun hc154 => ?_) (fun hc154 => ?_)
            · have hk : q.k % 4 = 0 := by simpa using hc154
              refine SC_drawn (.cons 0 true (.cons 1 true (.cons 2 true (.cons 4 true (.cons 5 true (.cons 6 true (.cons 7 true (.cons 8 true (.cons 3 false (.cons 9 true (.cons 10 true (.cons 11 true (.nil))))))))))))) (by kernel_rfl) (by kernel_rfl) ?_
              refine SQ_pu rfl (RD_move rfl) rfl ?_
              refine SQ_pu rfl (RD_move rfl) rfl ?_
              refine SQ_guard (i := 2) rfl rfl rfl (fun hg40_1 => ?_) (fun hg40_1 => ?_)
              · refine SQ_pyes rfl rfl rfl (hg40_1) (RD_move rfl) rfl ?_
                refine SQ_pyes rfl rfl rfl (hg40_1) (RD_move rfl) rfl ?_
                refine SQ_pyes rfl rfl rfl (hg40_1) (RD_move rfl) rfl ?_
                refine SQ_yes rfl rfl rfl (hg40_1) (RD_ixO (cs := l.flatMap Part.cells) Try.runUnderlying41 Try.sizeOf43 rfl rfl (by rw [flat_len Part.cells_len, hn]) (by omega) (by omega)) Has.ro rfl ?_
                refine SQ_yes rfl rfl rfl (hg40_1) (RD_fieldAddrO (cs := l.flatMap Part.cells) 1 Try.runUnderlying43 rfl rfl Try.sizeOf23 rfl (by rw [flat_len Part.cells_len, hn]; omega)) Has.ro rfl ?_
                refine SQ_yes rfl rfl rfl (hg40_1) (RD_loadO (v := .int .u64 q.x) (cs := l.flatMap Part.cells) Try.isAgg23 rfl (flat_get Part.cells_len 1 hq (by omega))) Has.ro rfl ?_
                refine SQ_one (SA_call rfl (.mk rfl rfl (hg40_1)) Try.call27 (.cons rfl (.nil)) (CallsK.at (reader_Num r st.1 (by omega))) (lts rfl) ?_)
                rintro _ L6 ⟨rfl, hL6⟩
                refine ⟨.lands hL6 (.h Has.ro (.h Has.ro (.h Has.ro (.nil)))), ?_⟩
                refine SQ.lands hL6 ?_
                refine SQ_pyes rfl rfl rfl (hg40_1) (RD_eql rfl rfl) rfl ?_
                refine SQ_pu rfl (RD_pick_t rfl (hg40_1) rfl) rfl ?_
                refine SQ_pu rfl (RD_assign rfl) rfl ?_
                refine SQ_nil ?_
                refine SN.le (l := [(0, _), (1, _), (8, _), (9, _), (11, _), (12, _), (13, _)]) ?_ (.cons rfl (.cons rfl (.cons rfl (.cons rfl (.cons rfl (.cons rfl (.cons rfl (.nil))))))))
                refine SN_block ?_
                refine SN_block ?_
                refine SN_seq ?_
                refine SC_region ?_
                refine SR_pu (RD_move rfl) rfl ?_
                refine SR_pu (RD_addi rfl rfl (by omega) (by omega)) rfl ?_
                refine SR_pu (RD_assign rfl) rfl ?_
                refine SR_nil ?_
                refine SN.le (l := [(0, _), (1, _), (8, _), (9, _), (11, _), (12, _), (13, _)]) ?_ (.cons rfl (.cons rfl (.cons rfl (.cons rfl (.cons rfl (.cons rfl (.cons rfl (.nil))))))))
                have hfin := hstep; rw [rdPart, if_pos hg40_1, if_pos hk] at hfin
                refine SC_again (ih2 (i + 1) (⟨by omega, by omega⟩) (by omega)) (by rw [hfin]; exact .fin) (.cons rfl (.cons rfl (.cons rfl (.cons rfl (.cons rfl (.cons' rfl (by rw [hfin]) (.cons' rfl (ie (by omega)) (.nil))))))))
              · refine SQ_no rfl rfl rfl (hg40_1) (lts rfl) ?_
                refine SQ_no rfl rfl rfl (hg40_1) (lts rfl) ?_
                refine SQ_no rfl rfl rfl (hg40_1) (lts rfl) ?_
                refine SQ_no rfl rfl rfl (hg40_1) (lts rfl) ?_
                refine SQ_no rfl rfl rfl (hg40_1) (lts rfl) ?_
                refine SQ_no rfl rfl rfl (hg40_1) (lts rfl) ?_
                refine SQ_no1 rfl rfl rfl (hg40_1) (lts rfl) ?_
                refine SQ_no rfl rfl rfl (hg40_1) (lts rfl) ?_
                refine SQ_pu rfl (RD_pick_f rfl (hg40_1) rfl) rfl ?_
                refine SQ_pu rfl (RD_assign rfl) rfl ?_
                refine SQ_nil ?_
                refine SN.le (l := [(0, _), (1, _), (8, _), (9, _), (11, _), (12, _), (13, _)]) ?_ (.cons rfl (.cons rfl (.cons rfl (.cons rfl (.cons rfl (.cons rfl (.cons rfl (.nil))))))))
                refine SN_block ?_
                refine SN_block ?_
                refine SN_seq ?_
                refine SC_region ?_
                refine SR_pu (RD_move rfl) rfl ?_
                refine SR_pu (RD_addi rfl rfl (by omega) (by omega)) rfl ?_
                refine SR_pu (RD_assign rfl) rfl ?_
                refine SR_nil ?_
                refine SN.le (l := [(0, _), (1, _), (8, _), (9, _), (11, _), (12, _), (13, _)]) ?_ (.cons rfl (.cons rfl (.cons rfl (.cons rfl (.cons rfl (.cons rfl (.cons rfl (.nil))))))))
                have hfin := hstep; rw [rdPart, if_neg (by simp at hg40_1; simp [hg40_1])] at hfin
                refine SC_again (ih2 (i + 1) (⟨by omega, by omega⟩) (by omega)) (by rw [hfin]; exact .fin) (.cons rfl (.cons rfl (.cons rfl (.cons rfl (.cons rfl (.cons' rfl (by rw [hfin]; simp at hg40_1; simp [hg40_1]) (.cons' rfl (ie (by omega)) (.nil))))))))
            · refine SC_seq ?_
              refine SC_region ?_
              refine SR_pu (RD_eql rfl rfl) rfl ?_
              refine SR_pu (RD_assign rfl) rfl ?_
              refine SR_nil ?_
              refine SN.le (l := [(0, _), (1, _), (8, _), (9, _), (11, _), (12, _), (13, _), (167, _)]) ?_ (.cons rfl (.cons rfl (.cons rfl (.cons rfl (.cons rfl (.cons rfl (.cons rfl (.cons rfl (.nil)))))))))
              refine SN_seq ?_
              refine SC_cond rfl (fun hc167 => ?_) (fun hc167 => ?_)
              · have hk : q.k % 4 = 1 := by simpa using hc167
                have hk0 : ¬ q.k % 4 = 0 := by omega
                refine SC_drawn (.cons 0 true (.cons 1 true (.cons 2 true (.cons 4 true (.cons 5 true (.cons 6 true (.cons 7 true (.cons 8 true (.cons 9 true (.cons 3 false (.cons 10 true (.cons 11 true (.cons 12 true (.nil)))))))))))))) (by kernel_rfl) (by kernel_rfl) ?_
                refine SQ_pu rfl (RD_move rfl) rfl ?_
                refine SQ_pu rfl (RD_move rfl) rfl ?_
                refine SQ_guard (i := 2) rfl rfl rfl (fun hg42_1 => ?_) (fun hg42_1 => ?_)
                · refine SQ_pyes rfl rfl rfl (hg42_1) (RD_move rfl) rfl ?_
                  refine SQ_pyes rfl rfl rfl (hg42_1) (RD_move rfl) rfl ?_
                  refine SQ_pyes rfl rfl rfl (hg42_1) (RD_move rfl) rfl ?_
                  refine SQ_yes rfl rfl rfl (hg42_1) (RD_ixO (cs := l.flatMap Part.cells) Try.runUnderlying41 Try.sizeOf43 rfl rfl (by rw [flat_len Part.cells_len, hn]) (by omega) (by omega)) Has.ro rfl ?_
                  refine SQ_yes rfl rfl rfl (hg42_1) (RD_fieldAddrO (cs := l.flatMap Part.cells) 1 Try.runUnderlying43 rfl rfl Try.sizeOf23 rfl (by rw [flat_len Part.cells_len, hn]; omega)) Has.ro rfl ?_
                  refine SQ_yes rfl rfl rfl (hg42_1) (RD_loadO (v := .int .u64 q.x) (cs := l.flatMap Part.cells) Try.isAgg23 rfl (flat_get Part.cells_len 1 hq (by omega))) Has.ro rfl ?_
                  refine SQ_pyes rfl rfl rfl (hg42_1) (RD_convI Try.runUnderlying23 Try.runUnderlying3 rfl) rfl ?_
                  refine SQ_one (SA_call rfl (.mk rfl rfl (hg42_1)) Try.call28 (.cons rfl (.nil)) (CallsK.at (reader_Int r st.1 (by omega))) (lts rfl) ?_)
                  rintro _ L6 ⟨rfl, hL6⟩
                  refine ⟨.lands hL6 (.h Has.ro (.h Has.ro (.h Has.ro (.nil)))), ?_⟩
                  refine SQ.lands hL6 ?_
                  refine SQ_pyes rfl rfl rfl (hg42_1) (RD_eql rfl rfl) rfl ?_
                  refine SQ_pu rfl (RD_pick_t rfl (hg42_1) rfl) rfl ?_
                  refine SQ_pu rfl (RD_assign rfl) rfl ?_
                  refine SQ_nil ?_
                  refine SN.le (l := [(0, _), (1, _), (8, _), (9, _), (11, _), (12, _), (13, _)]) ?_ (.cons rfl (.cons rfl (.cons rfl (.cons rfl (.cons rfl (.cons rfl (.cons rfl (.nil))))))))
                  refine SN_block ?_
                  refine SN_block ?_
                  refine SN_seq ?_
                  refine SC_region ?_
                  refine SR_pu (RD_move rfl) rfl ?_
                  refine SR_pu (RD_addi rfl rfl (by omega) (by omega)) rfl ?_
                  refine SR_pu (RD_assign rfl) rfl ?_
                  refine SR_nil ?_
                  refine SN.le (l := [(0, _), (1, _), (8, _), (9, _), (11, _), (12, _), (13, _)]) ?_ (.cons rfl (.cons rfl (.cons rfl (.cons rfl (.cons rfl (.cons rfl (.cons rfl (.nil))))))))
                  have hfin := hstep; rw [rdPart, if_pos hg42_1, if_neg hk0, if_pos hk] at hfin
                  refine SC_again (ih2 (i + 1) (⟨by omega, by omega⟩) (by omega)) (by rw [hfin]; exact .fin) (.cons rfl (.cons rfl (.cons rfl (.cons rfl (.cons rfl (.cons' rfl (by rw [hfin]) (.cons' rfl (ie (by omega)) (.nil))))))))
                · refine SQ_no rfl rfl rfl (hg42_1) (lts rfl) ?_
                  refine SQ_no rfl rfl rfl (hg42_1) (lts rfl) ?_
                  refine SQ_no rfl rfl rfl (hg42_1) (lts rfl) ?_
                  refine SQ_no rfl rfl rfl (hg42_1) (lts rfl) ?_
                  refine SQ_no rfl rfl rfl (hg42_1) (lts rfl) ?_
                  refine SQ_no rfl rfl rfl (hg42_1) (lts rfl) ?_
                  refine SQ_no rfl rfl rfl (hg42_1) (lts rfl) ?_
                  refine SQ_no1 rfl rfl rfl (hg42_1) (lts rfl) ?_
                  refine SQ_no rfl rfl rfl (hg42_1) (lts rfl) ?_
                  refine SQ_pu rfl (RD_pick_f rfl (hg42_1) rfl) rfl ?_
                  refine SQ_pu rfl (RD_assign rfl) rfl ?_
                  refine SQ_nil ?_
                  refine SN.le (l := [(0, _), (1, _), (8, _), (9, _), (11, _), (12, _), (13, _)]) ?_ (.cons rfl (.cons rfl (.cons rfl (.cons rfl (.cons rfl (.cons rfl (.cons rfl (.nil))))))))
                  refine SN_block ?_
                  refine SN_block ?_
                  refine SN_seq ?_
                  refine SC_region ?_
                  refine SR_pu (RD_move rfl) rfl ?_
                  refine SR_pu (RD_addi rfl rfl (by omega) (by omega)) rfl ?_
                  refine SR_pu (RD_assign rfl) rfl ?_
                  refine SR_nil ?_
                  refine SN.le (l := [(0, _), (1, _), (8, _), (9, _), (11, _), (12, _), (13, _)]) ?_ (.cons rfl (.cons rfl (.cons rfl (.cons rfl (.cons rfl (.cons rfl (.cons rfl (.nil))))))))
                  have hfin := hstep; rw [rdPart, if_neg (by simp at hg42_1; simp [hg42_1])] at hfin
                  refine SC_again (ih2 (i + 1) (⟨by omega, by omega⟩) (by omega)) (by rw [hfin]; exact .fin) (.cons rfl (.cons rfl (.cons rfl (.cons rfl (.cons rfl (.cons' rfl (by rw [hfin]; simp at hg42_1; simp [hg42_1]) (.cons' rfl (ie (by omega)) (.nil))))))))
              · have hk0 : ¬ q.k % 4 = 0 := by simp at hc154; omega
                have hk : ¬ q.k % 4 = 1 := by simp at hc167; omega
                refine SC_drawn (.cons 0 true (.cons 1 true (.cons 2 true (.cons 4 true (.cons 5 true (.cons 6 true (.cons 7 true (.cons 8 true (.cons 3 false (.cons 9 false (.cons 10 true (.cons 11 true (.nil))))))))))))) (by kernel_rfl) (by kernel_rfl) ?_
                refine SQ_pu rfl (RD_move rfl) rfl ?_
                refine SQ_pu rfl (RD_move rfl) rfl ?_
                refine SQ_guard (i := 2) rfl rfl rfl (fun hg38_1 => ?_) (fun hg38_1 => ?_)
                · refine SQ_pyes rfl rfl rfl (hg38_1) (RD_move rfl) rfl ?_
                  refine SQ_pyes rfl rfl rfl (hg38_1) (RD_move rfl) rfl ?_
                  refine SQ_pyes rfl rfl rfl (hg38_1) (RD_move rfl) rfl ?_
                  refine SQ_yes rfl rfl rfl (hg38_1) (RD_ixO (cs := l.flatMap Part.cells) Try.runUnderlying41 Try.sizeOf43 rfl rfl (by rw [flat_len Part.cells_len, hn]) (by omega) (by omega)) Has.ro rfl ?_
                  refine SQ_yes rfl rfl rfl (hg38_1) (RD_fieldAddrO (cs := l.flatMap Part.cells) 2 Try.runUnderlying43 rfl rfl Try.sizeOf25 rfl (by rw [flat_len Part.cells_len, hn]; omega)) Has.ro rfl ?_
                  refine SQ_yes rfl rfl rfl (hg38_1) (RD_loadO (v := q.s.val) (cs := l.flatMap Part.cells) Try.isAgg25 rfl (flat_get Part.cells_len 2 hq (by omega))) Has.ro rfl ?_
                  refine SQ_one (SA_call rfl (.mk rfl rfl (hg38_1)) Try.call24 (.cons rfl (.nil)) (CallsK.at (reader_Text r st.1 (by omega))) (lts rfl) ?_)
                  rintro _ L6 ⟨a6, c6, rfl, hL6⟩
                  refine ⟨.lands hL6 (.h Has.ro (.h Has.ro (.h Has.ro (.nil)))), ?_⟩
                  refine SQ.lands hL6 ?_
                  refine SQ_one (SA_call rfl (.mk rfl rfl (hg38_1)) Try.call21 (.cons rfl (.cons rfl (.nil))) (ref_Same _ _ _ (rdText st.1).1 rfl rfl q.s.a q.s.n q.s.c q.s.bs rfl hok.s.hn) (lts rfl) ?_)
                  rintro _ L7 ⟨rfl, hL7⟩
                  refine ⟨.lands hL7 (.w rfl (.h Has.ro (.h Has.ro (.nil)))), ?_⟩
                  refine SQ.lands hL7 ?_
                  refine SQ_pu rfl (RD_pick_t rfl (hg38_1) rfl) rfl ?_
                  refine SQ_pu rfl (RD_assign rfl) rfl ?_
                  refine SQ_nil ?_
                  refine SN.le (l := [(0, _), (1, _), (8, _), (9, _), (11, _), (12, _), (13, _)]) ?_ (.cons rfl (.cons rfl (.cons rfl (.cons rfl (.cons rfl (.cons rfl (.cons rfl (.nil))))))))
                  refine SN_block ?_
                  refine SN_block ?_
                  refine SN_seq ?_
                  refine SC_region ?_
                  refine SR_pu (RD_move rfl) rfl ?_
                  refine SR_pu (RD_addi rfl rfl (by omega) (by omega)) rfl ?_
                  refine SR_pu (RD_assign rfl) rfl ?_
                  refine SR_nil ?_
                  refine SN.le (l := [(0, _), (1, _), (8, _), (9, _), (11, _), (12, _), (13, _)]) ?_ (.cons rfl (.cons rfl (.cons rfl (.cons rfl (.cons rfl (.cons rfl (.cons rfl (.nil))))))))
                  have hfin := hstep; rw [rdPart, if_pos hg38_1, if_neg hk0, if_neg hk] at hfin
                  refine SC_again (ih2 (i + 1) (⟨by omega, by omega⟩) (by omega)) (by rw [hfin]; exact .fin) (.cons rfl (.cons rfl (.cons rfl (.cons rfl (.cons rfl (.cons' rfl (by rw [hfin]) (.cons' rfl (ie (by omega)) (.nil))))))))
                · refine SQ_no rfl rfl rfl (hg38_1) (lts rfl) ?_
                  refine SQ_no rfl rfl rfl (hg38_1) (lts rfl) ?_
                  refine SQ_no rfl rfl rfl (hg38_1) (lts rfl) ?_
                  refine SQ_no rfl rfl rfl (hg38_1) (lts rfl) ?_
                  refine SQ_no rfl rfl rfl (hg38_1) (lts rfl) ?_
                  refine SQ_no rfl rfl rfl (hg38_1) (lts rfl) ?_
                  refine SQ_no1 rfl rfl rfl (hg38_1) (lts rfl) ?_
                  refine SQ_no1 rfl rfl rfl (hg38_1) (lts rfl) ?_
                  refine SQ_pu rfl (RD_pick_f rfl (hg38_1) rfl) rfl ?_
                  refine SQ_pu rfl (RD_assign rfl) rfl ?_
                  refine SQ_nil ?_
                  refine SN.le (l := [(0, _), (1, _), (8, _), (9, _), (11, _), (12, _), (13, _)]) ?_ (.cons rfl (.cons rfl (.cons rfl (.cons rfl (.cons rfl (.cons rfl (.cons rfl (.nil))))))))
                  refine SN_block ?_
                  refine SN_block ?_
                  refine SN_seq ?_
                  refine SC_region ?_
                  refine SR_pu (RD_move rfl) rfl ?_
                  refine SR_pu (RD_addi rfl rfl (by omega) (by omega)) rfl ?_
                  refine SR_pu (RD_assign rfl) rfl ?_
                  refine SR_nil ?_
                  refine SN.le (l := [(0, _), (1, _), (8, _), (9, _), (11, _), (12, _), (13, _)]) ?_ (.cons rfl (.cons rfl (.cons rfl (.cons rfl (.cons rfl (.cons rfl (.cons rfl (.nil))))))))
                  have hfin := hstep; rw [rdPart, if_neg (by simp at hg38_1; simp [hg38_1])] at hfin
                  refine SC_again (ih2 (i + 1) (⟨by omega, by omega⟩) (by omega)) (by rw [hfin]; exact .fin) (.cons rfl (.cons rfl (.cons rfl (.cons rfl (.cons rfl (.cons' rfl (by rw [hfin]; simp at hg38_1; simp [hg38_1]) (.cons' rfl (ie (by omega)) (.nil))))))))
          · have hps : l.take i = l.take 20 := by rw [List.take_eq_take_iff]; (simp at hc134; omega)
            rw [hps]
            have hpass := passes hsm (hw.symm ▸ hgv)
            rw [hw] at hpass
            obtain ⟨st, hst⟩ : ∃ st, rdParts (l.take 20) ((bs, false), true) = st := ⟨_, rfl⟩
            rw [hst] at hpass ⊢
            obtain ⟨hp1, hp2⟩ := hpass
            have hD : rdDone st.1 = decide (md = 0 ∨ (md = 2 ∧ w.length = 0)) := by rw [Bool.eq_iff_iff, hp2]; simp
            refine SC_exit rfl ?_
            refine SN_seq ?_
            refine SC_seq ?_
            refine SC_region ?_
            refine SR_pu (RD_move rfl) rfl ?_
            refine SR_pu (RD_lss rfl rfl) rfl ?_
            refine SR_pu (RD_move rfl) rfl ?_
            refine SR_guard rfl rfl (fun hg43_2 => ?_) (fun hg43_2 => ?_)
            · refine SR_yes rfl rfl (hg43_2) ?_
              refine SR_pu (RD_move rfl) rfl ?_
              refine SR_yes rfl rfl (hg43_2) ?_
              refine SR_pu (RD_not rfl) rfl ?_
              refine SR_pu (RD_pick_t rfl (hg43_2) rfl) rfl ?_
              refine SR_pu (RD_move rfl) rfl ?_
              refine SR_yes rfl rfl (by rw [hp1 (by simp at hg43_2; omega)]; rfl) ?_
              refine SR_pu (RD_move rfl) rfl ?_
              refine SR_yes rfl rfl (by rw [hp1 (by simp at hg43_2; omega)]; rfl) ?_
              refine SR_call Try.call25 (.cons rfl (.nil)) (CallsK.at (reader_Done r st.1)) (lts rfl) ?_
              rintro _ L8 ⟨rfl, hL8⟩
              refine SR.lands hL8 ?_
              refine SR_yes rfl rfl (by rw [hp1 (by simp at hg43_2; omega)]; rfl) ?_
              refine SR_pu (RD_move rfl) rfl ?_
              refine SR_yes rfl rfl (by rw [hp1 (by simp at hg43_2; omega)]; rfl) ?_
              refine SR_pu (RD_eql rfl rfl) rfl ?_
              refine SR_yes rfl rfl (by rw [hp1 (by simp at hg43_2; omega)]; rfl) ?_
              refine SR_pu (RD_move rfl) rfl ?_
              refine SR_guard rfl rfl (fun hg43_11 => ?_) (fun hg43_11 => ?_)
              · refine SR_yes rfl rfl (hg43_11) ?_
                refine SR_pu (RD_move rfl) rfl ?_
                refine SR_yes rfl rfl (hg43_11) ?_
                refine SR_pu (RD_eql rfl rfl) rfl ?_
                refine SR_yes rfl rfl (hg43_11) ?_
                refine SR_pu (RD_move rfl) rfl ?_
                refine SR_guard rfl rfl (fun hg43_14 => ?_) (fun hg43_14 => ?_)
                · refine SR_yes rfl rfl (hg43_14) ?_
                  refine SR_pu (RD_move rfl) rfl ?_
                  refine SR_yes rfl rfl (hg43_14) ?_
                  refine SR_pu (RD_len Try.runUnderlying25 rfl) rfl ?_
                  refine SR_yes rfl rfl (hg43_14) ?_
                  refine SR_pu (RD_eql rfl rfl) rfl ?_
                  refine SR_yes rfl rfl (hg43_11) ?_
                  refine SR_pu (RD_pick_t rfl (hg43_14) rfl) rfl ?_
                  refine SR_yes rfl rfl (by rw [hp1 (by simp at hg43_2; omega)]; rfl) ?_
                  refine SR_pu (RD_pick_f rfl (hg43_11) rfl) rfl ?_
                  refine SR_yes rfl rfl (by rw [hp1 (by simp at hg43_2; omega)]; rfl) ?_
                  refine SR_pu (RD_neqB Try.underlying4 rfl rfl) rfl ?_
                  refine SR_pu (RD_pick_f rfl (by rw [hp1 (by simp at hg43_2; omega)]; rfl) rfl) rfl ?_
                  refine SR_nil ?_
                  refine SN.le (l := [(0, _), (1, _), (8, _), (9, _), (202, _)]) ?_ (.cons rfl (.cons rfl (.cons rfl (.cons rfl (.cons rfl (.nil))))))
                  refine SN_seq ?_
                  refine SC_cond_false rfl (by first | (have e1 : md = 0 := (by simp at hg43_11; omega); simp [hD, e1]; done) | (have e2 : md = 2 := (by simp at hg43_14; omega); simp [hD, e2]; done) | (have e1 : ¬ md = 0 := (by simp at hg43_11; omega); have e2 : ¬ md = 2 := (by simp at hg43_14; omega); simp [hD, e1, e2]; done)) ?_
                  refine SC_skip ?_
                  refine SN_block ?_
                  refine SN_seq ?_
                  refine SC_region ?_
                  refine SR_pu (RD_move rfl) rfl ?_
                  refine SR_pu (RD_addi rfl rfl (by omega) (by omega)) rfl ?_
                  refine SR_pu (RD_assign rfl) rfl ?_
                  refine SR_nil ?_
                  refine SN.le (l := [(0, _), (1, _), (8, _), (9, _)]) ?_ (.cons rfl (.cons rfl (.cons rfl (.cons rfl (.nil)))))
                  refine SC_again (ih (md + 1) (by omega) (by omega)) (.fin) (.cons rfl (.cons rfl (.cons rfl (.cons' rfl (ie (by omega)) (.nil)))))
                · refine SR_no rfl rfl (hg43_14) (lts rfl) ?_
                  refine SR_no rfl rfl (hg43_14) (lts rfl) ?_
                  refine SR_no rfl rfl (hg43_14) (lts rfl) ?_
                  refine SR_yes rfl rfl (hg43_11) ?_
                  refine SR_pu (RD_pick_f rfl (hg43_14) rfl) rfl ?_
                  refine SR_yes rfl rfl (by rw [hp1 (by simp at hg43_2; omega)]; rfl) ?_
                  refine SR_pu (RD_pick_f rfl (hg43_11) rfl) rfl ?_
                  refine SR_yes rfl rfl (by rw [hp1 (by simp at hg43_2; omega)]; rfl) ?_
                  refine SR_pu (RD_neqB Try.underlying4 rfl rfl) rfl ?_
                  refine SR_pu (RD_pick_f rfl (by rw [hp1 (by simp at hg43_2; omega)]; rfl) rfl) rfl ?_
                  refine SR_nil ?_
                  refine SN.le (l := [(0, _), (1, _), (8, _), (9, _), (202, _)]) ?_ (.cons rfl (.cons rfl (.cons rfl (.cons rfl (.cons rfl (.nil))))))
                  refine SN_seq ?_
                  refine SC_cond_false rfl (by first | (have e1 : md = 0 := (by simp at hg43_11; omega); simp [hD, e1]; done) | (have e2 : md = 2 := (by simp at hg43_14; omega); simp [hD, e2]; done) | (have e1 : ¬ md = 0 := (by simp at hg43_11; omega); have e2 : ¬ md = 2 := (by simp at hg43_14; omega); simp [hD, e1, e2]; done)) ?_
                  refine SC_skip ?_
                  refine SN_block ?_
                  refine SN_seq ?_
                  refine SC_region ?_
                  refine SR_pu (RD_move rfl) rfl ?_
                  refine SR_pu (RD_addi rfl rfl (by omega) (by omega)) rfl ?_
                  refine SR_pu (RD_assign rfl) rfl ?_
                  refine SR_nil ?_
                  refine SN.le (l := [(0, _), (1, _), (8, _), (9, _)]) ?_ (.cons rfl (.cons rfl (.cons rfl (.cons rfl (.nil)))))
                  refine SC_again (ih (md + 1) (by omega) (by omega)) (.fin) (.cons rfl (.cons rfl (.cons rfl (.cons' rfl (ie (by omega)) (.nil)))))
              · refine SR_no rfl rfl (hg43_11) (lts rfl) ?_
                refine SR_no rfl rfl (hg43_11) (lts rfl) ?_
                refine SR_no rfl rfl (hg43_11) (lts rfl) ?_
                refine SR_nou  rfl rfl (lts rfl) ?_
                refine SR_nou  rfl rfl (lts rfl) ?_
                refine SR_nou  rfl rfl (lts rfl) ?_
                refine SR_no rfl rfl (hg43_11) (lts rfl) ?_
                refine SR_yes rfl rfl (by rw [hp1 (by simp at hg43_2; omega)]; rfl) ?_
                refine SR_pu (RD_pick_t rfl (hg43_11) rfl) rfl ?_
                refine SR_yes rfl rfl (by rw [hp1 (by simp at hg43_2; omega)]; rfl) ?_
                refine SR_pu (RD_neqB Try.underlying4 rfl rfl) rfl ?_
                refine SR_pu (RD_pick_f rfl (by rw [hp1 (by simp at hg43_2; omega)]; rfl) rfl) rfl ?_
                refine SR_nil ?_
                refine SN.le (l := [(0, _), (1, _), (8, _), (9, _), (202, _)]) ?_ (.cons rfl (.cons rfl (.cons rfl (.cons rfl (.cons rfl (.nil))))))
                refine SN_seq ?_
                refine SC_cond_false rfl (by first | (have e1 : md = 0 := (by simp at hg43_11; omega); simp [hD, e1]; done) | (have e2 : md = 2 := (by simp at hg43_14; omega); simp [hD, e2]; done) | (have e1 : ¬ md = 0 := (by simp at hg43_11; omega); have e2 : ¬ md = 2 := (by simp at hg43_14; omega); simp [hD, e1, e2]; done)) ?_
                refine SC_skip ?_
                refine SN_block ?_
                refine SN_seq ?_
                refine SC_region ?_
                refine SR_pu (RD_move rfl) rfl ?_
                refine SR_pu (RD_addi rfl rfl (by omega) (by omega)) rfl ?_
                refine SR_pu (RD_assign rfl) rfl ?_
                refine SR_nil ?_
                refine SN.le (l := [(0, _), (1, _), (8, _), (9, _)]) ?_ (.cons rfl (.cons rfl (.cons rfl (.cons rfl (.nil)))))
                refine SC_again (ih (md + 1) (by omega) (by omega)) (.fin) (.cons rfl (.cons rfl (.cons rfl (.cons' rfl (ie (by omega)) (.nil)))))
            · refine SR_no rfl rfl (hg43_2) (lts rfl) ?_
              refine SR_no rfl rfl (hg43_2) (lts rfl) ?_
              refine SR_pu (RD_pick_f rfl (hg43_2) rfl) rfl ?_
              refine SR_pu (RD_move rfl) rfl ?_
              refine SR_yes rfl rfl (rfl) ?_
              refine SR_pu (RD_move rfl) rfl ?_
              refine SR_yes rfl rfl (rfl) ?_
              refine SR_call Try.call25 (.cons rfl (.nil)) (CallsK.at (reader_Done r st.1)) (lts rfl) ?_
              rintro _ L8 ⟨rfl, hL8⟩
              refine SR.lands hL8 ?_
              refine SR_yes rfl rfl (rfl) ?_
              refine SR_pu (RD_move rfl) rfl ?_
              refine SR_yes rfl rfl (rfl) ?_
              refine SR_pu (RD_eql rfl rfl) rfl ?_
              refine SR_yes rfl rfl (rfl) ?_
              refine SR_pu (RD_move rfl) rfl ?_
              refine SR_guard rfl rfl (fun hg43_11 => ?_) (fun hg43_11 => ?_)
              · refine SR_yes rfl rfl (hg43_11) ?_
                refine SR_pu (RD_move rfl) rfl ?_
                refine SR_yes rfl rfl (hg43_11) ?_
                refine SR_pu (RD_eql rfl rfl) rfl ?_
                refine SR_yes rfl rfl (hg43_11) ?_
                refine SR_pu (RD_move rfl) rfl ?_
                refine SR_guard rfl rfl (fun hg43_14 => ?_) (fun hg43_14 => ?_)
                · refine SR_yes rfl rfl (hg43_14) ?_
                  refine SR_pu (RD_move rfl) rfl ?_
                  refine SR_yes rfl rfl (hg43_14) ?_
                  refine SR_pu (RD_len Try.runUnderlying25 rfl) rfl ?_
                  refine SR_yes rfl rfl (hg43_14) ?_
                  refine SR_pu (RD_eql rfl rfl) rfl ?_
                  refine SR_yes rfl rfl (hg43_11) ?_
                  refine SR_pu (RD_pick_t rfl (hg43_14) rfl) rfl ?_
                  refine SR_yes rfl rfl (rfl) ?_
                  refine SR_pu (RD_pick_f rfl (hg43_11) rfl) rfl ?_
                  refine SR_yes rfl rfl (rfl) ?_
                  refine SR_pu (RD_neqB Try.underlying4 rfl rfl) rfl ?_
                  refine SR_pu (RD_pick_f rfl (rfl) rfl) rfl ?_
                  refine SR_nil ?_
                  refine SN.le (l := [(0, _), (1, _), (8, _), (9, _), (202, _)]) ?_ (.cons rfl (.cons rfl (.cons rfl (.cons rfl (.cons rfl (.nil))))))
                  refine SN_seq ?_
                  refine SC_cond_false rfl (by first | (have e1 : md = 0 := (by simp at hg43_11; omega); simp [hD, e1]; done) | (have e2 : md = 2 := (by simp at hg43_14; omega); simp [hD, e2]; done) | (have e1 : ¬ md = 0 := (by simp at hg43_11; omega); have e2 : ¬ md = 2 := (by simp at hg43_14; omega); simp [hD, e1, e2]; done)) ?_
                  refine SC_skip ?_
                  refine SN_block ?_
                  refine SN_seq ?_
                  refine SC_region ?_
                  refine SR_pu (RD_move rfl) rfl ?_
                  refine SR_pu (RD_addi rfl rfl (by omega) (by omega)) rfl ?_
                  refine SR_pu (RD_assign rfl) rfl ?_
                  refine SR_nil ?_
                  refine SN.le (l := [(0, _), (1, _), (8, _), (9, _)]) ?_ (.cons rfl (.cons rfl (.cons rfl (.cons rfl (.nil)))))
                  refine SC_again (ih (md + 1) (by omega) (by omega)) (.fin) (.cons rfl (.cons rfl (.cons rfl (.cons' rfl (ie (by omega)) (.nil)))))
                · refine SR_no rfl rfl (hg43_14) (lts rfl) ?_
                  refine SR_no rfl rfl (hg43_14) (lts rfl) ?_
                  refine SR_no rfl rfl (hg43_14) (lts rfl) ?_
                  refine SR_yes rfl rfl (hg43_11) ?_
                  refine SR_pu (RD_pick_f rfl (hg43_14) rfl) rfl ?_
                  refine SR_yes rfl rfl (rfl) ?_
                  refine SR_pu (RD_pick_f rfl (hg43_11) rfl) rfl ?_
                  refine SR_yes rfl rfl (rfl) ?_
                  refine SR_pu (RD_neqB Try.underlying4 rfl rfl) rfl ?_
                  refine SR_pu (RD_pick_f rfl (rfl) rfl) rfl ?_
                  refine SR_nil ?_
                  refine SN.le (l := [(0, _), (1, _), (8, _), (9, _), (202, _)]) ?_ (.cons rfl (.cons rfl (.cons rfl (.cons rfl (.cons rfl (.nil))))))
                  refine SN_seq ?_
                  refine SC_cond_false rfl (by first | (have e1 : md = 0 := (by simp at hg43_11; omega); simp [hD, e1]; done) | (have e2 : md = 2 := (by simp at hg43_14; omega); simp [hD, e2]; done) | (have e1 : ¬ md = 0 := (by simp at hg43_11; omega); have e2 : ¬ md = 2 := (by simp at hg43_14; omega); simp [hD, e1, e2]; done)) ?_
                  refine SC_skip ?_
                  refine SN_block ?_
                  refine SN_seq ?_
                  refine SC_region ?_
                  refine SR_pu (RD_move rfl) rfl ?_
                  refine SR_pu (RD_addi rfl rfl (by omega) (by omega)) rfl ?_
                  refine SR_pu (RD_assign rfl) rfl ?_
                  refine SR_nil ?_
                  refine SN.le (l := [(0, _), (1, _), (8, _), (9, _)]) ?_ (.cons rfl (.cons rfl (.cons rfl (.cons rfl (.nil)))))
                  refine SC_again (ih (md + 1) (by omega) (by omega)) (.fin) (.cons rfl (.cons rfl (.cons rfl (.cons' rfl (ie (by omega)) (.nil)))))
              · refine SR_no rfl rfl (hg43_11) (lts rfl) ?_
                refine SR_no rfl rfl (hg43_11) (lts rfl) ?_
                refine SR_no rfl rfl (hg43_11) (lts rfl) ?_
                refine SR_nou  rfl rfl (lts rfl) ?_
                refine SR_nou  rfl rfl (lts rfl) ?_
                refine SR_nou  rfl rfl (lts rfl) ?_
                refine SR_no rfl rfl (hg43_11) (lts rfl) ?_
                refine SR_yes rfl rfl (rfl) ?_
                refine SR_pu (RD_pick_t rfl (hg43_11) rfl) rfl ?_
                refine SR_yes rfl rfl (rfl) ?_
                refine SR_pu (RD_neqB Try.underlying4 rfl rfl) rfl ?_
                refine SR_pu (RD_pick_f rfl (rfl) rfl) rfl ?_
                refine SR_nil ?_
                refine SN.le (l := [(0, _), (1, _), (8, _), (9, _), (202, _)]) ?_ (.cons rfl (.cons rfl (.cons rfl (.cons rfl (.cons rfl (.nil))))))
                refine SN_seq ?_
                refine SC_cond_false rfl (by first | (have e1 : md = 0 := (by simp at hg43_11; omega); simp [hD, e1]; done) | (have e2 : md = 2 := (by simp at hg43_14; omega); simp [hD, e2]; done) | (have e1 : ¬ md = 0 := (by simp at hg43_11; omega); have e2 : ¬ md = 2 := (by simp at hg43_14; omega); simp [hD, e1, e2]; done)) ?_
                refine SC_skip ?_
                refine SN_block ?_
                refine SN_seq ?_
                refine SC_region ?_
                refine SR_pu (RD_move rfl) rfl ?_
                refine SR_pu (RD_addi rfl rfl (by omega) (by omega)) rfl ?_
                refine SR_pu (RD_assign rfl) rfl ?_
                refine SR_nil ?_
                refine SN.le (l := [(0, _), (1, _), (8, _), (9, _)]) ?_ (.cons rfl (.cons rfl (.cons rfl (.cons rfl (.nil)))))
                refine SC_again (ih (md + 1) (by omega) (by omega)) (.fin) (.cons rfl (.cons rfl (.cons rfl (.cons' rfl (ie (by omega)) (.nil)))))
        · refine SR_no rfl rfl (hg35_4) (lts rfl) ?_
          refine SR_no rfl rfl (hg35_4) (lts rfl) ?_
          refine SR_pu (RD_pick_f rfl (hg35_4) rfl) rfl ?_
          refine SR_nil ?_
          refine SN.le (l := [(0, _), (1, _), (8, _), (9, _), (11, _), (12, _), (13, _), (134, _)]) ?_ (.cons rfl (.cons rfl (.cons rfl (.cons rfl (.cons rfl (.cons rfl (.cons rfl (.cons rfl (.nil)))))))))
          refine SN_seq ?_
          have hps : l.take i = l.take 20 := by rw [List.take_eq_take_iff]; (simp at hg35_4; omega)
          rw [hps]
          have hpass := passes hsm (hw.symm ▸ hgv)
          rw [hw] at hpass
          obtain ⟨st, hst⟩ : ∃ st, rdParts (l.take 20) ((bs, false), true) = st := ⟨_, rfl⟩
          rw [hst] at hpass ⊢
          obtain ⟨hp1, hp2⟩ := hpass
          have hD : rdDone st.1 = decide (md = 0 ∨ (md = 2 ∧ w.length = 0)) := by rw [Bool.eq_iff_iff, hp2]; simp
          refine SC_cond_false rfl (rfl) ?_
          refine SC_exit rfl ?_
          refine SN_seq ?_
          refine SC_seq ?_
          refine SC_region ?_
          refine SR_pu (RD_move rfl) rfl ?_
          refine SR_pu (RD_lss rfl rfl) rfl ?_
          refine SR_pu (RD_move rfl) rfl ?_
          refine SR_guard rfl rfl (fun hg43_2 => ?_) (fun hg43_2 => ?_)
          · refine SR_yes rfl rfl (hg43_2) ?_
            refine SR_pu (RD_move rfl) rfl ?_
            refine SR_yes rfl rfl (hg43_2) ?_
            refine SR_pu (RD_not rfl) rfl ?_
            refine SR_pu (RD_pick_t rfl (hg43_2) rfl) rfl ?_
            refine SR_pu (RD_move rfl) rfl ?_
            refine SR_yes rfl rfl (by rw [hp1 (by simp at hg43_2; omega)]; rfl) ?_
            refine SR_pu (RD_move rfl) rfl ?_
            refine SR_yes rfl rfl (by rw [hp1 (by simp at hg43_2; omega)]; rfl) ?_
            refine SR_call Try.call25 (.cons rfl (.nil)) (CallsK.at (reader_Done r st.1)) (lts rfl) ?_
            rintro _ L8 ⟨rfl, hL8⟩
            refine SR.lands hL8 ?_
            refine SR_yes rfl rfl (by rw [hp1 (by simp at hg43_2; omega)]; rfl) ?_
            refine SR_pu (RD_move rfl) rfl ?_
            refine SR_yes rfl rfl (by rw [hp1 (by simp at hg43_2; omega)]; rfl) ?_
            refine SR_pu (RD_eql rfl rfl) rfl ?_
            refine SR_yes rfl rfl (by rw [hp1 (by simp at hg43_2; omega)]; rfl) ?_
            refine SR_pu (RD_move rfl) rfl ?_
            refine SR_guard rfl rfl (fun hg43_11 => ?_) (fun hg43_11 => ?_)
            · refine SR_yes rfl rfl (hg43_11) ?_
              refine SR_pu (RD_move rfl) rfl ?_
              refine SR_yes rfl rfl (hg43_11) ?_
              refine SR_pu (RD_eql rfl rfl) rfl ?_
              refine SR_yes rfl rfl (hg43_11) ?_
              refine SR_pu (RD_move rfl) rfl ?_
              refine SR_guard rfl rfl (fun hg43_14 => ?_) (fun hg43_14 => ?_)
              · refine SR_yes rfl rfl (hg43_14) ?_
                refine SR_pu (RD_move rfl) rfl ?_
                refine SR_yes rfl rfl (hg43_14) ?_
                refine SR_pu (RD_len Try.runUnderlying25 rfl) rfl ?_
                refine SR_yes rfl rfl (hg43_14) ?_
                refine SR_pu (RD_eql rfl rfl) rfl ?_
                refine SR_yes rfl rfl (hg43_11) ?_
                refine SR_pu (RD_pick_t rfl (hg43_14) rfl) rfl ?_
                refine SR_yes rfl rfl (by rw [hp1 (by simp at hg43_2; omega)]; rfl) ?_
                refine SR_pu (RD_pick_f rfl (hg43_11) rfl) rfl ?_
                refine SR_yes rfl rfl (by rw [hp1 (by simp at hg43_2; omega)]; rfl) ?_
                refine SR_pu (RD_neqB Try.underlying4 rfl rfl) rfl ?_
                refine SR_pu (RD_pick_f rfl (by rw [hp1 (by simp at hg43_2; omega)]; rfl) rfl) rfl ?_
                refine SR_nil ?_
                refine SN.le (l := [(0, _), (1, _), (8, _), (9, _), (202, _)]) ?_ (.cons rfl (.cons rfl (.cons rfl (.cons rfl (.cons rfl (.nil))))))
                refine SN_seq ?_
                refine SC_cond_false rfl (by first | (have e1 : md = 0 := (by simp at hg43_11; omega); simp [hD, e1]; done) | (have e2 : md = 2 := (by simp at hg43_14; omega); simp [hD, e2]; done) | (have e1 : ¬ md = 0 := (by simp at hg43_11; omega); have e2 : ¬ md = 2 := (by simp at hg43_14; omega); simp [hD, e1, e2]; done)) ?_
                refine SC_skip ?_
                refine SN_block ?_
                refine SN_seq ?_
                refine SC_region ?_
                refine SR_pu (RD_move rfl) rfl ?_
                refine SR_pu (RD_addi rfl rfl (by omega) (by omega)) rfl ?_
                refine SR_pu (RD_assign rfl) rfl ?_
                refine SR_nil ?_
                refine SN.le (l := [(0, _), (1, _), (8, _), (9, _)]) ?_ (.cons rfl (.cons rfl (.cons rfl (.cons rfl (.nil)))))
                refine SC_again (ih (md + 1) (by omega) (by omega)) (.fin) (.cons rfl (.cons rfl (.cons rfl (.cons' rfl (ie (by omega)) (.nil)))))
              · refine SR_no rfl rfl (hg43_14) (lts rfl) ?_
                refine SR_no rfl rfl (hg43_14) (lts rfl) ?_
                refine SR_no rfl rfl (hg43_14) (lts rfl) ?_
                refine SR_yes rfl rfl (hg43_11) ?_
                refine SR_pu (RD_pick_f rfl (hg43_14) rfl) rfl ?_
                refine SR_yes rfl rfl (by rw [hp1 (by simp at hg43_2; omega)]; rfl) ?_
                refine SR_pu (RD_pick_f rfl (hg43_11) rfl) rfl ?_
                refine SR_yes rfl rfl (by rw [hp1 (by simp at hg43_2; omega)]; rfl) ?_
                refine SR_pu (RD_neqB Try.underlying4 rfl rfl) rfl ?_
                refine SR_pu (RD_pick_f rfl (by rw [hp1 (by simp at hg43_2; omega)]; rfl) rfl) rfl ?_
                refine SR_nil ?_
                refine SN.le (l := [(0, _), (1, _), (8, _), (9, _), (202, _)]) ?_ (.cons rfl (.cons rfl (.cons rfl (.cons rfl (.cons rfl (.nil))))))
                refine SN_seq ?_
                refine SC_cond_false rfl (by first | (have e1 : md = 0 := (by simp at hg43_11; omega); simp [hD, e1]; done) | (have e2 : md = 2 := (by simp at hg43_14; omega); simp [hD, e2]; done) | (have e1 : ¬ md = 0 := (by simp at hg43_11; omega); have e2 : ¬ md = 2 := (by simp at hg43_14; omega); simp [hD, e1, e2]; done)) ?_
                refine SC_skip ?_
                refine SN_block ?_
                refine SN_seq ?_
                refine SC_region ?_
                refine SR_pu (RD_move rfl) rfl ?_
                refine SR_pu (RD_addi rfl rfl (by omega) (by omega)) rfl ?_
                refine SR_pu (RD_assign rfl) rfl ?_
                refine SR_nil ?_
                refine SN.le (l := [(0, _), (1, _), (8, _), (9, _)]) ?_ (.cons rfl (.cons rfl (.cons rfl (.cons rfl (.nil)))))
                refine SC_again (ih (md + 1) (by omega) (by omega)) (.fin) (.cons rfl (.cons rfl (.cons rfl (.cons' rfl (ie (by omega)) (.nil)))))
            · refine SR_no rfl rfl (hg43_11) (lts rfl) ?_
              refine SR_no rfl rfl (hg43_11) (lts rfl) ?_
              refine SR_no rfl rfl (hg43_11) (lts rfl) ?_
              refine SR_nou  rfl rfl (lts rfl) ?_
              refine SR_nou  rfl rfl (lts rfl) ?_
              refine SR_nou  rfl rfl (lts rfl) ?_
              refine SR_no rfl rfl (hg43_11) (lts rfl) ?_
              refine SR_yes rfl rfl (by rw [hp1 (by simp at hg43_2; omega)]; rfl) ?_
              refine SR_pu (RD_pick_t rfl (hg43_11) rfl) rfl ?_
              refine SR_yes rfl rfl (by rw [hp1 (by simp at hg43_2; omega)]; rfl) ?_
              refine SR_pu (RD_neqB Try.underlying4 rfl rfl) rfl ?_
              refine SR_pu (RD_pick_f rfl (by rw [hp1 (by simp at hg43_2; omega)]; rfl) rfl) rfl ?_
              refine SR_nil ?_
              refine SN.le (l := [(0, _), (1, _), (8, _), (9, _), (202, _)]) ?_ (.cons rfl (.cons rfl (.cons rfl (.cons rfl (.cons rfl (.nil))))))
              refine SN_seq ?_
              refine SC_cond_false rfl (by first | (have e1 : md = 0 := (by simp at hg43_11; omega); simp [hD, e1]; done) | (have e2 : md = 2 := (by simp at hg43_14; omega); simp [hD, e2]; done) | (have e1 : ¬ md = 0 := (by simp at hg43_11; omega); have e2 : ¬ md = 2 := (by simp at hg43_14; omega); simp [hD, e1, e2]; done)) ?_
              refine SC_skip ?_
              refine SN_block ?_
              refine SN_seq ?_
              refine SC_region ?_
              refine SR_pu (RD_move rfl) rfl ?_
              refine SR_pu (RD_addi rfl rfl (by omega) (by omega)) rfl ?_
              refine SR_pu (RD_assign rfl) rfl ?_
              refine SR_nil ?_
              refine SN.le (l := [(0, _), (1, _), (8, _), (9, _)]) ?_ (.cons rfl (.cons rfl (.cons rfl (.cons rfl (.nil)))))
              refine SC_again (ih (md + 1) (by omega) (by omega)) (.fin) (.cons rfl (.cons rfl (.cons rfl (.cons' rfl (ie (by omega)) (.nil)))))
          · refine SR_no rfl rfl (hg43_2) (lts rfl) ?_
            refine SR_no rfl rfl (hg43_2) (lts rfl) ?_
            refine SR_pu (RD_pick_f rfl (hg43_2) rfl) rfl ?_
            refine SR_pu (RD_move rfl) rfl ?_
            refine SR_yes rfl rfl (rfl) ?_
            refine SR_pu (RD_move rfl) rfl ?_
            refine SR_yes rfl rfl (rfl) ?_
            refine SR_call Try.call25 (.cons rfl (.nil)) (CallsK.at (reader_Done r st.1)) (lts rfl) ?_
            rintro _ L8 ⟨rfl, hL8⟩
            refine SR.lands hL8 ?_
            refine SR_yes rfl rfl (rfl) ?_
            refine SR_pu (RD_move rfl) rfl ?_
            refine SR_yes rfl rfl (rfl) ?_
            refine SR_pu (RD_eql rfl rfl) rfl ?_
            refine SR_yes rfl rfl (rfl) ?_
            refine SR_pu (RD_move rfl) rfl ?_
            refine SR_guard rfl rfl (fun hg43_11 => ?_) (fun hg43_11 => ?_)
            · refine SR_yes rfl rfl (hg43_11) ?_
              refine SR_pu (RD_move rfl) rfl ?_
              refine SR_yes rfl rfl (hg43_11) ?_
              refine SR_pu (RD_eql rfl rfl) rfl ?_
              refine SR_yes rfl rfl (hg43_11) ?_
              refine SR_pu (RD_move rfl) rfl ?_
              refine SR_guard rfl rfl (fun hg43_14 => ?_) (fun hg43_14 => ?_)
              · refine SR_yes rfl rfl (hg43_14) ?_
                refine SR_pu (RD_move rfl) rfl ?_
                refine SR_yes rfl rfl (hg43_14) ?_
                refine SR_pu (RD_len Try.runUnderlying25 rfl) rfl ?_
                refine SR_yes rfl rfl (hg43_14) ?_
                refine SR_pu (RD_eql rfl rfl) rfl ?_
                refine SR_yes rfl rfl (hg43_11) ?_
                refine SR_pu (RD_pick_t rfl (hg43_14) rfl) rfl ?_
                refine SR_yes rfl rfl (rfl) ?_
                refine SR_pu (RD_pick_f rfl (hg43_11) rfl) rfl ?_
                refine SR_yes rfl rfl (rfl) ?_
                refine SR_pu (RD_neqB Try.underlying4 rfl rfl) rfl ?_
                refine SR_pu (RD_pick_f rfl (rfl) rfl) rfl ?_
                refine SR_nil ?_
                refine SN.le (l := [(0, _), (1, _), (8, _), (9, _), (202, _)]) ?_ (.cons rfl (.cons rfl (.cons rfl (.cons rfl (.cons rfl (.nil))))))
                refine SN_seq ?_
                refine SC_cond_false rfl (by first | (have e1 : md = 0 := (by simp at hg43_11; omega); simp [hD, e1]; done) | (have e2 : md = 2 := (by simp at hg43_14; omega); simp [hD, e2]; done) | (have e1 : ¬ md = 0 := (by simp at hg43_11; omega); have e2 : ¬ md = 2 := (by simp at hg43_14; omega); simp [hD, e1, e2]; done)) ?_
                refine SC_skip ?_
                refine SN_block ?_
                refine SN_seq ?_
                refine SC_region ?_
                refine SR_pu (RD_move rfl) rfl ?_
                refine SR_pu (RD_addi rfl rfl (by omega) (by omega)) rfl ?_
                refine SR_pu (RD_assign rfl) rfl ?_
                refine SR_nil ?_
                refine SN.le (l := [(0, _), (1, _), (8, _), (9, _)]) ?_ (.cons rfl (.cons rfl (.cons rfl (.cons rfl (.nil)))))
                refine SC_again (ih (md + 1) (by omega) (by omega)) (.fin) (.cons rfl (.cons rfl (.cons rfl (.cons' rfl (ie (by omega)) (.nil)))))
              · refine SR_no rfl rfl (hg43_14) (lts rfl) ?_
                refine SR_no rfl rfl (hg43_14) (lts rfl) ?_
                refine SR_no rfl rfl (hg43_14) (lts rfl) ?_
                refine SR_yes rfl rfl (hg43_11) ?_
                refine SR_pu (RD_pick_f rfl (hg43_14) rfl) rfl ?_
                refine SR_yes rfl rfl (rfl) ?_
                refine SR_pu (RD_pick_f rfl (hg43_11) rfl) rfl ?_
                refine SR_yes rfl rfl (rfl) ?_
                refine SR_pu (RD_neqB Try.underlying4 rfl rfl) rfl ?_
                refine SR_pu (RD_pick_f rfl (rfl) rfl) rfl ?_
                refine SR_nil ?_
                refine SN.le (l := [(0, _), (1, _), (8, _), (9, _), (202, _)]) ?_ (.cons rfl (.cons rfl (.cons rfl (.cons rfl (.cons rfl (.nil))))))
                refine SN_seq ?_
                refine SC_cond_false rfl (by first | (have e1 : md = 0 := (by simp at hg43_11; omega); simp [hD, e1]; done) | (have e2 : md = 2 := (by simp at hg43_14; omega); simp [hD, e2]; done) | (have e1 : ¬ md = 0 := (by simp at hg43_11; omega); have e2 : ¬ md = 2 := (by simp at hg43_14; omega); simp [hD, e1, e2]; done)) ?_
                refine SC_skip ?_
                refine SN_block ?_
                refine SN_seq ?_
                refine SC_region ?_
                refine SR_pu (RD_move rfl) rfl ?_
                refine SR_pu (RD_addi rfl rfl (by omega) (by omega)) rfl ?_
                refine SR_pu (RD_assign rfl) rfl ?_
                refine SR_nil ?_
                refine SN.le (l := [(0, _), (1, _), (8, _), (9, _)]) ?_ (.cons rfl (.cons rfl (.cons rfl (.cons rfl (.nil)))))
                refine SC_again (ih (md + 1) (by omega) (by omega)) (.fin) (.cons rfl (.cons rfl (.cons rfl (.cons' rfl (ie (by omega)) (.nil)))))
            · refine SR_no rfl rfl (hg43_11) (lts rfl) ?_
              refine SR_no rfl rfl (hg43_11) (lts rfl) ?_
              refine SR_no rfl rfl (hg43_11) (lts rfl) ?_
              refine SR_nou  rfl rfl (lts rfl) ?_
              refine SR_nou  rfl rfl (lts rfl) ?_
              refine SR_nou  rfl rfl (lts rfl) ?_
              refine SR_no rfl rfl (hg43_11) (lts rfl) ?_
              refine SR_yes rfl rfl (rfl) ?_
              refine SR_pu (RD_pick_t rfl (hg43_11) rfl) rfl ?_
              refine SR_yes rfl rfl (rfl) ?_
              refine SR_pu (RD_neqB Try.underlying4 rfl rfl) rfl ?_
              refine SR_pu (RD_pick_f rfl (rfl) rfl) rfl ?_
              refine SR_nil ?_
              refine SN.le (l := [(0, _), (1, _), (8, _), (9, _), (202, _)]) ?_ (.cons rfl (.cons rfl (.cons rfl (.cons rfl (.cons rfl (.nil))))))
              refine SN_seq ?_
              refine SC_cond_false rfl (by first | (have e1 : md = 0 := (by simp at hg43_11; omega); simp [hD, e1]; done) | (have e2 : md = 2 := (by simp at hg43_14; omega); simp [hD, e2]; done) | (have e1 : ¬ md = 0 := (by simp at hg43_11; omega); have e2 : ¬ md = 2 := (by simp at hg43_14; omega); simp [hD, e1, e2]; done)) ?_
              refine SC_skip ?_
              refine SN_block ?_
              refine SN_seq ?_
              refine SC_region ?_
              refine SR_pu (RD_move rfl) rfl ?_
              refine SR_pu (RD_addi rfl rfl (by omega) (by omega)) rfl ?_
              refine SR_pu (RD_assign rfl) rfl ?_
              refine SR_nil ?_
              refine SN.le (l := [(0, _), (1, _), (8, _), (9, _)]) ?_ (.cons rfl (.cons rfl (.cons rfl (.cons rfl (.nil)))))
              refine SC_again (ih (md + 1) (by omega) (by omega)) (.fin) (.cons rfl (.cons rfl (.cons rfl (.cons' rfl (ie (by omega)) (.nil)))))
      · refine SC_region ?_
        refine SR_ox (OX_buildSlice0 Try.runUnderlying25 Try.sizeOf5) rfl ?_
        rintro _ _ ⟨b101, rfl, rfl⟩
        refine SR_pu (RD_move rfl) rfl ?_
        refine SR_ox (OX_app0 1 Try.underlying25 Try.underlying25 Try.type5 rfl rfl rfl rfl rfl (by simp) 1 rfl (by omega) (by omega)) rfl ?_
        rintro _ _ ⟨a103, c103, rfl, rfl⟩
        refine SR_pu (RD_assign rfl) rfl ?_
        refine SR_nil ?_
        refine SN.le (l := [(0, _), (1, _), (8, _), (9, _), (10, _)]) ?_ (.cons rfl (.cons rfl (.cons rfl (.cons rfl (.cons rfl (.nil))))))
        refine SN_seq ?_
        refine SC_seq ?_
        refine SC_seq ?_
        refine SC_region ?_
        refine SR_pu (RD_move rfl) rfl ?_
        refine SR_pu (RD_eql rfl rfl) rfl ?_
        refine SR_nil ?_
        refine SN.le (l := [(0, _), (1, _), (8, _), (9, _), (10, _), (105, _)]) ?_ (.cons rfl (.cons rfl (.cons rfl (.cons rfl (.cons rfl (.cons rfl (.nil)))))))
        refine SN_seq ?_
        refine SC_cond rfl (fun hc105 => ?_) (fun hc105 => ?_)
        · have h1 : md = 1 := by simp at hc105; omega
          refine SC_region ?_
          refine SR_pu (RD_move rfl) rfl ?_
          refine SR_ox (OX_lit1 Try.underlying25 Try.type5 rfl rfl rfl rfl (.cons rfl (.nil)) (.cons rfl (.nil))) rfl ?_
          rintro _ _ ⟨b107, rfl, rfl⟩
          refine SR_ox (OX_app 1 Try.underlying25 Try.underlying25 Try.type5 rfl rfl rfl rfl rfl (by first | rfl | simp; done | (simp; omega)) 1 rfl (by omega) (by omega)) rfl ?_
          rintro _ _ ⟨a108, c108, rfl, rfl⟩
          refine SR_pu (RD_assign rfl) rfl ?_
          refine SR_nil ?_
          refine SN.le (l := [(0, _), (1, _), (8, _), (9, _), (10, _)]) ?_ (.cons rfl (.cons rfl (.cons rfl (.cons rfl (.cons rfl (.nil))))))
          refine SN_seq ?_
          refine SC_seq ?_
          refine SC_seq ?_
          refine SC_region ?_
          refine SR_pu (RD_move rfl) rfl ?_
          refine SR_pu (RD_eql rfl rfl) rfl ?_
          refine SR_pu (RD_move rfl) rfl ?_
          refine SR_no rfl rfl (by simp [h1]) (lts rfl) ?_
          refine SR_no rfl rfl (by simp [h1]) (lts rfl) ?_
          refine SR_no rfl rfl (by simp [h1]) (lts rfl) ?_
          refine SR_pu (RD_pick_f rfl (by simp [h1]) rfl) rfl ?_
          refine SR_nil ?_
          refine SN.le (l := [(0, _), (1, _), (8, _), (9, _), (10, _), (115, _)]) ?_ (.cons rfl (.cons rfl (.cons rfl (.cons rfl (.cons rfl (.cons rfl (.nil)))))))
          refine SN_seq ?_
          have e1 : (w ++ [0]).length = w.length + 1 := by simp
          have e2 : (w ++ [0]).map byteV = w.map byteV ++ [.int .u8 0] := by simp [byteV]
          refine SC_cond_false rfl (rfl) ?_
          refine SC_skip ?_
          exact J0 (⟨(a108, c108, w ++ [0]), .inr (.inl ⟨h1, rfl⟩)⟩) _ _ (.cons rfl (.cons rfl (.cons rfl (.cons rfl (.cons' rfl (by rw [e1]) (.nil)))))) (by dsimp only; rw [e1, e2]; exact .fin)
        · have h1 : ¬ md = 1 := by simp at hc105; omega
          refine SC_skip ?_
          refine SN_seq ?_
          refine SC_seq ?_
          refine SC_seq ?_
          refine SC_region ?_
          refine SR_pu (RD_move rfl) rfl ?_
          refine SR_pu (RD_eql rfl rfl) rfl ?_
          refine SR_pu (RD_move rfl) rfl ?_
          refine SR_guard rfl rfl (fun hg28_2 => ?_) (fun hg28_2 => ?_)
          · refine SR_yes rfl rfl (hg28_2) ?_
            refine SR_pu (RD_move rfl) rfl ?_
            refine SR_yes rfl rfl (hg28_2) ?_
            refine SR_pu (RD_len Try.runUnderlying25 rfl) rfl ?_
            refine SR_yes rfl rfl (hg28_2) ?_
            refine SR_pu (RD_gtr rfl rfl) rfl ?_
            refine SR_pu (RD_pick_t rfl (hg28_2) rfl) rfl ?_
            refine SR_nil ?_
            refine SN.le (l := [(0, _), (1, _), (8, _), (9, _), (10, _), (115, _)]) ?_ (.cons rfl (.cons rfl (.cons rfl (.cons rfl (.cons rfl (.cons rfl (.nil)))))))
            refine SN_seq ?_
            refine SC_cond rfl (fun hc115 => ?_) (fun hc115 => ?_)
            · have h0 : 0 < w.length := by simp at hc115; omega
              obtain ⟨k, hk⟩ : ∃ k : Nat, at_ % 65536 % (w.length : Int) = (k : Int) := ⟨(at_ % 65536 % (w.length : Int)).toNat, by rw [Int.toNat_of_nonneg (Int.emod_nonneg _ (by omega))]⟩
              have hkb : k < w.length := by have := Int.emod_lt_of_pos (at_ % 65536) (show (0 : Int) < w.length by omega); omega
              have e3 : (w.take k).length = k := by simp; omega
              have e4 : (w.take k).map byteV = (w.map byteV).take (k * 1) := by simp [List.map_take]
              refine SC.row_len (a := a103) fun _ hcap => ?_
              refine SC_region ?_
              refine SR_pu (RD_move rfl) rfl ?_
              refine SR_pu (RD_move rfl) rfl ?_
              refine SR_pu (RD_mask 16 rfl rfl rfl (by decide) 65536 rfl) rfl ?_
              refine SR_pu (RD_move rfl) rfl ?_
              refine SR_pu (RD_len Try.runUnderlying25 rfl) rfl ?_
              refine SR_pu (RD_remk rfl rfl (by omega) (by omega) hk) rfl ?_
              refine SR_pu (RD_cutH Try.runUnderlying25 Try.sizeOf5 rfl rfl (by omega) (by omega)) rfl ?_
              refine SR_pu (RD_assign rfl) rfl ?_
              refine SR_nil ?_
              refine SN.le (l := [(0, _), (1, _), (8, _), (9, _), (10, _)]) ?_ (.cons rfl (.cons rfl (.cons rfl (.cons rfl (.cons rfl (.nil))))))
              exact J0 (⟨(a103, c103, w.take k), .inr (.inr (.inr ⟨by simp at hg28_2; omega, k, hkb, rfl⟩))⟩) _ _ (.cons rfl (.cons rfl (.cons rfl (.cons rfl (.cons' rfl (by rw [e3]; rfl) (.nil)))))) (by dsimp only; rw [e3, e4]; exact (row_take k (by omega)).trans .fin)
            · refine SC_skip ?_
              exact J0 (⟨(a103, c103, w), .inr (.inr (.inl ⟨by simp at hg28_2; omega, by simp at hc115; simp [hc115], rfl⟩))⟩) _ _ (.cons rfl (.cons rfl (.cons rfl (.cons rfl (.cons rfl (.nil)))))) (.fin)
          · refine SR_no rfl rfl (hg28_2) (lts rfl) ?_
            refine SR_no rfl rfl (hg28_2) (lts rfl) ?_
            refine SR_no rfl rfl (hg28_2) (lts rfl) ?_
            refine SR_pu (RD_pick_f rfl (hg28_2) rfl) rfl ?_
            refine SR_nil ?_
            refine SN.le (l := [(0, _), (1, _), (8, _), (9, _), (10, _), (115, _)]) ?_ (.cons rfl (.cons rfl (.cons rfl (.cons rfl (.cons rfl (.cons rfl (.nil)))))))
            refine SN_seq ?_
            refine SC_cond_false rfl (rfl) ?_
            refine SC_skip ?_
            exact J0 (⟨(a103, c103, w), .inl ⟨by simp at hg28_2; omega, rfl⟩⟩) _ _ (.cons rfl (.cons rfl (.cons rfl (.cons rfl (.cons rfl (.nil)))))) (.fin)
    · refine SC_exit rfl ?_
      refine SN_seq ?_
      refine SC_seq ?_
      refine SC_region ?_
      refine SR_call Try.call15 (.nil) (wire_awake) (lts rfl) ?_
      rintro _ L9 ⟨rfl, hL9⟩
      refine SR.lands hL9 ?_
      refine SR_pu (RD_assign rfl) rfl ?_
      refine SR_nil ?_
      refine SN.le (l := [(4, _)]) ?_ (.cons rfl (.nil))
      refine SN_seq ?_
      refine SC_ret1 rfl rfl ?_
      exact ⟨rfl, .fin⟩

end Go.Proofs.Ytdjkllhnkbobfaa
