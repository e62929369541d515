/- A block is Ok as the document says: plain Lean. -/
import Derived.Test.YtnifaajdiolbjaaBk4
namespace Go.Proofs.Ytnifaajdiolbjaa
open Go Go.Proofs
theorem digsL_idem {l : List (List UInt8)} : ∀ es : List EnvD, (∀ e ∈ es, envB e ∈ l) → digsL l es = l
  | [], _ => rfl
  | e :: es, h => by
    show digsL (dput l (envB e)) es = l
    rw [dput_idem (h e (by simp))]
    exact digsL_idem es fun x hx => h x (by simp [hx])
theorem blk_again {l0 l : List (List UInt8)} {b : Blk} (h : Ext (blkL l0 b) l) : digsL l b.envs = l ∧ blkL l b = l ∧ blkD l b = blkD l0 b ∧ blkB l b = blkB (digsL l0 b.envs) b ∧ blkB l b ∈ l ∧ dnum l (blkB l b) = blkD l0 b ∧ ∀ e ∈ b.envs, envB e ∈ l := by
  have he : Ext (digsL l0 b.envs) (blkL l0 b) := Ext.put _ _
  have hm : ∀ e ∈ b.envs, envB e ∈ l := fun e x => (he.trans h).mem (digsL_mem x)
  have h1 := digsL_idem b.envs hm
  have h2 : blkB l b = blkB (digsL l0 b.envs) b := blkB_ext (he.trans h) fun e x => digsL_mem x
  have h3 : blkB (digsL l0 b.envs) b ∈ blkL l0 b := dput_mem _ _
  have h4 : blkB l b ∈ l := by rw [h2]; exact h.mem h3
  have h5 : blkL l b = l := by unfold blkL; rw [h1]; exact dput_idem h4
  have h6 : dnum l (blkB l b) = blkD l0 b := by rw [h2, h.num h3]; rfl
  exact ⟨h1, h5, by unfold blkD; rw [h5, h1]; exact h6, h2, h4, h6, hm⟩
theorem lead_again {l0 l : List (List UInt8)} {b : Blk} (h : Ext (b.leadL l0) l) : b.leadL l = l ∧ b.leadD l = b.leadD l0 := by
  have h0 : Ext (blkL l0 b) l := (Ext.put _ _ : Ext (blkL l0 b) (b.leadL l0)).trans h
  obtain ⟨_, h1, h2, _⟩ := blk_again h0
  have hm : leadB (blkD l0 b : Nat) ∈ b.leadL l0 := dput_mem _ _
  have e1 : b.leadL l = l := by unfold Blk.leadL; rw [h1, h2]; exact dput_idem (h.mem hm)
  refine ⟨e1, ?_⟩
  unfold Blk.leadD
  rw [e1, h2, h.num hm]
theorem qcL_again (c : CfgD) (l : List (List UInt8)) (v k : Int) : c.qcL (c.qcL l v k) v k = c.qcL l v k := by
  unfold CfgD.qcL
  by_cases h : v < 1
  · rw [if_pos h, if_pos h]
    by_cases h2 : (c.fits && decide (v = 0)) = true
    · rw [if_pos h2, if_pos h2]; exact dput_idem (dput_mem _ _)
    · rw [if_neg h2, if_neg h2]
  · rw [if_neg h, if_neg h]; exact dput_idem (dput_mem _ _)
/-- What is asked ahead of the certificate. -/
def Blk.pre (c : CfgD) (l1 : List (List UInt8)) (S : List (Int × List Int)) (b : Blk) : Bool := decide (1 ≤ b.view) && decide (b.author = c.lead b.view) && decide (b.author ∈ signers S (b.leadD l1 : Nat))
def Blk.preL (c : CfgD) (l1 : List (List UInt8)) (S : List (Int × List Int)) (b : Blk) : List (List UInt8) := if b.pre c l1 S then c.qcL l1 b.jv b.jb else l1
def Blk.w0 (c : CfgD) (l1 : List (List UInt8)) (S : List (Int × List Int)) (b : Blk) : Bool := b.pre c l1 S && c.qcOk (c.qcL l1 b.jv b.jb) S b.jv b.jb b.by_ && decide (b.jv < b.view) && decide ((b.envs.length : Int) ≤ c.bt)
theorem preL_ext (c : CfgD) (l1 : List (List UInt8)) (S : List (Int × List Int)) (b : Blk) : Ext l1 (b.preL c l1 S) ∧ (b.preL c l1 S).length ≤ l1.length + 1 := by
  unfold Blk.preL
  split
  · exact ⟨CfgD.qcL_ext _ _ _ _, CfgD.qcL_len _ _ _ _⟩
  · exact ⟨Ext.same, by omega⟩
theorem ok_len (c : CfgD) (l : List (List UInt8)) (S : List (Int × List Int)) (b : Blk) (h : b.leadL l = l) : (b.ok c l S).2.length ≤ l.length + 1 ∧ Ext l (b.ok c l S).2 := by
  unfold Blk.ok
  rw [h]
  split
  · exact ⟨by dsimp only; omega, Ext.same⟩
  · split
    · exact ⟨by dsimp only; omega, Ext.same⟩
    · exact ⟨CfgD.qcL_len _ _ _ _, CfgD.qcL_ext _ _ _ _⟩
theorem ok_tells (c : CfgD) {l1 : List (List UInt8)} (S : List (Int × List Int)) {b : Blk} (h : b.leadL l1 = l1) : (b.ok c (b.preL c l1 S) S).1 = (b.w0 c l1 S && unl (b.preL c l1 S) S b.envs) := by
  obtain ⟨hx, _⟩ := preL_ext c l1 S b
  have hx2 : Ext (b.leadL l1) (b.preL c l1 S) := by rw [h]; exact hx
  obtain ⟨e1, e2⟩ := lead_again hx2
  unfold Blk.ok
  rw [e1, e2]
  by_cases hp : b.pre c l1 S = true
  · have hL : b.preL c l1 S = c.qcL l1 b.jv b.jb := if_pos hp
    have hp2 := hp
    unfold Blk.pre at hp2
    simp only [Bool.and_eq_true, decide_eq_true_eq] at hp2
    obtain ⟨⟨h1, h2⟩, h3⟩ := hp2
    rw [if_neg (by rw [h2]; simp; omega), if_neg (by simpa using h3)]
    unfold Blk.w0
    rw [hp, hL, qcL_again]
    simp [Bool.and_assoc]
  · have hp' : b.pre c l1 S = false := by simpa using hp
    have e : (b.w0 c l1 S && unl (b.preL c l1 S) S b.envs) = false := by unfold Blk.w0; rw [hp']; rfl
    rw [e]
    by_cases h1 : b.view < 1 ∨ b.author ≠ c.lead b.view
    · rw [if_pos h1]
    · rw [if_neg h1]
      have h2 : ¬ b.author ∈ signers S (b.leadD l1 : Nat) := fun h3 => hp (by unfold Blk.pre; simp only [Bool.and_eq_true, decide_eq_true_eq]; exact ⟨⟨by omega, by simpa using fun q => h1 (.inr q)⟩, h3⟩)
      rw [if_pos h2]
theorem dnum_nth {l : List (List UInt8)} {x : List UInt8} (h : x ∈ l) : ∃ k, dnum l x = k + 1 ∧ l[k]? = some x := by
  induction l with
  | nil => simp at h
  | cons y l ih =>
    by_cases hy : x = y
    · subst hy; exact ⟨0, by simp [dnum], rfl⟩
    · have hm : x ∈ l := by rcases List.mem_cons.1 h with h | h; exact absurd h hy; exact h
      obtain ⟨k, h1, h2⟩ := ih hm
      exact ⟨k + 1, by simp [dnum, hy, h1], by simpa using h2⟩
theorem unl_step {l : List (List UInt8)} {S : List (Int × List Int)} {es : List EnvD} {k : Nat} {e : EnvD} (h : es[k]? = some e) : unl l S (es.take (k + 1)) = ((unl l S (es.take k) && decide (okE l S e)) && decide (((dnum l (envB e) : Nat) : Int) ∉ numsE l (es.take k))) := by
  have ht : es.take (k + 1) = es.take k ++ [e] := by rw [List.take_add_one, h]; rfl
  unfold unl
  rw [ht]
  have hn : numsE l (es.take k ++ [e]) = numsE l (es.take k) ++ [((dnum l (envB e) : Nat) : Int)] := by simp [numsE]
  rw [hn, List.all_append]
  have : decide ((numsE l (es.take k) ++ [((dnum l (envB e) : Nat) : Int)]).Nodup) = (decide (numsE l (es.take k)).Nodup && decide (((dnum l (envB e) : Nat) : Int) ∉ numsE l (es.take k))) := by
    rw [← Bool.decide_and]
    exact decide_eq_decide.2 (by rw [List.nodup_append]; exact ⟨fun ⟨a, _, c⟩ => ⟨a, fun hm => c _ hm _ (by simp) rfl⟩, fun ⟨a, c⟩ => ⟨a, by simp, fun x hx y hy e => by simp at hy; subst hy; subst e; exact c hx⟩⟩)
  rw [this]
  simp only [List.all_cons, List.all_nil, Bool.and_true]
  cases decide (numsE l (es.take k)).Nodup <;> cases decide (((dnum l (envB e) : Nat) : Int) ∉ numsE l (es.take k)) <;> cases decide (okE l S e) <;> cases (es.take k).all fun e => decide (okE l S e) <;> rfl
theorem nums_step {l : List (List UInt8)} {es : List EnvD} {j : Nat} {e : EnvD} (h : es[j]? = some e) (x : Int) : decide (x ∉ numsE l (es.take (j + 1))) = (decide (x ∉ numsE l (es.take j)) && !decide (((dnum l (envB e) : Nat) : Int) = x)) := by
  have ht : es.take (j + 1) = es.take j ++ [e] := by rw [List.take_add_one, h]; rfl
  have hn : numsE l (es.take j ++ [e]) = numsE l (es.take j) ++ [((dnum l (envB e) : Nat) : Int)] := by simp [numsE]
  rw [ht, hn]
  by_cases h1 : x ∈ numsE l (es.take j)
  · simp [h1]
  · simp [h1, eq_comm]
end Go.Proofs.Ytnifaajdiolbjaa
