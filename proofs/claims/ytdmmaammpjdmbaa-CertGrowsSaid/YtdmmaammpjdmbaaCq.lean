/- Few can't certify: plain Lean. -/
import Derived.Test.YtdmmaammpjdmbaaCe6
namespace Go.Proofs.Ytdmmaammpjdmbaa
open Go Go.Proofs
theorem len_sub {l B : List Int} (hn : l.Nodup) (h : ∀ w ∈ l, w ∈ B) : l.length ≤ B.length := by
  induction l generalizing B with
  | nil => simp
  | cons x l ih =>
    have hx := h x (by simp)
    have hn2 := List.nodup_cons.1 hn
    have h3 := ih (B := B.erase x) hn2.2 (fun w hw => by
      have hne : w ≠ x := fun e => hn2.1 (e ▸ hw)
      exact (List.mem_erase_of_ne hne).2 (h w (by simp [hw])))
    rw [List.length_erase_of_mem hx] at h3
    have := List.length_pos_of_mem hx
    simp; omega
theorem rises_lt {n : Int} {l : List Int} (h : rises n l) : ∀ j i, i < j → j < l.length → l.getD i 0 < l.getD j 0 := by
  intro j
  induction j with
  | zero => intro i hi; omega
  | succ j ih =>
    intro i hi hj
    have h1 := (h (j + 1) hj).2.2 (by omega)
    simp only [Nat.add_sub_cancel] at h1
    rcases Nat.lt_succ_iff_lt_or_eq.1 hi with h2 | h2
    · have := ih i h2 (by omega); omega
    · subst h2; exact h1
theorem rises_nodup {n : Int} {l : List Int} (h : rises n l) : l.Nodup := by
  rw [List.nodup_iff_pairwise_ne, List.pairwise_iff_getElem]
  intro i j hi hj hij
  have := rises_lt h j i hij hj
  simp only [List.getD_eq_getElem?_getD, List.getElem?_eq_getElem hi, List.getElem?_eq_getElem hj, Option.getD_some] at this
  omega
/-- As many as a quorum are not among few. -/
theorem few_many {c : CfgD} {by_ B : List Int} (hm : c.many by_ = true) (hs : ∀ w ∈ by_, w ∈ B) : c.n - c.f ≤ B.length := by
  unfold CfgD.many at hm
  simp at hm
  have := len_sub (rises_nodup hm.1) hs
  omega
theorem mem_getD {l : List Int} {w : Int} (h : w ∈ l) : ∃ j, j < l.length ∧ l.getD j 0 = w := by
  obtain ⟨j, hj, e⟩ := List.getElem_of_mem h
  exact ⟨j, hj, by simp [List.getD_eq_getElem?_getD, List.getElem?_eq_getElem hj, e]⟩
theorem few_qc {c : CfgD} {l : List (List UInt8)} {S : List (Int × List Int)} {B : List Int} (hB : ∀ j, ∀ w ∈ signers S j, w ∈ B) (hlen : (B.length : Int) < c.n - c.f) {view block : Int} (hv : 1 ≤ view) {by_ : List Int} : c.qcOk l S view block by_ = false := by
  cases e : c.qcOk l S view block by_ with
  | false => rfl
  | true =>
    unfold CfgD.qcOk at e
    rw [if_neg (by omega)] at e
    simp only [Bool.and_eq_true, List.all_eq_true, decide_eq_true_eq] at e
    have := few_many e.1 fun w hw => hB _ w (e.2 w hw)
    omega
theorem few_tc {c : CfgD} {l : List (List UInt8)} {S : List (Int × List Int)} {B : List Int} (hB : ∀ j, ∀ w ∈ signers S j, w ∈ B) (hlen : (B.length : Int) < c.n - c.f) {t : TcD} : c.tcOk l S t = false := by
  have h : ¬ c.tcA l S t.view t.by_.l t.highs.l t.high.view := fun ⟨h1, h2, h3, h4, h5⟩ => by
    have := few_many h2 fun w hw => by
      obtain ⟨j, hj, e⟩ := mem_getD hw
      have := (h4 j (by omega)).2.2
      rw [e] at this
      exact hB _ w this
    omega
  unfold CfgD.tcOk
  rw [decide_eq_false h]; rfl
theorem sub_add {S : List (Int × List Int)} {B : List Int} (h : ∀ j, ∀ w ∈ signers S j, w ∈ B) {x : Int} (hx : x ∈ B) (d : Int) : ∀ j, ∀ w ∈ signers (addTo S x d) j, w ∈ B := by
  intro j w hw
  rw [signers_add] at hw
  split at hw
  · rcases mem_putW.1 hw with h1 | h1
    · exact h _ w h1
    · exact h1 ▸ hx
  · exact h _ w hw
theorem cert_TcOk_few {W : World} {F : List HProp} [Abs F] (k : WK) (s : WS) (hI : Inv s.l s.S) (c : CfgD) (t : TcD) {cs ds es : List Value} [HasRow F t.by_.a cs] [HasRow F t.highs.a ds] [HasRow F t.high.by_.a es] (hcs : cs = t.by_.l.map intV) (hds : ds = t.highs.l.map intV) (hes : es = t.high.by_.l.map intV) (hn : t.by_.l.length = t.by_.n) (hm : t.highs.l.length = t.highs.n) (hh : t.high.by_.l.length = t.high.by_.n) (hb : t.by_.n ≤ 1000000) (hbm : t.highs.n ≤ 1000000) (hbh : t.high.by_.n ≤ 1000000) (hl : s.l.length ≤ 900000000) (hw : c.n < 9223372036854775808)
    {B : List Int} (hB : ∀ j, ∀ w ∈ signers s.S j, w ∈ B) (hlen : (B.length : Int) < c.n - c.f) :
    CallsK W Try.prog 23 #[.pointer (some ⟨k.p, 0, none⟩), c.val, t.val] (At worldI k s :: F) (fun u L => u = .bool false ∧ ∃ l', Ext s.l l' ∧ l'.length ≤ s.l.length + t.highs.n + 1 ∧ Lands L (At worldI k ⟨l', s.S⟩ :: F)) := by
  refine CallsK.imp (cert_TcOk k s hI c t hcs hds hes hn hm hh hb hbm hbh hl hw) ?_
  rintro _ _ ⟨l', he, hlen', _, rfl, hL⟩
  exact ⟨by rw [few_tc hB hlen], l', he, hlen', hL⟩
end Go.Proofs.Ytdmmaammpjdmbaa
