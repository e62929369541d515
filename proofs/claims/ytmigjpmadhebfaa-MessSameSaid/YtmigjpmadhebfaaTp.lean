/- Blocks' bytes tell blocks; what a tree is. Plain Lean. -/
import Derived.Test.YtmigjpmadhebfaaTr5
namespace Go.Proofs.Ytmigjpmadhebfaa
open Go Go.Proofs
theorem bei_app' {a b : Int} {r r' : List UInt8} (h : bei a ++ r = bei b ++ r') : a % 18446744073709551616 = b % 18446744073709551616 ∧ r = r' := by
  have hl : (bei a).length = (bei b).length := by rw [bei_length, bei_length]
  obtain ⟨h1, h2⟩ := List.append_inj h hl
  refine ⟨?_, h2⟩
  have hu : ∀ x : Int, unbe (bei x) = (x % 18446744073709551616).toNat := by
    intro x
    have ub : ∀ x : Nat, x < 18446744073709551616 → unbe (be x) = x := by
      intro x h
      simp [be, unbe, List.range_succ, UInt8.toNat_ofNat]
      omega
    unfold bei
    exact ub _ (by have := Int.emod_lt_of_pos x (show (0 : Int) < 18446744073709551616 by decide); have := Int.emod_nonneg x (show (18446744073709551616 : Int) ≠ 0 by decide); omega)
  have e1 := hu a
  have e2 := hu b
  rw [h1, e2] at e1
  have := Int.emod_nonneg a (show (18446744073709551616 : Int) ≠ 0 by decide)
  have := Int.emod_nonneg b (show (18446744073709551616 : Int) ≠ 0 by decide)
  omega
theorem i64_eq {a b : Int} (ha : I64 a) (hb : I64 b) (h : a % 18446744073709551616 = b % 18446744073709551616) : a = b := by
  unfold I64 at ha hb; omega
theorem flat_bei_inj : ∀ (xs ys : List Int), (∀ x ∈ xs, I64 x) → (∀ y ∈ ys, I64 y) → xs.flatMap bei = ys.flatMap bei → xs = ys
  | [], [], _, _, _ => rfl
  | [], y :: ys, _, _, h => by have := congrArg List.length h; simp [bei_length] at this; try omega
  | x :: xs, [], _, _, h => by have := congrArg List.length h; simp [bei_length] at this; try omega
  | x :: xs, y :: ys, hx, hy, h => by
    rw [List.flatMap_cons, List.flatMap_cons] at h
    obtain ⟨h1, h2⟩ := bei_app' h
    rw [i64_eq (hx x (by simp)) (hy y (by simp)) h1, flat_bei_inj xs ys (fun z hz => hx z (by simp [hz])) (fun z hz => hy z (by simp [hz])) h2]
theorem tagB_tag {t t' : List UInt8} {xs ys : List Int} (ht : t.length < 1000) (ht' : t'.length < 1000) (h : tagB t xs = tagB t' ys) : t = t' ∧ xs.flatMap bei = ys.flatMap bei := by
  unfold tagB at h
  rw [List.append_assoc, List.append_assoc] at h
  obtain ⟨h1, h2⟩ := bei_app' h
  exact List.append_inj h2 (by omega)
theorem tagB_inj {t : List UInt8} {xs ys : List Int} (ht : t.length < 1000) (hx : ∀ x ∈ xs, I64 x) (hy : ∀ y ∈ ys, I64 y) (h : tagB t xs = tagB t ys) : xs = ys :=
  flat_bei_inj xs ys hx hy (tagB_tag ht ht h).2
def EnvD.Good (e : EnvD) : Prop := I64 e.client ∧ I64 e.cipher ∧ e.Ok
theorem envB_inj {e f : EnvD} (he : e.Good) (hf : f.Good) (h : envB e = envB f) : e = f := by
  have h2 := (tagB_tag (by decide) (by decide) h).2
  simp only [List.flatMap_cons, List.flatMap_nil] at h2
  obtain ⟨a1, h2⟩ := bei_app' h2
  obtain ⟨a2, h2⟩ := bei_app' h2
  obtain ⟨a3, h2⟩ := bei_app' h2
  obtain ⟨a4, _⟩ := bei_app' h2
  obtain ⟨c, n, f', p⟩ := e
  obtain ⟨c', n', f'', p'⟩ := f
  obtain ⟨b1, b2, ⟨b3, b4⟩, b5, b6⟩ := he
  obtain ⟨d1, d2, ⟨d3, d4⟩, d5, d6⟩ := hf
  simp only [I64] at *
  have e1 : c = c' := by omega
  have e2 : n = n' := by omega
  have e3 : f' = f'' := by omega
  have e4 : p = p' := by omega
  rw [e1, e2, e3, e4]
structure Blk.Good (b : Blk) : Prop where
  view : I64 b.view
  author : I64 b.author
  jv : I64 b.jv
  jb : I64 b.jb
  by_ : ∀ x ∈ b.by_, I64 x
  envs : ∀ e ∈ b.envs, e.Good
  nb : b.by_.length ≤ 10000
  ne : b.envs.length ≤ 10000
theorem dnum_i64 {l : List (List UInt8)} (hl : l.length ≤ 1000000000) (x : List UInt8) : I64 (dnum l x : Nat) := by
  have := dnum_le l x; unfold I64; omega
theorem blkN_i64 {l : List (List UInt8)} (hl : l.length ≤ 1000000000) {b : Blk} (h : b.Good) : ∀ x ∈ blkN l b, I64 x := by
  intro x hx
  unfold blkN numsE at hx
  simp only [List.mem_append, List.mem_cons, List.not_mem_nil, or_false, List.mem_map] at hx
  rcases hx with ((h1 | h1) | h1) | ⟨e, he, h1⟩
  · rcases h1 with h1 | h1 | h1 | h1 | h1 <;> subst h1
    · exact h.view
    · exact h.author
    · exact h.jv
    · exact h.jb
    · have := h.nb; unfold I64; omega
  · exact h.by_ x h1
  · subst h1; have := h.ne; unfold I64; omega
  · subst h1; exact dnum_i64 hl _
theorem numsE_inj {l : List (List UInt8)} : ∀ {es fs : List EnvD}, (∀ e ∈ es, e.Good ∧ envB e ∈ l) → (∀ e ∈ fs, e.Good) → numsE l es = numsE l fs → es = fs
  | [], [], _, _, _ => rfl
  | [], f :: fs, _, _, h => by simp [numsE] at h
  | e :: es, [], _, _, h => by simp [numsE] at h
  | e :: es, f :: fs, he, hf, h => by
    simp only [numsE, List.map_cons, List.cons.injEq] at h
    have h1 := dnum_inj (he e (by simp)).2 (by omega : dnum l (envB e) = dnum l (envB f))
    rw [envB_inj (he e (by simp)).1 (hf f (by simp)) h1, numsE_inj (fun x hx => he x (by simp [hx])) (fun x hx => hf x (by simp [hx])) h.2]
theorem blkB_inj {l : List (List UInt8)} (hl : l.length ≤ 1000000000) {b c : Blk} (hb : b.Good) (hc : c.Good) (he : ∀ e ∈ b.envs, envB e ∈ l) (h : blkB l b = blkB l c) : b = c := by
  have h2 := tagB_inj (by decide) (blkN_i64 hl hb) (blkN_i64 hl hc) h
  obtain ⟨v, a, j, k, by_, es⟩ := b
  obtain ⟨v', a', j', k', by', es'⟩ := c
  unfold blkN at h2
  simp only [List.cons_append, List.nil_append, List.cons.injEq, List.append_assoc] at h2
  obtain ⟨e1, e2, e3, e4, e5, h2⟩ := h2
  obtain ⟨e6, h2⟩ := List.append_inj h2 (by omega)
  simp only [List.cons.injEq] at h2
  have e7 := numsE_inj (fun e h => ⟨hb.envs e h, he e h⟩) hc.envs h2.2
  subst e1; subst e2; subst e3; subst e4; subst e6; subst e7; rfl
theorem blk_root {l : List (List UInt8)} {b : Blk} : blkB l b ≠ rootB := fun h => by
  have := (tagB_tag (by decide) (by decide) h).1
  revert this; decide
/-- The tree's digests are the arena's. -/
structure TL (s : TS) (l : List (List UInt8)) : Prop where
  rmem : rootB ∈ l
  root : s.root = (dnum l rootB : Nat)
  blk : ∀ d b, mget s.T d = some b → d ≠ s.root → b.Good ∧ (∀ e ∈ b.envs, envB e ∈ l) ∧ blkB l b ∈ l ∧ d = (dnum l (blkB l b) : Nat)
theorem blkB_ext {l l' : List (List UInt8)} (e : Ext l l') {b : Blk} (he : ∀ e ∈ b.envs, envB e ∈ l) : blkB l' b = blkB l b := by
  unfold blkB blkN
  rw [numsE_ext e he]
theorem TL.ext {s : TS} {l l' : List (List UInt8)} (h : TL s l) (e : Ext l l') : TL s l' :=
  ⟨e.mem h.rmem, by rw [e.num h.rmem]; exact h.root, fun d b hd hr => by
    obtain ⟨h1, h2, h3, h4⟩ := h.blk d b hd hr
    rw [blkB_ext e h2]
    exact ⟨h1, fun x hx => e.mem (h2 x hx), e.mem h3, by rw [e.num h3]; exact h4⟩⟩
/-- A block that is new: its digest is none's. -/
theorem TL.new {s : TS} {l : List (List UInt8)} (h : TL s l) {b : Blk} (hb : b.Good) (hl : l.length ≤ 900000000) (hnew : ∀ d, mget s.T d = some b → d = s.root) :
    mget s.T ((blkD l b : Nat) : Int) = none ∧ ((blkD l b : Nat) : Int) ≠ s.root := by
  have e1 := digsL_ext b.envs l
  have hl1 := digsL_len b.envs l
  have hne := hb.ne
  have e2 := Ext.put (digsL l b.envs) (blkB (digsL l b.envs) b)
  have hm := dput_mem (digsL l b.envs) (blkB (digsL l b.envs) b)
  have h2 : ((blkD l b : Nat) : Int) ≠ s.root := fun e => by
    rw [h.root, ← (e1.trans e2).num h.rmem] at e
    exact blk_root (dnum_inj hm (by unfold blkD blkL at e; omega))
  refine ⟨?_, h2⟩
  cases hg : mget s.T ((blkD l b : Nat) : Int) with
  | none => rfl
  | some c =>
    obtain ⟨h3, h4, h5, h6⟩ := h.blk _ _ hg h2
    have h7 : dnum (blkL l b) (blkB (digsL l b.envs) b) = dnum (blkL l b) (blkB (digsL l b.envs) c) := by
      rw [blkB_ext e1 h4, show dnum (blkL l b) (blkB l c) = dnum l (blkB l c) from (e1.trans e2).num h5]
      unfold blkD at h6
      omega
    have h8 := dnum_inj hm h7
    have h9 := blkB_inj (by omega) hb h3 (fun e he => digsL_mem he) h8
    subst h9
    exact absurd (hnew _ hg) h2
/-- .. it is put. -/
theorem TL.add {s : TS} {l : List (List UInt8)} (h : TL s l) (ho : s.Ok) {b q : Blk} (hb : b.Good) (hl : l.length ≤ 900000000) (hT : s.T.length ≤ 900000) (hp : mget s.T b.jb = some q) (hv : b.jv = q.view) (hlt : b.jv < b.view)
    (hno : mget s.T ((blkD l b : Nat) : Int) = none) :
    s.add l b = ((((blkD l b : Nat) : Int), 0), ⟨s.w, s.root, s.T ++ [(((blkD l b : Nat) : Int), b)]⟩, blkL l b) ∧ TL ⟨s.w, s.root, s.T ++ [(((blkD l b : Nat) : Int), b)]⟩ (blkL l b) ∧ TS.Ok ⟨s.w, s.root, s.T ++ [(((blkD l b : Nat) : Int), b)]⟩ := by
  have hnr : ((blkD l b : Nat) : Int) ≠ s.root := fun e => by
    obtain ⟨r, h1, _⟩ := ho.root
    rw [e, h1] at hno; cases hno
  have hget : ∀ d, mget (s.T ++ [(((blkD l b : Nat) : Int), b)]) d = if d = ((blkD l b : Nat) : Int) then some b else mget s.T d := fun d => mget_app _ _ _ _ hno
  have hold : ∀ d c, mget s.T d = some c → mget (s.T ++ [(((blkD l b : Nat) : Int), b)]) d = some c := fun d c hc => by
    rw [hget, if_neg (fun e => by rw [e, hno] at hc; cases hc)]; exact hc
  refine ⟨?_, ?_, ?_⟩
  · unfold TS.add
    rw [hp]
    dsimp only
    rw [if_neg (by omega), if_neg (by rw [hno]; simp)]
  · have h2 := h.ext (blkL_ext l b)
    refine ⟨h2.rmem, h2.root, fun d c hd hr => ?_⟩
    rw [hget] at hd
    split at hd
    · rename_i e
      cases hd
      have e2 := Ext.put (digsL l b.envs) (blkB (digsL l b.envs) b)
      have e3 : blkB (blkL l b) b = blkB (digsL l b.envs) b := blkB_ext e2 fun e he => digsL_mem he
      refine ⟨hb, fun e he => e2.mem (digsL_mem he), ?_, ?_⟩
      · rw [e3]; exact dput_mem _ _
      · rw [e3]; exact e
    · exact h2.blk d c hd hr
  · refine ⟨?_, fun d c hd hr => ?_, fun d c hd => ?_, by simp; omega⟩
    · obtain ⟨r, h1, h3⟩ := ho.root
      exact ⟨r, hold _ _ h1, h3⟩
    · rw [hget] at hd
      split at hd
      · cases hd
        exact ⟨q, hold _ _ hp, hv.symm, hlt⟩
      · obtain ⟨r, h1, h3⟩ := ho.up d c hd hr
        exact ⟨r, hold _ _ h1, h3⟩
    · rw [hget] at hd
      split at hd
      · cases hd
        have := ho.pos _ _ hp
        omega
      · exact ho.pos d c hd
end Go.Proofs.Ytmigjpmadhebfaa
