import PyProof.Rows.All
import PyProof.P3In
import OpenK.KWalk
import KE.LcTurns
import Wide.All
import OpenK.AllK
import Wide.FinOn
import PySem.Challenge.RW_sx_zcanopy_4
set_option Elab.async false
set_option maxRecDepth 100000
set_option maxHeartbeats 8000000

namespace Mine
inductive T where
  | mk (ks vs : List Int) (cs : List T)

noncomputable def T.ks : T → List Int | .mk ks _ _ => ks
noncomputable def T.vs : T → List Int | .mk _ vs _ => vs
noncomputable def T.cs : T → List T | .mk _ _ cs => cs

/-- what a walk over the children gives: none is DepthError -/
noncomputable def allR (f : T → Option Bool) : List T → Option Bool
  | [] => some true
  | c :: cs => match f c with
    | none => none
    | some false => some false
    | some true => allR f cs

noncomputable def nodeBad (t : Int) (root : Bool) (ks vs : List Int) (cs : List T) : Bool :=
  decide (vs.length ≠ ks.length) || (decide (cs.length ≠ 0) && decide (cs.length ≠ ks.length + 1)) || decide ((ks.length : Int) > 2 * t - 1) || (!root && decide ((ks.length : Int) < t - 1))

noncomputable def shapeR (t : Int) : Nat → Bool → T → Option Bool
  | 0, _, _ => none
  | d + 1, root, .mk ks vs cs => if nodeBad t root ks vs cs then some false else allR (shapeR t d false) cs

noncomputable def lowBad (low : Option Int) (k : Int) : Bool := match low with | none => false | some l => decide (k ≤ l)
noncomputable def highBad (high : Option Int) (k : Int) : Bool := match high with | none => false | some l => decide (k ≥ l)

/-- the first loop of keys_ok at place i -/
noncomputable def keyBad (low high : Option Int) (ks : List Int) (i : Nat) : Bool :=
  (decide (i > 0) && decide (ks.getD (i - 1) 0 ≥ ks.getD i 0)) || lowBad low (ks.getD i 0) || highBad high (ks.getD i 0)

noncomputable def kidsR (f : Option Int → Option Int → T → Option Bool) (low high : Option Int) (ks : List Int) : Nat → List T → Option Bool
  | _, [] => some true
  | i, c :: cs => match f (if i > 0 then some (ks.getD (i - 1) 0) else low) (if i < ks.length then some (ks.getD i 0) else high) c with
    | none => none
    | some false => some false
    | some true => kidsR f low high ks (i + 1) cs

noncomputable def keysR : Nat → Option Int → Option Int → T → Option Bool
  | 0, _, _, _ => none
  | d + 1, low, high, .mk ks _ cs => if (List.range ks.length).any (keyBad low high ks) then some false else kidsR (keysR d) low high ks 0 cs

noncomputable def restR (f : T → Option Int) (first : Int) : List T → Option Int
  | [] => some (first + 1)
  | c :: cs => match f c with
    | none => none
    | some x => if x ≠ first then some (-1) else restR f first cs

noncomputable def levelR : Nat → T → Option Int
  | 0, _ => none
  | _ + 1, .mk _ _ [] => some 0
  | d + 1, .mk _ _ (c :: cs) => match levelR d c with
    | none => none
    | some x => if x < 0 then some (-1) else restR (levelR d) x cs

/-! height -/
noncomputable def fits : Nat → T → Prop
  | 0, _ => False
  | d + 1, .mk _ _ cs => ∀ c ∈ cs, fits d c

theorem fits_mono : ∀ {d e : Nat} {x : T}, d ≤ e → fits d x → fits e x
  | 0, _, _, _, h => h.elim
  | d + 1, 0, _, h, _ => by omega
  | d + 1, e + 1, .mk _ _ cs, h, hf => fun c hc => fits_mono (d := d) (e := e) (by omega) (hf c hc)

noncomputable def levelsN : Nat → List T → List (List T)
  | 0, _ => []
  | n + 1, l => (if l.length ≠ 0 then [l] else []) ++ levelsN n (l.flatMap T.cs)

theorem levelsN_nil : ∀ n, levelsN n [] = []
  | 0 => rfl
  | n + 1 => by simp [levelsN, levelsN_nil n]

theorem levelsN_cons (n : Nat) (c : T) (cs : List T) : levelsN (n + 1) (c :: cs) = (c :: cs) :: levelsN n ((c :: cs).flatMap T.cs) := by
  rw [levelsN, if_pos (by simp)]; rfl

theorem flat_all {l : List T} {P : T → Prop} : (∀ c ∈ l.flatMap T.cs, P c) ↔ ∀ x ∈ l, ∀ c ∈ x.cs, P c := by
  simp only [List.mem_flatMap]
  exact ⟨fun h x hx c hc => h c ⟨x, hx, hc⟩, fun h c ⟨x, hx, hc⟩ => h x hx c hc⟩

theorem fits_succ {d : Nat} {x : T} : fits (d + 1) x ↔ ∀ c ∈ x.cs, fits d c := by cases x; exact Iff.rfl

theorem levels_length : ∀ (n d : Nat) (l : List T), (∀ c ∈ l, fits n c) → ((levelsN n l).length ≤ d ↔ ∀ c ∈ l, fits d c)
  | 0, d, l, h => by
    cases l with
    | nil => simp [levelsN]
    | cons c cs => exact (h c (.head _)).elim
  | n + 1, d, [], h => by simp [levelsN_nil]
  | n + 1, 0, c :: cs, h => by
    rw [levelsN_cons, List.length_cons]
    constructor
    · intro h'; omega
    · intro h'; exact (h' c (.head _)).elim
  | n + 1, d + 1, c :: cs, h => by
    have ih := levels_length n d ((c :: cs).flatMap T.cs) (flat_all.mpr fun x hx => fits_succ.mp (h x hx))
    rw [flat_all] at ih
    rw [levelsN_cons, List.length_cons]
    constructor
    · intro h' x hx
      exact fits_succ.mpr (ih.mp (by omega) x hx)
    · intro h'
      have := ih.mpr fun x hx => fits_succ.mp (h' x hx)
      omega

/-! shape -/
mutual
noncomputable def good (t : Int) : Bool → T → Bool
  | root, .mk ks vs cs => !nodeBad t root ks vs cs && goods t cs
noncomputable def goods (t : Int) : List T → Bool
  | [] => true
  | c :: cs => good t false c && goods t cs
end
theorem goods_eq (t : Int) : ∀ cs, goods t cs = cs.all (good t false)
  | [] => by rw [goods]; rfl
  | c :: cs => by rw [goods, goods_eq t cs]; rfl

theorem allR_some {f : T → Option Bool} {g : T → Bool} : ∀ {cs : List T}, (∀ c ∈ cs, f c = some (g c)) → allR f cs = some (cs.all g)
  | [], _ => rfl
  | c :: cs, h => by
    rw [allR, h c (.head _)]
    cases hg : g c with
    | false => simp [hg]
    | true => simp [hg, allR_some fun c hc => h c (.tail _ hc)]

theorem shape_fits (t : Int) : ∀ (d : Nat) (root : Bool) (x : T), fits d x → shapeR t d root x = some (good t root x)
  | 0, _, _, h => h.elim
  | d + 1, root, .mk ks vs cs, h => by
    rw [shapeR, good, goods_eq]
    cases hb : nodeBad t root ks vs cs with
    | true => simp
    | false => simpa using allR_some fun c hc => shape_fits t d false c (h c hc)

theorem allR_deep {f : T → Option Bool} {g : T → Bool} : ∀ {cs : List T}, (∀ c ∈ cs, f c = none ∨ (f c = some false ∧ g c = false) ∨ f c = some (g c)) → (∃ c ∈ cs, f c ≠ some true) →
    allR f cs = none ∨ (allR f cs = some false ∧ cs.all g = false)
  | [], _, ⟨_, h, _⟩ => nomatch h
  | c :: cs, h, hx => by
    rw [allR]
    rcases h c (.head _) with h1 | ⟨h1, h2⟩ | h1
    · rw [h1]; exact .inl rfl
    · rw [h1]; exact .inr ⟨rfl, by simp [h2]⟩
    · rw [h1]
      cases hg : g c with
      | false => exact .inr ⟨rfl, by simp [hg]⟩
      | true =>
        obtain ⟨y, hy, hn⟩ := hx
        have hy' : y ∈ cs := by
          rcases List.mem_cons.mp hy with rfl | hy
          · exact absurd (h1.trans (by rw [hg])) hn
          · exact hy
        rcases allR_deep (fun c hc => h c (.tail _ hc)) ⟨y, hy', hn⟩ with h3 | ⟨h3, h4⟩
        · exact .inl h3
        · exact .inr ⟨h3, by simp [h4]⟩

theorem shape_deep (t : Int) : ∀ (d : Nat) (root : Bool) (x : T), ¬ fits d x → shapeR t d root x = none ∨ (shapeR t d root x = some false ∧ good t root x = false)
  | 0, _, _, _ => .inl (by rw [shapeR])
  | d + 1, root, .mk ks vs cs, h => by
    rw [shapeR, good, goods_eq]
    cases hb : nodeBad t root ks vs cs with
    | true => exact .inr ⟨by simp, by simp⟩
    | false =>
      simp only [Bool.false_eq_true, if_false, Bool.not_false, Bool.true_and]
      have hx : ∃ c ∈ cs, ¬ fits d c := by
        refine Classical.byContradiction fun hn => h fun c hc => Classical.byContradiction fun hf => hn ⟨c, hc, hf⟩
      refine allR_deep (fun c hc => ?_) ?_
      · by_cases hf : fits d c
        · exact .inr (.inr (shape_fits t d false c hf))
        · rcases shape_deep t d false c hf with h1 | h1
          · exact .inl h1
          · exact .inr (.inl h1)
      · obtain ⟨c, hc, hf⟩ := hx
        refine ⟨c, hc, ?_⟩
        rcases shape_deep t d false c hf with h1 | h1
        · rw [h1]; exact fun e => nomatch e
        · rw [h1.1]; exact fun e => nomatch e

/-- the law's own reading of one node -/
noncomputable def sizeBad (t least : Int) (x : T) : Bool :=
  !(decide (least ≤ (x.ks.length : Int)) && decide ((x.ks.length : Int) < 2 * t)) || decide (x.vs.length ≠ x.ks.length) || (decide (x.cs.length ≠ 0) && decide ((x.cs.length : Int) - (x.ks.length : Int) ≠ 1))

noncomputable def sizesP (t : Int) : Int → List (List T) → Bool
  | _, [] => true
  | least, l :: ls => !(l.any (sizeBad t least)) && sizesP t (t - 1) ls

theorem sizeBad_eq (t : Int) (root : Bool) (ks vs : List Int) (cs : List T) : sizeBad t (if root then 0 else t - 1) (.mk ks vs cs) = nodeBad t root ks vs cs := by
  show (!(decide ((if root then 0 else t - 1) ≤ (ks.length : Int)) && decide ((ks.length : Int) < 2 * t)) || decide (vs.length ≠ ks.length) || (decide (cs.length ≠ 0) && decide ((cs.length : Int) - (ks.length : Int) ≠ 1))) = nodeBad t root ks vs cs
  unfold nodeBad
  rw [Bool.eq_iff_iff]
  cases root <;> simp only [Bool.false_eq_true, if_false, if_true, Bool.or_eq_true, Bool.and_eq_true, Bool.not_eq_true', Bool.and_eq_false_iff, decide_eq_true_eq, decide_eq_false_iff_not, Bool.not_false, Bool.not_true, true_and, false_and, or_false] <;> (constructor <;> intro h <;> omega)

theorem sizes_good (t : Int) : ∀ (n : Nat) (l : List T) (root : Bool), (∀ c ∈ l, fits n c) → sizesP t (if root then 0 else t - 1) (levelsN n l) = l.all (good t root)
  | 0, l, root, h => by
    cases l with
    | nil => rfl
    | cons c cs => exact (h c (.head _)).elim
  | n + 1, [], root, h => by rw [levelsN_nil]; rfl
  | n + 1, c :: cs, root, h => by
    have ih := sizes_good t n ((c :: cs).flatMap T.cs) false (flat_all.mpr fun x hx => fits_succ.mp (h x hx))
    rw [levelsN_cons, sizesP]
    simp only [Bool.false_eq_true, if_false] at ih
    rw [ih]
    generalize c :: cs = l
    rw [Bool.eq_iff_iff]
    simp only [Bool.and_eq_true, Bool.not_eq_true', List.any_eq_false, List.all_eq_true]
    rw [flat_all]
    constructor
    · rintro ⟨h1, h2⟩ x hx
      have h3 := h1 x hx
      have h4 := h2 x hx
      obtain ⟨ks, vs, cs⟩ := x
      rw [good, goods_eq]
      rw [sizeBad_eq t] at h3
      simp only [T.cs] at h4
      simp [h3]
      exact h4
    · intro h1
      constructor
      · intro x hx
        have h3 := h1 x hx
        obtain ⟨ks, vs, cs⟩ := x
        rw [good, goods_eq] at h3
        rw [sizeBad_eq t]
        simp at h3
        simp [h3.1]
      · intro x hx
        have h3 := h1 x hx
        obtain ⟨ks, vs, cs⟩ := x
        rw [good, goods_eq] at h3
        simp at h3
        exact h3.2

/-! keys -/
noncomputable def weave : List Int → List (List Int) → List Int
  | ks, [] => ks
  | [], c :: cs => c ++ weave [] cs
  | k :: ks, c :: cs => c ++ k :: weave ks cs

mutual
noncomputable def inord : T → List Int
  | .mk ks _ cs => weave ks (inords cs)
noncomputable def inords : List T → List (List Int)
  | [] => []
  | c :: cs => inord c :: inords cs
end
theorem inords_eq : ∀ cs, inords cs = cs.map inord
  | [] => by rw [inords]; rfl
  | c :: cs => by rw [inords, inords_eq cs]; rfl

mutual
noncomputable def thin : T → Prop
  | .mk ks _ cs => cs.length ≤ ks.length + 1 ∧ thins cs
noncomputable def thins : List T → Prop
  | [] => True
  | c :: cs => thin c ∧ thins cs
end
theorem thins_iff : ∀ cs, thins cs ↔ ∀ c ∈ cs, thin c
  | [] => by rw [thins]; simp
  | c :: cs => by rw [thins, thins_iff cs]; simp

abbrev okSeq (lo : Option Int) (l : List Int) (hi : Option Int) : Prop := (lo.toList ++ l ++ hi.toList).Pairwise (· < ·)

noncomputable def ltO : Option Int → Option Int → Prop
  | some a, some b => a < b
  | _, _ => True

theorem okSeq_nil {lo hi : Option Int} : okSeq lo [] hi ↔ ltO lo hi := by
  cases lo <;> cases hi <;> simp [okSeq, ltO]

theorem okSeq_iff {lo hi : Option Int} {l : List Int} : okSeq lo l hi ↔ l.Pairwise (· < ·) ∧ (∀ k ∈ l, ltO lo (some k)) ∧ (∀ k ∈ l, ltO (some k) hi) ∧ ltO lo hi := by
  cases lo <;> cases hi <;> simp only [okSeq, ltO, Option.toList, List.nil_append, List.append_nil, List.pairwise_append, List.pairwise_cons, List.cons_append, List.mem_cons, List.not_mem_nil] <;>
    simp
  · constructor <;> rintro ⟨h1, h2⟩ <;> exact ⟨h2, h1⟩
  · constructor
    · rintro ⟨h1, h2, h3⟩
      exact ⟨h2, fun k hk => h1 k (.inl hk), h3, h1 _ (.inr rfl)⟩
    · rintro ⟨h1, h2, h3, h4⟩
      refine ⟨?_, h1, h3⟩
      rintro a (h | rfl)
      · exact h2 a h
      · exact h4

theorem ltO_trans {a c : Option Int} {b : Int} (h1 : ltO a (some b)) (h2 : ltO (some b) c) : ltO a c := by
  cases a <;> cases c <;> simp_all [ltO]; omega

theorem okSeq_pivot {lo hi : Option Int} {c r : List Int} {k : Int} : okSeq lo (c ++ k :: r) hi ↔ okSeq lo c (some k) ∧ okSeq (some k) r hi := by
  rw [okSeq_iff, okSeq_iff, okSeq_iff]
  simp only [List.pairwise_append, List.pairwise_cons, List.mem_append, List.mem_cons]
  constructor
  · rintro ⟨⟨h1, ⟨h2, h3⟩, h4⟩, h5, h6, h7⟩
    exact ⟨⟨h1, fun x hx => h5 x (.inl hx), fun x hx => h4 x hx k (.inl rfl), h5 k (.inr (.inl rfl))⟩, h3, fun x hx => h2 x hx, fun x hx => h6 x (.inr (.inr hx)), h6 k (.inr (.inl rfl))⟩
  · rintro ⟨⟨h1, h2, h3, h4⟩, h5, h6, h7, h8⟩
    refine ⟨⟨h1, ⟨h6, h5⟩, ?_⟩, ?_, ?_, ltO_trans h4 h8⟩
    · rintro a ha b (rfl | hb)
      · exact h3 a ha
      · have := h3 a ha; have := h6 b hb; simp only [ltO] at *; omega
    · rintro x (hx | rfl | hx)
      · exact h2 x hx
      · exact h4
      · exact ltO_trans h4 (h6 x hx)
    · rintro x (hx | rfl | hx)
      · exact ltO_trans (h3 x hx) h8
      · exact h8
      · exact h7 x hx

noncomputable def keysOk (lo : Option Int) (ks : List Int) (hi : Option Int) : Prop := ks.Pairwise (· < ·) ∧ (∀ k ∈ ks, ltO lo (some k)) ∧ (∀ k ∈ ks, ltO (some k) hi)

theorem keysOk_of {lo hi : Option Int} {ks : List Int} (h : okSeq lo ks hi) : keysOk lo ks hi := let ⟨a, b, c, _⟩ := okSeq_iff.mp h; ⟨a, b, c⟩

theorem ks_sub : ∀ (ks : List Int) (ls : List (List Int)), ks.Sublist (weave ks ls)
  | ks, [] => by unfold weave; exact List.Sublist.refl _
  | [], _ :: _ => List.nil_sublist _
  | k :: ks, c :: cs => by
    unfold weave
    exact (List.nil_sublist c).append ((ks_sub ks cs).cons_cons k)

theorem okSeq_sub {lo hi : Option Int} {l l' : List Int} (h : okSeq lo l hi) (hs : l'.Sublist l) : okSeq lo l' hi :=
  List.Pairwise.sublist ((List.Sublist.append (List.Sublist.append (List.Sublist.refl _) hs) (List.Sublist.refl _))) h

noncomputable def kidsS (f : Option Int → Option Int → T → Option Bool) (hi : Option Int) : Option Int → List Int → List T → Option Bool
  | _, _, [] => some true
  | lo, [], c :: cs => match f lo hi c with
    | none => none
    | some false => some false
    | some true => kidsS f hi lo [] cs
  | lo, k :: ks, c :: cs => match f lo (some k) c with
    | none => none
    | some false => some false
    | some true => kidsS f hi (some k) ks cs

theorem kidsR_eq {f : Option Int → Option Int → T → Option Bool} {low high : Option Int} {ks : List Int} : ∀ {cs : List T} {i : Nat}, cs.length + i ≤ ks.length + 1 →
    kidsR f low high ks i cs = kidsS f high (if i > 0 then some (ks.getD (i - 1) 0) else low) (ks.drop i) cs
  | [], i, _ => by rw [kidsR]; cases ks.drop i <;> rw [kidsS]
  | c :: cs, i, h => by
    rw [kidsR]
    rw [List.length_cons] at h
    by_cases hi : i < ks.length
    · rw [List.drop_eq_getElem_cons hi, kidsS, if_pos hi]
      have e : ks.getD i 0 = ks[i] := by simp [List.getD, hi]
      rw [e]
      have ih := kidsR_eq (f := f) (low := low) (high := high) (ks := ks) (cs := cs) (i := i + 1) (by omega)
      rw [ih]
      have e2 : (if i + 1 > 0 then some (ks.getD (i + 1 - 1) 0) else low) = some ks[i] := by rw [if_pos (by omega), Nat.add_sub_cancel, e]
      rw [e2]
    · have hd : ks.drop i = [] := List.drop_eq_nil_of_le (by omega)
      have hc : cs = [] := by cases cs with | nil => rfl | cons _ _ => rw [List.length_cons] at h; omega
      subst hc
      rw [hd, kidsS, if_neg hi, kidsR, kidsS]

theorem range_any {n : Nat} {p : Nat → Bool} : (List.range n).any p = false ↔ ∀ i < n, p i = false := by
  rw [List.any_eq_false]
  constructor
  · intro h i hi
    have := h i (List.mem_range.mpr hi)
    simpa using this
  · intro h i hi
    simpa using h i (List.mem_range.mp hi)

theorem pairwise_adj : ∀ {l : List Int}, l.Pairwise (· < ·) ↔ ∀ i, i + 1 < l.length → l.getD i 0 < l.getD (i + 1) 0
  | [] => by simp
  | [a] => by simp
  | a :: b :: r => by
    have ih := pairwise_adj (l := b :: r)
    rw [List.pairwise_cons]
    constructor
    · rintro ⟨h1, h2⟩ i hi
      cases i with
      | zero => simpa using h1 b (.head _)
      | succ i =>
        have := ih.mp h2 i (by simp at hi ⊢; omega)
        simpa using this
    · intro h
      have h2 : (b :: r).Pairwise (· < ·) := ih.mpr fun i hi => by
        have := h (i + 1) (by simp at hi ⊢; omega)
        simpa using this
      refine ⟨?_, h2⟩
      have h0 : a < b := by have := h 0 (by simp); simpa using this
      intro x hx
      rcases List.mem_cons.mp hx with rfl | hx
      · exact h0
      · have := (List.pairwise_cons.mp h2).1 x hx; omega

theorem noBad {lo hi : Option Int} {ks : List Int} : (List.range ks.length).any (keyBad lo hi ks) = false ↔ keysOk lo ks hi := by
  rw [range_any]
  have hl : ∀ k, lowBad lo k = false ↔ ltO lo (some k) := by intro k; cases lo <;> simp [lowBad, ltO]
  have hh : ∀ k, highBad hi k = false ↔ ltO (some k) hi := by intro k; cases hi <;> simp [highBad, ltO]
  simp only [keyBad, Bool.or_eq_false_iff, hl, hh, Bool.and_eq_false_iff, decide_eq_false_iff_not]
  unfold keysOk
  rw [pairwise_adj]
  constructor
  · intro h
    refine ⟨fun i hi => ?_, fun k hk => ?_, fun k hk => ?_⟩
    · have := (h (i + 1) hi).1.1
      simp only [Nat.add_sub_cancel] at this
      omega
    · obtain ⟨i, hi, rfl⟩ := List.getElem_of_mem hk
      have := (h i hi).1.2
      simpa [List.getD, hi] using this
    · obtain ⟨i, hi, rfl⟩ := List.getElem_of_mem hk
      have := (h i hi).2
      simpa [List.getD, hi] using this
  · rintro ⟨h1, h2, h3⟩ i hi
    have e : ks.getD i 0 = ks[i] := by simp [List.getD, hi]
    refine ⟨⟨?_, ?_⟩, ?_⟩
    · cases i with
      | zero => left; omega
      | succ i => right; have := h1 i hi; simp only [Nat.add_sub_cancel]; omega
    · rw [e]; exact h2 _ (List.getElem_mem hi)
    · rw [e]; exact h3 _ (List.getElem_mem hi)

/-- what keys_ok gives: the order told, or too deep -/
noncomputable def KeysSay (lo hi : Option Int) (r : Option Bool) (deepFree : Prop) (l : List Int) : Prop :=
  (deepFree → r = some (decide (okSeq lo l hi))) ∧ (¬ deepFree → r = none ∨ (r = some false ∧ ¬ okSeq lo l hi))

theorem kids_say {d : Nat} {hi : Option Int} : ∀ {cs : List T} {lo : Option Int} {ks : List Int},
    (∀ c ∈ cs, ∀ lo hi, (inord c ≠ [] ∨ ltO lo hi) → KeysSay lo hi (keysR d lo hi c) (fits d c) (inord c)) → cs.length ≤ ks.length + 1 → keysOk lo ks hi → (weave ks (inords cs) ≠ [] ∨ ltO lo hi) →
    KeysSay lo hi (kidsS (keysR d) hi lo ks cs) (∀ c ∈ cs, fits d c) (weave ks (inords cs))
  | [], lo, ks, _, _, hk, hn => by
    have e : kidsS (keysR d) hi lo ks [] = some true := by cases ks <;> rw [kidsS]
    rw [e, inords]
    have e2 : weave ks [] = ks := by cases ks <;> rw [weave]
    rw [inords] at hn
    rw [e2] at hn ⊢
    refine ⟨fun _ => ?_, fun h => absurd (fun c hc => nomatch hc) h⟩
    have : okSeq lo ks hi := by
      refine okSeq_iff.mpr ⟨hk.1, hk.2.1, hk.2.2, ?_⟩
      rcases hn with hn | hn
      · cases ks with
        | nil => exact absurd rfl hn
        | cons k _ => exact ltO_trans (hk.2.1 k (.head _)) (hk.2.2 k (.head _))
      · exact hn
    simp [this]
  | c :: cs, lo, [], h, hl, hk, hn => by
    have hc : cs = [] := by cases cs with | nil => rfl | cons _ _ => simp at hl
    subst hc
    have ew : weave [] (inords [c]) = inord c := by rw [inords, inords, weave, weave, List.append_nil]
    rw [ew] at hn ⊢
    have := h c (.head _) lo hi hn
    have ek : kidsS (keysR d) hi lo [] [c] = keysR d lo hi c := by
      rw [kidsS]
      rcases keysR d lo hi c with _ | _ | _ <;> simp [kidsS]
    rw [ek]
    refine ⟨fun hf => this.1 (hf c (.head _)), fun hf => this.2 fun h' => hf fun c' hc' => ?_⟩
    rw [List.mem_singleton.mp hc']; exact h'
  | c :: cs, lo, k :: ks, h, hl, hk, hn => by
    have ew : weave (k :: ks) (inords (c :: cs)) = inord c ++ k :: weave ks (inords cs) := by rw [inords, weave]
    rw [ew]
    have hlk := hk.2.1 k (.head _)
    have hkh := hk.2.2 k (.head _)
    have h1 := h c (.head _) lo (some k) (.inr hlk)
    have h2 := kids_say (cs := cs) (lo := some k) (ks := ks) (hi := hi) (d := d) (fun c hc => h c (.tail _ hc)) (by simp at hl; omega)
      ⟨(List.pairwise_cons.mp hk.1).2, fun x hx => (List.pairwise_cons.mp hk.1).1 x hx, fun x hx => hk.2.2 x (.tail _ hx)⟩ (.inr hkh)
    rw [kidsS]
    constructor
    · intro hf
      rw [h1.1 (hf c (.head _))]
      have h3 := h2.1 fun c hc => hf c (.tail _ hc)
      by_cases ho : okSeq lo (inord c) (some k)
      · simp [ho, h3, okSeq_pivot]
      · simp [ho, okSeq_pivot]
    · intro hf
      by_cases hfc : fits d c
      · rw [h1.1 hfc]
        have h3 := h2.2 fun h' => hf fun c' hc' => by
          rcases List.mem_cons.mp hc' with rfl | hc'
          · exact hfc
          · exact h' c' hc'
        by_cases ho : okSeq lo (inord c) (some k)
        · simp only [ho, decide_true]
          rcases h3 with h3 | ⟨h3, h4⟩
          · exact .inl h3
          · exact .inr ⟨h3, fun h5 => h4 (okSeq_pivot.mp h5).2⟩
        · rw [decide_eq_false ho]
          exact .inr ⟨rfl, fun h5 => ho (okSeq_pivot.mp h5).1⟩
      · rcases h1.2 hfc with h3 | ⟨h3, h4⟩
        · rw [h3]; exact .inl rfl
        · rw [h3]; exact .inr ⟨rfl, fun h5 => h4 (okSeq_pivot.mp h5).1⟩

theorem keys_say : ∀ (d : Nat) (x : T) (lo hi : Option Int), thin x → (inord x ≠ [] ∨ ltO lo hi) → KeysSay lo hi (keysR d lo hi x) (fits d x) (inord x)
  | 0, x, lo, hi, _, _ => ⟨fun h => h.elim, fun _ => .inl (by rw [keysR])⟩
  | d + 1, .mk ks vs cs, lo, hi, ht, hn => by
    rw [thin, thins_iff] at ht
    rw [keysR]
    rw [inord] at hn ⊢
    cases hb : (List.range ks.length).any (keyBad lo hi ks) with
    | true =>
      have hno : ¬ okSeq lo (weave ks (inords cs)) hi := fun ho => by
        have := noBad.mpr (keysOk_of (okSeq_sub ho (ks_sub ks _)))
        rw [hb] at this
        cases this
      exact ⟨fun _ => by simp [hno], fun _ => .inr ⟨by simp, hno⟩⟩
    | false =>
      have hk := noBad.mp hb
      have := kids_say (d := d) (hi := hi) (cs := cs) (lo := lo) (ks := ks) (fun c hc lo hi => keys_say d c lo hi (ht.2 c hc)) ht.1 hk hn
      rw [kidsR_eq (by simpa using ht.1), if_neg (by simp), if_neg (by simp), List.drop_zero]
      exact this

/-- the law's own look at the order -/
noncomputable def orderBad (l : List Int) (i : Nat) : Bool := decide (l.getD i 0 ≥ l.getD (i + 1) 0)
noncomputable def orderP (l : List Int) : Bool := !((List.range (l.length - 1)).any (orderBad l))
theorem orderP_eq {l : List Int} : orderP l = decide (l.Pairwise (· < ·)) := by
  unfold orderP
  rw [Bool.eq_iff_iff, Bool.not_eq_true', range_any, decide_eq_true_eq, pairwise_adj]
  simp only [orderBad, decide_eq_false_iff_not]
  constructor
  · intro h i hi; have := h i (by omega); omega
  · intro h i hi; have := h i (by omega); omega

theorem good_thin (t : Int) : ∀ (d : Nat) (root : Bool) (x : T), fits d x → good t root x = true → thin x
  | 0, _, _, h, _ => h.elim
  | d + 1, root, .mk ks vs cs, h, hg => by
    rw [good, goods_eq] at hg
    rw [thin, thins_iff]
    simp only [Bool.and_eq_true, Bool.not_eq_true', List.all_eq_true] at hg
    refine ⟨?_, fun c hc => good_thin t d false c (h c hc) (hg.2 c hc)⟩
    have := hg.1
    simp only [nodeBad, Bool.or_eq_false_iff, Bool.and_eq_false_iff, decide_eq_false_iff_not] at this
    omega

/-! levels -/
noncomputable def perf : Nat → T → Prop
  | 0, .mk _ _ cs => cs = []
  | n + 1, .mk _ _ cs => cs ≠ [] ∧ ∀ c ∈ cs, perf n c

theorem perf_one : ∀ {n k : Nat} {x : T}, perf n x → perf k x → n = k
  | 0, 0, _, _, _ => rfl
  | 0, k + 1, .mk _ _ cs, h, h' => absurd h h'.1
  | n + 1, 0, .mk _ _ cs, h, h' => absurd h' h.1
  | n + 1, k + 1, .mk _ _ cs, h, h' => by
    cases cs with
    | nil => exact absurd rfl h.1
    | cons c cs => rw [perf_one (h.2 c (.head _)) (h'.2 c (.head _))]

noncomputable def LevelIs (x : T) (r : Int) : Prop := (r = -1 ∧ ∀ k, ¬ perf k x) ∨ ∃ k : Nat, r = k ∧ perf k x

theorem restR_is {f : T → Option Int} {x : Nat} : ∀ {cs : List T}, (∀ c ∈ cs, ∃ r, f c = some r ∧ LevelIs c r) →
    (restR f x cs = some (-1) ∧ ∃ c ∈ cs, ¬ perf x c) ∨ (restR f x cs = some ((x : Int) + 1) ∧ ∀ c ∈ cs, perf x c)
  | [], _ => .inr ⟨by rw [restR], fun _ h => nomatch h⟩
  | c :: cs, h => by
    rw [restR]
    obtain ⟨r, hr, hl⟩ := h c (.head _)
    rw [hr]
    by_cases he : r = x
    · subst he
      simp only [ne_eq, not_true, if_false]
      have hp : perf x c := by
        rcases hl with ⟨h1, _⟩ | ⟨k, h1, h2⟩
        · omega
        · rw [show x = k by omega]; exact h2
      rcases restR_is (f := f) (x := x) (cs := cs) (fun c hc => h c (.tail _ hc)) with ⟨h1, c', hc', hn⟩ | ⟨h1, h2⟩
      · exact .inl ⟨h1, c', .tail _ hc', hn⟩
      · refine .inr ⟨h1, fun c' hc' => ?_⟩
        rcases List.mem_cons.mp hc' with rfl | hc'
        · exact hp
        · exact h2 c' hc'
    · refine .inl ⟨if_pos he, c, .head _, fun hp => ?_⟩
      rcases hl with ⟨h1, h2⟩ | ⟨k, h1, h2⟩
      · exact h2 x hp
      · exact he (by rw [h1, perf_one hp h2])

theorem level_fits : ∀ (d : Nat) (x : T), fits d x → ∃ r, levelR d x = some r ∧ LevelIs x r
  | 0, _, h => h.elim
  | d + 1, .mk ks vs [], _ => ⟨0, by rw [levelR], .inr ⟨0, rfl, by rw [perf]⟩⟩
  | d + 1, .mk ks vs (c :: cs), h => by
    rw [levelR]
    obtain ⟨r, hr, hl⟩ := level_fits d c (h c (.head _))
    rw [hr]
    have hcs : ∀ c' ∈ cs, ∃ r, levelR d c' = some r ∧ LevelIs c' r := fun c' hc' => level_fits d c' (h c' (.tail _ hc'))
    rcases hl with ⟨rfl, hn⟩ | ⟨k, rfl, hp⟩
    · refine ⟨-1, by simp, .inl ⟨rfl, fun k hk => ?_⟩⟩
      cases k with
      | zero => rw [perf] at hk; cases hk
      | succ k => rw [perf] at hk; exact hn k (hk.2 c (.head _))
    · have : ¬ ((k : Int) < 0) := by omega
      simp only [this, if_false]
      rcases restR_is (x := k) hcs with ⟨h1, c', hc', hn⟩ | ⟨h1, h2⟩
      · refine ⟨-1, h1, .inl ⟨rfl, fun j hj => ?_⟩⟩
        cases j with
        | zero => rw [perf] at hj; cases hj
        | succ j =>
          rw [perf] at hj
          have := perf_one hp (hj.2 c (.head _))
          subst this
          exact hn (hj.2 c' (.tail _ hc'))
      · refine ⟨_, h1, .inr ⟨k + 1, by omega, ?_⟩⟩
        rw [perf]
        refine ⟨by simp, fun c' hc' => ?_⟩
        rcases List.mem_cons.mp hc' with rfl | hc'
        · exact hp
        · exact h2 c' hc'

/-- the law's own look: a leaf above the last level -/
noncomputable def leafIn (l : List T) : Bool := l.any fun x => decide (x.cs.length = 0)
noncomputable def balBad (ls : List (List T)) : Bool := (ls.take (ls.length - 1)).any leafIn

theorem levels_perf : ∀ (n : Nat) (l : List T), (∀ c ∈ l, fits n c) → l ≠ [] → (balBad (levelsN n l) = false ↔ ∀ c ∈ l, perf ((levelsN n l).length - 1) c)
  | 0, [], _, h => absurd rfl h
  | 0, c :: cs, h, _ => (h c (.head _)).elim
  | n + 1, [], _, h => absurd rfl h
  | n + 1, c :: cs, h, _ => by
    rw [levelsN_cons, List.length_cons, Nat.add_sub_cancel]
    have hf : ∀ x ∈ (c :: cs).flatMap T.cs, fits n x := flat_all.mpr fun x hx => fits_succ.mp (h x hx)
    generalize hl : c :: cs = l at *
    have hne : l ≠ [] := by rw [← hl]; exact fun e => nomatch e
    by_cases he : l.flatMap T.cs = []
    · rw [he, levelsN_nil]
      constructor
      · intro _ x hx
        have := List.flatMap_eq_nil_iff.mp he x hx
        obtain ⟨ks, vs, cs⟩ := x
        show perf 0 _
        rw [perf]; exact this
      · intro _
        simp [balBad]
    · have ih := levels_perf n (l.flatMap T.cs) hf he
      have hpos : 0 < (levelsN n (l.flatMap T.cs)).length := by
        cases n with
        | zero =>
          cases hq : l.flatMap T.cs with
          | nil => exact absurd hq he
          | cons x xs => rw [hq] at hf; exact (hf x (.head _)).elim
        | succ n =>
          cases hq : l.flatMap T.cs with
          | nil => exact absurd hq he
          | cons x xs => rw [levelsN_cons]; simp
      generalize levelsN n (l.flatMap T.cs) = ls at ih hpos
      obtain ⟨k, hk⟩ : ∃ k, ls.length = k + 1 := ⟨ls.length - 1, by omega⟩
      have e : balBad (l :: ls) = (leafIn l || balBad ls) := by
        unfold balBad
        rw [List.length_cons, Nat.add_sub_cancel, hk, Nat.add_sub_cancel, List.take_succ_cons, List.any_cons]
      rw [e, Bool.or_eq_false_iff, ih, hk, Nat.add_sub_cancel, flat_all]
      constructor
      · rintro ⟨h1, h2⟩ x hx
        unfold leafIn at h1
        rw [List.any_eq_false] at h1
        have h3 := h1 x hx
        have h4 := h2 x hx
        obtain ⟨ks, vs, cs⟩ := x
        rw [perf]
        refine ⟨fun e => h3 (by rw [e]; rfl), h4⟩
      · intro h1
        constructor
        · unfold leafIn
          rw [List.any_eq_false]
          intro x hx
          have := h1 x hx
          obtain ⟨ks, vs, cs⟩ := x
          rw [perf] at this
          intro e
          exact this.1 (List.length_eq_zero_iff.mp (of_decide_eq_true e))
        · intro x hx
          have := h1 x hx
          obtain ⟨ks, vs, cs⟩ := x
          rw [perf] at this
          exact this.2

noncomputable def balP (ls : List (List T)) : Int := if balBad ls then -1 else (ls.length : Int) - 1

theorem levels_pos {n : Nat} {x : T} (h : fits n x) : 0 < (levelsN n [x]).length := by
  cases n with
  | zero => exact h.elim
  | succ n => rw [levelsN_cons]; simp

theorem level_bal {n d : Nat} {x : T} (hn : fits n x) (hd : fits d x) : levelR d x = some (balP (levelsN n [x])) := by
  obtain ⟨r, hr, hl⟩ := level_fits d x hd
  rw [hr]
  have hp := levels_perf n [x] (fun c hc => by rw [List.mem_singleton.mp hc]; exact hn) (by simp)
  have hpos := levels_pos hn
  unfold balP
  congr 1
  cases hb : balBad (levelsN n [x]) with
  | true =>
    simp only [if_true]
    rcases hl with ⟨h1, _⟩ | ⟨k, h1, h2⟩
    · exact h1
    · exfalso
      rw [hb] at hp
      -- a perfect tree of height k has k + 1 levels
      have : ∀ (n k : Nat) (x : T), fits n x → perf k x → (levelsN n [x]).length - 1 = k := by
        intro n k x hn hk
        have key : ∀ (k n : Nat) (l : List T), l ≠ [] → (∀ c ∈ l, fits n c) → (∀ c ∈ l, perf k c) → (levelsN n l).length = k + 1 := by
          intro k
          induction k with
          | zero =>
            intro n l hl hf hp
            cases n with
            | zero => cases l with | nil => exact absurd rfl hl | cons c _ => exact (hf c (.head _)).elim
            | succ n =>
              obtain ⟨c, cs, rfl⟩ := List.exists_cons_of_ne_nil hl
              rw [levelsN_cons]
              have : (c :: cs).flatMap T.cs = [] := List.flatMap_eq_nil_iff.mpr fun x hx => by
                have := hp x hx
                obtain ⟨ks, vs, cs⟩ := x
                rw [perf] at this
                exact this
              rw [this, levelsN_nil]; rfl
          | succ k ih =>
            intro n l hl hf hp
            cases n with
            | zero => cases l with | nil => exact absurd rfl hl | cons c _ => exact (hf c (.head _)).elim
            | succ n =>
              obtain ⟨c, cs, rfl⟩ := List.exists_cons_of_ne_nil hl
              rw [levelsN_cons, List.length_cons, ih n]
              · intro he
                have h1 := List.flatMap_eq_nil_iff.mp he c (.head _)
                have h2 := hp c (.head _)
                obtain ⟨ks, vs, cs⟩ := c
                rw [perf] at h2
                exact h2.1 h1
              · exact flat_all.mpr fun x hx => fits_succ.mp (hf x hx)
              · exact flat_all.mpr fun x hx => by
                  have h2 := hp x hx
                  obtain ⟨ks, vs, cs⟩ := x
                  rw [perf] at h2
                  exact h2.2
        rw [key k n [x] (by simp) (fun c hc => by rw [List.mem_singleton.mp hc]; exact hn) (fun c hc => by rw [List.mem_singleton.mp hc]; exact hk)]
        omega
      have e := this n k x hn h2
      have := hp.mpr fun c hc => by rw [List.mem_singleton.mp hc, e]; exact h2
      cases this
  | false =>
    have h3 := hp.mp hb x (by simp)
    simp only [Bool.false_eq_true, if_false]
    rcases hl with ⟨_, h1⟩ | ⟨k, h1, h2⟩
    · exact absurd h3 (h1 _)
    · rw [h1, perf_one h2 h3]; omega

/-! the nests -/
structure Form where
  m : Nat
  count : Nat
  size : Nat
  held : Nat

structure BSt where
  keys : List Int
  kids : List T
  at_ : Nat

noncomputable def leaf (row : List Int) (v : Int) (at_ size : Nat) : T := .mk ((row.drop at_).take size) (List.replicate size v) []

noncomputable def branchStep (row : List Int) (v : Int) (f : Form) (i : Nat) (s : BSt) : BSt :=
  let kids := if i < f.count then s.kids ++ [leaf row v s.at_ f.size] else s.kids
  let at1 := if i < f.count then s.at_ + f.size else s.at_
  { keys := if i < f.m then s.keys ++ [row.getD at1 0] else s.keys, kids := kids, at_ := if i < f.m then at1 + 1 else at1 }

noncomputable def branchSt (row : List Int) (v : Int) (f : Form) (at0 : Nat) : Nat → BSt
  | 0 => ⟨[], [], at0⟩
  | i + 1 => branchStep row v f i (branchSt row v f at0 i)

noncomputable def branchT (row : List Int) (v : Int) (f : Form) (at0 : Nat) : T :=
  let s := branchSt row v f at0 (f.m + 2)
  .mk s.keys (List.replicate f.held v) s.kids

noncomputable def Form.use (f : Form) : Nat := f.count * f.size + f.m

theorem minLt {i n : Nat} (h : i < n) : min (i + 1) n = min i n + 1 := by rw [Nat.min_eq_left h, Nat.min_eq_left (Nat.le_of_lt h)]
theorem minGe {i n : Nat} (h : ¬ i < n) : min (i + 1) n = min i n := by rw [Nat.min_eq_right (Nat.le_of_not_lt h), Nat.min_eq_right (Nat.le_succ_of_le (Nat.le_of_not_lt h))]
theorem ar1 (a b c d : Nat) : a + b + c + d + 1 = a + (b + d) + (c + 1) := by omega
theorem ar3 (a b c d : Nat) : a + b + c + d = a + (b + d) + c := by omega
theorem ar4 (x y o : Nat) : x + y + o + 1 = o + x + (y + 1) := by omega
theorem ar5 (x y o : Nat) : x + y + o = o + x + y := by omega
theorem ar6 (x y g : Nat) : x + y + g + 1 = x + g + (y + 1) := by omega
theorem ar7 (x y g : Nat) : x + y + g = x + g + y := by omega
theorem branch_sizes (row : List Int) (v : Int) (f : Form) (at0 : Nat) : ∀ i, (branchSt row v f at0 i).keys.length = min i f.m ∧ (branchSt row v f at0 i).kids.length = min i f.count ∧
    (branchSt row v f at0 i).at_ = at0 + (min i f.count) * f.size + min i f.m
  | 0 => by simp [branchSt]
  | i + 1 => by
    obtain ⟨h1, h2, h3⟩ := branch_sizes row v f at0 i
    simp only [branchSt, branchStep]
    by_cases hm : i < f.m
    · by_cases hc : i < f.count
      · simp only [if_pos hm, if_pos hc, List.length_append, List.length_singleton, h1, h2, h3, minLt hm, minLt hc, Nat.add_mul, Nat.one_mul]
        exact ⟨trivial, trivial, ar1 _ _ _ _⟩
      · simp only [if_pos hm, if_neg hc, List.length_append, List.length_singleton, h1, h2, h3, minLt hm, minGe hc]
        exact ⟨trivial, trivial, rfl⟩
    · by_cases hc : i < f.count
      · simp only [if_neg hm, if_pos hc, List.length_append, List.length_singleton, h1, h2, h3, minGe hm, minLt hc, Nat.add_mul, Nat.one_mul]
        exact ⟨trivial, trivial, ar3 _ _ _ _⟩
      · simp only [if_neg hm, if_neg hc, h1, h2, h3, minGe hm, minGe hc]
        exact ⟨trivial, trivial, trivial⟩

theorem branch_at (row : List Int) (v : Int) (f : Form) (at0 : Nat) (hc : f.count ≤ f.m + 2) : (branchSt row v f at0 (f.m + 2)).at_ = at0 + f.use := by
  have := (branch_sizes row v f at0 (f.m + 2)).2.2
  rw [this, Nat.min_eq_right hc, Nat.min_eq_right (by omega)]
  unfold Form.use; omega

theorem branch_leaves (row : List Int) (v : Int) (f : Form) (at0 : Nat) : ∀ i, ∀ c ∈ (branchSt row v f at0 i).kids, c.cs = []
  | 0 => fun c hc => nomatch hc
  | i + 1 => by
    intro c hc
    simp only [branchSt, branchStep] at hc
    split at hc
    · rcases List.mem_append.mp hc with hc | hc
      · exact branch_leaves row v f at0 i c hc
      · rw [List.mem_singleton.mp hc]; rfl
    · exact branch_leaves row v f at0 i c hc

theorem weave_nil (ks : List Int) : weave ks [] = ks := by cases ks <;> rw [weave]
theorem weave_kid : ∀ (ks : List Int) (ls : List (List Int)) (l : List Int), ks.length = ls.length → weave ks (ls ++ [l]) = weave ks ls ++ l
  | [], [], l, _ => by simp [weave]
  | [], _ :: _, _, h => by simp at h
  | _ :: _, [], _, h => by simp at h
  | k :: ks, c :: cs, l, h => by
    rw [List.cons_append, weave, weave, weave_kid ks cs l (by simpa using h)]
    simp
theorem weave_key : ∀ (ks : List Int) (ls : List (List Int)) (l : List Int) (k : Int), ks.length = ls.length → weave (ks ++ [k]) (ls ++ [l]) = weave ks ls ++ l ++ [k]
  | [], [], l, k, _ => by simp [weave]
  | [], _ :: _, _, _, h => by simp at h
  | _ :: _, [], _, _, h => by simp at h
  | k' :: ks, c :: cs, l, k, h => by
    rw [List.cons_append, List.cons_append, weave, weave, weave_key ks cs l k (by simpa using h)]
    simp

theorem part_add {row : List Int} {a n k : Nat} : (row.drop a).take n ++ (row.drop (a + n)).take k = (row.drop a).take (n + k) := by
  rw [List.take_add, List.drop_drop]
theorem part_one {row : List Int} {a : Nat} (h : a < row.length) : [row.getD a 0] = (row.drop a).take 1 := by
  rw [List.drop_eq_getElem_cons h, List.take_succ_cons, List.take_zero]
  simp [List.getD, h]

theorem inord_leaf (row : List Int) (v : Int) (a n : Nat) : inord (leaf row v a n) = (row.drop a).take n := by
  rw [leaf, inord, inords, weave_nil]

theorem map_inord {l : List T} : l.map inord = inords l := (inords_eq l).symm

theorem branch_inord_mid {row : List Int} {v : Int} {f : Form} {at0 : Nat} (hm : f.m ≤ f.count) (hr : at0 + f.use ≤ row.length) : ∀ i, i ≤ f.m →
    weave (branchSt row v f at0 i).keys (inords (branchSt row v f at0 i).kids) = (row.drop at0).take (i * f.size + i)
  | 0, _ => by simp [branchSt, inords, weave_nil]
  | i + 1, hi => by
    have ih := branch_inord_mid (v := v) hm hr i (by omega)
    obtain ⟨h1, h2, h3⟩ := branch_sizes row v f at0 i
    rw [Nat.min_eq_left (by omega)] at h1 h2 h3
    rw [Nat.min_eq_left (by omega)] at h3
    have hic : i < f.count := by omega
    have him : i < f.m := by omega
    simp only [branchSt, branchStep, if_pos hic, if_pos him]
    rw [← map_inord, List.map_append, map_inord, List.map_singleton, weave_key _ _ _ _ (by rw [h1, inords_eq, List.length_map, h2]), ih, inord_leaf, h3]
    have hb : (i + 1) * f.size ≤ f.count * f.size := Nat.mul_le_mul_right _ (by omega)
    rw [Nat.add_mul] at hb
    unfold Form.use at hr
    rw [part_one (by omega)]
    have e1 : at0 + i * f.size + i = at0 + (i * f.size + i) := by omega
    rw [e1, part_add]
    have e2 : at0 + (i * f.size + i) + f.size = at0 + (i * f.size + i + f.size) := by omega
    rw [e2, part_add]
    congr 1
    rw [Nat.add_mul]; omega

theorem branch_inord {row : List Int} {v : Int} {f : Form} {at0 : Nat} (hc : f.count ≤ f.m + 1) (h0 : f.count = 0 ∨ f.m ≤ f.count) (hr : at0 + f.use ≤ row.length) :
    inord (branchT row v f at0) = (row.drop at0).take f.use := by
  rw [branchT, inord]
  rcases h0 with h0 | h0
  · -- a leaf
    have hk : ∀ i, i ≤ f.m + 2 → (branchSt row v f at0 i).kids = [] ∧ (branchSt row v f at0 i).keys = (row.drop at0).take (min i f.m) := by
      intro i
      induction i with
      | zero => intro _; simp [branchSt]
      | succ i ih =>
        intro hi
        obtain ⟨a, b⟩ := ih (by omega)
        have h3 := (branch_sizes row v f at0 i).2.2
        simp only [branchSt, branchStep, h0, Nat.not_lt_zero, if_false]
        refine ⟨a, ?_⟩
        split
        · rw [b, h3, h0]
          unfold Form.use at hr
          have : at0 + min i 0 * f.size + min i f.m = at0 + min i f.m := by simp
          rw [this, part_one (by omega), part_add]
          congr 1
          omega
        · rw [b]; congr 1; omega
    obtain ⟨a, b⟩ := hk (f.m + 2) (Nat.le_refl _)
    rw [a, inords, weave_nil, b]
    unfold Form.use
    rw [h0]; simp
  · have hmid := branch_inord_mid (v := v) h0 hr f.m (Nat.le_refl _)
    obtain ⟨h1, h2, h3⟩ := branch_sizes row v f at0 f.m
    have hmc : min f.m f.count = f.m := by omega
    rw [Nat.min_self] at h1
    rw [hmc] at h2
    rw [Nat.min_self, hmc] at h3
    have hlen : (branchSt row v f at0 f.m).keys.length = (inords (branchSt row v f at0 f.m).kids).length := by rw [h1, inords_eq, List.length_map, h2]
    have e : branchSt row v f at0 (f.m + 2) = branchStep row v f (f.m + 1) (branchStep row v f f.m (branchSt row v f at0 f.m)) := rfl
    by_cases hq : f.count = f.m + 1
    · have e1 : branchSt row v f at0 (f.m + 2) = ⟨(branchSt row v f at0 f.m).keys, (branchSt row v f at0 f.m).kids ++ [leaf row v (branchSt row v f at0 f.m).at_ f.size], (branchSt row v f at0 f.m).at_ + f.size⟩ := by
        rw [e]
        simp [branchStep, hq]
      rw [e1]
      simp only
      rw [← map_inord, List.map_append, map_inord, List.map_singleton, weave_kid _ _ _ hlen, hmid, inord_leaf, h3]
      have e2 : at0 + f.m * f.size + f.m = at0 + (f.m * f.size + f.m) := by omega
      rw [e2, part_add]
      unfold Form.use
      rw [hq, Nat.add_mul]
      congr 1; omega
    · have hq' : f.count = f.m := by omega
      have e1 : branchSt row v f at0 (f.m + 2) = branchSt row v f at0 f.m := by
        rw [e]
        have : ¬ f.m + 1 < f.m := by omega
        have h4 : ∀ s : BSt, branchStep row v f f.m s = s := by intro s; simp [branchStep, hq']
        have h5 : ∀ s : BSt, branchStep row v f (f.m + 1) s = s := by intro s; simp [branchStep, hq', this]
        rw [h5, h4]
      rw [e1, hmid]
      unfold Form.use
      rw [hq']

/-- a branch as a nest: its make -/
theorem branchT_cs (row : List Int) (v : Int) (f : Form) (at0 : Nat) : (branchT row v f at0).cs = (branchSt row v f at0 (f.m + 2)).kids := rfl
theorem branchT_ks (row : List Int) (v : Int) (f : Form) (at0 : Nat) : (branchT row v f at0).ks = (branchSt row v f at0 (f.m + 2)).keys := rfl

theorem leaf_fits {c : T} (h : c.cs = []) : fits 1 c := fits_succ.mpr (by rw [h]; exact fun _ h => nomatch h)
theorem branch_fits (row : List Int) (v : Int) (f : Form) (at0 : Nat) : fits 2 (branchT row v f at0) :=
  fits_succ.mpr fun c hc => leaf_fits (branch_leaves row v f at0 (f.m + 2) c hc)

theorem leaf_thin {c : T} (h : c.cs = []) : thin c := by
  obtain ⟨ks, vs, cs⟩ := c
  have h : cs = [] := h
  subst h
  rw [thin, thins]; simp
theorem branch_thin (row : List Int) (v : Int) (f : Form) (at0 : Nat) (hc : f.count ≤ f.m + 1) : thin (branchT row v f at0) := by
  rw [branchT, thin, thins_iff]
  obtain ⟨h1, h2, _⟩ := branch_sizes row v f at0 (f.m + 2)
  exact ⟨by rw [h1, h2]; omega, fun c hc => leaf_thin (branch_leaves row v f at0 (f.m + 2) c hc)⟩

structure NSt where
  keys : List Int
  kids : List T
  at_ : Nat

noncomputable def nestStep (row : List Int) (v : Int) (odd good : Form) (place tall i : Nat) (s : NSt) : NSt :=
  let f := if i = place then odd else good
  let at1 := (branchSt row v f s.at_ (f.m + 2)).at_
  { keys := if i < tall then s.keys ++ [row.getD at1 0] else s.keys, kids := s.kids ++ [branchT row v f s.at_], at_ := if i < tall then at1 + 1 else at1 }

noncomputable def nestSt (row : List Int) (v : Int) (odd good : Form) (place tall : Nat) : Nat → NSt
  | 0 => ⟨[], [], 0⟩
  | i + 1 => nestStep row v odd good place tall i (nestSt row v odd good place tall i)

noncomputable def nest0 (row : List Int) (v : Int) (odd good : Form) (place tall : Nat) : T :=
  let s := nestSt row v odd good place tall (tall + 1)
  if tall = 0 then s.kids.getD 0 (.mk [] [] []) else .mk s.keys (List.replicate tall v) s.kids

structure WSt where
  order : List Int
  node : T
  top : Int

noncomputable def wrapStep (v : Int) (s : WSt) : WSt :=
  { order := s.order ++ [s.top + 1] ++ [s.top + 2], node := .mk [s.top + 1] [v] [s.node, .mk [s.top + 2] [v] []], top := s.top + 2 }
noncomputable def wrapSt (v : Int) (s : WSt) : Nat → WSt
  | 0 => s
  | n + 1 => wrapStep v (wrapSt v s n)

noncomputable def lidT (lid : Bool) (x : T) : T := if lid then .mk [] [] [x] else x

structure NestOk (row : List Int) (odd good : Form) (place tall : Nat) : Prop where
  oc : odd.count ≤ odd.m + 2
  o0 : odd.count = 0 ∨ odd.m ≤ odd.count
  gc : good.count = 0 ∨ good.count = good.m + 1
  pl : place ≤ tall
  room : odd.use + tall * good.use + tall < row.length

theorem nest_at {row : List Int} {v : Int} {odd good : Form} {place tall : Nat} (h : NestOk row odd good place tall) : ∀ i, i ≤ tall + 1 →
    (nestSt row v odd good place tall i).at_ = (if place < i then odd.use + (i - 1) * good.use else i * good.use) + min i tall
  | 0, _ => by simp [nestSt]
  | i + 1, hi => by
    have ih := nest_at (v := v) h i (by omega)
    simp only [nestSt, nestStep]
    have hb : ∀ a, (branchSt row v odd a (odd.m + 2)).at_ = a + odd.use := fun a => branch_at _ _ _ _ h.oc
    have hg : ∀ a, (branchSt row v good a (good.m + 2)).at_ = a + good.use := fun a => branch_at _ _ _ _ (by have := h.gc; omega)
    by_cases hp : i = place
    · subst hp
      simp only [if_true, hb, ih, Nat.lt_irrefl, if_false, Nat.lt_succ_self, Nat.add_sub_cancel]
      by_cases ht : i < tall
      · rw [if_pos ht, minLt ht]; exact ar4 _ _ _
      · rw [if_neg ht, minGe ht]; exact ar5 _ _ _
    · simp only [if_neg hp, hg, ih]
      by_cases hlt : place < i
      · simp only [if_pos hlt, if_pos (show place < i + 1 from Nat.lt_succ_of_lt hlt), Nat.add_sub_cancel]
        have e : i * good.use = (i - 1) * good.use + good.use := by
          obtain ⟨j, rfl⟩ : ∃ j, i = j + 1 := ⟨i - 1, by omega⟩
          rw [Nat.add_sub_cancel, Nat.add_mul, Nat.one_mul]
        rw [e]
        by_cases ht : i < tall
        · rw [if_pos ht, minLt ht]; exact ar1 _ _ _ _
        · rw [if_neg ht, minGe ht]; exact ar3 _ _ _ _
      · simp only [if_neg hlt, if_neg (show ¬ place < i + 1 by omega), Nat.add_mul, Nat.one_mul]
        by_cases ht : i < tall
        · rw [if_pos ht, minLt ht]; exact ar6 _ _ _
        · rw [if_neg ht, minGe ht]; exact ar7 _ _ _

theorem nest_at_le {row : List Int} {v : Int} {odd good : Form} {place tall : Nat} (h : NestOk row odd good place tall) {i : Nat} (hi : i ≤ tall) :
    (nestSt row v odd good place tall i).at_ + (if i = place then odd else good).use + (if i < tall then 1 else 0) ≤ odd.use + tall * good.use + tall := by
  rw [nest_at h i (by omega)]
  have h1 : i * good.use ≤ tall * good.use := Nat.mul_le_mul_right _ hi
  have hpl := h.pl
  by_cases hp : i = place
  · subst hp
    simp only [if_true, Nat.lt_irrefl, if_false]
    split <;> omega
  · simp only [if_neg hp]
    by_cases hlt : place < i
    · have e : i * good.use = (i - 1) * good.use + good.use := by
        obtain ⟨j, rfl⟩ : ∃ j, i = j + 1 := ⟨i - 1, by omega⟩
        rw [Nat.add_sub_cancel, Nat.add_mul]; omega
      simp only [if_pos hlt]
      split <;> omega
    · have h2 : (i + 1) * good.use ≤ tall * good.use := Nat.mul_le_mul_right _ (by omega)
      rw [Nat.add_mul] at h2
      simp only [if_neg hlt]
      split <;> omega

theorem nest_len (row : List Int) (v : Int) (odd good : Form) (place tall : Nat) : ∀ i, (nestSt row v odd good place tall i).kids.length = i ∧ (nestSt row v odd good place tall i).keys.length = min i tall
  | 0 => by simp [nestSt]
  | i + 1 => by
    obtain ⟨h1, h2⟩ := nest_len row v odd good place tall i
    simp only [nestSt, nestStep]
    refine ⟨by simp [h1], ?_⟩
    split <;> simp only [List.length_append, List.length_singleton, h2] <;> omega

theorem nest_kid {row : List Int} {v : Int} {odd good : Form} {place tall : Nat} : ∀ {i : Nat} {c : T}, c ∈ (nestSt row v odd good place tall i).kids → ∃ (f : Form) (a : Nat), (f = odd ∨ f = good) ∧ c = branchT row v f a
  | 0, _, hc => nomatch hc
  | i + 1, c, hc => by
    simp only [nestSt, nestStep] at hc
    rcases List.mem_append.mp hc with hc | hc
    · exact nest_kid hc
    · rw [List.mem_singleton.mp hc]
      refine ⟨_, _, ?_, rfl⟩
      split
      · exact .inl rfl
      · exact .inr rfl

theorem nest_inord_mid {row : List Int} {v : Int} {odd good : Form} {place tall : Nat} (h : NestOk row odd good place tall) (ht : odd.count ≤ odd.m + 1) : ∀ i, i ≤ tall + 1 →
    weave (nestSt row v odd good place tall i).keys (inords (nestSt row v odd good place tall i).kids) = row.take (nestSt row v odd good place tall i).at_
  | 0, _ => by simp [nestSt, inords, weave_nil]
  | i + 1, hi => by
    have ih := nest_inord_mid (v := v) h ht i (by omega)
    obtain ⟨h1, h2⟩ := nest_len row v odd good place tall i
    have hle := nest_at_le (v := v) h (i := i) (by omega)
    have hroom := h.room
    simp only [nestSt, nestStep]
    generalize hs : nestSt row v odd good place tall i = s at *
    have hfc : (if i = place then odd else good).count ≤ (if i = place then odd else good).m + 1 := by
      split
      · exact ht
      · have := h.gc; omega
    have hf0 : (if i = place then odd else good).count = 0 ∨ (if i = place then odd else good).m ≤ (if i = place then odd else good).count := by
      split
      · exact h.o0
      · have := h.gc; omega
    generalize (if i = place then odd else good) = f at *
    have hb := branch_at row v f s.at_ (by omega)
    have hin := branch_inord (row := row) (v := v) (f := f) (at0 := s.at_) hfc hf0 (by split at hle <;> omega)
    have hlen : s.keys.length = (inords s.kids).length := by rw [inords_eq, List.length_map, h1, h2]; omega
    rw [← map_inord, List.map_append, map_inord, List.map_singleton, hb]
    have e0 : ∀ n, row.take n = (row.drop 0).take n := fun n => by rw [List.drop_zero]
    split
    · rename_i hlt
      rw [weave_key _ _ _ _ hlen, ih, hin, part_one (by simp only [if_pos hlt] at hle; omega), e0, e0]
      have e1 : (row.drop s.at_).take f.use = (row.drop (0 + s.at_)).take f.use := by rw [Nat.zero_add]
      rw [e1, part_add]
      have e2 : (row.drop (s.at_ + f.use)).take 1 = (row.drop (0 + (s.at_ + f.use))).take 1 := by rw [Nat.zero_add]
      rw [e2, part_add]
    · rw [weave_kid _ _ _ hlen, ih, hin, e0, e0]
      have e1 : (row.drop s.at_).take f.use = (row.drop (0 + s.at_)).take f.use := by rw [Nat.zero_add]
      rw [e1, part_add]

theorem nest_inord {row : List Int} {v : Int} {odd good : Form} {place tall : Nat} (h : NestOk row odd good place tall) (ht : odd.count ≤ odd.m + 1) :
    inord (nest0 row v odd good place tall) = row.take (nestSt row v odd good place tall (tall + 1)).at_ := by
  have := nest_inord_mid (v := v) h ht (tall + 1) (Nat.le_refl _)
  unfold nest0
  by_cases h0 : tall = 0
  · subst h0
    simp only [if_true]
    rw [← this]
    obtain ⟨h1, h2⟩ := nest_len row v odd good place 0 (0 + 1)
    generalize nestSt row v odd good place 0 (0 + 1) = s at *
    obtain ⟨keys, kids, a⟩ := s
    simp only at h1 h2 ⊢
    match kids, h1 with
    | [c], _ =>
      have hk : keys = [] := List.length_eq_zero_iff.mp (by rw [h2]; omega)
      subst hk
      rw [inords, inords, weave, weave, List.append_nil]
      rfl
  · simp only [if_neg h0]
    rw [inord, this]

theorem nest_fits (row : List Int) (v : Int) (odd good : Form) (place tall : Nat) : fits 3 (nest0 row v odd good place tall) := by
  unfold nest0
  by_cases h0 : tall = 0
  · simp only [if_pos h0]
    have h1 := (nest_len row v odd good place tall (tall + 1)).1
    have hk := fun c => nest_kid (row := row) (v := v) (odd := odd) (good := good) (place := place) (tall := tall) (i := tall + 1) (c := c)
    generalize nestSt row v odd good place tall (tall + 1) = s at *
    obtain ⟨keys, kids, a⟩ := s
    cases kids with
    | nil => simp at h1
    | cons c cs =>
      obtain ⟨f, a, _, rfl⟩ := hk c (.head _)
      exact fits_mono (by omega) (branch_fits row v f a)
  · simp only [if_neg h0]
    intro c hc
    obtain ⟨f, a, _, rfl⟩ := nest_kid hc
    exact branch_fits row v f a

theorem nest_thin {row : List Int} {v : Int} {odd good : Form} {place tall : Nat} (h : NestOk row odd good place tall) (ht : odd.count ≤ odd.m + 1) : thin (nest0 row v odd good place tall) := by
  have hb : ∀ c ∈ (nestSt row v odd good place tall (tall + 1)).kids, thin c := by
    intro c hc
    obtain ⟨f, a, hf, rfl⟩ := nest_kid hc
    refine branch_thin row v f a ?_
    rcases hf with rfl | rfl
    · exact ht
    · have := h.gc; omega
  obtain ⟨h1, h2⟩ := nest_len row v odd good place tall (tall + 1)
  unfold nest0
  by_cases h0 : tall = 0
  · simp only [if_pos h0]
    generalize nestSt row v odd good place tall (tall + 1) = s at *
    obtain ⟨keys, kids, a⟩ := s
    cases kids with
    | nil => simp at h1
    | cons c cs => exact hb c (.head _)
  · simp only [if_neg h0]
    rw [thin, thins_iff]
    exact ⟨by rw [h1, h2]; omega, hb⟩

/-! too deep for leaf_level: it is told each time -/
noncomputable def honest (x : T) : Prop := ∀ d, ¬ fits d x → levelR d x = none

theorem levelR_cons (d : Nat) (ks vs : List Int) (c : T) (cs : List T) (h : levelR d c = none) : levelR (d + 1) (.mk ks vs (c :: cs)) = none := by rw [levelR, h]
theorem levelR_leaf (d : Nat) {c : T} (h : c.cs = []) : levelR (d + 1) c = some 0 := by
  obtain ⟨ks, vs, cs⟩ := c
  have h : cs = [] := h
  subst h
  rw [levelR]
theorem levelR_zero (x : T) : levelR 0 x = none := by rw [levelR]
theorem leaf_fits' {d : Nat} {c : T} (h : c.cs = []) : fits (d + 1) c := fits_succ.mpr (by rw [h]; exact fun _ h => nomatch h)

theorem honest_wrap {ks vs : List Int} {x y : T} (hx : honest x) (hy : y.cs = []) : honest (.mk ks vs [x, y]) := by
  intro d hd
  cases d with
  | zero => exact levelR_zero _
  | succ d =>
    refine levelR_cons _ _ _ _ _ (hx d fun hf => hd ?_)
    intro c hc
    rcases List.mem_cons.mp hc with rfl | hc
    · exact hf
    · rw [List.mem_singleton.mp hc]
      cases d with
      | zero => exact hf.elim
      | succ d => exact leaf_fits' hy
theorem honest_lid {x : T} (hx : honest x) : honest (.mk [] [] [x]) := by
  intro d hd
  cases d with
  | zero => exact levelR_zero _
  | succ d =>
    refine levelR_cons _ _ _ _ _ (hx d fun hf => hd ?_)
    intro c hc
    rw [List.mem_singleton.mp hc]; exact hf

theorem honest_branch {x : T} (h : ∀ c ∈ x.cs, c.cs = []) : honest x := by
  intro d hd
  cases d with
  | zero => exact levelR_zero _
  | succ d =>
    obtain ⟨ks, vs, cs⟩ := x
    cases cs with
    | nil => exact absurd (fun c hc => nomatch hc) hd
    | cons c cs =>
      cases d with
      | zero => exact levelR_cons _ _ _ _ _ (levelR_zero _)
      | succ d => exact absurd (fun c hc => leaf_fits' (h c hc)) hd

theorem restR_none {cs : List T} (h : ∀ c ∈ cs, levelR 1 c = some 0 ∨ levelR 1 c = none) (hx : ∃ c ∈ cs, levelR 1 c = none) : restR (levelR 1) 0 cs = none := by
  induction cs with
  | nil => obtain ⟨_, h, _⟩ := hx; cases h
  | cons c cs ih =>
    rw [restR]
    rcases h c (.head _) with h1 | h1
    · rw [h1]
      obtain ⟨y, hy, hn⟩ := hx
      rcases List.mem_cons.mp hy with rfl | hy
      · rw [h1] at hn; cases hn
      · simpa using ih (fun c hc => h c (.tail _ hc)) ⟨y, hy, hn⟩
    · rw [h1]

theorem level_one {x : T} : levelR 1 x = some 0 ∨ levelR 1 x = none := by
  obtain ⟨ks, vs, cs⟩ := x
  cases cs with
  | nil => left; rw [levelR]
  | cons c cs => right; exact levelR_cons _ _ _ _ _ (levelR_zero _)
theorem level_one_none {x : T} (h : x.cs ≠ []) : levelR 1 x = none := by
  obtain ⟨ks, vs, cs⟩ := x
  cases cs with
  | nil => exact absurd rfl h
  | cons c cs => exact levelR_cons _ _ _ _ _ (levelR_zero _)

theorem honest_nest {ks vs : List Int} {cs : List T} (h : ∀ c ∈ cs, ∀ y ∈ c.cs, y.cs = []) : honest (.mk ks vs cs) := by
  intro d hd
  cases d with
  | zero => exact levelR_zero _
  | succ d =>
    cases cs with
    | nil => exact absurd (fun c hc => nomatch hc) hd
    | cons c cs =>
      cases d with
      | zero => exact levelR_cons _ _ _ _ _ (levelR_zero _)
      | succ d =>
        cases d with
        | succ d => exact absurd (fun c hc => fits_succ.mpr fun y hy => leaf_fits' (h c hc y hy)) hd
        | zero =>
          have hx : ∃ y ∈ c :: cs, y.cs ≠ [] := Classical.byContradiction fun hn => hd fun y hy => leaf_fits' (Classical.byContradiction fun h' => hn ⟨y, hy, h'⟩)
          rw [levelR]
          rcases level_one (x := c) with h1 | h1
          · rw [h1]
            simp only [Int.lt_irrefl, if_false]
            obtain ⟨y, hy, hn⟩ := hx
            refine restR_none (fun c _ => level_one) ⟨y, ?_, level_one_none hn⟩
            rcases List.mem_cons.mp hy with rfl | hy
            · rw [level_one_none hn] at h1; cases h1
            · exact hy
          · rw [h1]

theorem nest_honest (row : List Int) (v : Int) (odd good : Form) (place tall : Nat) : honest (nest0 row v odd good place tall) := by
  have hk : ∀ c ∈ (nestSt row v odd good place tall (tall + 1)).kids, ∀ y ∈ c.cs, y.cs = [] := by
    intro c hc y hy
    obtain ⟨f, a, _, rfl⟩ := nest_kid hc
    exact branch_leaves row v f a _ y hy
  have h1 := (nest_len row v odd good place tall (tall + 1)).1
  unfold nest0
  by_cases h0 : tall = 0
  · simp only [if_pos h0]
    generalize nestSt row v odd good place tall (tall + 1) = s at *
    obtain ⟨keys, kids, a⟩ := s
    cases kids with
    | nil => simp at h1
    | cons c cs => exact honest_branch (hk c (.head _))
  · simp only [if_neg h0]
    exact honest_nest hk

/-! the spine -/
theorem wrap_fits {v : Int} {s : WSt} {d : Nat} (h : fits d s.node) (hd : 0 < d) : ∀ n, fits (d + n) (wrapSt v s n).node
  | 0 => h
  | n + 1 => by
    rw [← Nat.add_assoc, wrapSt, wrapStep]
    intro c hc
    rcases List.mem_cons.mp hc with rfl | hc
    · exact wrap_fits h hd n
    · rw [List.mem_singleton.mp hc]
      obtain ⟨k, hk⟩ : ∃ k, d + n = k + 1 := ⟨d + n - 1, by omega⟩
      rw [hk]; exact leaf_fits' rfl
theorem wrap_honest {v : Int} {s : WSt} (h : honest s.node) : ∀ n, honest (wrapSt v s n).node
  | 0 => h
  | n + 1 => honest_wrap (wrap_honest h n) rfl
theorem wrap_thin {v : Int} {s : WSt} : ∀ n, thin (wrapSt v s n).node ↔ thin s.node
  | 0 => Iff.rfl
  | n + 1 => by
    rw [wrapSt, wrapStep, thin, thins_iff]
    constructor
    · intro h; exact (wrap_thin n).mp (h.2 _ (.head _))
    · intro h
      refine ⟨by simp, fun c hc => ?_⟩
      rcases List.mem_cons.mp hc with rfl | hc
      · exact (wrap_thin n).mpr h
      · rw [List.mem_singleton.mp hc]; exact leaf_thin rfl
theorem wrap_inord {v : Int} {s : WSt} (h : inord s.node = s.order) : ∀ n, inord (wrapSt v s n).node = (wrapSt v s n).order
  | 0 => h
  | n + 1 => by
    rw [wrapSt, wrapStep, inord, inords, inords, inords, wrap_inord h n, inord, inords, weave, weave, weave, weave_nil]
    simp

theorem lid_fits {lid : Bool} {x : T} {d : Nat} (h : fits d x) : fits (d + 1) (lidT lid x) := by
  cases lid with
  | false => exact fits_mono (Nat.le_succ _) h
  | true => intro c hc; rw [List.mem_singleton.mp hc]; exact h
theorem lid_honest {lid : Bool} {x : T} (h : honest x) : honest (lidT lid x) := by
  cases lid with
  | false => exact h
  | true => exact honest_lid h
theorem lid_thin {lid : Bool} {x : T} : thin (lidT lid x) ↔ thin x := by
  cases lid with
  | false => exact Iff.rfl
  | true =>
    rw [show lidT true x = .mk [] [] [x] from rfl, thin, thins, thins]
    simp
theorem lid_inord {lid : Bool} {x : T} : inord (lidT lid x) = inord x := by
  cases lid with
  | false => rfl
  | true =>
    rw [show lidT true x = .mk [] [] [x] from rfl, inord, inords, inords, weave, weave_nil, List.append_nil]

theorem nest_thin_odd {row : List Int} {v : Int} {odd good : Form} {place tall : Nat} (hp : place ≤ tall) (h : thin (nest0 row v odd good place tall)) : odd.count ≤ odd.m + 1 := by
  have hmem : ∀ i, place < i → ∃ a, branchT row v odd a ∈ (nestSt row v odd good place tall i).kids := by
    intro i
    induction i with
    | zero => intro h; omega
    | succ i ih =>
      intro hi
      simp only [nestSt, nestStep]
      by_cases he : i = place
      · exact ⟨(nestSt row v odd good place tall i).at_, by simp [he]⟩
      · obtain ⟨a, ha⟩ := ih (by omega)
        exact ⟨a, List.mem_append.mpr (.inl ha)⟩
  obtain ⟨a, ha⟩ := hmem (tall + 1) (by omega)
  have h1 := (nest_len row v odd good place tall (tall + 1)).1
  have hth : thin (branchT row v odd a) := by
    unfold nest0 at h
    by_cases h0 : tall = 0
    · simp only [if_pos h0] at h
      generalize nestSt row v odd good place tall (tall + 1) = s at *
      obtain ⟨keys, kids, a'⟩ := s
      subst h0
      match kids, h1 with
      | [c], _ => rw [List.mem_singleton.mp ha]; exact h
    · simp only [if_neg h0] at h
      rw [thin, thins_iff] at h
      exact h.2 _ ha
  rw [branchT, thin] at hth
  obtain ⟨h3, h4, _⟩ := branch_sizes row v odd a (odd.m + 2)
  have := hth.1
  rw [h3, h4] at this
  omega

/-! the whole -/
structure Nest where
  row : List Int
  v : Int
  odd : Form
  good : Form
  place : Nat
  tall : Nat
  wraps : Nat
  lid : Bool

noncomputable def Nest.start (n : Nest) : WSt :=
  { order := n.row.take (nestSt n.row n.v n.odd n.good n.place n.tall (n.tall + 1)).at_, node := nest0 n.row n.v n.odd n.good n.place n.tall, top := n.row.getD 51 0 }
noncomputable def Nest.wrapped (n : Nest) : WSt := wrapSt n.v n.start n.wraps
noncomputable def Nest.tree (n : Nest) : T := lidT n.lid n.wrapped.node
noncomputable def Nest.order (n : Nest) : List Int := n.wrapped.order
structure Nest.Ok (n : Nest) : Prop where
  ok : NestOk n.row n.odd n.good n.place n.tall
  wr : n.wraps ≤ 63

theorem Nest.fits (n : Nest) (h : n.Ok) : fits 70 n.tree := by
  have h1 := lid_fits (lid := n.lid) (wrap_fits (v := n.v) (s := n.start) (d := 3) (nest_fits _ _ _ _ _ _) (by omega) n.wraps)
  exact fits_mono (by have := h.wr; omega) h1
theorem Nest.honest (n : Nest) : honest n.tree := lid_honest (wrap_honest (nest_honest _ _ _ _ _ _) _)
theorem Nest.thin_iff (n : Nest) (h : n.Ok) : thin n.tree ↔ n.odd.count ≤ n.odd.m + 1 := by
  rw [Nest.tree, lid_thin, Nest.wrapped, wrap_thin]
  exact ⟨nest_thin_odd h.ok.pl, nest_thin h.ok⟩
theorem Nest.inord (n : Nest) (h : n.Ok) (ht : n.odd.count ≤ n.odd.m + 1) : inord n.tree = n.order := by
  rw [Nest.tree, lid_inord]
  exact wrap_inord (nest_inord h.ok ht) _

noncomputable def Nest.levels (n : Nest) : List (List T) := levelsN 70 [n.tree]

/-- 'deep' or the word: what may be said -/
noncomputable def Due {α : Type} (r : Option α) (due : α) (len depth : Nat) (no : Prop) : Prop :=
  (len ≤ depth → r = some due) ∧ (¬ len ≤ depth → r = none ∨ (no ∧ r = some due))

theorem Nest.fits_iff (n : Nest) (h : n.Ok) (d : Nat) : n.levels.length ≤ d ↔ Mine.fits d n.tree := by
  have := levels_length 70 d [n.tree] fun c hc => by rw [List.mem_singleton.mp hc]; exact n.fits h
  rw [Nest.levels, this]
  simp

theorem Nest.sizes (n : Nest) (h : n.Ok) (t : Int) (root : Bool) : sizesP t (if root then 0 else t - 1) n.levels = Mine.good t root n.tree := by
  have := sizes_good t 70 [n.tree] root fun c hc => by rw [List.mem_singleton.mp hc]; exact n.fits h
  rw [Nest.levels, this]
  simp

theorem Nest.shape (n : Nest) (h : n.Ok) (t : Int) (root : Bool) (d : Nat) :
    Due (shapeR t d root n.tree) (sizesP t (if root then 0 else t - 1) n.levels) n.levels.length d (sizesP t (if root then 0 else t - 1) n.levels = false) := by
  rw [n.sizes h]
  constructor
  · intro hl; exact shape_fits t d root _ ((n.fits_iff h d).mp hl)
  · intro hl
    rcases shape_deep t d root _ (fun hf => hl ((n.fits_iff h d).mpr hf)) with h1 | ⟨h1, h2⟩
    · exact .inl h1
    · exact .inr ⟨h2, by rw [h1, h2]⟩

theorem Nest.keys (n : Nest) (h : n.Ok) (ht : n.odd.count ≤ n.odd.m + 1) (lo hi : Option Int) (d : Nat) (hn : n.order ≠ [] ∨ ltO lo hi) :
    Due (keysR d lo hi n.tree) (orderP (lo.toList ++ n.order ++ hi.toList)) n.levels.length d (orderP (lo.toList ++ n.order ++ hi.toList) = false) := by
  have hk := keys_say d n.tree lo hi ((n.thin_iff h).mpr ht) (by rw [n.inord h ht]; exact hn)
  rw [n.inord h ht] at hk
  rw [orderP_eq]
  constructor
  · intro hl; exact hk.1 ((n.fits_iff h d).mp hl)
  · intro hl
    rcases hk.2 (fun hf => hl ((n.fits_iff h d).mpr hf)) with h1 | ⟨h1, h2⟩
    · exact .inl h1
    · have e : decide (List.Pairwise (· < ·) (lo.toList ++ n.order ++ hi.toList)) = false := decide_eq_false h2
      exact .inr ⟨e, by rw [h1, e]⟩

theorem Nest.level (n : Nest) (h : n.Ok) (d : Nat) : Due (levelR d n.tree) (balP n.levels) n.levels.length d False := by
  constructor
  · intro hl; exact level_bal (n.fits h) ((n.fits_iff h d).mp hl)
  · intro hl; exact .inl (n.honest d fun hf => hl ((n.fits_iff h d).mpr hf))

noncomputable def isB (t : Int) (x : T) : Option Bool :=
  match shapeR t 64 true x with
  | none => none
  | some false => some false
  | some true => match keysR 64 none none x with
    | none => none
    | some false => some false
    | some true => match levelR 64 x with
      | none => none
      | some r => some (decide (r ≥ 0))

theorem Nest.whole (n : Nest) (h : n.Ok) (t : Int) :
    Due (isB t n.tree) (sizesP t 0 n.levels && (orderP n.order && decide (balP n.levels ≠ -1))) n.levels.length 64 (sizesP t 0 n.levels = false) := by
  have hs := n.shape h t true 64
  simp only [if_true] at hs
  constructor
  · intro hl
    unfold isB
    rw [hs.1 hl]
    cases hz : sizesP t 0 n.levels with
    | false => rfl
    | true =>
      have hg : Mine.good t true n.tree = true := by rw [← n.sizes h, if_pos rfl, hz]
      have ht := (n.thin_iff h).mp (good_thin t 70 true _ (n.fits h) hg)
      have hk := (n.keys h ht none none 64 (.inr trivial)).1 hl
      simp only [Option.toList, List.nil_append, List.append_nil] at hk
      rw [hk]
      cases ho : orderP n.order with
      | false => rfl
      | true =>
        rw [(n.level h 64).1 hl]
        simp only [Bool.true_and]
        congr 1
        rw [decide_eq_decide]
        unfold balP
        have := levels_pos (n.fits h)
        split
        · omega
        · unfold Nest.levels; omega
  · intro hl
    rcases hs.2 hl with h1 | ⟨h1, h2⟩
    · left; unfold isB; rw [h1]
    · right
      refine ⟨h1, ?_⟩
      unfold isB
      rw [h2, h1]; rfl

theorem good_keys_thin (t : Int) (n : Nest) (hs : shapeR t 64 true n.tree = some true) : thin n.tree := by
  by_cases hf : Mine.fits 64 n.tree
  · rw [shape_fits t 64 true _ hf] at hs
    exact good_thin t 64 true _ hf (Option.some.inj hs)
  · rcases shape_deep t 64 true _ hf with h1 | ⟨h1, _⟩
    · rw [h1] at hs; cases hs
    · rw [h1] at hs; cases hs
end Mine

namespace Mine
open PySem PySem.W PySem.Calls PyProof.Rows

/-! data and how a heap bears them -/
mutual
noncomputable def Rep (P : Addr → Obj → Prop) : PyData → Value → Prop
  | .none, v => v = .none
  | .bool b, v => v = .bool b
  | .int i, v => ∃ t, v = .int i t
  | .str x, v => ∃ t, v = .str x t
  | .list ds, v => ∃ a o vs n, v = .ref a ∧ P a o ∧ o.cls = .type "list" ∧ o.data = .seq vs n ∧ RepAll P ds vs.toList
  | .tuple ds, v => ∃ a o vs n, v = .ref a ∧ P a o ∧ o.cls = .type "tuple" ∧ o.data = .seq vs n ∧ RepAll P ds vs.toList
  | .dict _, _ => False
noncomputable def RepAll (P : Addr → Obj → Prop) : List PyData → List Value → Prop
  | [], vs => vs = []
  | d :: ds, vs => ∃ v r, vs = v :: r ∧ Rep P d v ∧ RepAll P ds r
end

mutual
theorem Rep.monoS {P P' : Addr → Obj → Prop} (h : ∀ a o vs n, o.data = .seq vs n → P a o → P' a o) : ∀ (d : PyData) {v : Value}, Rep P d v → Rep P' d v
  | .none, _, r => by rw [Rep] at r ⊢; exact r
  | .bool _, _, r => by rw [Rep] at r ⊢; exact r
  | .int _, _, r => by rw [Rep] at r ⊢; exact r
  | .str _, _, r => by rw [Rep] at r ⊢; exact r
  | .list ds, _, r => by
    rw [Rep] at r ⊢
    obtain ⟨a, o, vs, n, e, hp, hc, hd, hr⟩ := r
    exact ⟨a, o, vs, n, e, h _ _ _ _ hd hp, hc, hd, RepAll.monoS h ds hr⟩
  | .tuple ds, _, r => by
    rw [Rep] at r ⊢
    obtain ⟨a, o, vs, n, e, hp, hc, hd, hr⟩ := r
    exact ⟨a, o, vs, n, e, h _ _ _ _ hd hp, hc, hd, RepAll.monoS h ds hr⟩
  | .dict _, _, r => by rw [Rep] at r; exact r.elim
theorem RepAll.monoS {P P' : Addr → Obj → Prop} (h : ∀ a o vs n, o.data = .seq vs n → P a o → P' a o) : ∀ (ds : List PyData) {vs : List Value}, RepAll P ds vs → RepAll P' ds vs
  | [], _, r => by rw [RepAll] at r ⊢; exact r
  | d :: ds, _, r => by
    rw [RepAll] at r ⊢
    obtain ⟨v, q, e, h1, h2⟩ := r
    exact ⟨v, q, e, Rep.monoS h d h1, RepAll.monoS h ds h2⟩
end
theorem Rep.mono {P P' : Addr → Obj → Prop} (h : ∀ a o, P a o → P' a o) (d : PyData) {v : Value} (r : Rep P d v) : Rep P' d v := Rep.monoS (fun a o _ _ _ => h a o) d r
theorem RepAll.mono {P P' : Addr → Obj → Prop} (h : ∀ a o, P a o → P' a o) (ds : List PyData) {vs : List Value} (r : RepAll P ds vs) : RepAll P' ds vs := RepAll.monoS (fun a o _ _ _ => h a o) ds r

theorem RepAll.nil {P : Addr → Obj → Prop} : RepAll P [] [] := by rw [RepAll]
theorem RepAll.cons {P : Addr → Obj → Prop} {d : PyData} {ds : List PyData} {v : Value} {vs : List Value} (h : Rep P d v) (r : RepAll P ds vs) : RepAll P (d :: ds) (v :: vs) := by
  rw [RepAll]; exact ⟨v, vs, rfl, h, r⟩
theorem RepAll.uncons {P : Addr → Obj → Prop} {d : PyData} {ds : List PyData} {v : Value} {vs : List Value} (h : RepAll P (d :: ds) (v :: vs)) : Rep P d v ∧ RepAll P ds vs := by
  rw [RepAll] at h
  obtain ⟨v', r, e, h1, h2⟩ := h
  cases e; exact ⟨h1, h2⟩
theorem RepAll.length {P : Addr → Obj → Prop} : ∀ {ds : List PyData} {vs : List Value}, RepAll P ds vs → vs.length = ds.length
  | [], _, r => by rw [RepAll] at r; rw [r]; rfl
  | d :: ds, _, r => by
    rw [RepAll] at r
    obtain ⟨v, q, rfl, _, h⟩ := r
    rw [List.length_cons, List.length_cons, h.length]
theorem RepAll.append {P : Addr → Obj → Prop} : ∀ {ds es : List PyData} {vs us : List Value}, RepAll P ds vs → RepAll P es us → RepAll P (ds ++ es) (vs ++ us)
  | [], _, _, _, r, q => by rw [RepAll] at r; subst r; exact q
  | d :: ds, _, _, _, r, q => by
    rw [RepAll] at r
    obtain ⟨v, t, rfl, h1, h2⟩ := r
    exact .cons h1 (h2.append q)
theorem RepAll.get {P : Addr → Obj → Prop} : ∀ {ds : List PyData} {vs : List Value} {i : Nat} {d : PyData}, RepAll P ds vs → ds[i]? = some d → ∃ v, vs[i]? = some v ∧ Rep P d v
  | [], _, i, _, _, e => by simp at e
  | d :: ds, _, 0, d', r, e => by
    rw [RepAll] at r
    obtain ⟨v, t, rfl, h1, _⟩ := r
    simp at e
    subst e
    exact ⟨v, rfl, h1⟩
  | d :: ds, _, i + 1, d', r, e => by
    rw [RepAll] at r
    obtain ⟨v, t, rfl, _, h2⟩ := r
    simp at e
    obtain ⟨u, hu, hr⟩ := h2.get e
    exact ⟨u, by simpa using hu, hr⟩
theorem RepAll.take {P : Addr → Obj → Prop} : ∀ {ds : List PyData} {vs : List Value} (n : Nat), RepAll P ds vs → RepAll P (ds.take n) (vs.take n)
  | [], _, _, r => by rw [RepAll] at r; subst r; simpa using RepAll.nil
  | _ :: _, _, 0, r => by simpa using RepAll.nil
  | d :: ds, _, n + 1, r => by
    rw [RepAll] at r
    obtain ⟨v, t, rfl, h1, h2⟩ := r
    exact .cons h1 (h2.take n)
theorem RepAll.drop {P : Addr → Obj → Prop} : ∀ {ds : List PyData} {vs : List Value} (n : Nat), RepAll P ds vs → RepAll P (ds.drop n) (vs.drop n)
  | [], _, _, r => by rw [RepAll] at r; subst r; simpa using RepAll.nil
  | _ :: _, _, 0, r => r
  | d :: ds, _, n + 1, r => by
    rw [RepAll] at r
    obtain ⟨v, t, rfl, h1, h2⟩ := r
    exact h2.drop n

theorem Rep.list_iff {P : Addr → Obj → Prop} {ds : List PyData} {v : Value} : Rep P (.list ds) v ↔ ∃ a o vs n, v = .ref a ∧ P a o ∧ o.cls = .type "list" ∧ o.data = .seq vs n ∧ RepAll P ds vs.toList := by rw [Rep]
theorem Rep.tuple_iff {P : Addr → Obj → Prop} {ds : List PyData} {v : Value} : Rep P (.tuple ds) v ↔ ∃ a o vs n, v = .ref a ∧ P a o ∧ o.cls = .type "tuple" ∧ o.data = .seq vs n ∧ RepAll P ds vs.toList := by rw [Rep]
theorem Rep.int_iff {P : Addr → Obj → Prop} {i : Int} {v : Value} : Rep P (.int i) v ↔ ∃ t, v = .int i t := by rw [Rep]
theorem Rep.str_iff {P : Addr → Obj → Prop} {x : Str} {v : Value} : Rep P (.str x) v ↔ ∃ t, v = .str x t := by rw [Rep]
theorem Rep.bool_iff {P : Addr → Obj → Prop} {b : Bool} {v : Value} : Rep P (.bool b) v ↔ v = .bool b := by rw [Rep]
theorem Rep.none_iff {P : Addr → Obj → Prop} {v : Value} : Rep P .none v ↔ v = .none := by rw [Rep]
theorem rep_int {P : Addr → Obj → Prop} (i : Int) (t : Tok) : Rep P (.int i) (.int i t) := by rw [Rep]; exact ⟨t, rfl⟩
theorem rep_str {P : Addr → Obj → Prop} (x : Str) (t : Tok) : Rep P (.str x) (.str x t) := by rw [Rep]; exact ⟨t, rfl⟩
theorem rep_bool {P : Addr → Obj → Prop} (b : Bool) : Rep P (.bool b) (.bool b) := by rw [Rep]
theorem rep_none {P : Addr → Obj → Prop} : Rep P .none .none := by rw [Rep]

mutual
theorem Rep.reads {P : Addr → Obj → Prop} {h : Heap} (hp : ∀ a o, P a o → h.get? a = some o) : ∀ (d : PyData) {v : Value}, Rep P d v → ∃ as, Reads h v d as
  | .none, _, r => by rw [Rep] at r; subst r; exact ⟨_, .none⟩
  | .bool b, _, r => by rw [Rep] at r; subst r; exact ⟨_, .bool b⟩
  | .int i, _, r => by rw [Rep] at r; obtain ⟨t, rfl⟩ := r; exact ⟨_, .int i t⟩
  | .str x, _, r => by rw [Rep] at r; obtain ⟨t, rfl⟩ := r; exact ⟨_, .str x t⟩
  | .list ds, _, r => by
    rw [Rep] at r
    obtain ⟨a, o, vs, n, rfl, h1, hc, hd, hr⟩ := r
    obtain ⟨as, q⟩ := RepAll.reads hp ds hr
    exact ⟨_, .list (hp _ _ h1) hc hd q⟩
  | .tuple ds, _, r => by
    rw [Rep] at r
    obtain ⟨a, o, vs, n, rfl, h1, hc, hd, hr⟩ := r
    obtain ⟨as, q⟩ := RepAll.reads hp ds hr
    exact ⟨_, .tuple (hp _ _ h1) hc hd q⟩
  | .dict _, _, r => by rw [Rep] at r; exact r.elim
theorem RepAll.reads {P : Addr → Obj → Prop} {h : Heap} (hp : ∀ a o, P a o → h.get? a = some o) : ∀ (ds : List PyData) {vs : List Value}, RepAll P ds vs → ∃ as, ReadsAll h vs ds as
  | [], _, r => by rw [RepAll] at r; subst r; exact ⟨_, .nil⟩
  | d :: ds, _, r => by
    rw [RepAll] at r
    obtain ⟨v, t, rfl, h1, h2⟩ := r
    obtain ⟨as, q1⟩ := Rep.reads hp d h1
    obtain ⟨bs, q2⟩ := RepAll.reads hp ds h2
    exact ⟨_, .cons q1 q2⟩
end

noncomputable def Keeps (h h' : Heap) : Prop := ∀ b o, h.get? b = some o → h'.get? b = some o
theorem Keeps.refl (h : Heap) : Keeps h h := fun _ _ e => e
theorem Keeps.trans {a b c : Heap} (x : Keeps a b) (y : Keeps b c) : Keeps a c := fun _ _ e => y _ _ (x _ _ e)
theorem Keeps.push (h : Heap) (o : Obj) : Keeps h (h.push o) := fun _ _ e => Heap.get?_push_of_some _ e

/-! frames -/
structure Fcx where
  name : Str
  scope : Scope
  fa : Addr
  cd : Value
  L : Addr
  A₀ : Around
  base : Heap
  outer : List Env
  h₀ : Heap
  hid : Addr → Prop
@[reducible] def Fcx.env (C : Fcx) : Env := envOf C.name C.scope C.L C.fa C.cd
@[reducible] def Fcx.A (C : Fcx) : Around := C.A₀.deeper C.env

inductive LV where
  | val (d : PyData)
  | own (ds : List PyData)

abbrev Loc := List (Str × LV)
abbrev Owns := List (Str × Addr)

noncomputable def listObj (vs : Array Value) (n : Nat) : Obj := { cls := .type "list", data := .seq vs n }

noncomputable def Fz (C : Fcx) (os : Owns) (h : Heap) (a : Addr) (o : Obj) : Prop := h.get? a = some o ∧ a ≠ C.L ∧ ¬ C.hid a ∧ ∀ p ∈ os, p.2 ≠ a

/-- the frame's names stand, and all else too -/
structure Kp (C : Fcx) (m : Str → Option Value) (h h' : Heap) : Prop where
  keep : ∀ b o, h.get? b = some o → b ≠ C.L → h'.get? b = some o
  ns : h'.Ns C.L m
theorem Kp.trans {C : Fcx} {m : Str → Option Value} {a b c : Heap} (x : Kp C m a b) (y : Kp C m b c) : Kp C m a c := ⟨fun _ _ e n => y.keep _ _ (x.keep _ _ e n) n, y.ns⟩
theorem Fz.keeps {C : Fcx} {os : Owns} {m : Str → Option Value} {h h' : Heap} (k : Kp C m h h') : ∀ a o, Fz C os h a o → Fz C os h' a o := fun _ _ x => ⟨k.keep _ _ x.1 x.2.1, x.2⟩
theorem Fz.get {C : Fcx} {os : Owns} {h : Heap} : ∀ a o, Fz C os h a o → h.get? a = some o := fun _ _ x => x.1

noncomputable def LRel (C : Fcx) (os : Owns) (m : Str → Option Value) (h : Heap) (x : Str) : LV → Prop
  | .val d => ∃ v, m x = some v ∧ Rep (Fz C os h) d v
  | .own ds => ∃ a vs n, m x = some (.ref a) ∧ (x, a) ∈ os ∧ h.get? a = some (listObj vs n) ∧ RepAll (Fz C os h) ds vs.toList

structure St (C : Fcx) (os : Owns) (m : Str → Option Value) (μ : Loc) (s : Shared) : Prop where
  fr : Fr C.h₀ C.L s.heap m
  own : ∀ p ∈ os, p.2 ≠ C.L ∧ C.h₀.get? p.2 = none ∧ ∃ o, s.heap.get? p.2 = some o
  inj : ∀ p ∈ os, ∀ q ∈ os, p.2 = q.2 → p.1 = q.1
  hidk : ∀ a, C.hid a → ∃ o, C.h₀.get? a = some o
  rel : ∀ x lv, μ.lookup x = some lv → LRel C os m s.heap x lv

theorem St.L_none {C : Fcx} {os : Owns} {m : Str → Option Value} {μ : Loc} {s : Shared} (x : St C os m μ s) : C.h₀.get? C.L = none := by
  cases e : C.h₀.get? C.L with
  | none => rfl
  | some o => exact absurd (Nat.lt_of_lt_of_le (Heap.lt_size e) x.fr.above) (Nat.lt_irrefl _)
theorem St.keeps {C : Fcx} {os : Owns} {m : Str → Option Value} {μ : Loc} {s : Shared} {h' : Heap} {tk : Nat} (x : St C os m μ s) (k : Kp C m s.heap h') : St C os m μ { s with heap := h', toks := tk } := by
  refine ⟨⟨k.ns, fun b o e => k.keep _ _ (x.fr.keep b o e) (fun q => by rw [q, x.L_none] at e; cases e), x.fr.above⟩, fun p hp => ?_, x.inj, x.hidk, fun y lv hy => ?_⟩
  · obtain ⟨h1, h2, o, h3⟩ := x.own p hp
    exact ⟨h1, h2, o, k.keep _ _ h3 h1⟩
  · have := x.rel y lv hy
    cases lv with
    | val d =>
      obtain ⟨v, h1, h2⟩ := this
      exact ⟨v, h1, Rep.mono (Fz.keeps k) d h2⟩
    | own ds =>
      obtain ⟨a, vs, n, h1, h2, h3, h4⟩ := this
      exact ⟨a, vs, n, h1, h2, k.keep _ _ h3 (x.own _ h2).1, RepAll.mono (Fz.keeps k) ds h4⟩
theorem St.refl {C : Fcx} {os : Owns} {m : Str → Option Value} {μ : Loc} {s : Shared} (x : St C os m μ s) : Kp C m s.heap s.heap := ⟨fun _ _ e _ => e, x.fr.ns⟩
theorem St.kp {C : Fcx} {os : Owns} {m : Str → Option Value} {μ : Loc} {s : Shared} {h' : Heap} (x : St C os m μ s) (k : Keeps s.heap h') : Kp C m s.heap h' := ⟨fun _ _ e _ => k _ _ e, x.fr.ns.keeps k⟩

/-- all that the frame has made so far, as a ledger -/
noncomputable def allNews (h₀ h : Heap) (L : Addr) : List (Addr × Obj) := (List.range h.objs.size).filterMap fun a => if a = L then none else match h₀.get? a with | some _ => none | none => (h.get? a).map (a, ·)
theorem mem_allNews {h₀ h : Heap} {L a : Addr} {o : Obj} : (a, o) ∈ allNews h₀ h L ↔ h.get? a = some o ∧ a ≠ L ∧ h₀.get? a = none := by
  unfold allNews
  rw [List.mem_filterMap]
  constructor
  · rintro ⟨b, hb, e⟩
    by_cases hL : b = L
    · simp [hL] at e
    · simp only [hL, if_false] at e
      cases h0 : h₀.get? b with
      | some _ => rw [h0] at e; cases e
      | none =>
        rw [h0] at e
        cases h1 : h.get? b with
        | none => rw [h1] at e; cases e
        | some o' =>
          rw [h1] at e
          cases e
          exact ⟨h1, hL, h0⟩
  · rintro ⟨h1, h2, h3⟩
    exact ⟨a, List.mem_range.mpr (Heap.lt_size h1), by simp [h2, h3, h1]⟩
theorem news_all {h₀ h : Heap} {L : Addr} : News h₀ L h (allNews h₀ h L) := fun p hp => by
  obtain ⟨a, o⟩ := p
  exact mem_allNews.mp hp
theorem St.kpN {C : Fcx} {os : Owns} {m : Str → Option Value} {μ : Loc} {s : Shared} {h' : Heap} (x : St C os m μ s) (F : Fr C.h₀ C.L h' m) (N : News C.h₀ C.L h' (allNews C.h₀ s.heap C.L)) : Kp C m s.heap h' := by
  refine ⟨fun b o e n => ?_, F.ns⟩
  cases h0 : C.h₀.get? b with
  | some o' =>
    have := x.fr.keep _ _ h0
    rw [e] at this
    cases this
    exact F.keep _ _ h0
  | none => exact (N (b, o) (mem_allNews.mpr ⟨e, n, h0⟩)).1
theorem St.kpN1 {C : Fcx} {os : Owns} {m : Str → Option Value} {μ : Loc} {s : Shared} {h' : Heap} {q : Addr × Obj} (x : St C os m μ s) (F : Fr C.h₀ C.L h' m) (N : News C.h₀ C.L h' (q :: allNews C.h₀ s.heap C.L)) : Kp C m s.heap h' :=
  x.kpN F fun p hp => N p (.tail _ hp)

theorem St.sub {C : Fcx} {os : Owns} {m : Str → Option Value} {μ μ' : Loc} {s : Shared} (x : St C os m μ s) (h : ∀ y lv, μ'.lookup y = some lv → μ.lookup y = some lv) : St C os m μ' s :=
  ⟨x.fr, x.own, x.inj, x.hidk, fun y lv hy => x.rel y lv (h y lv hy)⟩

/-- a new object is hidden from no one -/
theorem St.fresh {C : Fcx} {os : Owns} {m : Str → Option Value} {μ : Loc} {s : Shared} (x : St C os m μ s) {a : Addr} (ha : s.heap.get? a = none) : a ≠ C.L ∧ ¬ C.hid a ∧ ∀ p ∈ os, p.2 ≠ a := by
  refine ⟨fun e => ?_, fun h => ?_, fun p hp e => ?_⟩
  · obtain ⟨o, _, _, ho, _⟩ := x.fr.ns
    rw [← e, ha] at ho; cases ho
  · obtain ⟨o, ho⟩ := x.hidk a h
    have := x.fr.keep _ _ ho
    rw [ha] at this; cases this
  · obtain ⟨_, _, o, ho⟩ := x.own p hp
    rw [e, ha] at ho; cases ho
theorem get?_size (h : Heap) : h.get? h.objs.size = none := by
  cases e : h.get? h.objs.size with
  | none => rfl
  | some o => exact absurd (Heap.lt_size e) (Nat.lt_irrefl _)
theorem St.fzPush {C : Fcx} {os : Owns} {m : Str → Option Value} {μ : Loc} {s : Shared} (x : St C os m μ s) (o : Obj) (hf : o.isFreed = false := by rfl) : Fz C os (s.heap.push o) s.heap.objs.size o :=
  ⟨Heap.get?_push_size _ hf, x.fresh (get?_size _)⟩

/-! the words -/
structure Glb where
  prog : Program
  w : World
  K : Frag
  p : Program
  loose : List Str
  mean : ExcName → Option Value
  mg : Str → Option Value
  mb : Str → Option Value
  rz : Fcx → Addr → Shared → Prop
  rf : Fcx → Addr → Shared → Prop
  rfz : ∀ C x s, rf C x s → rz C x s
@[reducible] def Glb.M (G : Glb) : Model := model G.prog G.w

structure Gc (G : Glb) (C : Fcx) : Prop where
  below : Below C.A₀ C.base C.outer C.h₀
  kin : G.K.In C.h₀
  top : Top G.p G.loose G.mean G.mg G.mb C.h₀
  kind : C.scope.kind = .function
  hand : C.A₀.handled = none

/-- an expression's value; none: DepthError comes -/
noncomputable def EvR (G : Glb) (C : Fcx) (μ : Loc) (e : Expr) (r : Option PyData) : Prop :=
  ∀ (s : Shared) (os : Owns) (m : Str → Option Value) (Q E : Value → Shared → Prop), St C os m μ s →
    (∀ d v h' tk, r = some d → Kp C m s.heap h' → Rep (Fz C os h') d v → Q v { s with heap := h', toks := tk }) →
    (r = none → ∀ x h' tk, G.rz C x { s with heap := h', toks := tk } → E (.ref x) { s with heap := h', toks := tk }) → wpAny G.M C.A (eval e C.env) Q E s
abbrev Ev (G : Glb) (C : Fcx) (μ : Loc) (e : Expr) (d : PyData) : Prop := EvR G C μ e (some d)

/-- a test -/
noncomputable def Ts (G : Glb) (C : Fcx) (μ : Loc) (e : Expr) (r : Option Bool) : Prop :=
  ∀ (s : Shared) (os : Owns) (m : Str → Option Value) (Q : Bool → Shared → Prop) (E : Value → Shared → Prop), St C os m μ s →
    (∀ b h' tk, r = some b → Kp C m s.heap h' → Q b { s with heap := h', toks := tk }) →
    (r = none → ∀ x h' tk, G.rz C x { s with heap := h', toks := tk } → E (.ref x) { s with heap := h', toks := tk }) → wpAny G.M C.A (isTrue e C.env (eval e C.env)) Q E s

/-- the arguments of a call, the parts of a display -/
noncomputable def EvAll (G : Glb) (C : Fcx) (μ : Loc) (pos : Pos) (es : List Expr) (ds : List PyData) : Prop :=
  ∀ (s : Shared) (os : Owns) (m : Str → Option Value) (Q : List Value → Shared → Prop) (E : Value → Shared → Prop), St C os m μ s →
    (∀ vs h' tk, Kp C m s.heap h' → RepAll (Fz C os h') ds vs → Q vs { s with heap := h', toks := tk }) →
    wpAny G.M C.A (spliced (backTo pos (starEach es C.env))) Q E s

/-- an operation on two values -/
noncomputable def OpTo (G : Glb) (C : Fcx) (μ : Loc) (f : Value → Value → Sem Value) (a b d : PyData) : Prop :=
  ∀ (s : Shared) (os : Owns) (m : Str → Option Value) (va vb : Value) (Q E : Value → Shared → Prop), St C os m μ s → Rep (Fz C os s.heap) a va → Rep (Fz C os s.heap) b vb →
    (∀ v h' tk, Kp C m s.heap h' → Rep (Fz C os h') d v → Q v { s with heap := h', toks := tk }) → wpAny G.M C.A (f va vb) Q E s

section
variable {G : Glb} {C : Fcx} {μ : Loc}

theorem evr_of_none {e : Expr} {r : Option PyData} (h : r = none) (he : EvR G C μ e none) : EvR G C μ e r := h ▸ he

theorem ev_local {x : Str} {pos : Pos} {d : PyData} (h : μ.lookup x = some (.val d)) (hk : C.scope.kind = .function) (hl : C.env.kindOf x = some .local := by rfl) (hd : (x == ("__debug__" : Str)) = false := by decide) : Ev G C μ (.Name x pos) d := by
  intro s os m Q E S hQ _
  obtain ⟨v, h1, h2⟩ := S.rel x _ h
  exact ld S.fr h1 (hQ d v s.heap s.toks rfl S.refl h2) hk hl hd

theorem ev_int {i : Int} {k : Nat} {pos : Pos} : Ev G C μ (.Constant (.int i) k pos) (.int i) := by
  intro s os m Q E S hQ _
  exact wpAny_Constant_int (hQ _ _ s.heap _ rfl S.refl (rep_int _ _))

theorem ev_binop {l r : Expr} {op : Operator} {pos : Pos} {a b d : PyData} (h1 : Ev G C μ l a) (h2 : Ev G C μ r b) (h : OpTo G C μ (binaryOp op) a b d) : Ev G C μ (.BinOp l op r pos) d := by
  intro s os m Q E S hQ _
  refine wpAny_BinOp (h1 s os m _ E S (fun a' va h' tk e k ra => ?_) (fun e => nomatch e))
  cases e
  refine h2 _ os m _ E (S.keeps k) (fun b' vb h'' tk' e' k' rb => ?_) (fun e => nomatch e)
  cases e'
  exact h _ os m va vb Q E ((S.keeps k).keeps k') (Rep.mono (Fz.keeps k') a ra) rb fun v h3 tk3 k3 r3 => hQ _ v h3 tk3 rfl ((k.trans k').trans k3) r3

theorem op_int {op : Operator} {a b c : Int} (h : ∀ (s : Shared) (t u : Tok) (Q E : Value → Shared → Prop), Q (.int c s.toks) { s with toks := s.toks + 1 } → wpAny G.M C.A (binaryOp op (.int a t) (.int b u)) Q E s) :
    OpTo G C μ (binaryOp op) (.int a) (.int b) (.int c) := by
  intro s os m va vb Q E S ra rb hQ
  obtain ⟨t, rfl⟩ := Rep.int_iff.mp ra
  obtain ⟨u, rfl⟩ := Rep.int_iff.mp rb
  exact h s t u Q E (hQ _ s.heap _ S.refl (rep_int _ _))

theorem ev_add {l r : Expr} {pos : Pos} {a b : Int} (h1 : Ev G C μ l (.int a)) (h2 : Ev G C μ r (.int b)) : Ev G C μ (.BinOp l .Add r pos) (.int (a + b)) := ev_binop h1 h2 (op_int fun _ _ _ _ _ h => PyProof.Rows.add_int h)
theorem ev_sub {l r : Expr} {pos : Pos} {a b : Int} (h1 : Ev G C μ l (.int a)) (h2 : Ev G C μ r (.int b)) : Ev G C μ (.BinOp l .Sub r pos) (.int (a - b)) := ev_binop h1 h2 (op_int fun _ _ _ _ _ h => PyProof.Rows.sub_int h)
theorem ev_mul {l r : Expr} {pos : Pos} {a b : Int} (h1 : Ev G C μ l (.int a)) (h2 : Ev G C μ r (.int b)) (hm : IntMulOk a b) : Ev G C μ (.BinOp l .Mult r pos) (.int (a * b)) := ev_binop h1 h2 (op_int fun _ _ _ _ _ h => mul_int h hm)
theorem ev_mod {l r : Expr} {pos : Pos} {a b : Int} (h1 : Ev G C μ l (.int a)) (h2 : Ev G C μ r (.int b)) (hb : b ≠ 0) : Ev G C μ (.BinOp l .Mod r pos) (.int (a.fmod b)) := ev_binop h1 h2 (op_int fun _ _ _ _ _ h => mod_int' hb h)
end

section
variable {G : Glb} {C : Fcx} {μ : Loc}

theorem ev_none {k : Nat} {pos : Pos} : Ev G C μ (.Constant .none k pos) .none := by
  intro s os m Q E S hQ _
  exact Constant_none (hQ _ _ s.heap s.toks rfl S.refl rep_none)
theorem ev_bool {b : Bool} {k : Nat} {pos : Pos} : Ev G C μ (.Constant (.bool b) k pos) (.bool b) := by
  intro s os m Q E S hQ _
  exact Constant_bool (hQ _ _ s.heap s.toks rfl S.refl (rep_bool _))
theorem ev_str {x : Str} {k : Nat} {pos : Pos} : Ev G C μ (.Constant (.str x) k pos) (.str x) := by
  intro s os m Q E S hQ _
  exact Constant_str (hQ _ _ s.heap _ rfl S.refl (rep_str _ _))
theorem ev_neg {e : Expr} {pos : Pos} {a : Int} (h : Ev G C μ e (.int a)) : Ev G C μ (.UnaryOp .USub e pos) (.int (-a)) := by
  intro s os m Q E S hQ _
  refine UnaryOp_ (h s os m _ E S (fun d v h' tk e k r => ?_) (fun e => nomatch e))
  cases e
  obtain ⟨t, rfl⟩ := Rep.int_iff.mp r
  exact P.neg_int (hQ _ _ h' _ rfl k (rep_int _ _))

/-! comparisons -/
noncomputable def CmpTo (G : Glb) (C : Fcx) (μ : Loc) (op : CmpOp) (a b : PyData) (c : Bool) : Prop := OpTo G C μ (compareOp op) a b (.bool c)

theorem cmp_int {op : CmpOp} {a b : Int} {c : Bool} (h : ∀ (s : Shared) (t u : Tok) (Q E : Value → Shared → Prop), Q (.bool c) s → wpAny G.M C.A (compareOp op (.int a t) (.int b u)) Q E s) : CmpTo G C μ op (.int a) (.int b) c := by
  intro s os m va vb Q E S ra rb hQ
  obtain ⟨t, rfl⟩ := Rep.int_iff.mp ra
  obtain ⟨u, rfl⟩ := Rep.int_iff.mp rb
  exact h s t u Q E (hQ _ s.heap s.toks S.refl (rep_bool _))
theorem cmp_eq {a b : Int} : CmpTo G C μ .Eq (.int a) (.int b) (a == b) := cmp_int fun _ _ _ _ _ h => PyProof.Rows.eq_int h
theorem cmp_ne {a b : Int} : CmpTo G C μ .NotEq (.int a) (.int b) (a != b) := cmp_int fun _ _ _ _ _ h => PyProof.Rows.ne_int h
theorem cmp_lt {a b : Int} : CmpTo G C μ .Lt (.int a) (.int b) (decide (a < b)) := cmp_int fun _ _ _ _ _ h => PyProof.Rows.lt_int h
theorem cmp_gt {a b : Int} : CmpTo G C μ .Gt (.int a) (.int b) (decide (b < a)) := cmp_int fun _ _ _ _ _ h => PyProof.Rows.gt_int h
theorem cmp_le {a b : Int} : CmpTo G C μ .LtE (.int a) (.int b) (decide (a ≤ b)) := cmp_int fun _ _ _ _ _ h => PyProof.Rows.le_int h
theorem cmp_ge {a b : Int} : CmpTo G C μ .GtE (.int a) (.int b) (decide (b ≤ a)) := cmp_int fun _ _ _ _ _ h => PyProof.Rows.ge_int h

theorem cmp_data {a b : PyData} (ha : a.canLay0 = true) (hb : b.canLay0 = true) (hu : C.A.units + min a.depth b.depth < cLine) : CmpTo G C μ .Eq a b (PyData.eqv a b) := by
  intro s os m va vb Q E S ra rb hQ
  obtain ⟨as, qa⟩ := ra.reads Fz.get
  obtain ⟨bs, qb⟩ := rb.reads Fz.get
  exact SeqAt.compareEq_reads qa qb ha hb hu (hQ _ s.heap s.toks S.refl (rep_bool _))
theorem cmp_dataNe {a b : PyData} (ha : a.canLay0 = true) (hb : b.canLay0 = true) (hu : C.A.units + min a.depth b.depth < cLine) : CmpTo G C μ .NotEq a b (!PyData.eqv a b) := by
  intro s os m va vb Q E S ra rb hQ
  obtain ⟨as, qa⟩ := ra.reads Fz.get
  obtain ⟨bs, qb⟩ := rb.reads Fz.get
  exact SeqAt.compareNe_reads qa qb ha hb hu (hQ _ s.heap s.toks S.refl (rep_bool _))
theorem cmp_notNone {a : PyData} {c : Bool} (h : c = match a with | .none => false | _ => true) : CmpTo G C μ .IsNot a .none c := by
  intro s os m va vb Q E S ra rb hQ
  obtain rfl := Rep.none_iff.mp rb
  refine isnot_none_gen ?_
  have e : (!(va == Value.none)) = c := by
    subst h
    cases a <;> rw [Rep] at ra
    · subst ra; rfl
    · subst ra; rfl
    · obtain ⟨t, rfl⟩ := ra; rfl
    · obtain ⟨t, rfl⟩ := ra; rfl
    · obtain ⟨x, _, _, _, rfl, _⟩ := ra; rfl
    · obtain ⟨x, _, _, _, rfl, _⟩ := ra; rfl
    · exact ra.elim
  rw [e]
  exact hQ _ s.heap s.toks S.refl (rep_bool _)
theorem cmp_notIn {d : PyData} {xs : List PyData} (hd : d.canLay0 = true) (hx : PyData.canLayAll0 xs = true) (hu : C.A.units + min (PyData.depthAll xs) d.depth + 64 < cLine) : CmpTo G C μ .NotIn d (.list xs) (!(xs.any fun y => PyData.eqv y d)) := by
  intro s os m va vb Q E S ra rb hQ
  obtain ⟨as, qa⟩ := ra.reads Fz.get
  obtain ⟨bs, qb⟩ := rb.reads Fz.get
  exact SeqAt.notIn_list_reads qb qa hx hd (by omega) (hQ _ s.heap s.toks S.refl (rep_bool _))

theorem ev_cmp {l r : Expr} {op : CmpOp} {pos : Pos} {a b : PyData} {c : Bool} (h1 : Ev G C μ l a) (h2 : Ev G C μ r b) (h : CmpTo G C μ op a b c) (hm : behindInMarks op r = false := by with_unfolding_all rfl) : Ev G C μ (.Compare l [op] [r] pos) (.bool c) := by
  intro s os m Q E S hQ _
  refine wpAny_Compare1 (h1 s os m _ E S (fun a' va h' tk e k ra => ?_) (fun e => nomatch e)) hm
  cases e
  refine h2 _ os m _ E (S.keeps k) (fun b' vb h'' tk' e' k' rb => ?_) (fun e => nomatch e)
  cases e'
  exact h _ os m va vb Q E ((S.keeps k).keeps k') (Rep.mono (Fz.keeps k') a ra) rb fun v h3 tk3 k3 r3 => hQ _ v h3 tk3 rfl ((k.trans k').trans k3) r3
theorem evr_cmp_none {l r : Expr} {op : CmpOp} {pos : Pos} (h1 : EvR G C μ l none) (hm : behindInMarks op r = false := by with_unfolding_all rfl) : EvR G C μ (.Compare l [op] [r] pos) none := by
  intro s os m Q E S _ hE
  exact wpAny_Compare1 (h1 s os m _ E S (fun a' va h' tk e => nomatch e) hE) hm

/-! tests -/
theorem ts_of {e : Expr} {r : Option Bool} (h : Ts G C μ e r) {r' : Option Bool} (hr : r = r') : Ts G C μ e r' := hr ▸ h
theorem ts_cmp {l r : Expr} {op : CmpOp} {pos : Pos} {a b : PyData} {c : Bool} (h1 : Ev G C μ l a) (h2 : Ev G C μ r b) (h : CmpTo G C μ op a b c) (hm : behindInMarks op r = false := by with_unfolding_all rfl) : Ts G C μ (.Compare l [op] [r] pos) (some c) := by
  intro s os m Q E S hQ _
  refine wpAny_isTrue_Compare1 (h1 s os m _ E S (fun a' va h' tk e k ra => ?_) (fun e => nomatch e)) hm
  cases e
  refine h2 _ os m _ E (S.keeps k) (fun b' vb h'' tk' e' k' rb => ?_) (fun e => nomatch e)
  cases e'
  refine h _ os m va vb _ E ((S.keeps k).keeps k') (Rep.mono (Fz.keeps k') a ra) rb fun v h3 tk3 k3 r3 => ?_
  obtain rfl := Rep.bool_iff.mp r3
  exact wpAny_truthy_bool (hQ _ h3 tk3 rfl ((k.trans k').trans k3))
theorem ts_cmp_none {l r : Expr} {op : CmpOp} {pos : Pos} (h1 : EvR G C μ l none) (hm : behindInMarks op r = false := by with_unfolding_all rfl) : Ts G C μ (.Compare l [op] [r] pos) none := by
  intro s os m Q E S _ hE
  exact wpAny_isTrue_Compare1 (h1 s os m _ E S (fun a' va h' tk e => nomatch e) fun _ => hE rfl) hm
theorem ts_not {e : Expr} {pos : Pos} {r : Option Bool} (h : Ts G C μ e r) : Ts G C μ (.UnaryOp .Not e pos) (r.map (!·)) := by
  intro s os m Q E S hQ hE
  refine isTrue_not (h s os m _ E S (fun b h' tk e k => hQ _ h' tk (by rw [e]; rfl) k) fun e => hE (by rw [e]; rfl))
/-- a value that is a bool -/
theorem ts_val {e : Expr} {r : Option Bool} (h : EvR G C μ e (r.map .bool)) (he : isTrue e C.env (eval e C.env) = (do let v ← eval e C.env; standAt e.pos; holding [v] (truthy v)) := by rfl) : Ts G C μ e r := by
  intro s os m Q E S hQ hE
  refine isTrue_plain (h s os m _ E S (fun d v h' tk e k rd => ?_) fun e => hE (by cases r with | none => rfl | some _ => cases e)) he
  cases r with
  | none => cases e
  | some b =>
    cases e
    obtain rfl := Rep.bool_iff.mp rd
    exact wpAny_truthy_bool (hQ _ h' tk rfl k)
theorem ts_and {x y : Expr} {pos : Pos} {a : Bool} {b : Option Bool} (h1 : Ts G C μ x (some a)) (h2 : a = true → Ts G C μ y b) : Ts G C μ (.BoolOp .And [x, y] pos) (if a then b else some false) := by
  intro s os m Q E S hQ hE
  refine isTrue_and (h1 s os m _ E S (fun c h' tk e k => ?_) (fun e => nomatch e))
  cases e
  cases a with
  | false => exact hQ false h' tk rfl k
  | true =>
    show wpAny _ _ _ _ _ _
    refine isTrue_and (h2 rfl _ os m _ E (S.keeps k) (fun c h'' tk' e' k' => ?_) fun e' => hE (by rw [e']; rfl))
    subst e'
    cases c with
    | false => exact hQ false h'' tk' rfl (k.trans k')
    | true => exact isTrue_and_nil (hQ true h'' tk' rfl (k.trans k'))
theorem ts_or {x y : Expr} {pos : Pos} {a : Bool} {b : Option Bool} (h1 : Ts G C μ x (some a)) (h2 : a = false → Ts G C μ y b) : Ts G C μ (.BoolOp .Or [x, y] pos) (if a then some true else b) := by
  intro s os m Q E S hQ hE
  refine isTrue_or (h1 s os m _ E S (fun c h' tk e k => ?_) (fun e => nomatch e))
  cases e
  cases a with
  | true => exact hQ true h' tk rfl k
  | false =>
    show wpAny _ _ _ _ _ _
    refine isTrue_or (h2 rfl _ os m _ E (S.keeps k) (fun c h'' tk' e' k' => ?_) fun e' => hE (by rw [e']; rfl))
    subst e'
    cases c with
    | true => exact hQ true h'' tk' rfl (k.trans k')
    | false => exact isTrue_or_nil (hQ false h'' tk' rfl (k.trans k'))
theorem ts_and3 {x y z : Expr} {pos : Pos} {a b c : Bool} (h1 : Ts G C μ x (some a)) (h2 : a = true → Ts G C μ y (some b)) (h3 : a = true → b = true → Ts G C μ z (some c)) : Ts G C μ (.BoolOp .And [x, y, z] pos) (some (a && (b && c))) := by
  intro s os m Q E S hQ hE
  refine isTrue_and (h1 s os m _ E S (fun c' h' tk e k => ?_) (fun e => nomatch e))
  cases e
  cases a with
  | false => exact hQ false h' tk rfl k
  | true =>
    show wpAny _ _ _ _ _ _
    refine isTrue_and (h2 rfl _ os m _ E (S.keeps k) (fun c' h'' tk' e' k' => ?_) fun e' => nomatch e')
    cases e'
    cases b with
    | false => exact hQ false h'' tk' rfl (k.trans k')
    | true =>
      show wpAny _ _ _ _ _ _
      refine isTrue_and (h3 rfl rfl _ os m _ E ((S.keeps k).keeps k') (fun c' hh3 tk3 e3 k3 => ?_) fun e' => nomatch e')
      cases e3
      cases c with
      | false => exact hQ false hh3 tk3 rfl ((k.trans k').trans k3)
      | true => exact isTrue_and_nil (hQ true hh3 tk3 rfl ((k.trans k').trans k3))
/-- a chain of two comparisons -/
theorem ts_chain {l x y : Expr} {op₁ op₂ : CmpOp} {pos : Pos} {a b c : PyData} {p q : Bool} (h1 : Ev G C μ l a) (h2 : Ev G C μ x b) (h3 : CmpTo G C μ op₁ a b p) (h4 : p = true → Ev G C μ y c) (h5 : p = true → CmpTo G C μ op₂ b c q)
    (hm : lastMarks [op₁, op₂] [x, y] = false := by with_unfolding_all rfl) : Ts G C μ (.Compare l [op₁, op₂] [x, y] pos) (some (p && q)) := by
  intro s os m Q E S hQ hE
  refine isTrue_chain (h1 s os m _ E S (fun a' va h' tk e k ra => ?_) (fun e => nomatch e)) hm
  cases e
  refine test_link (h2 _ os m _ E (S.keeps k) (fun b' vb h'' tk' e' k' rb => ?_) (fun e => nomatch e))
  cases e'
  refine h3 _ os m va vb _ E ((S.keeps k).keeps k') (Rep.mono (Fz.keeps k') a ra) rb fun v h3' tk3 k3 r3 => ?_
  obtain rfl := Rep.bool_iff.mp r3
  refine wpAny_truthy_bool ?_
  cases p with
  | false => exact hQ false h3' tk3 rfl ((k.trans k').trans k3)
  | true =>
    show wpAny _ _ _ _ _ _
    refine test_last (h4 rfl _ os m _ E (((S.keeps k).keeps k').keeps k3) (fun c' vc h4' tk4 e4 k4 rc => ?_) (fun e => nomatch e))
    cases e4
    refine h5 rfl _ os m vb vc _ E ((((S.keeps k).keeps k').keeps k3).keeps k4) (Rep.mono (Fz.keeps k4) b (Rep.mono (Fz.keeps k3) b rb)) rc fun v h5' tk5 k5 r5 => ?_
    obtain rfl := Rep.bool_iff.mp r5
    exact wpAny_truthy_bool (hQ _ h5' tk5 rfl ((((k.trans k').trans k3).trans k4).trans k5))
end

theorem subscripted_ops (slice : Expr) (o i : Value) : ∃ ops, subscripted slice false o i = operate ops (getItem o i) := by
  unfold subscripted
  split
  · exact ⟨_, rfl⟩
  · rename_i h; cases h
  · exact ⟨_, rfl⟩

theorem Rep.isList {P : Addr → Obj → Prop} {h : Heap} {ds : List PyData} {v : Value} (r : Rep P (.list ds) v) (hp : ∀ a o, P a o → h.get? a = some o) : ∃ a vs, v = .ref a ∧ h.IsList a vs ∧ RepAll P ds vs.toList := by
  obtain ⟨a, o, vs, n, e, h1, hc, hd, hr⟩ := Rep.list_iff.mp r
  exact ⟨a, vs, e, ⟨o, hp _ _ h1, hc, n, hd⟩, hr⟩
theorem Rep.isTup {P : Addr → Obj → Prop} {h : Heap} {ds : List PyData} {v : Value} (r : Rep P (.tuple ds) v) (hp : ∀ a o, P a o → h.get? a = some o) : ∃ a vs, v = .ref a ∧ IsTup h a vs ∧ RepAll P ds vs.toList := by
  obtain ⟨a, o, vs, n, e, h1, hc, hd, hr⟩ := Rep.tuple_iff.mp r
  exact ⟨a, vs, e, ⟨o, hp _ _ h1, hc, n, hd⟩, hr⟩

section
variable {G : Glb} {C : Fcx} {μ : Loc}

/-! items -/
noncomputable def IdxTo (G : Glb) (C : Fcx) (μ : Loc) (a b d : PyData) : Prop := ∀ value slice : Expr, OpTo G C μ (subscriptTail value slice) a b d
theorem ev_sub_ {value slice : Expr} {pos : Pos} {a b d : PyData} (h1 : Ev G C μ value a) (h2 : Ev G C μ slice b) (h : IdxTo G C μ a b d) : Ev G C μ (.Subscript value slice pos) d := by
  intro s os m Q E S hQ _
  refine Subscript_ (h1 s os m _ E S (fun a' va h' tk e k ra => ?_) (fun e => nomatch e))
  cases e
  refine h2 _ os m _ E (S.keeps k) (fun b' vb h'' tk' e' k' rb => ?_) (fun e => nomatch e)
  cases e'
  exact h value slice _ os m va vb Q E ((S.keeps k).keeps k') (Rep.mono (Fz.keeps k') a ra) rb fun v h3 tk3 k3 r3 => hQ _ v h3 tk3 rfl ((k.trans k').trans k3) r3
theorem idx_tuple {ds : List PyData} {k : Int} {d : PyData} (h0 : 0 ≤ k) (hk : k < 2 ^ 63) (hx : ds[k.toNat]? = some d) : IdxTo G C μ (.tuple ds) (.int k) d := by
  intro value slice s os m va vb Q E S ra rb hQ
  obtain ⟨u, rfl⟩ := Rep.int_iff.mp rb
  obtain ⟨a, vs, rfl, ht, hr⟩ := ra.isTup Fz.get
  obtain ⟨x, hx', rx⟩ := hr.get hx
  obtain ⟨ops, hs⟩ := subscripted_ops slice (.ref a) (.int k u)
  have hlt : k.toNat < vs.size := by
    have := (List.getElem?_eq_some_iff.mp hx').1
    simpa using this
  refine tail_any ht.typeIs slot_tuple_getitem.lookup (getItem_tuple ht (by omega) hk (j := k.toNat) ?_ ?_ (hQ x s.heap s.toks S.refl rx)) hs
  · unfold seqIndex?
    have h1 : ¬ k < 0 := by omega
    simp only [h1, if_false]
    have h2 : (decide (0 ≤ k) && decide (k < (vs.size : Int))) = true := by simp; omega
    simp [h2]
  · simpa using hx'
theorem idx_list {ds : List PyData} {k : Int} {d : PyData} (h0 : 0 ≤ k) (hk : k < 2 ^ 63) (hx : ds[k.toNat]? = some d) : IdxTo G C μ (.list ds) (.int k) d := by
  intro value slice s os m va vb Q E S ra rb hQ
  obtain ⟨u, rfl⟩ := Rep.int_iff.mp rb
  obtain ⟨a, vs, rfl, ht, hr⟩ := ra.isList Fz.get
  obtain ⟨x, hx', rx⟩ := hr.get hx
  obtain ⟨ops, hs⟩ := subscripted_ops slice (.ref a) (.int k u)
  exact tail_any ht.typeIs slot_list_getitem.lookup (wpAny_getItem_list ht h0 hk (by simpa using hx') (hQ x s.heap s.toks S.refl rx)) hs
theorem idx_last {ds : List PyData} {d : PyData} (hx : ds.getLast? = some d) : IdxTo G C μ (.list ds) (.int (-1)) d := by
  intro value slice s os m va vb Q E S ra rb hQ
  obtain ⟨u, rfl⟩ := Rep.int_iff.mp rb
  obtain ⟨a, vs, rfl, ht, hr⟩ := ra.isList Fz.get
  have hl := hr.length
  rw [List.getLast?_eq_getElem?] at hx
  obtain ⟨x, hx', rx⟩ := hr.get hx
  have hpos : 0 < ds.length := by
    have := (List.getElem?_eq_some_iff.mp hx).1; omega
  obtain ⟨ops, hs⟩ := subscripted_ops slice (.ref a) (.int (-1) u)
  have hsz : vs.size = ds.length := by simpa using hl
  have e : ((-1 : Int) + (vs.size : Int)).toNat = ds.length - 1 := by omega
  exact tail_any ht.typeIs slot_list_getitem.lookup (wpAny_getItem_list_neg (k := -1) (x := x) ht (by decide) (by omega) (by decide) (by rw [e]; simpa using hx') (hQ x s.heap s.toks S.refl rx)) hs

/-! displays and arguments -/
theorem ea_nil {pos : Pos} : EvAll G C μ pos [] [] := by
  intro s os m Q E S hQ
  exact spliced_none (hQ [] s.heap s.toks S.refl .nil)
theorem ea_cons {pos : Pos} {e : Expr} {es : List Expr} {d : PyData} {ds : List PyData} (h : Ev G C μ e d) (r : EvAll G C μ pos es ds) (he : starEach (e :: es) C.env = (false, eval e C.env) :: starEach es C.env := by rfl) : EvAll G C μ pos (e :: es) (d :: ds) := by
  intro s os m Q E S hQ
  refine spliced_more (h s os m _ E S (fun d' v h' tk e k rd => ?_) (fun e => nomatch e)) he
  cases e
  exact r _ os m _ E (S.keeps k) fun vs h'' tk' k' rs => hQ (v :: vs) h'' tk' (k.trans k') (.cons (Rep.mono (Fz.keeps k') d rd) rs)

theorem rep_tuple_new {P : Addr → Obj → Prop} {a : Addr} {vs : List Value} {ds : List PyData} {n : Nat} (h : P a { cls := .type "tuple", data := .seq vs.toArray n }) (r : RepAll P ds vs) : Rep P (.tuple ds) (.ref a) :=
  Rep.tuple_iff.mpr ⟨a, _, _, n, rfl, h, rfl, rfl, by simpa using r⟩
theorem rep_list_new {P : Addr → Obj → Prop} {a : Addr} {vs : List Value} {ds : List PyData} {n : Nat} (h : P a { cls := .type "list", data := .seq vs.toArray n }) (r : RepAll P ds vs) : Rep P (.list ds) (.ref a) :=
  Rep.list_iff.mpr ⟨a, _, _, n, rfl, h, rfl, rfl, by simpa using r⟩

theorem ev_tuple {es : List Expr} {k : Nat} {pos : Pos} {ds : List PyData} (h : EvAll G C μ pos es ds) (hsz : ds.length ≤ 1000000) : Ev G C μ (.Tuple es k pos) (.tuple ds) := by
  intro s os m Q E S hQ _
  refine Tuple_ (h s os m _ E S fun vs h' tk k rs => ?_)
  have S' := S.keeps (tk := tk) k
  refine wpAny_newTuple ?_ (by rw [rs.length]; rw [sizeLine_eq]; omega)
  have kp := S'.kp (Keeps.push h' { cls := .type "tuple", data := .seq vs.toArray })
  exact hQ _ _ _ _ rfl (k.trans kp) (rep_tuple_new (n := 0) (S'.fzPush _) (RepAll.mono (Fz.keeps kp) ds rs))
theorem ev_list {es : List Expr} {pos : Pos} {ds : List PyData} (h : EvAll G C μ pos es ds) (hsz : ds.length ≤ 1000000) : Ev G C μ (.List es pos) (.list ds) := by
  intro s os m Q E S hQ _
  refine List_ (h s os m _ E S fun vs h' tk k rs => ?_)
  have S' := S.keeps (tk := tk) k
  refine wpAny_newObj_type ?_ (by show vs.toArray.size ≤ sizeLine; rw [List.size_toArray, rs.length]; rw [sizeLine_eq]; omega)
  have kp := S'.kp (Keeps.push h' { cls := .type "list", data := .seq vs.toArray })
  exact hQ _ _ _ _ rfl (k.trans kp) (rep_list_new (n := 0) (S'.fzPush _) (RepAll.mono (Fz.keeps kp) ds rs))

/-! lists added, repeated, cut -/
theorem Rep.isListL {P : Addr → Obj → Prop} {h : Heap} {ds : List PyData} {v : Value} (r : Rep P (.list ds) v) (hp : ∀ a o, P a o → h.get? a = some o) : ∃ a vs, v = .ref a ∧ h.IsList a (vs : List Value).toArray ∧ RepAll P ds vs := by
  obtain ⟨a, vs, e, h1, h2⟩ := r.isList hp
  exact ⟨a, vs.toList, e, by simpa using h1, h2⟩

theorem ev_listadd {l r : Expr} {pos : Pos} {xs ys : List PyData} (h1 : Ev G C μ l (.list xs)) (h2 : Ev G C μ r (.list ys)) (hsz : xs.length + ys.length ≤ 1000000) : Ev G C μ (.BinOp l .Add r pos) (.list (xs ++ ys)) := by
  refine ev_binop h1 h2 ?_
  intro s os m va vb Q E S ra rb hQ
  obtain ⟨a, vs, rfl, hl, hr⟩ := ra.isListL Fz.get
  obtain ⟨b, us, rfl, hb, hr'⟩ := rb.isListL Fz.get
  refine add_lists S.fr news_all hl hb (fun h' F N => ?_) (by rw [hr.length, hr'.length]; rw [sizeLine_eq]; omega)
  have kp := S.kpN1 F N
  have hn := (N _ (.head _)).1
  refine hQ _ h' s.toks kp (rep_list_new (n := 0) ⟨hn, S.fresh (get?_size _)⟩ ((RepAll.mono (Fz.keeps kp) xs hr).append (RepAll.mono (Fz.keeps kp) ys hr')))

theorem carriedAll_ints : ∀ {P : Addr → Obj → Prop} {xs : List Int} {vs : List Value}, RepAll P (xs.map .int) vs → CarriedAll vs (xs.map .int)
  | _, [], _, r => by rw [List.map_nil, RepAll] at r; subst r; exact .nil
  | _, x :: xs, _, r => by
    rw [List.map_cons, RepAll] at r
    obtain ⟨v, t, rfl, h1, h2⟩ := r
    obtain ⟨k, rfl⟩ := Rep.int_iff.mp h1
    exact .cons (.int _ _) (carriedAll_ints h2)
theorem repAll_replicate {P : Addr → Obj → Prop} {v : Value} {d : PyData} (h : Rep P d v) : ∀ n, RepAll P (List.replicate n d) (List.replicate n v)
  | 0 => .nil
  | n + 1 => .cons h (repAll_replicate h n)
theorem flatten_replicate_one {α : Type} (v : α) : ∀ n, (List.replicate n [v]).flatten = List.replicate n v
  | 0 => rfl
  | n + 1 => by rw [List.replicate_succ, List.flatten_cons, flatten_replicate_one v n]; rfl

theorem ev_listmul {l r : Expr} {pos : Pos} {v : Int} {n : Int} (h1 : Ev G C μ l (.list [.int v])) (h2 : Ev G C μ r (.int n)) (hlo : 0 ≤ n) (hhi : n ≤ 1000) : Ev G C μ (.BinOp l .Mult r pos) (.list (List.replicate n.toNat (.int v))) := by
  refine ev_binop h1 h2 ?_
  intro s os m va vb Q E S ra rb hQ
  obtain ⟨u, rfl⟩ := Rep.int_iff.mp rb
  obtain ⟨a, vs, rfl, hl, hr⟩ := ra.isListL Fz.get
  rw [RepAll] at hr
  obtain ⟨x, t, rfl, hx, ht⟩ := hr
  rw [RepAll] at ht
  subst ht
  obtain ⟨k, rfl⟩ := Rep.int_iff.mp hx
  refine mul_list_is (ds := [.int v]) S.fr news_all hl (.cons (.int _ _) .nil) (by omega) (by omega) (by simp; omega) fun h' F N hn hl' _ => ?_
  have kp := S.kpN F N
  rw [flatten_replicate_one] at hl'
  obtain ⟨o, ho, hc, n', hd⟩ := hl'
  refine hQ _ h' s.toks kp (Rep.list_iff.mpr ⟨_, o, _, n', rfl, ⟨ho, S.fresh (get?_size _)⟩, hc, hd, ?_⟩)
  simpa using repAll_replicate (rep_int v k) n.toNat

theorem slice_run {vs : List Value} {lo hi : Int} (h0 : 0 ≤ lo) (h1 : lo ≤ hi) (h2 : hi ≤ vs.length) : slicePick vs.toArray (some lo) (some hi) none = ((vs.drop lo.toNat).take (hi.toNat - lo.toNat)).toArray := by
  obtain ⟨a, rfl⟩ : ∃ a : Nat, lo = a := ⟨lo.toNat, by omega⟩
  obtain ⟨b, rfl⟩ : ∃ b : Nat, hi = b := ⟨hi.toNat, by omega⟩
  rw [slicePick_run vs.toArray a b (by simp; omega) (by omega)]
  simp
theorem slice_upto {vs : List Value} {hi : Int} (h0 : 0 ≤ hi) (h2 : hi ≤ vs.length) : slicePick vs.toArray none (some hi) none = (vs.take hi.toNat).toArray := by
  have e : slicePick vs.toArray none (some hi) none = slicePick vs.toArray (some 0) (some hi) none := by
    unfold slicePick sliceBounds
    have : max 0 (min 0 (vs.length : Int)) = 0 := by omega
    simp [this]
  rw [e, slice_run (by omega) h0 h2]
  simp

theorem sl_end {os : Owns} {m : Str → Option Value} {s : Shared} {l : Addr} {vs : List Value} {ys : List PyData} {lo hi : Option Int} {vl vu : Value} {value slice : Expr} {Q E : Value → Shared → Prop} (S : St C os m μ s) (hl : s.heap.IsList l vs.toArray) (pl : IsPart vl lo) (pu : IsPart vu hi)
    (hp : RepAll (Fz C os s.heap) ys (slicePick vs.toArray lo hi none).toList) (hsz : vs.length ≤ 1000000) (hQ : ∀ v h' tk, Kp C m s.heap h' → Rep (Fz C os h') (.list ys) v → Q v { s with heap := h', toks := tk })
    (hs : subscripted slice false (.ref l) (.ref s.heap.objs.size) = operate [.ref s.heap.objs.size, .ref l] (getItem (.ref l) (.ref s.heap.objs.size))) (ht : ∀ r, letTemporaryGo value (.ref l) r = pure ()) :
    wpAny G.M C.A (subscriptTail value slice (.ref l) (.ref s.heap.objs.size)) Q E { s with heap := s.heap.push { cls := .type "slice", data := .fields #[vl, vu, .none] } } := by
  refine slice_list S.fr news_all hl pl pu (fun h' F N => ?_) hs ht (by rw [List.size_toArray, sizeLine_eq]; omega)
  have kp := S.kpN1 F N
  have hn := (N _ (.head _)).1
  have hz : s.heap.get? (s.heap.objs.size + 1) = none := by
    cases e : s.heap.get? (s.heap.objs.size + 1) with
    | none => rfl
    | some o => exact absurd (Heap.lt_size e) (Nat.not_lt_of_le (Nat.le_succ _))
  refine hQ _ h' s.toks kp (Rep.list_iff.mpr ⟨_, _, _, 0, rfl, ⟨hn, S.fresh hz⟩, rfl, rfl, RepAll.mono (Fz.keeps kp) _ hp⟩)

theorem ev_slice {value lo hi : Expr} {p pos : Pos} {xs : List PyData} {a b : Int} (h1 : Ev G C μ value (.list xs)) (h2 : Ev G C μ lo (.int a)) (h3 : Ev G C μ hi (.int b)) (ha : 0 ≤ a) (hab : a ≤ b) (hb : b ≤ xs.length) (hsz : xs.length ≤ 1000000)
    (ht : ∀ o r, letTemporaryGo value o r = pure () := by intros; rfl) :
    Ev G C μ (.Subscript value (.Slice (some lo) (some hi) none p) pos) (.list ((xs.drop a.toNat).take (b.toNat - a.toNat))) := by
  intro s os m Q E S hQ _
  refine Subscript_ (h1 s os m _ E S (fun a' va h' tk e k ra => ?_) (fun e => nomatch e))
  cases e
  refine wpAny_Slice ?_
  rw [evalPart_some, evalPart_some]
  refine h2 _ os m _ E (S.keeps k) (fun b' vb h'' tk' e' k' rb => ?_) (fun e => nomatch e)
  cases e'
  refine h3 _ os m _ E ((S.keeps k).keeps k') (fun c' vc h3' tk3 e3 k3 rc => ?_) (fun e => nomatch e)
  cases e3
  rw [evalPart_none]
  refine wpAny_pure ?_
  obtain ⟨t, rfl⟩ := Rep.int_iff.mp rb
  obtain ⟨u, rfl⟩ := Rep.int_iff.mp rc
  have S3 := ((S.keeps (tk := tk) k).keeps (tk := tk') k').keeps (tk := tk3) k3
  obtain ⟨l, vs, rfl, hl, hr⟩ := (Rep.mono (Fz.keeps k3) _ (Rep.mono (Fz.keeps k') _ ra)).isListL Fz.get
  have hlen := hr.length
  refine sl_end S3 hl (.int a t) (.int b u) (ys := (xs.drop a.toNat).take (b.toNat - a.toNat)) ?_ (by omega) (fun v h4 tk4 k4 r4 => hQ _ v h4 tk4 rfl (((k.trans k').trans k3).trans k4) r4) rfl (ht _)
  rw [slice_run ha hab (by omega)]
  simpa using (hr.drop a.toNat).take (b.toNat - a.toNat)
theorem ev_slice_upto {value hi : Expr} {p pos : Pos} {xs : List PyData} {b : Int} (h1 : Ev G C μ value (.list xs)) (h3 : Ev G C μ hi (.int b)) (hab : 0 ≤ b) (hb : b ≤ xs.length) (hsz : xs.length ≤ 1000000)
    (ht : ∀ o r, letTemporaryGo value o r = pure () := by intros; rfl) :
    Ev G C μ (.Subscript value (.Slice none (some hi) none p) pos) (.list (xs.take b.toNat)) := by
  intro s os m Q E S hQ _
  refine Subscript_ (h1 s os m _ E S (fun a' va h' tk e k ra => ?_) (fun e => nomatch e))
  cases e
  refine wpAny_Slice ?_
  rw [evalPart_some, evalPart_none]
  refine wpAny_pure ?_
  refine h3 _ os m _ E (S.keeps k) (fun c' vc h3' tk3 e3 k3 rc => ?_) (fun e => nomatch e)
  cases e3
  refine wpAny_pure ?_
  obtain ⟨u, rfl⟩ := Rep.int_iff.mp rc
  have S3 := (S.keeps (tk := tk) k).keeps (tk := tk3) k3
  obtain ⟨l, vs, rfl, hl, hr⟩ := (Rep.mono (Fz.keeps k3) _ ra).isListL Fz.get
  have hlen := hr.length
  refine sl_end S3 hl .none (.int b u) (ys := xs.take b.toNat) ?_ (by omega) (fun v h4 tk4 k4 r4 => hQ _ v h4 tk4 rfl ((k.trans k3).trans k4) r4) rfl (ht _)
  rw [slice_upto hab (by omega)]
  simpa using hr.take b.toNat
end

/-- what stood and was no one's own stands, and is no one's own -/
noncomputable def Chg (C : Fcx) (os : Owns) (h : Heap) (os' : Owns) (h' : Heap) : Prop :=
  ∀ a o, h.get? a = some o → a ≠ C.L → (∀ p ∈ os, p.2 ≠ a) → h'.get? a = some o ∧ ∀ p ∈ os', p.2 ≠ a
theorem Chg.of_kp {C : Fcx} {os : Owns} {m : Str → Option Value} {h h' : Heap} (k : Kp C m h h') : Chg C os h os h' := fun a o e n ho => ⟨k.keep a o e n, ho⟩
theorem Chg.refl {C : Fcx} {os : Owns} {h : Heap} : Chg C os h os h := fun _ _ e _ ho => ⟨e, ho⟩
theorem Chg.trans {C : Fcx} {o1 o2 o3 : Owns} {a b c : Heap} (x : Chg C o1 a o2 b) (y : Chg C o2 b o3 c) : Chg C o1 a o3 c := fun d o e n ho =>
  let ⟨e1, h1⟩ := x d o e n ho
  y d o e1 n h1
theorem Chg.fz {C : Fcx} {os os' : Owns} {h h' : Heap} (x : Chg C os h os' h') : ∀ a o, Fz C os h a o → Fz C os' h' a o := fun a o f =>
  let ⟨e, h1⟩ := x a o f.1 f.2.1 f.2.2.2
  ⟨e, f.2.1, f.2.2.1, h1⟩

/-- what the frame hands back -/
noncomputable def Fin (C : Fcx) (h : Heap) (a : Addr) (o : Obj) : Prop := h.get? a = some o ∧ ¬ C.hid a
theorem Fz.fin {C : Fcx} {os : Owns} {h : Heap} : ∀ a o, Fz C os h a o → Fin C h a o := fun _ _ x => ⟨x.1, x.2.2.1⟩

/-- statements: N where they go on, R what they give back (none: DepthError) -/
noncomputable def Ex (G : Glb) (C : Fcx) (μ : Loc) (ss : List Stmt) (N : Loc → Prop) (R : Option PyData → Prop) : Prop :=
  ∀ (s : Shared) (os : Owns) (m : Str → Option Value) (Q : Flow → Shared → Prop) (E : Value → Shared → Prop), St C os m μ s → PassesOwn G.M C.A C.env E →
    (∀ μ' os' m' h' tk, N μ' → St C os' m' μ' { s with heap := h', toks := tk } → Chg C os s.heap os' h' → Q .next { s with heap := h', toks := tk }) →
    (∀ d v m' h' tk, R (some d) → Fr C.h₀ C.L h' m' → Rep (Fin C h') d v → Q (.ret v) { s with heap := h', toks := tk }) →
    (R none → ∀ x h' tk, G.rz C x { s with heap := h', toks := tk } → E (.ref x) { s with heap := h', toks := tk }) → wpAny G.M C.A (execs ss C.env) Q E s

section
variable {G : Glb} {C : Fcx} {μ : Loc} {N : Loc → Prop} {R : Option PyData → Prop} {rest : List Stmt}

theorem ex_nil (h : N μ) : Ex G C μ [] N R := by
  intro s os m Q E S _ hN _ _
  exact wpAny_execs_nil (hN μ os m s.heap s.toks h S Chg.refl)
theorem ex_sub {ss : List Stmt} {μ' : Loc} (h : Ex G C μ' ss N R) (hs : ∀ y lv, μ'.lookup y = some lv → μ.lookup y = some lv) : Ex G C μ ss N R := by
  intro s os m Q E S hE hN hR hX
  exact h s os m Q E (S.sub hs) hE hN hR hX
theorem ex_mono {ss : List Stmt} {N' : Loc → Prop} {R' : Option PyData → Prop} (h : Ex G C μ ss N' R') (hN : ∀ μ', N' μ' → N μ') (hR : ∀ r, R' r → R r) : Ex G C μ ss N R := by
  intro s os m Q E S hE h1 h2 h3
  exact h s os m Q E S hE (fun μ' os' m' h' tk n => h1 μ' os' m' h' tk (hN _ n)) (fun d v m' h' tk r => h2 d v m' h' tk (hR _ r)) fun r => h3 (hR _ r)

/-- go on from a later state of the same frame -/
theorem ex_go {s : Shared} {os os' : Owns} {m' : Str → Option Value} {h' : Heap} {tk : Nat} {μ' : Loc} {ss : List Stmt} {Q : Flow → Shared → Prop} {E : Value → Shared → Prop} (h : Ex G C μ' ss N R) (S' : St C os' m' μ' { s with heap := h', toks := tk }) (c : Chg C os s.heap os' h')
    (hE : PassesOwn G.M C.A C.env E)
    (hN : ∀ μ' os' m' h' tk, N μ' → St C os' m' μ' { s with heap := h', toks := tk } → Chg C os s.heap os' h' → Q .next { s with heap := h', toks := tk })
    (hR : ∀ d v m' h' tk, R (some d) → Fr C.h₀ C.L h' m' → Rep (Fin C h') d v → Q (.ret v) { s with heap := h', toks := tk })
    (hX : R none → ∀ x h' tk, G.rz C x { s with heap := h', toks := tk } → E (.ref x) { s with heap := h', toks := tk }) : wpAny G.M C.A (execs ss C.env) Q E { s with heap := h', toks := tk } :=
  h _ os' m' Q E S' hE (fun μ'' os'' m'' h'' tk' n S'' c' => hN μ'' os'' m'' h'' tk' n S'' (c.trans c')) (fun d v m'' h'' tk' => hR d v m'' h'' tk') hX

theorem ex_if {test : Expr} {body orelse : List Stmt} {pos : Pos} {r : Option Bool} (ht : Ts G C μ test r) (h0 : r = none → R none) (h1 : r = some true → Ex G C μ body (fun μ' => Ex G C μ' rest N R) R) (h2 : r = some false → Ex G C μ orelse (fun μ' => Ex G C μ' rest N R) R) :
    Ex G C μ (.If test body orelse pos :: rest) N R := by
  intro s os m Q E S hE hN hR hX
  refine wpAny_execs_cons (wpAny_If (ht s os m _ E S (fun b h' tk e k => ?_) fun e => hX (h0 e)))
  have S' := S.keeps (tk := tk) k
  have fin : ∀ ss, Ex G C μ ss (fun μ' => Ex G C μ' rest N R) R → wpAny G.M C.A (execs ss C.env) (fun f s' => match f with | .next => wpAny G.M C.A (execs rest C.env) Q E s' | f => Q f s') E { s with heap := h', toks := tk } := fun ss hx =>
    hx _ os m _ E S' hE (fun μ' os' m' h'' tk' n S'' c => ex_go (s := s) (os := os) n S'' ((Chg.of_kp k).trans c) hE hN hR hX) (fun d v m' h'' tk' r' F r'' => hR d v m' h'' tk' r' F r'') hX
  cases b with
  | true => exact fin _ (h1 e)
  | false => exact fin _ (h2 e)

theorem ex_ret {e : Expr} {pos : Pos} {r : Option PyData} (h : EvR G C μ e r) (hr : R r) : Ex G C μ (.Return (some e) pos :: rest) N R := by
  intro s os m Q E S hE hN hR hX
  refine wpAny_execs_cons (wpAny_Return_some (h s os m _ E S (fun d v h' tk e k rd => ?_) fun e => hX (e ▸ hr)))
  exact hR d v m h' tk (e ▸ hr) (S.keeps (tk := tk) k).fr (Rep.mono Fz.fin d rd)

theorem St.set {os : Owns} {m : Str → Option Value} {s : Shared} {x : Str} {v : Value} {d : PyData} {h' : Heap} {tk : Nat} (S : St C os m μ s) (hr : Rep (Fz C os s.heap) d v) (hn : h'.Ns C.L (fun y => if y = x then some v else m y)) (hs : Heap.SameBut C.L s.heap h') :
    St C (os.filter (·.1 ≠ x)) (fun y => if y = x then some v else m y) ((x, .val d) :: μ) { s with heap := h', toks := tk } := by
  have kp : ∀ b o, s.heap.get? b = some o → b ≠ C.L → h'.get? b = some o := fun b o e n => (hs.2 b n).trans e
  have fz : ∀ a o, Fz C os s.heap a o → Fz C (os.filter (·.1 ≠ x)) h' a o := fun a o f => ⟨kp a o f.1 f.2.1, f.2.1, f.2.2.1, fun p hp => f.2.2.2 p (List.mem_filter.mp hp).1⟩
  refine ⟨S.fr.set hn hs, fun p hp => ?_, fun p hp q hq => S.inj p (List.mem_filter.mp hp).1 q (List.mem_filter.mp hq).1, S.hidk, fun y lv hy => ?_⟩
  · obtain ⟨h1, h2, o, h3⟩ := S.own p (List.mem_filter.mp hp).1
    exact ⟨h1, h2, o, kp _ _ h3 h1⟩
  · rw [List.lookup_cons] at hy
    by_cases e : y = x
    · subst e
      simp only [beq_self_eq_true] at hy
      cases hy
      exact ⟨v, by simp, Rep.mono fz d hr⟩
    · have hb : (y == x) = false := beq_eq_false_iff_ne.mpr e
      simp only [hb] at hy
      have := S.rel y lv hy
      cases lv with
      | val d' =>
        obtain ⟨v', h1, h2⟩ := this
        exact ⟨v', by simp [e, h1], Rep.mono fz d' h2⟩
      | own ds =>
        obtain ⟨a, vs, n, h1, h2, h3, h4⟩ := this
        exact ⟨a, vs, n, by simp [e, h1], List.mem_filter.mpr ⟨h2, by simpa using e⟩, kp _ _ h3 (S.own _ h2).1, RepAll.mono fz ds h4⟩
theorem chg_set {os : Owns} {h h' : Heap} {x : Str} (hs : Heap.SameBut C.L h h') : Chg C os h (os.filter (·.1 ≠ x)) h' := fun a _ e n ho => ⟨(hs.2 a n).trans e, fun p hp => ho p (List.mem_filter.mp hp).1⟩

theorem store_val {os : Owns} {m : Str → Option Value} {s : Shared} {x : Str} {v : Value} {d : PyData} {Q : Unit → Shared → Prop} {E : Value → Shared → Prop} (S : St C os m μ s) (hr : Rep (Fz C os s.heap) d v) (hk : C.scope.kind = .function) (hl : C.env.kindOf x = some .local)
    (h : ∀ os' m' h' tk, St C os' m' ((x, .val d) :: μ) { s with heap := h', toks := tk } → Chg C os s.heap os' h' → Q () { s with heap := h', toks := tk }) : wpAny G.M C.A (storeName C.env x v) Q E s :=
  wpAny_storeName_local hl S.fr.ns (fun h' hn hs => h _ _ h' _ (S.set hr hn hs) (chg_set hs))
    (by show (C.scope.kind == .class || (C.scope.kind == .module && C.L != mainGlobals)) = false; rw [hk]; rfl)

theorem ex_assign {x : Str} {px pos : Pos} {e : Expr} {r : Option PyData} (h : EvR G C μ e r) (hk : C.scope.kind = .function) (h0 : r = none → R none) (hn : ∀ d, r = some d → Ex G C ((x, .val d) :: μ) rest N R)
    (hl : C.env.kindOf x = some .local := by rfl) (hs : swapsWith e (some (.Name x px)) pos.line C.env = pure false := by rfl) : Ex G C μ (.Assign [.Name x px] e pos :: rest) N R := by
  intro s os m Q E S hE hN hR hX
  refine wpAny_execs_cons (wpAny_Assign_Name (h s os m _ E S (fun d v h' tk e k rd => ?_) fun e => hX (h0 e)) hs)
  refine store_val (S.keeps k) rd hk hl fun os' m' h'' tk' S' c => ?_
  exact ex_go (s := s) (os := os) (hn d e) S' ((Chg.of_kp k).trans c) hE hN hR hX
theorem ex_assign' {x : Str} {px pos : Pos} {e : Expr} {d : PyData} (h : Ev G C μ e d) (hk : C.scope.kind = .function) (hn : Ex G C ((x, .val d) :: μ) rest N R)
    (hl : C.env.kindOf x = some .local := by rfl) (hs : swapsWith e (some (.Name x px)) pos.line C.env = pure false := by rfl) : Ex G C μ (.Assign [.Name x px] e pos :: rest) N R :=
  ex_assign h hk (fun e => nomatch e) (fun _ e => by cases e; exact hn) hl hs
end

/-- a for's turns, whatever its target -/
theorem forLoop_any {prog : Program} {w : World} {A : Around} {s : Shared} {R : Result → Shared → Prop} {target : Expr} {it : Value} {body : List Stmt} {env : Env} (I : Nat → Shared → Prop)
    (turn : ∀ n s, I n s → wpAny (model prog w) A (pyNext it) (fun r s₁ => match r with
      | none => R (.ok .next) s₁
      | some v => wpAny (model prog w) A (letOwnedTupleGo target it v) (fun _ s₁' => wpAny (model prog w) A (assign target env v) (fun _ s₂ => wpAny (model prog w) A (execs body env) (fun f s₃ => match f with
          | .next | .cont => ∃ m, m < n ∧ I m s₃
          | .brk => R (.ok .next) s₃
          | .ret v => R (.ok (.ret v)) s₃) (notedBy (model prog w) A env fun e s' => R (.error e) s') s₂) (notedBy (model prog w) A env fun e s' => R (.error e) s') s₁') (notedBy (model prog w) A env fun e s' => R (.error e) s') s₁) (notedBy (model prog w) A env fun e s' => R (.error e) s') s)
    (n : Nat) (h : I n s) : codeAny (model prog w) A (.forLoop target it body [] env) R s := by
  refine codeAny_loop' rfl I (fun n s hI => ?_) n h
  show wpAny _ _ ((forTurn target it body [] env).onRaise (fun x => do noteFrame x env; theTreesLotGoes x)) _ _ s
  refine wpAny_noted ?_
  simp only [forTurn]
  refine wpAny_bind (wpAny_standAt (wpAny_bind (wpAny_onRaise (wpAny_mono (turn n s hI) (fun r s₁ h₁ => ?_) fun _ _ h' => wpAny_standAt h'))))
  cases r with
  | none => exact wpAny_pure (.inr ⟨rfl, codeAny_block (wpAny_execs_nil h₁)⟩)
  | some v =>
    refine wpAny_bind (wpAny_mono h₁ (fun _ s₁' h₁' => ?_) fun _ _ h' => h')
    refine wpAny_bind (wpAny_mono h₁' (fun _ s₂ h₂ => wpAny_bind (wpAny_mono h₂ (fun f s₃ h₃ => ?_) fun _ _ h' => h')) fun _ _ h' => h')
    cases f with
    | next => exact wpAny_pure (.inl ⟨rfl, h₃⟩)
    | cont => exact wpAny_pure (.inl ⟨rfl, h₃⟩)
    | brk => exact wpAny_pure h₃
    | ret v => exact wpAny_pure h₃

noncomputable def Sub (μ' μ : Loc) : Prop := ∀ y lv, μ'.lookup y = some lv → μ.lookup y = some lv

section
variable {G : Glb} {C : Fcx} {μ : Loc} {N : Loc → Prop} {R : Option PyData → Prop} {rest : List Stmt}

/-- the iterator's own step touches nothing of the frame's -/
theorem St.next {os : Owns} {m : Str → Option Value} {s : Shared} {h' : Heap} {tk : Nat} {wr : List Addr} (S : St C os m μ s) (hk : ∀ b o, b ∉ wr → s.heap.get? b = some o → h'.get? b = some o)
    (hw : ∀ b ∈ wr, b ≠ C.L ∧ C.h₀.get? b = none ∧ ∀ o vs n, s.heap.get? b = some o → o.data ≠ .seq vs n) (ho : ∀ b ∈ wr, ∀ p ∈ os, p.2 ≠ b) : St C os m μ { s with heap := h', toks := tk } := by
  have hL : C.L ∉ wr := fun h => (hw _ h).1 rfl
  have fz : ∀ a o vs n, o.data = .seq vs n → Fz C os s.heap a o → Fz C os h' a o := fun a o vs n hd f => ⟨hk a o (fun hm => (hw a hm).2.2 o vs n f.1 hd) f.1, f.2⟩
  refine ⟨⟨?_, fun b o e => hk b o (fun hm => by rw [(hw b hm).2.1] at e; cases e) (S.fr.keep b o e), S.fr.above⟩, fun p hp => ?_, S.inj, S.hidk, fun y lv hy => ?_⟩
  · obtain ⟨o, es, ep, e, r⟩ := S.fr.ns
    exact ⟨o, es, ep, hk _ _ hL e, r⟩
  · obtain ⟨h1, h2, o, h3⟩ := S.own p hp
    exact ⟨h1, h2, o, hk _ _ (fun hm => ho _ hm p hp rfl) h3⟩
  · have := S.rel y lv hy
    cases lv with
    | val d =>
      obtain ⟨v, h1, h2⟩ := this
      exact ⟨v, h1, Rep.monoS fz d h2⟩
    | own ds =>
      obtain ⟨a, vs, n, h1, h2, h3, h4⟩ := this
      exact ⟨a, vs, n, h1, h2, hk _ _ (fun hm => ho _ hm _ h2 rfl) h3, RepAll.monoS fz ds h4⟩

structure LoopAt (G : Glb) (C : Fcx) (target : Expr) (n : Nat) (ds : Nat → PyData) (it : Value) (os : Owns) (hp : Heap) (s : Shared) : Prop where
  at_ : ∃ (I : Addr) (fp wr : List Addr) (P : Nat → Value → Prop) (WS : Nat → Heap → Prop) (V : Owns → Heap → Prop), it = .ref I ∧ Walks G.prog G.w C.A I fp wr n P WS ∧ WS 0 s.heap ∧ V os s.heap ∧
    (∀ b ∈ fp, b ≠ C.L ∧ (∀ p ∈ os, p.2 ≠ b)) ∧ (∀ i h, WS i h → ∀ b ∈ fp, ∃ o, h.get? b = some o) ∧ (∀ b ∈ wr, hp.get? b = none) ∧ (∀ b ∈ wr, C.h₀.get? b = none) ∧ (∀ i h, WS i h → ∀ b ∈ wr, ∀ o vs n, h.get? b = some o → o.data ≠ .seq vs n) ∧
    (∀ os h os' h', V os h → Chg C os h os' h' → V os' h') ∧
    (∀ os h h', V os h → (∀ b o, b ∉ wr → h.get? b = some o → h'.get? b = some o) → (∀ b ∈ wr, ∀ o vs n, h.get? b = some o → o.data ≠ .seq vs n) → V os h') ∧
    (∀ i v os h, i < n → P i v → V os h → Rep (Fz C os h) (ds i) v) ∧
    (∀ i v os (s' : Shared) (Q : Unit → Shared → Prop) (E : Value → Shared → Prop), i < n → P i v → V os s'.heap → WS (i + 1) s'.heap → Q () s' → wpAny G.M C.A (letOwnedTupleGo target (.ref I) v) Q E s')

/-- the loop by its states -/
theorem ex_loop {target iter : Expr} {body : List Stmt} {pos : Pos} {n : Nat} {ds : Nat → PyData} (J : Nat → Prop) (μs μb : Nat → Loc)
    (hit : ∀ (s : Shared) (os : Owns) (m : Str → Option Value) (Q : Value → Shared → Prop) (E : Value → Shared → Prop), St C os m μ s → (∀ it h' tk, Kp C m s.heap h' → LoopAt G C target n ds it os s.heap { s with heap := h', toks := tk } → Q it { s with heap := h', toks := tk }) →
      wpAny G.M C.A (eval iter C.env) (fun x s₁ => wpAny G.M C.A (pyIter x) Q E s₁) E s)
    (h0 : Sub (μs 0) μ) (j0 : J 0)
    (has : ∀ i, i < n → ∀ (s : Shared) (os : Owns) (m : Str → Option Value) (v : Value) (Q : Unit → Shared → Prop) (E : Value → Shared → Prop), St C os m (μs i) s → Rep (Fz C os s.heap) (ds i) v →
      (∀ os' m' h' tk, St C os' m' (μb i) { s with heap := h', toks := tk } → Chg C os s.heap os' h' → Q () { s with heap := h', toks := tk }) → wpAny G.M C.A (assign target C.env v) Q E s)
    (hb : ∀ i, i < n → J i → Ex G C (μb i) body (fun μ' => Sub (μs (i + 1)) μ' ∧ J (i + 1)) R)
    (hn : J n → Ex G C (μs n) rest N R)
    (hs : ∀ x, foldedSetIterable iter C.env x = pure x := by intro _; rfl) : Ex G C μ (.For target iter body [] pos :: rest) N R := by
  intro s os m Q E S hE hN hR hX
  refine wpAny_execs_cons (wpAny_For (hit s os m _ E S fun it h₁ tk₁ k₁ L₁ => ?_) hs)
  obtain ⟨I, fp, wr, P, WS, V, rfl, W, w0, v0, hfp, hfo, hfr, hwr, hws, vC, vN, vV, hlt⟩ := L₁.at_
  have S₁ := (S.keeps (tk := tk₁) k₁).sub h0
  have c₁ : Chg C os s.heap os h₁ := Chg.of_kp k₁
  refine forLoop_any (fun k s' => ∃ i os' m' h' tk', J i ∧ i ≤ n ∧ k = n - i ∧ s' = { s with heap := h', toks := tk' } ∧ St C os' m' (μs i) s' ∧ Chg C os s.heap os' h' ∧ WS i h' ∧ V os' h' ∧ (∀ b ∈ fp, b ≠ C.L ∧ ∀ p ∈ os', p.2 ≠ b))
    (fun k s' hJ => ?_) n ⟨0, os, m, h₁, tk₁, j0, Nat.zero_le _, rfl, rfl, S₁, c₁, w0, v0, hfp⟩
  obtain ⟨i, os', m', h', tk', ji, hi, rfl, rfl, S', c', wi, vi, hf'⟩ := hJ
  have hsub : ∀ b ∈ wr, b ∈ fp := W.sub
  have hE' : ∀ e s', E e s' → notedBy G.M C.A C.env (fun e s' => cameBackBy G.M C.A C.env E e s') e s' := hE
  by_cases hlt' : i < n
  · refine W.item i _ _ _ hlt' wi fun v h'' tk'' hPv wi' hk => ?_
    have hw : ∀ b ∈ wr, b ≠ C.L ∧ C.h₀.get? b = none ∧ ∀ o vs n, h'.get? b = some o → o.data ≠ .seq vs n := fun b hb => ⟨(hf' b (hsub b hb)).1, hwr b hb, hws i h' wi b hb⟩
    have S'' := S'.next (tk := tk'') hk hw (fun b hb => (hf' b (hsub b hb)).2)
    have v'' : V os' h'' := vN os' h' h'' vi hk (hws i h' wi)
    have c'' : Chg C os s.heap os' h'' := by
      intro a o e nL ho
      obtain ⟨e1, ho1⟩ := c' a o e nL ho
      refine ⟨hk a o (fun hm => ?_) e1, ho1⟩
      rw [hfr a hm] at e; cases e
    refine hlt i v os' _ _ _ hlt' hPv v'' wi' ?_
    refine wpAny_mono (has i hlt' _ os' m' v _ E S'' (vV i v os' h'' hlt' hPv v'') fun os3 m3 h3 tk3 S3 c3 => ?_) (fun _ _ x => x) hE'
    have fin := hb i hlt' ji _ os3 m3 (fun f s₃ => match f with
          | .next | .cont => ∃ m, m < n - i ∧ ∃ i_1 os' m' h' tk', J i_1 ∧ i_1 ≤ n ∧ m = n - i_1 ∧ s₃ = { s with heap := h', toks := tk' } ∧ St C os' m' (μs i_1) s₃ ∧ Chg C os s.heap os' h' ∧ WS i_1 h' ∧ V os' h' ∧ (∀ b ∈ fp, b ≠ C.L ∧ ∀ p ∈ os', p.2 ≠ b)
          | .brk => False
          | .ret v => Q (.ret v) s₃) E S3 hE (fun μ' os4 m4 h4 tk4 hsb S4 c4 => ?_) (fun d v m4 h4 tk4 r F rd => hR d v m4 h4 tk4 r F rd) hX
    · refine wpAny_mono fin (fun f s₃ hf => ?_) hE'
      cases f with
      | next => exact hf
      | cont => exact hf
      | brk => exact hf.elim
      | ret v => exact hf
    · have cc := c3.trans c4
      have hk4 : ∀ b ∈ fp, ∀ o, h''.get? b = some o → h4.get? b = some o := fun b hb o e => (cc b o e (hf' b hb).1 (hf' b hb).2).1
      refine ⟨n - (i + 1), by omega, i + 1, os4, m4, h4, tk4, hsb.2, hlt', rfl, rfl, S4.sub hsb.1, c''.trans cc, W.frame (i + 1) h'' h4 wi' hk4, vC os' h'' os4 h4 v'' cc, fun b hb => ?_⟩
      obtain ⟨o, ho⟩ := hfo (i + 1) h'' wi' b hb
      exact ⟨(hf' b hb).1, (cc b o ho (hf' b hb).1 (hf' b hb).2).2⟩
  · obtain rfl : i = n := by omega
    refine W.done _ _ _ wi fun h'' tk'' hk => ?_
    have hw : ∀ b ∈ wr, b ≠ C.L ∧ C.h₀.get? b = none ∧ ∀ o vs n, h'.get? b = some o → o.data ≠ .seq vs n := fun b hb => ⟨(hf' b (hsub b hb)).1, hwr b hb, hws i h' wi b hb⟩
    have S'' := S'.next (tk := tk'') hk hw (fun b hb => (hf' b (hsub b hb)).2)
    have c'' : Chg C os s.heap os' h'' := by
      intro a o e nL ho
      obtain ⟨e1, ho1⟩ := c' a o e nL ho
      refine ⟨hk a o (fun hm => ?_) e1, ho1⟩
      rw [hfr a hm] at e; cases e
    exact ex_go (s := s) (os := os) (hn ji) S'' c'' hE hN hR hX

theorem asg_name {x : Str} {px : Pos} {d : PyData} {s : Shared} {os : Owns} {m : Str → Option Value} {v : Value} {Q : Unit → Shared → Prop} {E : Value → Shared → Prop} (S : St C os m μ s) (hr : Rep (Fz C os s.heap) d v) (hk : C.scope.kind = .function) (hl : C.env.kindOf x = some .local)
    (h : ∀ os' m' h' tk, St C os' m' ((x, .val d) :: μ) { s with heap := h', toks := tk } → Chg C os s.heap os' h' → Q () { s with heap := h', toks := tk }) : wpAny G.M C.A (assign (.Name x px) C.env v) Q E s :=
  wpAny_assign_Name (store_val S hr hk hl h)

theorem notSeq_fields {h : Heap} {b : Addr} {o' : Obj} {fs : Array Value} (ho : h.get? b = some o') (hd : o'.data = .fields fs) : ∀ (o : Obj) (vs : Array Value) (n : Nat), h.get? b = some o → o.data ≠ .seq vs n := by
  intro o vs n e q
  rw [ho] at e; cases e
  rw [hd] at q; cases q

/-- over a range of ints -/
theorem loopAt_range {x : Str} {px : Pos} {os : Owns} {m : Str → Option Value} {s : Shared} {h₁ : Heap} {tk : Nat} {a : Int} {n : Nat} (S : St C os m μ s) (k : Keeps s.heap h₁) (hn : s.heap.get? h₁.objs.size = none) (hh : C.A₀.handled = none) :
    LoopAt G C (.Name x px) n (fun i => .int (a + i)) (.ref h₁.objs.size) os s.heap { s with heap := h₁.push { cls := .type "range_iterator", data := .fields #[rawInt a, rawInt (n : Int), rawInt 1] }, toks := tk } := by
  have S1 := S.keeps (tk := tk) (S.kp k)
  have hfresh := S1.fresh (get?_size h₁)
  refine ⟨h₁.objs.size, [h₁.objs.size], [h₁.objs.size], _, _, fun _ _ => True, rfl, Walks.range (show C.A.handled = none from hh) h₁.objs.size a 1 n, ?_, trivial, ?_, ?_, ?_, ?_, ?_, fun _ _ _ _ _ _ => trivial, fun _ _ _ _ _ _ => trivial, ?_, fun i v os' s' Q E _ _ _ _ h => wpAny_pure h⟩
  · show IsRangeIter _ _ _ _ _
    simpa using Heap.get?_push_size h₁ rfl
  · intro b hb
    rw [List.mem_singleton.mp hb]
    exact ⟨hfresh.1, hfresh.2.2⟩
  · intro i h hi b hb
    rw [List.mem_singleton.mp hb]
    exact ⟨_, hi⟩
  · intro b hb
    rw [List.mem_singleton.mp hb]
    exact hn
  · intro b hb
    rw [List.mem_singleton.mp hb]
    cases e : C.h₀.get? h₁.objs.size with
    | none => rfl
    | some o =>
      have := S1.fr.keep _ _ e
      exact absurd (Heap.lt_size this) (Nat.lt_irrefl _)
  · intro i h hi b hb
    rw [List.mem_singleton.mp hb]
    exact notSeq_fields hi rfl
  · rintro i v os' h _ ⟨t, rfl⟩ _
    have e : a + (i : Int) * 1 = a + i := by omega
    rw [e]
    exact rep_int _ _

/-- over a list -/
theorem loopAt_list {target : Expr} {os : Owns} {m : Str → Option Value} {s : Shared} {h₁ : Heap} {tk : Nat} {l : Addr} {vs : List Value} {xs : List PyData} (S : St C os m μ s) (k : Kp C m s.heap h₁) (hn : s.heap.get? h₁.objs.size = none) (hh : C.A₀.handled = none)
    (hl : h₁.IsList l vs.toArray) (hlf : l ≠ C.L ∧ ∀ p ∈ os, p.2 ≠ l) (hr : RepAll (Fz C os h₁) xs vs)
    (hlt : ∀ i v os (s' : Shared) (Q : Unit → Shared → Prop) (E : Value → Shared → Prop), i < xs.length → (∃ d, xs[i]? = some d ∧ Rep (Fz C os s'.heap) d v) → s'.heap.IsListIter h₁.objs.size l (i + 1) → Q () s' → wpAny G.M C.A (letOwnedTupleGo target (.ref h₁.objs.size) v) Q E s') :
    LoopAt G C target xs.length (fun i => xs.getD i .none) (.ref h₁.objs.size) os s.heap { s with heap := h₁.push { cls := .type "list_iterator", data := .fields #[.ref l, .int 0 0] }, toks := tk } := by
  have S1 := S.keeps (tk := tk) k
  have hfresh := S1.fresh (get?_size h₁)
  have hlen := hr.length
  obtain ⟨ol, hol, hcl, nl, hdl⟩ := id hl
  have hne : l ≠ h₁.objs.size := fun e => absurd (Heap.lt_size (e ▸ hol)) (Nat.lt_irrefl _)
  have hsz : vs.toArray.size = xs.length := by simp [hlen]
  have W := Walks.list (prog := G.prog) (w := G.w) (show C.A.handled = none from hh) h₁.objs.size l hne vs.toArray
  rw [hsz] at W
  have hval : ∀ i v os h, i < xs.length → vs.toArray[i]? = some v → RepAll (Fz C os h) xs vs → Rep (Fz C os h) (xs.getD i .none) v := by
    intro i v os h hi hv hra
    obtain ⟨u, hu, hru⟩ := hra.get (i := i) (d := xs[i]) (by simp [hi])
    have : vs[i]? = some v := by simpa using hv
    rw [this] at hu
    cases hu
    simpa [List.getD, hi] using hru
  refine ⟨h₁.objs.size, _, _, _, _, fun os h => RepAll (Fz C os h) xs vs, rfl, W, ?_, ?_, ?_, ?_, ?_, ?_, ?_, ?_, ?_, fun i v os h hi hv hra => hval i v os h hi hv hra, ?_⟩
  · exact ⟨⟨_, Heap.get?_push_size h₁ rfl, rfl, rfl⟩, hl.push _⟩
  · exact RepAll.mono (fun a o f => ⟨Heap.get?_push_of_some _ f.1, f.2⟩) xs hr
  · intro b hb
    rcases List.mem_cons.mp hb with rfl | hb
    · exact ⟨hfresh.1, hfresh.2.2⟩
    · rw [List.mem_singleton.mp hb]; exact hlf
  · rintro i h ⟨⟨o, ho, _⟩, ⟨o', ho', _⟩⟩ b hb
    rcases List.mem_cons.mp hb with rfl | hb
    · exact ⟨o, ho⟩
    · rw [List.mem_singleton.mp hb]; exact ⟨o', ho'⟩
  · intro b hb
    rw [List.mem_singleton.mp hb]
    exact hn
  · intro b hb
    rw [List.mem_singleton.mp hb]
    cases e : C.h₀.get? h₁.objs.size with
    | none => rfl
    | some o =>
      have := S1.fr.keep _ _ e
      exact absurd (Heap.lt_size this) (Nat.lt_irrefl _)
  · rintro i h ⟨⟨o, ho, _, hd⟩, _⟩ b hb
    rw [List.mem_singleton.mp hb]
    exact notSeq_fields ho hd
  · intro os h os' h' hra c
    exact RepAll.mono c.fz xs hra
  · intro os h h' hra hk hw
    exact RepAll.monoS (fun a o vs n hd f => ⟨hk a o (fun hm => hw a hm o vs n f.1 hd) f.1, f.2⟩) xs hra
  · intro i v os s' Q E hi hv hra hws hq
    refine hlt i v os s' Q E hi ⟨xs[i], by simp [hi], ?_⟩ hws.1 hq
    have := hval i v os s'.heap hi hv hra
    simpa [List.getD, hi] using this
end

section
variable {G : Glb} {C : Fcx} {μ : Loc} {N : Loc → Prop} {R : Option PyData → Prop} {rest : List Stmt}

theorem bname {x : Str} {p : Pos} {v : Value} {s : Shared} {os : Owns} {m : Str → Option Value} {Q E : Value → Shared → Prop} (gc : Gc G C) (S : St C os m μ s) (e : nsIn G.K mainGlobals x = some none) (hv : bootBuiltins x = some v) (hn : x ≠ "__name__") (h : Q v s)
    (hx : C.env.kindOf x = some .globalImplicit) (hd : (x == ("__debug__" : Str)) = false) : wpAny G.M C.A (eval (.Name x p) C.env) Q E s :=
  name_B S.fr gc.kin (topRead_of gc.top) e hv hn h gc.kind hx hd
theorem gname {x : Str} {p : Pos} {v : Value} {s : Shared} {os : Owns} {m : Str → Option Value} {Q E : Value → Shared → Prop} (gc : Gc G C) (S : St C os m μ s) (e : nsIn G.K mainGlobals x = some (some v)) (h : Q v s)
    (hx : C.env.kindOf x = some .globalImplicit) (hd : (x == ("__debug__" : Str)) = false) : wpAny G.M C.A (eval (.Name x p) C.env) Q E s :=
  name_K S.fr gc.kin (topRead_of gc.top) e h gc.kind hx hd

/-- what a call gives -/
noncomputable def CallTo (G : Glb) (C : Fcx) (μ : Loc) (f : Value) (ds : List PyData) (r : Option PyData) : Prop :=
  ∀ (s : Shared) (os : Owns) (m : Str → Option Value) (vs : List Value) (Q E : Value → Shared → Prop), St C os m μ s → RepAll (Fz C os s.heap) ds vs →
    (∀ d v h' tk, r = some d → Kp C m s.heap h' → Rep (Fz C os h') d v → Q v { s with heap := h', toks := tk }) →
    (r = none → ∀ x h' tk, G.rf C x { s with heap := h', toks := tk } → E (.ref x) { s with heap := h', toks := tk }) → wpAny G.M C.A (call f vs) Q E s

/-- a built-in function's call -/
theorem ev_bcall {x : Str} {id : String} {p pos : Pos} {e : Expr} {es : List Expr} {ds : List PyData} {d : PyData} (gc : Gc G C) (hb : nsIn G.K mainGlobals x = some none) (hv : bootBuiltins x = some (.builtin id)) (hn : x ≠ "__name__") (ha : EvAll G C μ pos (e :: es) ds) (hc : CallTo G C μ (.builtin id) ds (some d))
    (hx : C.env.kindOf x = some .globalImplicit := by rfl) (hd : (x == ("__debug__" : Str)) = false := by decide)
    (he : starEach (e :: es) C.env = (false, eval e C.env) :: starEach es C.env := by rfl) (hplain : (backTo pos (starEach es C.env)).any (·.1) = false := by rfl) : Ev G C μ (.Call (.Name x p) (e :: es) [] pos) d := by
  intro s os m Q E S hQ _
  refine Call_ (bname gc S hb hv hn ?_ hx hd)
  refine callWith_builtin1 (ha s os m _ E S fun vs h' tk k rs => ?_) he hplain
  exact hc _ os m vs Q E (S.keeps k) rs (fun d' v h'' tk' e' k' r' => hQ d' v h'' tk' e' (k.trans k') r') fun e' => nomatch e'
/-- a built-in type's call -/
theorem ev_tcall {x : Str} {T : String} {p pos : Pos} {e : Expr} {es : List Expr} {ds : List PyData} {d : PyData} (gc : Gc G C) (hb : nsIn G.K mainGlobals x = some none) (hv : bootBuiltins x = some (.type T)) (hn : x ≠ "__name__") (ha : EvAll G C μ pos (e :: es) ds) (hc : CallTo G C μ (.type T) ds (some d))
    (hx : C.env.kindOf x = some .globalImplicit := by rfl) (hd : (x == ("__debug__" : Str)) = false := by decide)
    (he : starEach (e :: es) C.env = (false, eval e C.env) :: starEach es C.env := by rfl) (hplain : (backTo pos (starEach es C.env)).any (·.1) = false := by rfl) : Ev G C μ (.Call (.Name x p) (e :: es) [] pos) d := by
  intro s os m Q E S hQ _
  refine Call_ (bname gc S hb hv hn ?_ hx hd)
  refine Pv.callWith_type1 (ha s os m _ E S fun vs h' tk k rs => ?_) he hplain
  exact hc _ os m vs Q E (S.keeps k) rs (fun d' v h'' tk' e' k' r' => hQ d' v h'' tk' e' (k.trans k') r') fun e' => nomatch e'
/-- a def of the text -/
theorem evr_call {x : Str} {f : Addr} {p pos : Pos} {e : Expr} {es : List Expr} {ds : List PyData} {r : Option PyData} (gc : Gc G C) (hb : nsIn G.K mainGlobals x = some (some (.ref f))) (hk : keepIn G.K (.ref f) = true) (ha : EvAll G C μ pos (e :: es) ds) (hc : CallTo G C μ (.ref f) ds r)
    (hx : C.env.kindOf x = some .globalImplicit := by rfl) (hd : (x == ("__debug__" : Str)) = false := by decide)
    (he : starEach (e :: es) C.env = (false, eval e C.env) :: starEach es C.env := by rfl) (hplain : (backTo pos (starEach es C.env)).any (·.1) = false := by rfl) : EvR G C μ (.Call (.Name x p) (e :: es) [] pos) r := by
  intro s os m Q E S hQ hE
  refine Call_ (gname gc S hb ?_ hx hd)
  refine callWith_K gc.kin hk (ha s os m _ E S fun vs h' tk k rs => ?_) he hplain
  have S' := S.keeps (tk := tk) k
  refine ⟨gc.kin.keeps S'.fr.keep, ?_⟩
  exact hc _ os m vs Q E S' rs (fun d' v h'' tk' e' k' r' => hQ d' v h'' tk' e' (k.trans k') r') fun e x h' tk h => hE e x h' tk (G.rfz _ _ _ h)
/-- the same, with what comes on its way from a call -/
noncomputable def EvX (G : Glb) (C : Fcx) (μ : Loc) (e : Expr) (r : Option PyData) : Prop :=
  ∀ (s : Shared) (os : Owns) (m : Str → Option Value) (Q E : Value → Shared → Prop), St C os m μ s →
    (∀ d v h' tk, r = some d → Kp C m s.heap h' → Rep (Fz C os h') d v → Q v { s with heap := h', toks := tk }) →
    (r = none → ∀ x h' tk, G.rf C x { s with heap := h', toks := tk } → E (.ref x) { s with heap := h', toks := tk }) → wpAny G.M C.A (eval e C.env) Q E s
theorem evx_call {x : Str} {f : Addr} {p pos : Pos} {e : Expr} {es : List Expr} {ds : List PyData} {r : Option PyData} (gc : Gc G C) (hb : nsIn G.K mainGlobals x = some (some (.ref f))) (hk : keepIn G.K (.ref f) = true) (ha : EvAll G C μ pos (e :: es) ds) (hc : CallTo G C μ (.ref f) ds r)
    (hx : C.env.kindOf x = some .globalImplicit := by rfl) (hd : (x == ("__debug__" : Str)) = false := by decide)
    (he : starEach (e :: es) C.env = (false, eval e C.env) :: starEach es C.env := by rfl) (hplain : (backTo pos (starEach es C.env)).any (·.1) = false := by rfl) : EvX G C μ (.Call (.Name x p) (e :: es) [] pos) r := by
  intro s os m Q E S hQ hE
  refine Call_ (gname gc S hb ?_ hx hd)
  refine callWith_K gc.kin hk (ha s os m _ E S fun vs h' tk k rs => ?_) he hplain
  have S' := S.keeps (tk := tk) k
  refine ⟨gc.kin.keeps S'.fr.keep, ?_⟩
  exact hc _ os m vs Q E S' rs (fun d' v h'' tk' e' k' r' => hQ d' v h'' tk' e' (k.trans k') r') hE

theorem call_len {xs : List PyData} (hsz : xs.length ≤ 1000000) : CallTo G C μ (.builtin "len") [.list xs] (some (.int xs.length)) := by
  intro s os m vs Q E S rs hQ _
  rw [RepAll] at rs
  obtain ⟨v, t, rfl, h1, h2⟩ := rs
  rw [RepAll] at h2
  subst h2
  obtain ⟨a, vs, rfl, hl, hr⟩ := h1.isListL Fz.get
  have hlen := hr.length
  refine Calls.call_len_list hl (by simp; omega) ?_
  have e : ((vs.toArray.size : Nat) : Int) = (xs.length : Int) := by simp [hlen]
  rw [e]
  exact hQ _ _ s.heap _ rfl S.refl (rep_int _ _)
theorem call_str_bool {b : Bool} : CallTo G C μ (.type "str") [.bool b] (some (.str (if b then "True" else "False"))) := by
  intro s os m vs Q E S rs hQ _
  rw [RepAll] at rs
  obtain ⟨v, t, rfl, h1, h2⟩ := rs
  rw [RepAll] at h2
  subst h2
  obtain rfl := Rep.bool_iff.mp h1
  exact P.str_of_bool (hQ _ _ s.heap _ rfl S.refl (rep_str _ _))
theorem call_str_str {x : Str} : CallTo G C μ (.type "str") [.str x] (some (.str x)) := by
  intro s os m vs Q E S rs hQ _
  rw [RepAll] at rs
  obtain ⟨v, t, rfl, h1, h2⟩ := rs
  rw [RepAll] at h2
  subst h2
  obtain ⟨t, rfl⟩ := Rep.str_iff.mp h1
  exact P.str_of_str (hQ _ _ s.heap s.toks rfl S.refl (rep_str _ _))
theorem call_str_int {i : Int} (hi : i.natAbs.log2 < 1920) : CallTo G C μ (.type "str") [.int i] (some (.str (toString i))) := by
  intro s os m vs Q E S rs hQ _
  rw [RepAll] at rs
  obtain ⟨v, t, rfl, h1, h2⟩ := rs
  rw [RepAll] at h2
  subst h2
  obtain ⟨t, rfl⟩ := Rep.int_iff.mp h1
  exact P.str_of_int hi (hQ _ _ s.heap _ rfl S.refl (rep_str _ _))
theorem call_list_copy {xs : List PyData} (hsz : xs.length ≤ 1000000) : CallTo G C μ (.type "list") [.list xs] (some (.list xs)) := by
  intro s os m vs Q E S rs hQ _
  rw [RepAll] at rs
  obtain ⟨v, t, rfl, h1, h2⟩ := rs
  rw [RepAll] at h2
  subst h2
  obtain ⟨a, o, vs, n, rfl, f, hc, hd, hr⟩ := Rep.list_iff.mp h1
  have hlen := hr.length
  refine call_list_seq a (.inl rfl) f.1 hc hd (fun h' c' hk hD => ?_) (by rw [sizeLine_eq]; simp at hlen; omega)
  have kp := S.kp hk
  exact hQ _ _ h' s.toks rfl kp (Rep.list_iff.mpr ⟨_, _, vs, c', rfl, ⟨hD, S.fresh (get?_size _)⟩, rfl, rfl, RepAll.mono (Fz.keeps kp) xs hr⟩)

/-! loops -/
theorem rangeSize_one (a b : Int) (n : Nat) (h : (b - a).toNat = n) : Builtin.Range.rangeSize a b 1 = (n : Int) := by
  unfold Builtin.Range.rangeSize
  simp
  omega
theorem small_rng {a b : Int} (h1 : -1000000 ≤ a) (h2 : a ≤ b + 1) (h3 : b ≤ 1000000) : Builtin.Range.small a b 1 = true := by
  obtain ⟨n, hn⟩ : ∃ n : Nat, (b - a).toNat = n := ⟨(b - a).toNat, rfl⟩
  unfold Builtin.Range.small
  rw [rangeSize_one a b n hn]
  simp [Builtin.Range.rangeFitsLong]
  omega

theorem iter_range1 {x : Str} {px p pos : Pos} {e : Expr} {b : Nat} (gc : Gc G C) (hb : nsIn G.K mainGlobals "range" = some none) (h : Ev G C μ e (.int b)) (hsz : b ≤ 1000000)
    (hx : C.env.kindOf "range" = some .globalImplicit := by rfl) (he : starEach [e] C.env = (false, eval e C.env) :: starEach [] C.env := by rfl) :
    ∀ (s : Shared) (os : Owns) (m : Str → Option Value) (Q : Value → Shared → Prop) (E : Value → Shared → Prop), St C os m μ s → (∀ it h' tk, Kp C m s.heap h' → LoopAt G C (.Name x px) b (fun i => .int (0 + i)) it os s.heap { s with heap := h', toks := tk } → Q it { s with heap := h', toks := tk }) →
      wpAny G.M C.A (eval (.Call (.Name "range" p) [e] [] pos) C.env) (fun x s₁ => wpAny G.M C.A (pyIter x) Q E s₁) E s := by
  intro s os m Q E S hQ
  refine Call_ (bname gc S hb boot_range (by decide) ?_ hx (by decide))
  refine Pv.callWith_type1 (ea_cons h ea_nil he s os m _ E S fun vs h' tk k rs => ?_) he rfl
  rw [RepAll] at rs
  obtain ⟨v, t, rfl, h1, h2⟩ := rs
  rw [RepAll] at h2
  subst h2
  obtain ⟨t, rfl⟩ := Rep.int_iff.mp h1
  have S' := S.keeps (tk := tk) k
  refine range1_rows S'.fr news_all fun h'' tk' t₁ u₁ v₁ hr F N kk => ?_
  refine wpAny_pyIter_range hr (small_rng (by omega) (by omega) (by omega)) ?_
  rw [rangeSize_one 0 b b (by omega)]
  have kp2 := S'.kp kk
  have S2 := S'.keeps (tk := tk') kp2
  have kp3 := S2.kp (Keeps.push h'' { cls := .type "range_iterator", data := .fields #[rawInt 0, rawInt (b : Int), rawInt 1] })
  have hn : s.heap.get? h''.objs.size = none := by
    cases e : s.heap.get? h''.objs.size with
    | none => rfl
    | some o =>
      by_cases hL : h''.objs.size = C.L
      · obtain ⟨oL, _, _, hoL, _⟩ := S2.fr.ns
        exact absurd (Heap.lt_size (hL ▸ hoL)) (Nat.lt_irrefl _)
      · exact absurd (Heap.lt_size (kp2.keep _ _ (k.keep _ _ e hL) hL)) (Nat.lt_irrefl _)
  refine hQ _ _ _ ((k.trans kp2).trans kp3) ?_
  have := loopAt_range (G := G) (x := x) (px := px) (a := 0) (n := b) (h₁ := h'') (tk := tk') (S := S2) (Keeps.refl _) (get?_size _) gc.hand
  obtain ⟨I, fp, wr, P, WS, V, q1, q2, q3, q4, q5, q6, q7, q8⟩ := this.at_
  refine ⟨I, fp, wr, P, WS, V, q1, q2, q3, q4, q5, q6, fun c hc => ?_, q8⟩
  have h7 := q7 c hc
  cases e : s.heap.get? c with
  | none => rfl
  | some o =>
    have hL : c ≠ C.L := (q5 c (q2.sub c hc)).1
    have := kp2.keep _ _ (k.keep _ _ e hL) hL
    rw [show h''.get? c = none from h7] at this
    cases this
end

noncomputable def eltNames : List Expr → Option (List Str)
  | [] => some []
  | .Name x _ :: es => (eltNames es).map (x :: ·)
  | _ :: _ => none
noncomputable def bindAll : List Str → List PyData → Loc → Loc
  | x :: xs, d :: ds, μ => bindAll xs ds ((x, .val d) :: μ)
  | _, _, μ => μ

section
variable {G : Glb} {C : Fcx} {μ : Loc} {N : Loc → Prop} {R : Option PyData → Prop} {rest : List Stmt}

theorem eltNames_nil {elts : List Expr} (h : eltNames elts = some []) : elts = [] := by
  cases elts with
  | nil => rfl
  | cons e es => cases e <;> simp [eltNames] at h
theorem eltNames_cons {elts : List Expr} {x : Str} {xs : List Str} (h : eltNames elts = some (x :: xs)) : ∃ p es, elts = .Name x p :: es ∧ eltNames es = some xs := by
  cases elts with
  | nil => simp [eltNames] at h
  | cons e es =>
    cases e with
    | Name y p =>
      simp only [eltNames, Option.map_eq_some_iff] at h
      obtain ⟨ys, hy, e⟩ := h
      cases e
      exact ⟨p, es, rfl, hy⟩
    | _ => simp [eltNames] at h

theorem asg_all (hf : C.scope.kind = .function) : ∀ {xs : List Str} {elts : List Expr} {ds : List PyData} {vs : List Value} {μ : Loc} {s : Shared} {os : Owns} {m : Str → Option Value} {Q : Unit → Shared → Prop} {E : Value → Shared → Prop},
    eltNames elts = some xs → xs.length = ds.length → (xs.all fun x => C.env.kindOf x == some .local) = true → St C os m μ s → RepAll (Fz C os s.heap) ds vs →
    (∀ os' m' h' tk, St C os' m' (bindAll xs ds μ) { s with heap := h', toks := tk } → Chg C os s.heap os' h' → Q () { s with heap := h', toks := tk }) →
    wpAny G.M C.A (assignInOrder ((assignEach elts C.env).map (·.2)) vs) Q E s := by
  intro xs
  induction xs with
  | nil =>
    intro elts ds vs μ s os m Q E hx hl _ S rs h
    rw [eltNames_nil hx]
    cases ds with
    | cons _ _ => simp at hl
    | nil => exact assignInOrder_nil (h os m s.heap s.toks S Chg.refl)
  | cons x ys ih =>
    intro elts ds vs μ s os m Q E hx hl hk S rs h
    obtain ⟨p, es, rfl, hy⟩ := eltNames_cons hx
    cases ds with
    | nil => simp at hl
    | cons d ds =>
      rw [RepAll] at rs
      obtain ⟨v, r, rfl, h1, h2⟩ := rs
      simp only [List.all_cons, Bool.and_eq_true, beq_iff_eq] at hk
      show wpAny G.M C.A (assignInOrder (assign (.Name x p) C.env :: (assignEach es C.env).map (·.2)) (v :: r)) Q E s
      refine assignInOrder_cons (asg_name S h1 hf hk.1 fun os' m' h' tk S' c => ?_)
      exact ih (s := { s with heap := h', toks := tk }) hy (by simpa using hl) hk.2 S' (RepAll.mono c.fz ds h2) fun os'' m'' h'' tk' S'' c' => h os'' m'' h'' tk' S'' (c.trans c')

theorem asg_tuple {elts : List Expr} {k : Nat} {tpos : Pos} {xs : List Str} {ds : List PyData} {v : Value} {s : Shared} {os : Owns} {m : Str → Option Value} {Q : Unit → Shared → Prop} {E : Value → Shared → Prop} (hx : eltNames elts = some xs) (hl : xs.length = ds.length)
    (hk : (xs.all fun x => C.env.kindOf x == some .local) = true) (hf : C.scope.kind = .function) (hh : C.A₀.handled = none) (S : St C os m μ s) (r : Rep (Fz C os s.heap) (.tuple ds) v)
    (h : ∀ os' m' h' tk, St C os' m' (bindAll xs ds μ) { s with heap := h', toks := tk } → Chg C os s.heap os' h' → Q () { s with heap := h', toks := tk })
    (hn : (assignEach elts C.env).length = xs.length) (hstar : (assignEach elts C.env).findIdx? (·.1) = none) : wpAny G.M C.A (assign (.Tuple elts k tpos) C.env v) Q E s := by
  obtain ⟨a, vs, rfl, ht, hr⟩ := r.isTup Fz.get
  have hlen := hr.length
  refine assign_Tuple_tuple (show C.A.handled = none from hh) ht (by rw [hn, hl]; simpa using hlen.symm) hstar fun h' he => ?_
  have kk : Keeps s.heap h' := fun b o e => he b o (Nat.ne_of_lt (Heap.lt_size e)) e
  have kp := S.kp kk
  exact asg_all hf (s := { s with heap := h' }) hx hl hk (S.keeps (tk := s.toks) kp) (RepAll.mono (Fz.keeps kp) ds hr) fun os'' m'' h'' tk' S'' c' => h os'' m'' h'' tk' S'' ((Chg.of_kp kp).trans c')

theorem ex_unpack {elts : List Expr} {k : Nat} {tpos pos : Pos} {e : Expr} {xs : List Str} {ds : List PyData} (h : Ev G C μ e (.tuple ds)) (hx : eltNames elts = some xs) (hl : xs.length = ds.length) (gc : Gc G C) (hn : Ex G C (bindAll xs ds μ) rest N R)
    (hk : (xs.all fun x => C.env.kindOf x == some .local) = true := by rfl) (ha : (assignEach elts C.env).length = xs.length := by rfl) (hstar : (assignEach elts C.env).findIdx? (·.1) = none := by rfl)
    (hs : swapsWithSole [.Tuple elts k tpos] e pos.line C.env = pure false := by rfl) (hw : swappedStores [.Tuple elts k tpos] e C.env = pure none := by rfl) : Ex G C μ (.Assign [.Tuple elts k tpos] e pos :: rest) N R := by
  intro s os m Q E S hE hN hR hX
  refine wpAny_execs_cons (Assign_Tuple (h s os m _ E S (fun d v h' tk e k rd => ?_) fun e => nomatch e) hs hw)
  cases e
  refine asg_tuple hx hl hk gc.kind gc.hand (S.keeps k) rd (fun os' m' h'' tk' S' c => ?_) ha hstar
  exact ex_go (s := s) (os := os) hn S' ((Chg.of_kp k).trans c) hE hN hR hX

/-! lists of one's own -/
/-- a new list -/
noncomputable def EvNew (G : Glb) (C : Fcx) (μ : Loc) (e : Expr) (ds : List PyData) : Prop :=
  ∀ (s : Shared) (os : Owns) (m : Str → Option Value) (Q E : Value → Shared → Prop), St C os m μ s →
    (∀ a vs n h' tk, Kp C m s.heap h' → s.heap.get? a = none → h'.get? a = some (listObj vs n) → RepAll (fun b o => Fz C os h' b o ∧ b ≠ a) ds vs.toList → Q (.ref a) { s with heap := h', toks := tk }) → wpAny G.M C.A (eval e C.env) Q E s

theorem en_nil {pos : Pos} : EvNew G C μ (.List [] pos) [] := by
  intro s os m Q E S hQ
  refine List_ (spliced_none ?_)
  refine wpAny_newObj_type ?_ (by show (0 : Nat) ≤ sizeLine; omega)
  exact hQ _ #[] 0 _ s.toks (S.kp (Keeps.push _ _)) (get?_size _) (Heap.get?_push_size _ rfl) .nil

theorem en_slice_upto {value hi : Expr} {p pos : Pos} {xs : List PyData} {b : Int} (h1 : Ev G C μ value (.list xs)) (h3 : Ev G C μ hi (.int b)) (hab : 0 ≤ b) (hb : b ≤ xs.length) (hsz : xs.length ≤ 1000000)
    (ht : ∀ o r, letTemporaryGo value o r = pure () := by intros; rfl) :
    EvNew G C μ (.Subscript value (.Slice none (some hi) none p) pos) (xs.take b.toNat) := by
  intro s os m Q E S hQ
  refine Subscript_ (h1 s os m _ E S (fun a' va h' tk e k ra => ?_) (fun e => nomatch e))
  cases e
  refine wpAny_Slice ?_
  rw [evalPart_some, evalPart_none]
  refine wpAny_pure ?_
  refine h3 _ os m _ E (S.keeps k) (fun c' vc h3' tk3 e3 k3 rc => ?_) (fun e => nomatch e)
  cases e3
  refine wpAny_pure ?_
  obtain ⟨u, rfl⟩ := Rep.int_iff.mp rc
  have S3 := (S.keeps (tk := tk) k).keeps (tk := tk3) k3
  obtain ⟨l, vs, rfl, hl, hr⟩ := (Rep.mono (Fz.keeps k3) _ ra).isListL Fz.get
  have hlen := hr.length
  refine slice_list (s := { s with heap := h3', toks := tk3 }) S3.fr news_all hl .none (.int b u) (fun h' F N => ?_) rfl (ht _) (by rw [List.size_toArray, sizeLine_eq]; omega)
  have kp := S3.kpN1 F N
  have hn := (N _ (.head _)).1
  have hz : h3'.get? (h3'.objs.size + 1) = none := by
    cases e : h3'.get? (h3'.objs.size + 1) with
    | none => rfl
    | some o => exact absurd (Heap.lt_size e) (Nat.not_lt_of_le (Nat.le_succ _))
  have hz0 : s.heap.get? (h3'.objs.size + 1) = none := by
    cases e : s.heap.get? (h3'.objs.size + 1) with
    | none => rfl
    | some o =>
      have hL := (S3.fresh hz).1
      have := k3.keep _ _ (k.keep _ _ e hL) hL
      rw [show h3'.get? (h3'.objs.size + 1) = none from hz] at this; cases this
  refine hQ (h3'.objs.size + 1) _ 0 h' tk3 ((k.trans k3).trans kp) hz0 hn ?_
  rw [slice_upto hab (by omega)]
  have q := hr.take b.toNat
  refine RepAll.mono (fun c o f => ⟨Fz.keeps kp c o f, fun e => ?_⟩) _ (by simpa using q)
  have f1 : h3'.get? c = some o := f.1
  rw [e, hz] at f1; cases f1

theorem ex_assign_own {x : Str} {px pos : Pos} {e : Expr} {ds : List PyData} (h : EvNew G C μ e ds) (hk : C.scope.kind = .function) (hn : Ex G C ((x, .own ds) :: μ) rest N R)
    (hl : C.env.kindOf x = some .local := by rfl) (hs : swapsWith e (some (.Name x px)) pos.line C.env = pure false := by rfl) : Ex G C μ (.Assign [.Name x px] e pos :: rest) N R := by
  intro s os m Q E S hE hN hR hX
  refine wpAny_execs_cons (wpAny_Assign_Name (h s os m _ E S fun a vs n h' tk k hz ho hr => ?_) hs)
  have S' := S.keeps (tk := tk) k
  refine wpAny_storeName_local hl S'.fr.ns (fun h'' hn' hs' => ?_) (by show (C.scope.kind == .class || (C.scope.kind == .module && C.L != mainGlobals)) = false; rw [hk]; rfl)
  have hL : a ≠ C.L := (S.fresh hz).1
  have kp : ∀ b o, h'.get? b = some o → b ≠ C.L → h''.get? b = some o := fun b o e n => (hs'.2 b n).trans e
  have h0 : C.h₀.get? a = none := by
    cases e : C.h₀.get? a with
    | none => rfl
    | some o => have := S.fr.keep _ _ e; rw [hz] at this; cases this
  -- what is no one's own, now
  have fz : ∀ b o, Fz C os h' b o → b ≠ a → Fz C ((x, a) :: os.filter (·.1 ≠ x)) h'' b o := fun b o f nb => ⟨kp b o f.1 f.2.1, f.2.1, f.2.2.1, fun p hp => by
    rcases List.mem_cons.mp hp with rfl | hp
    · exact fun e => nb e.symm
    · exact f.2.2.2 p (List.mem_filter.mp hp).1⟩
  have old : ∀ b o, Fz C os s.heap b o → Fz C ((x, a) :: os.filter (·.1 ≠ x)) h'' b o := fun b o f => fz b o (Fz.keeps k b o f) fun e => by
    have := f.1; rw [e, hz] at this; cases this
  have hoa : ∀ p ∈ os, p.2 ≠ a := (S.fresh hz).2.2
  have S'' : St C ((x, a) :: os.filter (·.1 ≠ x)) (fun y => if y = x then some (.ref a) else m y) ((x, .own ds) :: μ) { s with heap := h'', toks := tk + 1 } := by
    refine ⟨S'.fr.set hn' hs', fun p hp => ?_, fun p hp q hq => ?_, S.hidk, fun y lv hy => ?_⟩
    · rcases List.mem_cons.mp hp with rfl | hp
      · exact ⟨hL, h0, _, kp _ _ ho hL⟩
      · obtain ⟨h1, h2, o, h3⟩ := S'.own p (List.mem_filter.mp hp).1
        exact ⟨h1, h2, o, kp _ _ h3 h1⟩
    · rcases List.mem_cons.mp hp with rfl | hp
      · rcases List.mem_cons.mp hq with rfl | hq
        · exact fun _ => rfl
        · exact fun e => absurd e.symm (hoa q (List.mem_filter.mp hq).1)
      · rcases List.mem_cons.mp hq with rfl | hq
        · exact fun e => absurd e (hoa p (List.mem_filter.mp hp).1)
        · exact S.inj p (List.mem_filter.mp hp).1 q (List.mem_filter.mp hq).1
    · rw [List.lookup_cons] at hy
      by_cases e : y = x
      · subst e
        simp only [beq_self_eq_true] at hy
        cases hy
        exact ⟨a, vs, n, by simp, .head _, kp _ _ ho hL, RepAll.mono (fun b o f => fz b o f.1 f.2) ds hr⟩
      · have hb : (y == x) = false := beq_eq_false_iff_ne.mpr e
        simp only [hb] at hy
        have := S.rel y lv hy
        cases lv with
        | val d' =>
          obtain ⟨v', h1, h2⟩ := this
          exact ⟨v', by simp [e, h1], Rep.mono old d' h2⟩
        | own es =>
          obtain ⟨b, us, n', h1, h2, h3, h4⟩ := this
          exact ⟨b, us, n', by simp [e, h1], .tail _ (List.mem_filter.mpr ⟨h2, by simpa using e⟩), kp _ _ (k.keep _ _ h3 (S.own _ h2).1) (S.own _ h2).1, RepAll.mono old es h4⟩
  have c : Chg C os s.heap ((x, a) :: os.filter (·.1 ≠ x)) h'' := fun b o e nL hob => ⟨kp b o (k.keep b o e nL) nL, fun p hp => by
    rcases List.mem_cons.mp hp with rfl | hp
    · intro q
      have q' : a = b := q
      rw [← q', hz] at e; cases e
    · exact hob p (List.mem_filter.mp hp).1⟩
  exact ex_go (s := s) (os := os) hn S'' c hE hN hR hX

/-- a list of one's own is let go -/
theorem ex_freeze {x : Str} {ds : List PyData} {ss : List Stmt} (hx : μ.lookup x = some (.own ds)) (h : Ex G C ((x, .val (.list ds)) :: μ) ss N R) : Ex G C μ ss N R := by
  intro s os m Q E S hE hN hR hX
  obtain ⟨a, vs, n, h1, h2, h3, h4⟩ := S.rel x _ hx
  have fz : ∀ b o, Fz C os s.heap b o → Fz C (os.filter (·.1 ≠ x)) s.heap b o := fun b o f => ⟨f.1, f.2.1, f.2.2.1, fun p hp => f.2.2.2 p (List.mem_filter.mp hp).1⟩
  have hna : ∀ p ∈ os.filter (·.1 ≠ x), p.2 ≠ a := fun p hp e => by
    have := S.inj p (List.mem_filter.mp hp).1 _ h2 e
    have q := (List.mem_filter.mp hp).2
    simp [this] at q
  have hh : ¬ C.hid a := fun hid => by
    obtain ⟨o, ho⟩ := S.hidk a hid
    rw [(S.own _ h2).2.1] at ho; cases ho
  have S' : St C (os.filter (·.1 ≠ x)) m ((x, .val (.list ds)) :: μ) s := by
    refine ⟨S.fr, fun p hp => S.own p (List.mem_filter.mp hp).1, fun p hp q hq => S.inj p (List.mem_filter.mp hp).1 q (List.mem_filter.mp hq).1, S.hidk, fun y lv hy => ?_⟩
    rw [List.lookup_cons] at hy
    by_cases e : y = x
    · subst e
      simp only [beq_self_eq_true] at hy
      cases hy
      exact ⟨.ref a, h1, Rep.list_iff.mpr ⟨a, _, vs, n, rfl, ⟨h3, (S.own _ h2).1, hh, hna⟩, rfl, rfl, RepAll.mono fz ds h4⟩⟩
    · have hb : (y == x) = false := beq_eq_false_iff_ne.mpr e
      simp only [hb] at hy
      have := S.rel y lv hy
      cases lv with
      | val d' =>
        obtain ⟨v', g1, g2⟩ := this
        exact ⟨v', g1, Rep.mono fz d' g2⟩
      | own es =>
        obtain ⟨b, us, n', g1, g2, g3, g4⟩ := this
        exact ⟨b, us, n', g1, List.mem_filter.mpr ⟨g2, by simpa using e⟩, g3, RepAll.mono fz es g4⟩
  have c : Chg C os s.heap (os.filter (·.1 ≠ x)) s.heap := fun b o e _ ho => ⟨e, fun p hp => ho p (List.mem_filter.mp hp).1⟩
  exact h s _ m Q E S' hE (fun μ' os' m' h' tk n' S'' c' => hN μ' os' m' h' tk n' S'' (c.trans c')) hR hX

/-- x.append(e) -/
theorem ex_append {x : Str} {p1 p2 p3 pos : Pos} {e : Expr} {ds : List PyData} {d : PyData} (hx : μ.lookup x = some (.own ds)) (h : Ev G C μ e d) (hsz : ds.length ≤ 1000000) (hk : C.scope.kind = .function) (hn : Ex G C ((x, .own (ds ++ [d])) :: μ) rest N R)
    (hl : C.env.kindOf x = some .local := by rfl) (hd : (x == ("__debug__" : Str)) = false := by decide)
    (he : starEach [e] C.env = (false, eval e C.env) :: starEach [] C.env := by rfl)
    (hm : ∃ pl, eval (.Call (.Attribute (.Name x p1) "append" p2) [e] [] p3) C.env = (do
      let ov ← eval (.Name x p1) C.env
      standAt p2.atName
      let (f, first) ← holding [ov] (getMethod ov "append" pl)
      callWith p3 f first (backTo p3 (starEach [e] C.env)) []) := by exact ⟨_, rfl⟩)
    (hi : interactive C.env = false := by rfl) (hs : swapsWith (.Call (.Attribute (.Name x p1) "append" p2) [e] [] p3) none pos.line C.env = pure false := by rfl) :
    Ex G C μ (.Expr (.Call (.Attribute (.Name x p1) "append" p2) [e] [] p3) pos :: rest) N R := by
  intro s os m Q E S hE hN hR hX
  obtain ⟨a, vs, n, h1, h2, h3, h4⟩ := S.rel x _ hx
  obtain ⟨pl, hm⟩ := hm
  refine wpAny_execs_cons (wpAny_Expr ?_ hi hs)
  refine MethodCall_ (pl := pl) (ld S.fr h1 ?_ hk hl hd) hm
  refine getMethod_list_append h3 rfl rfl ?_
  refine callWith_method1 (ea_cons h ea_nil he s os m _ E S fun us h' tk k rs => ?_) he rfl
  rw [RepAll] at rs
  obtain ⟨v, t, rfl, r1, r2⟩ := rs
  rw [RepAll] at r2
  subst r2
  have S' := S.keeps (tk := tk) k
  have h3' : h'.get? a = some (listObj vs n) := k.keep _ _ h3 (S.own _ h2).1
  have hlen := h4.length
  refine wpAny_list_append_plain (s := { s with heap := h', toks := tk }) (l := a) (items := vs) (x := v) ⟨n, h3'⟩ (fun h'' hp hs' => ?_) (by rw [sizeLine_eq]; simp at hlen; omega)
  obtain ⟨n', hp⟩ := hp
  have kp : ∀ b o, h'.get? b = some o → b ≠ a → h''.get? b = some o := fun b o e n => (hs'.2 b n).trans e
  have fz : ∀ b o, Fz C os h' b o → Fz C os h'' b o := fun b o f => ⟨kp b o f.1 (fun e => f.2.2.2 _ h2 e.symm), f.2⟩
  have hLa : C.L ≠ a := fun e => (S.own _ h2).1 e.symm
  have S'' : St C os m ((x, .own (ds ++ [d])) :: μ) { s with heap := h'', toks := tk } := by
    refine ⟨⟨?_, fun b o e => kp b o (S'.fr.keep b o e) (fun q => by rw [q, (S.own _ h2).2.1] at e; cases e), S.fr.above⟩, fun p hp' => ?_, S.inj, S.hidk, fun y lv hy => ?_⟩
    · obtain ⟨o, es, ep, e, r⟩ := S'.fr.ns
      exact ⟨o, es, ep, kp _ _ e hLa, r⟩
    · obtain ⟨q1, q2, o, q3⟩ := S'.own p hp'
      by_cases e : p.2 = a
      · exact ⟨q1, q2, _, by rw [e]; exact hp⟩
      · exact ⟨q1, q2, o, kp _ _ q3 e⟩
    · rw [List.lookup_cons] at hy
      by_cases e : y = x
      · subst e
        simp only [beq_self_eq_true] at hy
        cases hy
        refine ⟨a, vs.push v, n', h1, h2, hp, ?_⟩
        have := (RepAll.mono fz ds (RepAll.mono (Fz.keeps k) ds h4)).append (RepAll.cons (Rep.mono fz d r1) .nil)
        simpa using this
      · have hb : (y == x) = false := beq_eq_false_iff_ne.mpr e
        simp only [hb] at hy
        have := S'.rel y lv hy
        cases lv with
        | val d' =>
          obtain ⟨v', g1, g2⟩ := this
          exact ⟨v', g1, Rep.mono fz d' g2⟩
        | own es =>
          obtain ⟨b, us, n2, g1, g2, g3, g4⟩ := this
          refine ⟨b, us, n2, g1, g2, kp _ _ g3 (fun q => e (S.inj _ g2 _ h2 q)), RepAll.mono fz es g4⟩
  have c : Chg C os s.heap os h'' := fun b o e nL ho => ⟨kp b o (k.keep b o e nL) (fun q => ho _ h2 q.symm), ho⟩
  exact ex_go (s := s) (os := os) hn S'' c hE hN hR hX
end

theorem mem_of_look {α : Type} {x : Str} {v : α} : ∀ {l : List (Str × α)}, l.lookup x = some v → (x, v) ∈ l
  | [], h => by simp at h
  | (y, w) :: l, h => by
    rw [List.lookup_cons] at h
    by_cases e : x = y
    · subst e
      simp only [beq_self_eq_true] at h
      cases h
      exact .head _
    · have hb : (x == y) = false := beq_eq_false_iff_ne.mpr e
      simp only [hb] at h
      exact .tail _ (mem_of_look h)
theorem look_of_mem {α : Type} {x : Str} {v : α} : ∀ {l : List (Str × α)}, (l.map (·.1)).Nodup → (x, v) ∈ l → l.lookup x = some v
  | [], _, h => nomatch h
  | (y, w) :: l, hn, h => by
    rw [List.map_cons, List.nodup_cons] at hn
    rw [List.lookup_cons]
    rcases List.mem_cons.mp h with h | h
    · cases h
      simp
    · have e : x ≠ y := fun e => hn.1 (by rw [← e]; exact List.mem_map.mpr ⟨_, h, rfl⟩)
      have hb : (x == y) = false := beq_eq_false_iff_ne.mpr e
      simp only [hb]
      exact look_of_mem hn.2 h
theorem zip_rep {P : Addr → Obj → Prop} {x : Str} {lv : LV} : ∀ {names : List Str} {ds : List PyData} {vs : List Value}, RepAll P ds vs → (x, lv) ∈ names.zip (ds.map LV.val) → ∃ d v, lv = .val d ∧ (x, v) ∈ names.zip vs ∧ Rep P d v
  | [], _, _, _, h => by simp at h
  | _ :: _, [], _, _, h => by simp at h
  | y :: ys, d :: ds, _, r, h => by
    rw [RepAll] at r
    obtain ⟨v, t, rfl, h1, h2⟩ := r
    rw [List.map_cons, List.zip_cons_cons] at h
    rcases List.mem_cons.mp h with h | h
    · cases h
      exact ⟨d, v, rfl, .head _, h1⟩
    · obtain ⟨d', v', e, hm, hr⟩ := zip_rep h2 h
      exact ⟨d', v', e, .tail _ hm, hr⟩

theorem zip_nodup : ∀ {names : List Str} {vs : List Value}, names.Nodup → ((names.zip vs).map (·.1)).Nodup
  | [], _, _ => by simp
  | _ :: _, [], _ => by simp
  | x :: xs, v :: vs, h => by
    rw [List.nodup_cons] at h
    rw [List.zip_cons_cons, List.map_cons, List.nodup_cons]
    refine ⟨fun hm => h.1 ?_, zip_nodup h.2⟩
    obtain ⟨⟨a, b⟩, hab, rfl⟩ := List.mem_map.mp hm
    exact (List.of_mem_zip hab).1

/-- DepthError on its way in this frame -/
noncomputable def Rz (de : Addr) (C : Fcx) (x : Addr) (s' : Shared) : Prop :=
  (∃ h m vs, Heap.MadeExcOf h s'.heap x (.ref de) vs ∧ Fr C.h₀ C.L h m) ∨
  (∃ g m t vs, Fr C.h₀ C.L g m ∧ RaisedS C.base g (C.env :: C.outer) x (.ref de) t vs [] s'.heap ∧ g.UpToSlots s'.heap)

noncomputable def RzF (de : Addr) (C : Fcx) (x : Addr) (s' : Shared) : Prop :=
  ∃ g m t vs, Fr C.h₀ C.L g m ∧ RaisedS C.base g (C.env :: C.outer) x (.ref de) t vs [] s'.heap ∧ g.UpToSlots s'.heap
structure Rzs (G : Glb) (de : Addr) : Prop where
  rz : G.rz = Rz de
  rf : G.rf = RzF de

section
variable {G : Glb} {C : Fcx} {μ : Loc} {N : Loc → Prop} {R : Option PyData → Prop} {rest : List Stmt} {de : Addr}

theorem ex_raise {x : Str} {np cpos pos : Pos} {e₀ : Expr} {d : PyData} {B newId initId : String} {bm : List Value} (gc : Gc G C) (hrz : Rzs G de) (hn : nsIn G.K mainGlobals x = some (some (.ref de))) (hq : excIn G.K de bm newId = true) (FB : ExcBaseFacts B newId initId bm)
    (h : Ev G C μ e₀ d) (hR : R none) (he : starEach [e₀] C.env = (false, eval e₀ C.env) :: starEach [] C.env := by rfl) (hx : C.env.kindOf x = some .globalImplicit := by rfl) (hd : (x == ("__debug__" : Str)) = false := by decide) :
    Ex G C μ (.Raise (some (.Call (.Name x np) [e₀] [] cpos)) none pos :: rest) N R := by
  intro s os m Q E S hE hN _ hX
  refine wpAny_execs_cons (Raise_own S.fr gc.top.g (own_of_in gc.kin (topRead_of gc.top) hn hq) FB (show C.A.handled = none from gc.hand) (ea_cons h ea_nil he s os m _ E S fun vs h' tk k rs => ?_) he rfl gc.kind hx hd)
  have S' := S.keeps (tk := tk) k
  refine ⟨by rw [rs.length, sizeLine_eq]; simp, S'.fr.keep, fun h'' e hm => hX hR e h'' _ ?_⟩
  rw [hrz.rz]
  exact .inl ⟨h', m, vs, hm, S'.fr⟩

theorem fn_of {f : Addr} {ds : List PyData} {r : Option PyData} {oc : Value} {od : Option Addr} {osl : Array (Option Value)} {name qual : Str} {params : Arguments} {body : List Stmt} {scope : Scope} {dV kV doc pm cdv ct : Value} {an : Option Addr} (names : List Str) (gc : Gc G C) (hrz : Rzs G de)
    (hdep : C.A.depth < recursionLimit) (ho : G.K.lookup f = some ⟨oc, od, .func (fnOf name qual params body scope dV kV doc pm an cdv ct), osl⟩) (hcd : codeIn G.K cdv qual = true) (hnd : names.Nodup)
    (hbind : ∀ s vs, vs.length = ds.length → BindsTo s (fnOf name qual params body scope dV kV doc pm an cdv ct) ⟨vs, []⟩ (names.zip vs)) (hloc : (names.all fun y => scope.names.lookup y == some .local) = true)
    (hcell : ∀ x ∈ scope.names, x.2 ≠ .cell) (hco : scope.isCoroutine = false) (hgen : scope.isGenerator = false) (hk : scope.kind = .function)
    (hbody : ∀ (L : Addr) (outer : List Env) (h₀ : Heap) (hid : Addr → Prop), Gc G ⟨qual, scope, f, cdv, L, C.A, C.base, outer, h₀, hid⟩ → Ex G ⟨qual, scope, f, cdv, L, C.A, C.base, outer, h₀, hid⟩ (names.zip (ds.map .val)) body (fun _ => False) (fun r' => r' = r)) :
    CallTo G C μ (.ref f) ds r := by
  intro s os m vs Q E S rs hQ hE
  have X := gc.kin.keeps S.fr.keep
  have T := gc.top.keeps S.fr.keep
  refine wpAny_call (codeAny_call_def (fd := fnOf name qual params body scope dV kV doc pm an cdv ct) (body := body) (binds := names.zip vs) hdep (X _ _ ho) rfl T.nolimit (codeRec_of X hcd) rfl (hbind s vs rs.length) hcell (fun y hy => ?_) (fun h₁ hns hk₁ => ?_) hco hgen hk)
  · obtain ⟨a, b⟩ := y
    have := List.all_eq_true.mp hloc _ (List.of_mem_zip hy).1
    simpa using this
  have hLn : C.h₀.get? C.L = none := S.L_none
  have B' : Below C.A C.base (C.env :: C.outer) s.heap := gc.below.push S.fr gc.kind
  have gc' : Gc G ⟨qual, scope, f, cdv, s.heap.objs.size, C.A, C.base, C.env :: C.outer, s.heap, fun a => C.hid a ∨ ∃ p ∈ os, p.2 = a⟩ := ⟨B', X, T, hk, gc.hand⟩
  have F' : Fr s.heap s.heap.objs.size h₁ (fun x => (names.zip vs).reverse.lookup x) := ⟨hns, hk₁, Nat.le_refl _⟩
  have S' : St ⟨qual, scope, f, cdv, s.heap.objs.size, C.A, C.base, C.env :: C.outer, s.heap, fun a => C.hid a ∨ ∃ p ∈ os, p.2 = a⟩ [] (fun x => (names.zip vs).reverse.lookup x) (names.zip (ds.map .val)) { s with heap := h₁, toks := s.toks + (names.zip vs).length } := by
    refine ⟨F', fun p hp => (nomatch hp), fun p hp => (nomatch hp), fun a ha => ?_, fun y lv hy => ?_⟩
    · rcases ha with ha | ⟨p, hp, rfl⟩
      · obtain ⟨o, ho⟩ := S.hidk a ha
        exact ⟨o, S.fr.keep _ _ ho⟩
      · exact (S.own p hp).2.2
    · obtain ⟨d, v, rfl, hm, hr⟩ := zip_rep rs (mem_of_look hy)
      refine ⟨v, ?_, Rep.mono (fun a o f => ⟨hk₁ _ _ f.1, Nat.ne_of_lt (Heap.lt_size f.1), ?_, fun p hp => (nomatch hp)⟩) d hr⟩
      · refine look_of_mem ?_ (List.mem_reverse.mpr hm)
        rw [List.map_reverse]
        rw [List.nodup_iff_pairwise_ne, List.pairwise_reverse]
        exact (List.nodup_iff_pairwise_ne.mp (zip_nodup hnd)).imp Ne.symm
      · rintro (h | ⟨p, hp, e⟩)
        · exact f.2.2.1 h
        · exact f.2.2.2 p hp e
  refine hbody _ _ _ _ gc' _ [] _ _ _ S' PassesOwn.leaving (fun μ' os' m' h' tk n => n.elim) (fun d v m' h' tk hr F rd => ?_) (fun hr x hx tkx hz => ?_)
  · have kk : Keeps s.heap h' := F.keep
    refine hQ d v h' tk hr.symm (S.kp kk) (Rep.monoS (fun a o us n hd f => ⟨f.1, fun e => ?_, fun hh => f.2 (.inl hh), fun p hp e => f.2 (.inr ⟨p, hp, e⟩)⟩) d rd)
    obtain ⟨oL, es, ep, hoL, hdL, _⟩ := S.fr.ns
    have h1 := f.1
    rw [e, kk _ _ hoL] at h1
    cases h1
    rw [hdL] at hd; cases hd
  · rw [hrz.rz] at hz
    have fin : ∀ h' t us, RaisedS C.base s.heap (C.env :: C.outer) x (.ref de) t us [] h' → s.heap.UpToSlots h' → E (.ref x) { s with heap := h', toks := tkx } := fun h' t us hR hU =>
      hE hr.symm x h' tkx (by rw [hrz.rf]; exact ⟨s.heap, m, t, us, S.fr, hR, hU⟩)
    rcases hz with ⟨h, m', us, hm, F⟩ | ⟨g, m', t, us, F, hR, hU⟩
    · exact leave_raiseS B' hm F News.nil (fun h' t R1 _ U => fin h' t us R1 U) hk
    · exact leave_onS B' F hR hU fun h' R1 _ U => fin h' t us R1 U
end

section
variable {G : Glb} {C : Fcx} {μ : Loc} {N : Loc → Prop} {R : Option PyData → Prop} {rest : List Stmt}

theorem none_of_kp {os : Owns} {m : Str → Option Value} {s : Shared} {h' : Heap} (S : St C os m μ s) (k : Kp C m s.heap h') : s.heap.get? h'.objs.size = none := by
  cases e : s.heap.get? h'.objs.size with
  | none => rfl
  | some o =>
    by_cases hL : h'.objs.size = C.L
    · obtain ⟨oL, _, _, hoL, _⟩ := k.ns
      exact absurd (Heap.lt_size (hL ▸ hoL)) (Nat.lt_irrefl _)
    · exact absurd (Heap.lt_size (k.keep _ _ e hL)) (Nat.lt_irrefl _)

theorem iter_list {target e : Expr} {xs : List PyData} (gc : Gc G C) (h : Ev G C μ e (.list xs))
    (hlt : ∀ (I l : Addr) i v os (s' : Shared) (Q : Unit → Shared → Prop) (E : Value → Shared → Prop), i < xs.length → (∃ d, xs[i]? = some d ∧ Rep (Fz C os s'.heap) d v) → s'.heap.IsListIter I l (i + 1) → Q () s' → wpAny G.M C.A (letOwnedTupleGo target (.ref I) v) Q E s') :
    ∀ (s : Shared) (os : Owns) (m : Str → Option Value) (Q : Value → Shared → Prop) (E : Value → Shared → Prop), St C os m μ s → (∀ it h' tk, Kp C m s.heap h' → LoopAt G C target xs.length (fun i => xs.getD i .none) it os s.heap { s with heap := h', toks := tk } → Q it { s with heap := h', toks := tk }) →
      wpAny G.M C.A (eval e C.env) (fun x s₁ => wpAny G.M C.A (pyIter x) Q E s₁) E s := by
  intro s os m Q E S hQ
  refine h s os m _ E S (fun d v h' tk e k rd => ?_) fun e => nomatch e
  cases e
  obtain ⟨l, vs, rfl, hl, hr⟩ := rd.isListL Fz.get
  have S' := S.keeps (tk := tk) k
  have kp := S'.kp (Keeps.push h' { cls := .type "list_iterator", data := .fields #[.ref l, .int 0 0] })
  refine wpAny_pyIter_list hl (hQ _ _ _ (k.trans kp) ?_)
  obtain ⟨a, o, us, n, e, f, _⟩ := Rep.list_iff.mp rd
  cases e
  exact loopAt_list S k (none_of_kp S k) gc.hand hl ⟨f.2.1, f.2.2.2⟩ hr (hlt _ l)

theorem ex_for_list {x : Str} {px pos : Pos} {iter : Expr} {body : List Stmt} {xs : List PyData} (J : Nat → Prop) (μs : Nat → Loc) (gc : Gc G C) (h : Ev G C μ iter (.list xs)) (h0 : Sub (μs 0) μ) (j0 : J 0)
    (hb : ∀ i d, xs[i]? = some d → J i → Ex G C ((x, .val d) :: μs i) body (fun μ' => Sub (μs (i + 1)) μ' ∧ J (i + 1)) R) (hn : J xs.length → Ex G C (μs xs.length) rest N R)
    (hl : C.env.kindOf x = some .local := by rfl) (hs : ∀ x, foldedSetIterable iter C.env x = pure x := by intro _; rfl) : Ex G C μ (.For (.Name x px) iter body [] pos :: rest) N R := by
  refine ex_loop J μs (fun i => (x, .val (xs.getD i .none)) :: μs i) (iter_list gc h fun I l i v os s' Q E _ _ _ hq => wpAny_pure hq) h0 j0 (fun i hi s os m v Q E S r hq => asg_name S r gc.kind hl hq) (fun i hi => ?_) hn hs
  have e : xs[i]? = some (xs.getD i .none) := by simp [List.getD, hi]
  exact hb i _ e

theorem ex_for_tuples {elts : List Expr} {k : Nat} {tpos pos : Pos} {iter : Expr} {body : List Stmt} {names : List Str} {xs : List (List PyData)} (J : Nat → Prop) (μs : Nat → Loc) (gc : Gc G C) (h : Ev G C μ iter (.list (xs.map .tuple))) (hx : eltNames elts = some names) (h0 : Sub (μs 0) μ) (j0 : J 0)
    (hln : ∀ ds ∈ xs, names.length = ds.length)
    (hb : ∀ i ds, xs[i]? = some ds → J i → Ex G C (bindAll names ds (μs i)) body (fun μ' => Sub (μs (i + 1)) μ' ∧ J (i + 1)) R) (hn : J xs.length → Ex G C (μs xs.length) rest N R)
    (hk : (names.all fun x => C.env.kindOf x == some .local) = true := by rfl) (ha : (assignEach elts C.env).length = names.length := by rfl) (hstar : (assignEach elts C.env).findIdx? (·.1) = none := by rfl)
    (hs : ∀ x, foldedSetIterable iter C.env x = pure x := by intro _; rfl) : Ex G C μ (.For (.Tuple elts k tpos) iter body [] pos :: rest) N R := by
  have hlen : (xs.map PyData.tuple).length = xs.length := by simp
  have key : ∀ i, i < xs.length → (xs.map PyData.tuple).getD i .none = .tuple (xs.getD i []) := fun i hi => by simp [List.getD, hi]
  refine ex_loop (n := xs.length) (ds := fun i => (xs.map PyData.tuple).getD i .none) J μs (fun i => bindAll names (xs.getD i []) (μs i)) ?_ h0 j0 (fun i hi s os m v Q E S r hq => ?_) (fun i hi => hb i _ (by simp [List.getD, hi])) hn hs
  · have q := iter_list (target := .Tuple elts k tpos) gc h fun I l i v os s' Q E hi hd hit hq => ?_
    · intro s os m Q E S hQ
      have := q s os m Q E S
      rw [hlen] at this
      exact this hQ
    · obtain ⟨d, hd, hr⟩ := hd
      rw [List.getElem?_map, Option.map_eq_some_iff] at hd
      obtain ⟨ds, _, rfl⟩ := hd
      obtain ⟨a, o, us, n, rfl, _⟩ := Rep.tuple_iff.mp hr
      exact wpAny_letOwnedTupleGo_listiter hit hq
  · have r' : Rep (Fz C os s.heap) (.tuple (xs.getD i [])) v := by rw [← key i hi]; exact r
    exact asg_tuple hx (hln _ (by simp [List.getD, hi])) hk gc.kind gc.hand S r' hq ha hstar

theorem ex_for_range {x : Str} {px p pos pos' : Pos} {e : Expr} {body : List Stmt} {b : Nat} (J : Nat → Prop) (μs : Nat → Loc) (gc : Gc G C) (hbn : nsIn G.K mainGlobals "range" = some none) (h : Ev G C μ e (.int b)) (hsz : b ≤ 1000000) (h0 : Sub (μs 0) μ) (j0 : J 0)
    (hb : ∀ i : Nat, i < b → J i → Ex G C ((x, .val (.int i)) :: μs i) body (fun μ' => Sub (μs (i + 1)) μ' ∧ J (i + 1)) R) (hn : J b → Ex G C (μs b) rest N R)
    (hl : C.env.kindOf x = some .local := by rfl) (hx : C.env.kindOf "range" = some .globalImplicit := by rfl) (he : starEach [e] C.env = (false, eval e C.env) :: starEach [] C.env := by rfl)
    (hs : ∀ y, foldedSetIterable (.Call (.Name "range" p) [e] [] pos') C.env y = pure y := by intro _; rfl) : Ex G C μ (.For (.Name x px) (.Call (.Name "range" p) [e] [] pos') body [] pos :: rest) N R := by
  refine ex_loop J μs (fun i => (x, .val (.int (0 + i))) :: μs i) (iter_range1 gc hbn h hsz hx he) h0 j0 (fun i hi s os m v Q E S r hq => asg_name S r gc.kind hl hq) (fun i hi => ?_) hn hs
  have e : (0 : Int) + (i : Int) = i := by omega
  rw [e]
  exact hb i hi

theorem iter_range2 {x : Str} {px p pos : Pos} {e f : Expr} {a b : Int} {n : Nat} (gc : Gc G C) (hb : nsIn G.K mainGlobals "range" = some none) (h : Ev G C μ e (.int a)) (h' : Ev G C μ f (.int b)) (hn : (b - a).toNat = n) (hab : a ≤ b + 1) (hlo : -1000 ≤ a) (hsz : b ≤ 1000000)
    (hx : C.env.kindOf "range" = some .globalImplicit := by rfl) (he : starEach [e, f] C.env = (false, eval e C.env) :: starEach [f] C.env := by rfl) (hf : starEach [f] C.env = (false, eval f C.env) :: starEach [] C.env := by rfl) (hpl : (backTo pos (starEach [f] C.env)).any (·.1) = false := by rfl) :
    ∀ (s : Shared) (os : Owns) (m : Str → Option Value) (Q : Value → Shared → Prop) (E : Value → Shared → Prop), St C os m μ s → (∀ it h' tk, Kp C m s.heap h' → LoopAt G C (.Name x px) n (fun i => .int (a + i)) it os s.heap { s with heap := h', toks := tk } → Q it { s with heap := h', toks := tk }) →
      wpAny G.M C.A (eval (.Call (.Name "range" p) [e, f] [] pos) C.env) (fun x s₁ => wpAny G.M C.A (pyIter x) Q E s₁) E s := by
  intro s os m Q E S hQ
  refine Call_ (bname gc S hb boot_range (by decide) ?_ hx (by decide))
  refine Pv.callWith_type1 (ea_cons h (ea_cons h' ea_nil hf) he s os m _ E S fun vs h' tk k rs => ?_) he hpl
  rw [RepAll] at rs
  obtain ⟨v, t, rfl, h1, h2⟩ := rs
  rw [RepAll] at h2
  obtain ⟨u, t', rfl, h3, h4⟩ := h2
  rw [RepAll] at h4
  subst h4
  obtain ⟨t, rfl⟩ := Rep.int_iff.mp h1
  obtain ⟨t', rfl⟩ := Rep.int_iff.mp h3
  have S' := S.keeps (tk := tk) k
  refine range2_rows S'.fr news_all fun h'' tk' t₁ u₁ v₁ hr F N kk => ?_
  refine wpAny_pyIter_range hr (small_rng (by omega) (by omega) (by omega)) ?_
  rw [rangeSize_one a b n hn]
  have kp2 := S'.kp kk
  have S2 := S'.keeps (tk := tk') kp2
  have kp3 := S2.kp (Keeps.push h'' { cls := .type "range_iterator", data := .fields #[rawInt a, rawInt (n : Int), rawInt 1] })
  refine hQ _ _ _ ((k.trans kp2).trans kp3) ?_
  have := loopAt_range (G := G) (x := x) (px := px) (a := a) (n := n) (h₁ := h'') (tk := tk') (S := S2) (Keeps.refl _) (get?_size _) gc.hand
  obtain ⟨I, fp, wr, P, WS, V, q1, q2, q3, q4, q5, q6, q7, q8⟩ := this.at_
  refine ⟨I, fp, wr, P, WS, V, q1, q2, q3, q4, q5, q6, fun c hc => ?_, q8⟩
  have h7 := q7 c hc
  cases e : s.heap.get? c with
  | none => rfl
  | some o =>
    have hL : c ≠ C.L := (q5 c (q2.sub c hc)).1
    have := kp2.keep _ _ (k.keep _ _ e hL) hL
    rw [show h''.get? c = none from h7] at this
    cases this
theorem ex_for_range2 {x : Str} {px p pos pos' : Pos} {e f : Expr} {body : List Stmt} {a b : Int} {n : Nat} (J : Nat → Prop) (μs : Nat → Loc) (gc : Gc G C) (hbn : nsIn G.K mainGlobals "range" = some none) (h : Ev G C μ e (.int a)) (h' : Ev G C μ f (.int b)) (hn' : (b - a).toNat = n) (hab : a ≤ b + 1) (hlo : -1000 ≤ a) (hsz : b ≤ 1000000) (h0 : Sub (μs 0) μ) (j0 : J 0)
    (hb : ∀ i : Nat, i < n → J i → Ex G C ((x, .val (.int (a + i))) :: μs i) body (fun μ' => Sub (μs (i + 1)) μ' ∧ J (i + 1)) R) (hn : J n → Ex G C (μs n) rest N R)
    (hl : C.env.kindOf x = some .local := by rfl) (hx : C.env.kindOf "range" = some .globalImplicit := by rfl) (he : starEach [e, f] C.env = (false, eval e C.env) :: starEach [f] C.env := by rfl) (hf : starEach [f] C.env = (false, eval f C.env) :: starEach [] C.env := by rfl) (hpl : (backTo pos' (starEach [f] C.env)).any (·.1) = false := by rfl)
    (hs : ∀ y, foldedSetIterable (.Call (.Name "range" p) [e, f] [] pos') C.env y = pure y := by intro _; rfl) : Ex G C μ (.For (.Name x px) (.Call (.Name "range" p) [e, f] [] pos') body [] pos :: rest) N R :=
  ex_loop J μs (fun i => (x, .val (.int (a + i))) :: μs i) (iter_range2 gc hbn h h' hn' hab hlo hsz hx he hf hpl) h0 j0 (fun i hi s os m v Q E S r hq => asg_name S r gc.kind hl hq) (fun i hi => hb i hi) hn hs

theorem sub_of {μ' μ : Loc} (h : ∀ p ∈ μ', μ.lookup p.1 = some p.2) : Sub μ' μ := fun y lv hy => h (y, lv) (mem_of_look hy)
theorem sub_cons {x : Str} {lv : LV} {μ' μ : Loc} (h : μ.lookup x = some lv) (r : Sub μ' μ) : Sub ((x, lv) :: μ') μ := by
  intro y l hy
  rw [List.lookup_cons] at hy
  by_cases e : y = x
  · subst e
    simp only [beq_self_eq_true] at hy
    cases hy
    exact h
  · have hb : (y == x) = false := beq_eq_false_iff_ne.mpr e
    simp only [hb] at hy
    exact r y l hy
theorem sub_nil {μ : Loc} : Sub [] μ := fun y lv hy => by simp at hy
end

noncomputable def said (word : Str) (w : PyData → Str) : Option PyData → Str
  | none => word
  | some d => w d

section
variable {G : Glb} {C : Fcx} {μ : Loc} {de : Addr}

/-- a def that asks: try: got = e; except: got = word; return str(got) -/
theorem ask_of {f : Addr} {ds : List PyData} {r : Option PyData} {oc : Value} {od : Option Addr} {osl : Array (Option Value)} {name qual : Str} {params : Arguments} {scope : Scope} {dV kV doc pm cdv ct : Value} {an : Option Addr} {got dex : Str} {word : Str} {e : Expr} {p1 p2 p3 p4 p5 p6 p7 p8 p9 p10 p11 p12 : Pos} {kk : Nat} (names : List Str) (gc : Gc G C) (hrz : Rzs G de)
    (hout : C.outer = []) (hXB : G.K.In C.base) (hTB : Top G.p G.loose G.mean G.mg G.mb C.base)
    (hdep : C.A.depth < recursionLimit) (ho : G.K.lookup f = some ⟨oc, od, .func (fnOf name qual params [.Try [.Assign [.Name got p1] e p2] [.ExceptHandler (some (.Name dex p3)) none [.Assign [.Name got p4] (.Constant (.str word) kk p5) p6] p7] [] [] p8, .Return (some (.Call (.Name "str" p9) [.Name got p10] [] p11)) p12] scope dV kV doc pm an cdv ct), osl⟩) (hcd : codeIn G.K cdv qual = true) (hnd : names.Nodup)
    (hbind : ∀ s vs, vs.length = ds.length → BindsTo s (fnOf name qual params [.Try [.Assign [.Name got p1] e p2] [.ExceptHandler (some (.Name dex p3)) none [.Assign [.Name got p4] (.Constant (.str word) kk p5) p6] p7] [] [] p8, .Return (some (.Call (.Name "str" p9) [.Name got p10] [] p11)) p12] scope dV kV doc pm an cdv ct) ⟨vs, []⟩ (names.zip vs)) (hloc : (names.all fun y => scope.names.lookup y == some .local) = true)
    (hcell : ∀ x ∈ scope.names, x.2 ≠ .cell) (hco : scope.isCoroutine = false) (hgen : scope.isGenerator = false) (hk : scope.kind = .function)
    (hdx : nsIn G.K mainGlobals dex = some (some (.ref de))) (hq : ktsIn G.K de "BaseException" = true) (hstr : nsIn G.K mainGlobals "str" = some none)
    (hgot : scope.names.lookup got = some .local) (hdl : scope.names.lookup dex = some .globalImplicit) (hsl : scope.names.lookup ("str" : Str) = some .globalImplicit) (hdd : (dex == ("__debug__" : Str)) = false) (hgd : (got == ("__debug__" : Str)) = false)
    (w : PyData → Str) (hw : ∀ (C' : Fcx) (μ' : Loc) d, r = some d → CallTo G C' μ' (.type "str") [d] (some (.str (w d))))
    (hsw : ∀ env : Env, swapsWith e (some (.Name got p1)) p2.line env = pure false)
    (hbody : ∀ (L : Addr) (outer : List Env) (h₀ : Heap) (hid : Addr → Prop), Gc G ⟨qual, scope, f, cdv, L, C.A, C.base, outer, h₀, hid⟩ → EvX G ⟨qual, scope, f, cdv, L, C.A, C.base, outer, h₀, hid⟩ (names.zip (ds.map .val)) e r) :
    CallTo G C μ (.ref f) ds (some (.str (said word w r))) := by
  intro s os m vs Q E S rs hQ hE
  have X := gc.kin.keeps S.fr.keep
  have T := gc.top.keeps S.fr.keep
  refine wpAny_call (codeAny_call_def (fd := fnOf name qual params _ scope dV kV doc pm an cdv ct) (binds := names.zip vs) hdep (X _ _ ho) rfl T.nolimit (codeRec_of X hcd) rfl (hbind s vs rs.length) hcell (fun y hy => ?_) (fun h₁ hns hk₁ => ?_) hco hgen hk)
  · obtain ⟨a, b⟩ := y
    have := List.all_eq_true.mp hloc _ (List.of_mem_zip hy).1
    simpa using this
  have hLn : C.h₀.get? C.L = none := S.L_none
  have B' : Below C.A C.base (C.env :: C.outer) s.heap := gc.below.push S.fr gc.kind
  have gc' : Gc G ⟨qual, scope, f, cdv, s.heap.objs.size, C.A, C.base, C.env :: C.outer, s.heap, fun a => C.hid a ∨ ∃ p ∈ os, p.2 = a⟩ := ⟨B', X, T, hk, gc.hand⟩
  have F' : Fr s.heap s.heap.objs.size h₁ (fun x => (names.zip vs).reverse.lookup x) := ⟨hns, hk₁, Nat.le_refl _⟩
  have S' : St ⟨qual, scope, f, cdv, s.heap.objs.size, C.A, C.base, C.env :: C.outer, s.heap, fun a => C.hid a ∨ ∃ p ∈ os, p.2 = a⟩ [] (fun x => (names.zip vs).reverse.lookup x) (names.zip (ds.map .val)) { s with heap := h₁, toks := s.toks + (names.zip vs).length } := by
    refine ⟨F', fun p hp => (nomatch hp), fun p hp => (nomatch hp), fun a ha => ?_, fun y lv hy => ?_⟩
    · rcases ha with ha | ⟨p, hp, rfl⟩
      · obtain ⟨o, ho⟩ := S.hidk a ha
        exact ⟨o, S.fr.keep _ _ ho⟩
      · exact (S.own p hp).2.2
    · obtain ⟨d, v, rfl, hm, hr⟩ := zip_rep rs (mem_of_look hy)
      refine ⟨v, ?_, Rep.mono (fun a o f => ⟨hk₁ _ _ f.1, Nat.ne_of_lt (Heap.lt_size f.1), ?_, fun p hp => (nomatch hp)⟩) d hr⟩
      · refine look_of_mem ?_ (List.mem_reverse.mpr hm)
        rw [List.map_reverse]
        rw [List.nodup_iff_pairwise_ne, List.pairwise_reverse]
        exact (List.nodup_iff_pairwise_ne.mp (zip_nodup hnd)).imp Ne.symm
      · rintro (h | ⟨p, hp, e⟩)
        · exact f.2.2.1 h
        · exact f.2.2.2 p hp e
  -- the end: return str(got)
  have ret : ∀ (h₀ : Heap) (hid : Addr → Prop) (d : PyData) (u : Str) (os' : Owns) (m' : Str → Option Value) (μ' : Loc) (s' : Shared) (Q' : Flow → Shared → Prop) (E' : Value → Shared → Prop),
      Gc G ⟨qual, scope, f, cdv, s.heap.objs.size, C.A, C.base, C.env :: C.outer, h₀, hid⟩ → St ⟨qual, scope, f, cdv, s.heap.objs.size, C.A, C.base, C.env :: C.outer, h₀, hid⟩ os' m' ((got, .val d) :: μ') s' →
      CallTo G ⟨qual, scope, f, cdv, s.heap.objs.size, C.A, C.base, C.env :: C.outer, h₀, hid⟩ ((got, .val d) :: μ') (.type "str") [d] (some (.str u)) → PassesOwn G.M (C.A.deeper (envOf qual scope s.heap.objs.size f cdv)) (envOf qual scope s.heap.objs.size f cdv) E' →
      (∀ t m'' h' tk, Fr h₀ s.heap.objs.size h' m'' → Q' (.ret (.str u t)) { s' with heap := h', toks := tk }) →
      wpAny G.M (C.A.deeper (envOf qual scope s.heap.objs.size f cdv)) (execs [.Return (some (.Call (.Name "str" p9) [.Name got p10] [] p11)) p12] (envOf qual scope s.heap.objs.size f cdv)) Q' E' s' := by
    intro h₀ hid d u os' m' μ' s' Q' E' g S₂ hc hE' hq'
    refine ex_ret (G := G) (C := ⟨qual, scope, f, cdv, s.heap.objs.size, C.A, C.base, C.env :: C.outer, h₀, hid⟩) (N := fun _ => False) (R := fun r' => r' = some (.str u)) (rest := []) (ev_tcall g hstr boot_str (by decide) (ea_cons (ev_local (d := d) (by simp) hk hgot hgd) ea_nil rfl) hc hsl (by decide) rfl rfl) rfl s' os' m' Q' E' S₂ hE' (fun _ _ _ _ _ n => n.elim) (fun d' v m'' h' tk hr F rd => ?_) (fun hr => nomatch hr)
    cases hr
    obtain ⟨t, rfl⟩ := Rep.str_iff.mp rd
    exact hq' t m'' h' tk F
  refine wpAny_execs_cons (wpAny_Try_except ?_)
  refine wpAny_execs_cons (wpAny_Assign_Name (hbody _ _ _ _ gc' _ _ _ _ _ S' (fun d v h' tk er k rd => ?_) fun er x hx tkx hz => ?_) (hsw _))
  · subst er
    refine store_val (S'.keeps k) rd hk hgot fun os' m' h'' tk' S₂ c => ?_
    refine wpAny_execs_nil ?_
    refine wpAny_execs_nil ?_
    refine ret _ _ d (w d) os' m' _ _ _ _ gc' S₂ (hw _ _ d rfl) PassesOwn.leaving fun t m'' h3 tk3 F3 => ?_
    exact hQ _ _ h3 tk3 rfl (S.kp F3.keep) (rep_str _ _)
  · subst er
    rw [hrz.rf] at hz
    obtain ⟨g, m', t, us, F, hR, hU⟩ := hz
    obtain ⟨oL, es, ep, hoL, hdL, hrL⟩ := S.fr.ns
    have hfs : ∀ b ∈ (C.env :: C.outer).filterMap (·.frame), b = C.L := by
      rw [hout]
      intro b hb
      rcases kts_mem hb with h | h
      · exact h
      · cases h
    refine caught_SO0 (KF := G.K) (g₀ := s.heap) (g := s.heap) (outer := C.env :: C.outer) hR F B' hU hXB hTB (fun b hb => ?_) KtsTurn.refl hdx hq (fun h' g' news₂ T' F₂ N₂ _ _ K₂ X₂ P₂ D₂ => ?_) hk hdl hdd
    · rw [hfs b hb]
      exact ⟨oL, es, ep, hoL, hdL⟩
    · refine wpAny_execs_cons (wpAny_Assign_Name (Constant_str ?_) rfl)
      refine wpAny_storeName_local hgot F₂.ns (fun h₃ hn₃ hs₃ => ?_) (by show (scope.kind == .class || (scope.kind == .module && s.heap.objs.size != mainGlobals)) = false; rw [hk]; rfl)
      refine wpAny_execs_nil ?_
      have F₃ : Fr g' s.heap.objs.size h₃ _ := F₂.set hn₃ hs₃
      have gc₂ : Gc G ⟨qual, scope, f, cdv, s.heap.objs.size, C.A, C.base, C.env :: C.outer, g', fun _ => False⟩ := ⟨K₂, X₂, P₂, hk, gc.hand⟩
      refine ret g' (fun _ => False) (.str word) word [] _ [] _ _ _ gc₂ ⟨F₃, fun p hp => (nomatch hp), fun p hp => (nomatch hp), fun a ha => ha.elim, fun y lv hy => ?_⟩ call_str_str PassesOwn.leaving fun t m'' h4 tk4 F4 => ?_
      · have := mem_of_look hy
        rw [List.mem_singleton] at this
        cases this
        exact ⟨_, if_pos rfl, rep_str _ _⟩
      · refine hQ _ _ h4 tk4 rfl ⟨fun b o e nb => F4.keep _ _ (T'.other b o e fun hm => nb (hfs b hm)), ?_⟩ (rep_str _ _)
        by_cases hm : C.L ∈ (C.env :: C.outer).filterMap (·.frame)
        · obtain ⟨sl, e1⟩ := T'.frame _ _ hoL hm
          exact ⟨_, es, ep, F4.keep _ _ e1, hdL, hrL⟩
        · exact ⟨oL, es, ep, F4.keep _ _ (T'.other _ _ hoL hm), hdL, hrL⟩
end

open_top hd for PySem.Challenge.rw_sx_zcanopy_4


theorem fill : (fun (_ : OpenLaw) (_ : Params → Frag) => True) PySem.Challenge.rw_sx_zcanopy_4 Mine.hd.heap_39 := by
  k_fill
  trivial

structure GOk (G : Glb) : Prop where
  hK : G.K = Mine.hd.heap_39 G.w.params
  hrz : Rzs G 24

theorem ltR {a k n : Nat} (h : a + k < n) : a < n := Nat.lt_of_le_of_lt (Nat.le_add_right a k) h
theorem dstep {a d n : Nat} (h : a + (d + 1) + 1 < n) : a + 1 + d + 1 < n := by omega
theorem ustep {a d n : Nat} (h : a + 8 * (d + 1) + 8 < n) : a + 3 + 8 * d + 8 < n := by omega
theorem u4 {a d n : Nat} (h : a + 8 * (d + 1) + 8 < n) : a + 3 + 1 < n := by omega
theorem u10 {a n : Nat} (h : a + 10 < n) : a + 3 + 1 < n := by omega
theorem dask {a d n : Nat} (h : a + d + 5 < n) : a + 1 + d + 1 < n := by omega
theorem uask {a d n : Nat} (h : a + 8 * d + 20 < n) : a + 3 + 8 * d + 8 < n := by omega
theorem ltE {j i : Nat} (hj : j < i + 1) (h : ¬ j = i) : j < i := Nat.lt_of_le_of_ne (Nat.le_of_lt_succ hj) h
theorem predI (d : Nat) : ((d + 1 : Nat) : Int) - 1 = (d : Int) := by omega

theorem lenS {n : Nat} {vs : List Value} (h : vs.length = n + 1) : ∃ a t, vs = a :: t ∧ t.length = n := by
  cases vs with
  | nil => cases h
  | cons a t => exact ⟨a, t, rfl, Nat.succ.inj h⟩
theorem all1 {P : Shared → List Value → Prop} (h : ∀ s a, P s [a]) : ∀ s (vs : List Value), vs.length = 1 → P s vs := by
  intro s vs hv
  obtain ⟨a, t, rfl, h1⟩ := lenS hv
  rw [List.eq_nil_of_length_eq_zero h1]
  exact h s a
theorem all2 {P : Shared → List Value → Prop} (h : ∀ s a b, P s [a, b]) : ∀ s (vs : List Value), vs.length = 2 → P s vs := by
  intro s vs hv
  obtain ⟨a, t, rfl, h1⟩ := lenS hv
  exact all1 (P := fun s t => P s (a :: t)) (fun s b => h s a b) s t h1
theorem all3 {P : Shared → List Value → Prop} (h : ∀ s a b c, P s [a, b, c]) : ∀ s (vs : List Value), vs.length = 3 → P s vs := by
  intro s vs hv
  obtain ⟨a, t, rfl, h1⟩ := lenS hv
  exact all2 (P := fun s t => P s (a :: t)) (fun s b c => h s a b c) s t h1
theorem all4 {P : Shared → List Value → Prop} (h : ∀ s a b c e, P s [a, b, c, e]) : ∀ s (vs : List Value), vs.length = 4 → P s vs := by
  intro s vs hv
  obtain ⟨a, t, rfl, h1⟩ := lenS hv
  exact all3 (P := fun s t => P s (a :: t)) (fun s b c e => h s a b c e) s t h1

section
variable {G : Glb} (ok : GOk G)
include ok
theorem n_len : nsIn G.K mainGlobals "len" = some none := by rw [ok.hK]; kernel_rfl
theorem n_range : nsIn G.K mainGlobals "range" = some none := by rw [ok.hK]; kernel_rfl
theorem n_str : nsIn G.K mainGlobals "str" = some none := by rw [ok.hK]; kernel_rfl
theorem n_list : nsIn G.K mainGlobals "list" = some none := by rw [ok.hK]; kernel_rfl
theorem n_DepthError : nsIn G.K mainGlobals "DepthError" = some (some (.ref 24)) := by rw [ok.hK]; kernel_rfl
theorem n_shape : nsIn G.K mainGlobals "shape_ok" = some (some (.ref 34)) := by rw [ok.hK]; kernel_rfl
theorem n_keys : nsIn G.K mainGlobals "keys_ok" = some (some (.ref 41)) := by rw [ok.hK]; kernel_rfl
theorem n_level : nsIn G.K mainGlobals "leaf_level" = some (some (.ref 48)) := by rw [ok.hK]; kernel_rfl
theorem n_btree : nsIn G.K mainGlobals "is_btree" = some (some (.ref 55)) := by rw [ok.hK]; kernel_rfl
theorem q_exc : excIn G.K 24 [.type "Exception", .type "BaseException", .type "object"] "Exception.__new__" = true := by rw [ok.hK]; kernel_rfl
theorem kp_shape : keepIn G.K (.ref 34) = true := by rw [ok.hK]; kernel_rfl
theorem kp_keys : keepIn G.K (.ref 41) = true := by rw [ok.hK]; kernel_rfl
theorem kp_level : keepIn G.K (.ref 48) = true := by rw [ok.hK]; kernel_rfl
theorem kp_btree : keepIn G.K (.ref 55) = true := by rw [ok.hK]; kernel_rfl
end

mutual
noncomputable def dT : T → PyData
  | .mk ks vs cs => .tuple [.list (ks.map .int), .list (vs.map .int), .list (dTs cs)]
noncomputable def dTs : List T → List PyData
  | [] => []
  | c :: cs => dT c :: dTs cs
end
theorem dTs_eq : ∀ cs, dTs cs = cs.map dT
  | [] => by rw [dTs]; rfl
  | c :: cs => by rw [dTs, dTs_eq cs]; rfl

/-- no list of it is long -/
noncomputable def small : Nat → T → Prop
  | 0, _ => False
  | n + 1, .mk ks vs cs => ks.length ≤ 1000 ∧ vs.length ≤ 1000 ∧ cs.length ≤ 1000 ∧ ∀ c ∈ cs, small n c

theorem canLay_ints : ∀ (ks : List Int), PyData.canLayAll0 (ks.map .int) = true
  | [] => rfl
  | k :: ks => by simp [PyData.canLayAll0, PyData.canLay0, canLay_ints ks]
mutual
theorem canLay_dT : ∀ x : T, (dT x).canLay0 = true
  | .mk ks vs cs => by
    rw [dT]
    simp [PyData.canLay0, PyData.canLayAll0, canLay_ints, canLay_dTs cs]
theorem canLay_dTs : ∀ cs : List T, PyData.canLayAll0 (dTs cs) = true
  | [] => by rw [dTs]; rfl
  | c :: cs => by rw [dTs]; simp [PyData.canLayAll0, canLay_dT c, canLay_dTs cs]
end
theorem eqv_nil (xs : List PyData) : PyData.eqv (.list xs) (.list []) = decide (xs.length = 0) := by
  cases xs <;> simp [PyData.eqv, PyData.eqvAll]

theorem cmp_neNil {G : Glb} {C : Fcx} {μ : Loc} {xs : List PyData} (hx : PyData.canLayAll0 xs = true) (hu : C.A.units + 1 < cLine) : CmpTo G C μ .NotEq (.list xs) (.list []) (decide (xs.length ≠ 0)) := by
  have h := cmp_dataNe (G := G) (C := C) (μ := μ) (a := .list xs) (b := .list []) (by simpa [PyData.canLay0] using hx) (by decide) (by
    have : min (PyData.list xs).depth (PyData.list []).depth ≤ 1 := Nat.min_le_right _ _
    omega)
  rw [eqv_nil] at h
  simpa using h
theorem cmp_eqNil {G : Glb} {C : Fcx} {μ : Loc} {xs : List PyData} (hx : PyData.canLayAll0 xs = true) (hu : C.A.units + 1 < cLine) : CmpTo G C μ .Eq (.list xs) (.list []) (decide (xs.length = 0)) := by
  have h := cmp_data (G := G) (C := C) (μ := μ) (a := .list xs) (b := .list []) (by simpa [PyData.canLay0] using hx) (by decide) (by
    have : min (PyData.list xs).depth (PyData.list []).depth ≤ 1 := Nat.min_le_right _ _
    omega)
  rw [eqv_nil] at h
  exact h

theorem ts_and' {G : Glb} {C : Fcx} {μ : Loc} {x y : Expr} {pos : Pos} {a : Bool} {b : Option Bool} (h1 : Ts G C μ x (some a)) (h2 : Ts G C μ y b) : Ts G C μ (.BoolOp .And [x, y] pos) (if a then b else some false) := ts_and h1 fun _ => h2

theorem ex_ifset {G : Glb} {C : Fcx} {μ : Loc} {N : Loc → Prop} {R : Option PyData → Prop} {rest : List Stmt} {test e : Expr} {x : Str} {px pos pos' : Pos} {b : Bool} {d : PyData} (ht : Ts G C μ test (some b)) (hk : C.scope.kind = .function) (hv : b = true → Ev G C μ e d) (h0 : b = false → μ.lookup x = some (.val d)) (hn : Ex G C ((x, .val d) :: μ) rest N R)
    (hl : C.env.kindOf x = some .local := by rfl) (hs : swapsWith e (some (.Name x px)) pos.line C.env = pure false := by rfl) : Ex G C μ (.If test [.Assign [.Name x px] e pos] [] pos' :: rest) N R := by
  refine ex_if ht (fun e => nomatch e) (fun e => ?_) (fun e => ?_)
  · cases e
    exact ex_assign' (hv rfl) hk (ex_nil hn) hl hs
  · cases e
    exact ex_nil (ex_sub hn (sub_cons (h0 rfl) fun _ _ h => h))

noncomputable def dO : Option Int → PyData
  | none => .none
  | some i => .int i

theorem idx_key {G : Glb} {C : Fcx} {μ : Loc} {ks : List Int} {k : Int} {j : Nat} (h0 : 0 ≤ k) (hj : k.toNat = j) (hk : j < ks.length) (hl : ks.length ≤ 1000) : IdxTo G C μ (.list (ks.map .int)) (.int k) (.int (ks.getD j 0)) := by
  subst hj
  refine idx_list h0 (by omega) ?_
  simp [List.getD, hk]

theorem iInt {G : Glb} {C : Fcx} {μ : Loc} {i : Int} {k : Nat} {p : Pos} {d : Option PyData} (h : EvR G C μ (.Constant (.int i) k p) d) : EvR G C μ (.Constant (.int i) k p) d := h
theorem iBool {G : Glb} {C : Fcx} {μ : Loc} {i : Bool} {k : Nat} {p : Pos} {d : Option PyData} (h : EvR G C μ (.Constant (.bool i) k p) d) : EvR G C μ (.Constant (.bool i) k p) d := h
theorem iStr {G : Glb} {C : Fcx} {μ : Loc} {i : Str} {k : Nat} {p : Pos} {d : Option PyData} (h : EvR G C μ (.Constant (.str i) k p) d) : EvR G C μ (.Constant (.str i) k p) d := h
theorem iNone {G : Glb} {C : Fcx} {μ : Loc} {k : Nat} {p : Pos} {d : Option PyData} (h : EvR G C μ (.Constant .none k p) d) : EvR G C μ (.Constant .none k p) d := h
theorem iName {G : Glb} {C : Fcx} {μ : Loc} {x : Str} {p : Pos} {d : Option PyData} (h : EvR G C μ (.Name x p) d) : EvR G C μ (.Name x p) d := h
theorem iAdd {G : Glb} {C : Fcx} {μ : Loc} {a b : Expr} {p : Pos} {d : Option PyData} (h : EvR G C μ (.BinOp a .Add b p) d) : EvR G C μ (.BinOp a .Add b p) d := h
theorem iSub {G : Glb} {C : Fcx} {μ : Loc} {a b : Expr} {p : Pos} {d : Option PyData} (h : EvR G C μ (.BinOp a .Sub b p) d) : EvR G C μ (.BinOp a .Sub b p) d := h
theorem iMod {G : Glb} {C : Fcx} {μ : Loc} {a b : Expr} {p : Pos} {d : Option PyData} (h : EvR G C μ (.BinOp a .Mod b p) d) : EvR G C μ (.BinOp a .Mod b p) d := h
theorem iNeg {G : Glb} {C : Fcx} {μ : Loc} {a : Expr} {p : Pos} {d : Option PyData} (h : EvR G C μ (.UnaryOp .USub a p) d) : EvR G C μ (.UnaryOp .USub a p) d := h
theorem iSubs {G : Glb} {C : Fcx} {μ : Loc} {a : Expr} {i : Int} {k : Nat} {q p : Pos} {d : Option PyData} (h : EvR G C μ (.Subscript a (.Constant (.int i) k q) p) d) : EvR G C μ (.Subscript a (.Constant (.int i) k q) p) d := h
theorem iTup {G : Glb} {C : Fcx} {μ : Loc} {l : List Expr} {k : Nat} {p : Pos} {d : Option PyData} (h : EvR G C μ (.Tuple l k p) d) : EvR G C μ (.Tuple l k p) d := h
theorem iLst {G : Glb} {C : Fcx} {μ : Loc} {l : List Expr} {p : Pos} {d : Option PyData} (h : EvR G C μ (.List l p) d) : EvR G C μ (.List l p) d := h
theorem iLen {G : Glb} {C : Fcx} {μ : Loc} {l : List Expr} {k : List Keyword} {q p : Pos} {d : Option PyData} (h : EvR G C μ (.Call (.Name "len" q) l k p) d) : EvR G C μ (.Call (.Name "len" q) l k p) d := h

local macro_rules | `(tactic| walk_at "m_ev") => `(tactic| first
  | ((with_reducible apply iInt); exact ev_int)
  | ((with_reducible apply iName); exact ev_local rfl rfl)
  | ((with_reducible apply iBool); exact ev_bool)
  | ((with_reducible apply iStr); exact ev_str)
  | ((with_reducible apply iNone); exact ev_none)
  | ((with_reducible apply iAdd); exact ev_add (by walk_at "m_ev") (by walk_at "m_ev"))
  | ((with_reducible apply iSub); exact ev_sub (by walk_at "m_ev") (by walk_at "m_ev"))
  | ((with_reducible apply iNeg); exact ev_neg (by walk_at "m_ev"))
  | ((with_reducible apply iSubs); first
    | refine ev_sub_ (by walk_at "m_ev") ev_int (idx_tuple (by decide) (by decide) (by exact rfl))
    | refine ev_sub_ (by walk_at "m_ev") ev_int (idx_key (by decide) rfl (by walk_at "m_16") (by first | assumption | omega)))
  | ((with_reducible apply iMod); exact ev_mod (by walk_at "m_ev") (by walk_at "m_ev") (by first | decide | omega))
  | ((with_reducible apply iTup); exact ev_tuple (by walk_at "m_ea") (by simp))
  | ((with_reducible apply iLst); exact ev_list (by walk_at "m_ea") (by simp))
  | ((with_reducible apply iLen); refine ev_bcall (by assumption) (n_len (by assumption)) boot_len (by decide) (ea_cons (by walk_at "m_ev") ea_nil) (call_len (by walk_at "m_1k"))))
local macro_rules | `(tactic| walk_at "m_16") => `(tactic| first | exact Nat.lt_of_lt_of_le (m := 16) (by decide) (by assumption) | omega)
local macro_rules | `(tactic| walk_at "m_1k") => `(tactic| (simp only [List.length_map, dTs_eq]; first | exact Nat.le_trans (m := 1000) (by assumption) (by decide) | omega))
local macro_rules | `(tactic| walk_at "m_ea") => `(tactic| first
  | ((with_reducible show EvAll _ _ _ _ [] _); exact ea_nil)
  | exact ea_cons (by walk_at "m_ev") (by walk_at "m_ea"))
local macro_rules | `(tactic| walk_at "m_sub") => `(tactic| first
  | exact sub_nil
  | (refine sub_cons rfl ?_; walk_at "m_sub"))

theorem intBits_small {a : Int} (h : a.natAbs ≤ 1000) : Builtin.Int.intBits a ≤ 64 := by
  unfold Builtin.Int.intBits
  split
  · omega
  · rename_i h0
    have h0' : a ≠ 0 := by simpa using h0
    have h1 : a.natAbs < 2 ^ 10 := by omega
    have h2 : a.natAbs.log2 < 10 := (Nat.log2_lt (by omega)).mpr h1
    omega

theorem allR_end {f : T → Option Bool} : ∀ {cs : List T}, (∀ j < cs.length, ∀ c, cs[j]? = some c → f c = some true) → allR f cs = some true
  | [], _ => rfl
  | c :: cs, h => by
    rw [allR, h 0 (by simp) c (by simp)]
    exact allR_end fun j hj c' hc => h (j + 1) (by simp; omega) c' (by simpa using hc)
theorem allR_at {f : T → Option Bool} {c : T} {r : Option Bool} (hr : f c = r) (hn : r ≠ some true) : ∀ {cs : List T} {i : Nat}, cs[i]? = some c → (∀ j < i, ∀ c, cs[j]? = some c → f c = some true) → allR f cs = r
  | [], i, h, _ => by simp at h
  | x :: cs, 0, h, _ => by
    simp at h
    subst h
    rw [allR, hr]
    match r, hn with
    | none, _ => rfl
    | some false, _ => rfl
    | some true, hn => exact absurd rfl hn
  | x :: cs, i + 1, h, hj => by
    rw [allR, hj 0 (by omega) x (by simp)]
    exact allR_at hr hn (by simpa using h) fun j hj' c' hc => hj (j + 1) (by omega) c' (by simpa using hc)

theorem nodeBad1 {t : Int} {root : Bool} {ks vs : List Int} {cs : List T} (h : (vs.length : Int) ≠ ks.length ∨ (cs.length ≠ 0 ∧ (cs.length : Int) ≠ ks.length + 1) ∨ 2 * t - 1 < (ks.length : Int) ∨ (root = false ∧ (ks.length : Int) < t - 1)) : nodeBad t root ks vs cs = true := by
  simp only [nodeBad, Bool.or_eq_true, Bool.and_eq_true, decide_eq_true_eq, Bool.not_eq_true']
  rcases h with h | ⟨h, h'⟩ | h | ⟨h, h'⟩
  · exact .inl (.inl (.inl (by omega)))
  · exact .inl (.inl (.inr ⟨h, by omega⟩))
  · exact .inl (.inr (by omega))
  · exact .inr ⟨h, h'⟩
theorem nodeBad0 {t : Int} {root : Bool} {ks vs : List Int} {cs : List T} (h1 : (vs.length : Int) = ks.length) (h2 : cs.length ≠ 0 → (cs.length : Int) = ks.length + 1) (h3 : (ks.length : Int) ≤ 2 * t - 1) (h4 : root = false → t - 1 ≤ (ks.length : Int)) : nodeBad t root ks vs cs = false := by
  simp only [nodeBad, Bool.or_eq_false_iff, Bool.and_eq_false_iff, decide_eq_false_iff_not, Bool.not_eq_false']
  refine ⟨⟨⟨by omega, by omega⟩, by omega⟩, ?_⟩
  cases root
  · exact .inr (by have := h4 rfl; omega)
  · exact .inl rfl

theorem shape_call {G : Glb} (ok : GOk G) : ∀ (d : Nat) (C : Fcx) (μ : Loc) (x : T) (t : Int) (root : Bool) (n : Nat), Gc G C → small n x → t.natAbs ≤ 1000 → C.A.depth + d + 1 < recursionLimit → C.A.units + 8 * d + 8 < cLine →
    CallTo G C μ (.ref 34) [dT x, .int t, .bool root, .int d] ((shapeR t d root x).map .bool) := by
  intro d
  induction d with
  | zero =>
    intro C μ x t root n gc hs ht hd hu
    refine' fn_of ["node", "t", "is_root", "depth"] gc ok.hrz (ltR (ltR hd)) (by rw [ok.hK]; k_is) (by rw [ok.hK]; k_is) (by decide) (by exact all4 fun _ _ _ _ _ => BindsTo.of_eq rfl) rfl (by decide) rfl rfl rfl ?_
    intro L outer h₀ hid gc'
    refine ex_if (ts_cmp (ev_local rfl rfl) ev_int cmp_eq) (fun e => nomatch e) (fun _ => ?_) (fun e => ?_)
    · exact ex_raise gc' ok.hrz (n_DepthError ok) (q_exc ok) PySem.F.excBase_Exception ev_str rfl
    · cases e
  | succ d ih =>
    intro C μ x t root n gc hs ht hd hu
    obtain ⟨ks, vs, cs⟩ := x
    cases n with
    | zero => exact hs.elim
    | succ n =>
    obtain ⟨hk, hv, hc, hcs⟩ := hs
    refine' fn_of ["node", "t", "is_root", "depth"] gc ok.hrz (ltR (ltR hd)) (by rw [ok.hK]; k_is) (by rw [ok.hK]; k_is) (by decide) (by exact all4 fun _ _ _ _ _ => BindsTo.of_eq rfl) rfl (by decide) rfl rfl rfl ?_
    intro L outer h₀ hid gc'
    rw [dT]
    refine ex_if (ts_cmp (ev_local rfl rfl) ev_int cmp_eq) (fun e => nomatch e) (fun e => ?_) (fun _ => ?_)
    · exfalso
      simp at e
      omega
    refine ex_nil ?_
    refine ex_assign' (by walk_at "m_ev") rfl ?_
    refine ex_assign' (by walk_at "m_ev") rfl ?_
    have hR : ∀ b : Bool, shapeR t (d + 1) root (.mk ks vs cs) = some b → (fun r' => r' = (shapeR t (d + 1) root (.mk ks vs cs)).map PyData.bool) (some (.bool b)) := fun b e => by simp [e]
    have hu' : C.A.units + 3 + 1 < cLine := u4 hu
    -- as many values as keys
    have hbad : nodeBad t root ks vs cs = true → shapeR t (d + 1) root (.mk ks vs cs) = some false := fun e => by rw [shapeR, e]; rfl
    have hlk : (ks.map PyData.int).length = ks.length := List.length_map ..
    have hlv : (vs.map PyData.int).length = vs.length := List.length_map ..
    have hlc : (dTs cs).length = cs.length := by rw [dTs_eq, List.length_map]
    refine ex_if (ts_cmp (by walk_at "m_ev") (by walk_at "m_ev") cmp_ne) (fun e => nomatch e) (fun e => ?_) (fun e1 => ?_)
    · refine ex_ret ev_bool (hR _ (hbad (nodeBad1 (.inl ?_))))
      rw [hlk, hlv] at e
      simpa using e
    refine ex_nil ?_
    refine ex_if (ts_and' (ts_cmp (by walk_at "m_ev") (by walk_at "m_ev") (cmp_neNil (canLay_dTs cs) hu')) (ts_cmp (by walk_at "m_ev") (by walk_at "m_ev") cmp_ne)) (fun e => ?_) (fun e => ?_) (fun e2 => ?_)
    · split at e <;> cases e
    · refine ex_ret ev_bool (hR _ (hbad (nodeBad1 (.inr (.inl ?_)))))
      rw [hlk, hlc] at e
      split at e
      · rename_i h0
        exact ⟨by simpa using h0, by simpa using e⟩
      · cases e
    refine ex_nil ?_
    refine ex_if (ts_cmp (by walk_at "m_ev") (ev_sub (ev_mul ev_int (ev_local rfl rfl) (IntMulOk.of_left (by decide))) ev_int) cmp_gt) (fun e => nomatch e) (fun e => ?_) (fun e3 => ?_)
    · refine ex_ret ev_bool (hR _ (hbad (nodeBad1 (.inr (.inr (.inl ?_))))))
      rw [hlk] at e
      simpa using e
    refine ex_nil ?_
    refine ex_if (ts_and' (ts_not (ts_val (r := some root) (ev_local rfl rfl))) (ts_cmp (by walk_at "m_ev") (by walk_at "m_ev") cmp_lt)) (fun e => ?_) (fun e => ?_) (fun e4 => ?_)
    · split at e <;> cases e
    · refine ex_ret ev_bool (hR _ (hbad (nodeBad1 (.inr (.inr (.inr ?_))))))
      rw [hlk] at e
      split at e
      · rename_i h0
        exact ⟨by simpa using h0, by simpa using e⟩
      · cases e
    refine ex_nil ?_
    have hgood : nodeBad t root ks vs cs = false := by
      rw [hlk, hlv] at e1
      rw [hlk, hlc] at e2
      rw [hlk] at e3 e4
      refine nodeBad0 (by simpa using e1) (fun h0 => ?_) (by simpa using e3) fun h0 => ?_
      · rw [if_pos (by simpa using h0)] at e2
        simpa using e2
      · subst h0
        simpa using e4
    have hsh : shapeR t (d + 1) root (.mk ks vs cs) = allR (shapeR t d false) cs := by rw [shapeR, hgood]; rfl
    rw [hsh]
    refine ex_for_list (fun i => ∀ j < i, ∀ c, cs[j]? = some c → shapeR t d false c = some true) (fun _ => _) gc' (by walk_at "m_ev") (fun _ _ h => h) (fun j hj => absurd hj (Nat.not_lt_zero _)) (fun i dd hi ji => ?_) (fun jn => ?_)
    · rw [dTs_eq, List.getElem?_map, Option.map_eq_some_iff] at hi
      obtain ⟨c, hi, rfl⟩ := hi
      have hd1 := predI d
      refine ex_if (ts_not (ts_val (r := shapeR t d false c) (evr_call gc' (n_shape ok) (kp_shape ok) (ea_cons (by walk_at "m_ev") (ea_cons (by walk_at "m_ev") (ea_cons (by walk_at "m_ev") (ea_cons (by walk_at "m_ev") ea_nil)))) (by rw [hd1]; exact ih _ _ c t false n gc' (hcs c (List.mem_of_getElem? hi)) ht (dstep hd) (ustep hu))))) (fun e => ?_) (fun e => ?_) (fun e => ?_)
      · have e' : shapeR t d false c = none := by simpa using e
        show none = _
        rw [allR_at e' (by simp) hi ji]; rfl
      · have e' : shapeR t d false c = some false := by simpa using e
        refine ex_ret ev_bool ?_
        show some _ = _
        rw [allR_at e' (by simp) hi ji]; rfl
      · have e' : shapeR t d false c = some true := by simpa using e
        refine ex_nil (ex_nil ⟨?_, fun j hj c' hc => ?_⟩)
        · walk_at "m_sub"
        · by_cases h : j = i
          · subst h
            rw [hi] at hc; cases hc; exact e'
          · exact ji j (ltE hj h) c' hc
    · refine ex_ret ev_bool ?_
      show some _ = _
      rw [hlc] at jn
      rw [allR_end jn]; rfl

noncomputable def cLo (low : Option Int) (ks : List Int) (i : Nat) : Option Int := if i > 0 then some (ks.getD (i - 1) 0) else low
noncomputable def cHi (high : Option Int) (ks : List Int) (i : Nat) : Option Int := if i < ks.length then some (ks.getD i 0) else high
theorem kidsR_end {f : Option Int → Option Int → T → Option Bool} {low high : Option Int} {ks : List Int} : ∀ {cs : List T} {k : Nat}, (∀ j < cs.length, ∀ c, cs[j]? = some c → f (cLo low ks (k + j)) (cHi high ks (k + j)) c = some true) → kidsR f low high ks k cs = some true
  | [], _, _ => rfl
  | c :: cs, k, h => by
    have h0 := h 0 (by simp) c (by simp)
    rw [Nat.add_zero] at h0
    unfold cLo cHi at h0
    rw [kidsR, h0]
    exact kidsR_end fun j hj c' hc => by
      have := h (j + 1) (by simp; omega) c' (by simpa using hc)
      rwa [show k + (j + 1) = k + 1 + j by omega] at this
theorem kidsR_at {f : Option Int → Option Int → T → Option Bool} {low high : Option Int} {ks : List Int} {c : T} {r : Option Bool} (hn : r ≠ some true) : ∀ {cs : List T} {k i : Nat}, f (cLo low ks (k + i)) (cHi high ks (k + i)) c = r → cs[i]? = some c → (∀ j < i, ∀ c, cs[j]? = some c → f (cLo low ks (k + j)) (cHi high ks (k + j)) c = some true) → kidsR f low high ks k cs = r
  | [], _, i, _, h, _ => by simp at h
  | x :: cs, k, 0, hr, h, _ => by
    simp at h
    subst h
    rw [Nat.add_zero] at hr
    unfold cLo cHi at hr
    rw [kidsR, hr]
    match r, hn with
    | none, _ => rfl
    | some false, _ => rfl
    | some true, hn => exact absurd rfl hn
  | x :: cs, k, i + 1, hr, h, hj => by
    have h0 := hj 0 (by omega) x (by simp)
    rw [Nat.add_zero] at h0
    unfold cLo cHi at h0
    rw [kidsR, h0]
    refine kidsR_at hn (i := i) (by rwa [show k + 1 + i = k + (i + 1) by omega]) (by simpa using h) fun j hj' c' hc => ?_
    have := hj (j + 1) (by omega) c' (by simpa using hc)
    rwa [show k + (j + 1) = k + 1 + j by omega] at this

theorem keys_call {G : Glb} (ok : GOk G) : ∀ (d : Nat) (C : Fcx) (μ : Loc) (x : T) (low high : Option Int) (n : Nat), Gc G C → small n x → thin x → C.A.depth + d + 1 < recursionLimit → C.A.units + 8 * d + 8 < cLine →
    CallTo G C μ (.ref 41) [dT x, dO low, dO high, .int d] ((keysR d low high x).map .bool) := by
  intro d
  induction d with
  | zero =>
    intro C μ x low high n gc hs hth hd hu
    refine' fn_of ["node", "low", "high", "depth"] gc ok.hrz (ltR (ltR hd)) (by rw [ok.hK]; k_is) (by rw [ok.hK]; k_is) (by decide) (by exact all4 fun _ _ _ _ _ => BindsTo.of_eq rfl) rfl (by decide) rfl rfl rfl ?_
    intro L outer h₀ hid gc'
    refine ex_if (ts_cmp (ev_local rfl rfl) ev_int cmp_eq) (fun e => nomatch e) (fun _ => ?_) (fun e => ?_)
    · exact ex_raise gc' ok.hrz (n_DepthError ok) (q_exc ok) PySem.F.excBase_Exception ev_str rfl
    · cases e
  | succ d ih =>
    intro C μ x low high n gc hs hth hd hu
    obtain ⟨ks, vs, cs⟩ := x
    cases n with
    | zero => exact hs.elim
    | succ n =>
    obtain ⟨hk, hv, hc, hcs⟩ := hs
    rw [thin, thins_iff] at hth
    obtain ⟨hth, hths⟩ := hth
    refine' fn_of ["node", "low", "high", "depth"] gc ok.hrz (ltR (ltR hd)) (by rw [ok.hK]; k_is) (by rw [ok.hK]; k_is) (by decide) (by exact all4 fun _ _ _ _ _ => BindsTo.of_eq rfl) rfl (by decide) rfl rfl rfl ?_
    intro L outer h₀ hid gc'
    rw [dT]
    refine ex_if (ts_cmp (ev_local rfl rfl) ev_int cmp_eq) (fun e => nomatch e) (fun e => ?_) (fun _ => ?_)
    · exfalso
      simp at e
      omega
    refine ex_nil ?_
    refine ex_assign' (by walk_at "m_ev") rfl ?_
    refine ex_assign' (by walk_at "m_ev") rfl ?_
    have hlk : (ks.map PyData.int).length = ks.length := List.length_map ..
    have hlc : (dTs cs).length = cs.length := by rw [dTs_eq, List.length_map]
    have hbad : ∀ i < ks.length, keyBad low high ks i = true → keysR (d + 1) low high (.mk ks vs cs) = some false := fun i hi e => by
      rw [keysR, if_pos (List.any_eq_true.mpr ⟨i, List.mem_range.mpr hi, e⟩)]
    refine ex_for_range (fun i => ∀ j < i, keyBad low high ks j = false) (fun _ => _) gc' (n_range ok) (by walk_at "m_ev") (by rw [hlk]; omega) (fun _ _ h => h) (fun j hj => absurd hj (Nat.not_lt_zero _)) (fun i hi ji => ?_) (fun jn => ?_)
    · rw [hlk] at hi
      have ei : ((i : Nat) : Int).toNat = i := Int.toNat_natCast i
      have hR : keyBad low high ks i = true → (some (PyData.bool false)) = (keysR (d + 1) low high (.mk ks vs cs)).map PyData.bool := fun e => by rw [hbad i hi e]; rfl
      refine ex_if (ts_and (b := some (decide (ks.getD i 0 ≤ ks.getD (i - 1) 0))) (ts_cmp (by walk_at "m_ev") (by walk_at "m_ev") cmp_gt) (fun h => ts_cmp (ev_sub_ (by walk_at "m_ev") (by walk_at "m_ev") (idx_key (j := i - 1) ?_ ?_ ?_ hk)) (ev_sub_ (by walk_at "m_ev") (by walk_at "m_ev") (idx_key (j := i) (Int.natCast_nonneg _) ei hi hk)) cmp_ge)) (fun e => ?_) (fun e => ?_) (fun e1 => ?_)
      · simp at h; omega
      · simp at h; omega
      · simp at h; omega
      · split at e <;> cases e
      · refine ex_ret ev_bool (hR ?_)
        split at e
        · rename_i h0
          have e0 : ks.getD i 0 ≤ ks.getD (i - 1) 0 := by simpa using e
          have h0' : i > 0 := by simpa using h0
          simp only [keyBad, Bool.or_eq_true, Bool.and_eq_true, decide_eq_true_eq]
          exact .inl (.inl ⟨h0', e0⟩)
        · cases e
      refine ex_nil ?_
      refine ex_if (ts_of (r' := some (lowBad low (ks.getD i 0))) (ts_and (a := low.isSome) (b := some (lowBad low (ks.getD i 0))) (ts_cmp (by walk_at "m_ev") ev_none (cmp_notNone (by cases low <;> rfl))) (fun h => ?_)) (by cases low <;> rfl)) (fun e => nomatch e) (fun e => ?_) (fun e2 => ?_)
      · cases low with
        | none => cases h
        | some l => exact ts_cmp (ev_sub_ (by walk_at "m_ev") (by walk_at "m_ev") (idx_key (j := i) (Int.natCast_nonneg _) ei hi hk)) (ev_local rfl rfl) cmp_le
      · refine ex_ret ev_bool (hR ?_)
        have e' : lowBad low (ks.getD i 0) = true := by simpa using e
        simp only [keyBad, e', Bool.or_true, Bool.true_or]
      refine ex_nil ?_
      refine ex_if (ts_of (r' := some (highBad high (ks.getD i 0))) (ts_and (a := high.isSome) (b := some (highBad high (ks.getD i 0))) (ts_cmp (by walk_at "m_ev") ev_none (cmp_notNone (by cases high <;> rfl))) (fun h => ?_)) (by cases high <;> rfl)) (fun e => nomatch e) (fun e => ?_) (fun e3 => ?_)
      · cases high with
        | none => cases h
        | some l => exact ts_cmp (ev_sub_ (by walk_at "m_ev") (by walk_at "m_ev") (idx_key (j := i) (Int.natCast_nonneg _) ei hi hk)) (ev_local rfl rfl) cmp_ge
      · refine ex_ret ev_bool (hR ?_)
        have e' : highBad high (ks.getD i 0) = true := by simpa using e
        simp only [keyBad, e', Bool.or_true, Bool.true_or]
      refine ex_nil (ex_nil ⟨by walk_at "m_sub", fun j hj => ?_⟩)
      by_cases h : j = i
      · subst h
        have e2' : lowBad low (ks.getD j 0) = false := by simpa using e2
        have e3' : highBad high (ks.getD j 0) = false := by simpa using e3
        unfold keyBad
        rw [e2', e3', Bool.or_false, Bool.or_false]
        by_cases h0 : j > 0
        · rw [if_pos (by simpa using h0)] at e1
          have e1' : ¬ (ks.getD j 0 ≤ ks.getD (j - 1) 0) := by simpa using e1
          simp only [Bool.and_eq_false_iff, decide_eq_false_iff_not]
          exact .inr (by omega)
        · simp [h0]
      · exact ji j (ltE hj h)
    · rw [hlk] at jn
      have hks : keysR (d + 1) low high (.mk ks vs cs) = kidsR (keysR d) low high ks 0 cs := by
        rw [keysR, if_neg]
        intro e
        obtain ⟨i, hi, e'⟩ := List.any_eq_true.mp e
        rw [jn i (List.mem_range.mp hi)] at e'
        cases e'
      rw [hks]
      refine ex_for_range (fun i => ∀ j < i, ∀ c, cs[j]? = some c → keysR d (cLo low ks (0 + j)) (cHi high ks (0 + j)) c = some true) (fun _ => _) gc' (n_range ok) (by walk_at "m_ev") (by rw [hlc]; omega) (fun _ _ h => h) (fun j hj => absurd hj (Nat.not_lt_zero _)) (fun i hi ji => ?_) (fun jn => ?_)
      · rw [hlc] at hi
        have ei : ((i : Nat) : Int).toNat = i := Int.toNat_natCast i
        obtain ⟨c, hci⟩ : ∃ c, cs[i]? = some c := ⟨cs[i], by simp [hi]⟩
        refine ex_assign' (by walk_at "m_ev") rfl ?_
        refine ex_assign' (by walk_at "m_ev") rfl ?_
        refine ex_ifset (d := dO (cLo low ks i)) (ts_cmp (by walk_at "m_ev") (by walk_at "m_ev") cmp_gt) rfl (fun h => ?_) (fun h => ?_) ?_
        · have h' : i > 0 := by simpa using h
          rw [cLo, if_pos h']
          exact ev_sub_ (by walk_at "m_ev") (by walk_at "m_ev") (idx_key (j := i - 1) (by omega) (by omega) (by omega) hk)
        · have h' : ¬ i > 0 := by simpa using h
          rw [cLo, if_neg h']
          rfl
        refine ex_ifset (d := dO (cHi high ks i)) (ts_cmp (by walk_at "m_ev") (by walk_at "m_ev") cmp_lt) rfl (fun h => ?_) (fun h => ?_) ?_
        · have h' : i < ks.length := by simpa using h
          rw [cHi, if_pos h']
          exact ev_sub_ (by walk_at "m_ev") (by walk_at "m_ev") (idx_key (j := i) (Int.natCast_nonneg _) ei h' hk)
        · have h' : ¬ i < ks.length := by simpa using h
          rw [cHi, if_neg h']
          rfl
        have hd1 := predI d
        have hix : (dTs cs)[((i : Nat) : Int).toNat]? = some (dT c) := by rw [ei, dTs_eq, List.getElem?_map, hci]; rfl
        refine ex_if (ts_not (ts_val (r := keysR d (cLo low ks i) (cHi high ks i) c) (evr_call gc' (n_keys ok) (kp_keys ok) (ea_cons (ev_sub_ (by walk_at "m_ev") (by walk_at "m_ev") (idx_list (by omega) (by omega) hix)) (ea_cons (by walk_at "m_ev") (ea_cons (by walk_at "m_ev") (ea_cons (by walk_at "m_ev") ea_nil))))
          (by rw [hd1]; exact ih _ _ c _ _ n gc' (hcs c (List.mem_of_getElem? hci)) (hths c (List.mem_of_getElem? hci)) (dstep hd) (ustep hu))))) (fun e => ?_) (fun e => ?_) (fun e => ?_)
        · have e' : keysR d (cLo low ks (0 + i)) (cHi high ks (0 + i)) c = none := by simpa using e
          show none = _
          rw [kidsR_at (by simp) e' hci ji]; rfl
        · have e' : keysR d (cLo low ks (0 + i)) (cHi high ks (0 + i)) c = some false := by simpa using e
          refine ex_ret ev_bool ?_
          show some _ = _
          rw [kidsR_at (by simp) e' hci ji]; rfl
        · have e' : keysR d (cLo low ks (0 + i)) (cHi high ks (0 + i)) c = some true := by simpa using e
          refine ex_nil (ex_nil ⟨by walk_at "m_sub", fun j hj c' hc => ?_⟩)
          by_cases h : j = i
          · subst h
            rw [hci] at hc; cases hc; exact e'
          · exact ji j (ltE hj h) c' hc
      · refine ex_ret ev_bool ?_
        show some _ = _
        rw [hlc] at jn
        rw [kidsR_end jn]; rfl

theorem evr_and_stop {G : Glb} {C : Fcx} {μ : Loc} {x y : Expr} {rest : List Expr} {pos : Pos} {r : Option Bool} (h1 : EvR G C μ x (r.map .bool)) (hr : r ≠ some true) : EvR G C μ (.BoolOp .And (x :: y :: rest) pos) (r.map .bool) := by
  intro s os m Q E S hQ hE
  refine BoolOp_and (h1 s os m _ E S (fun d v h' tk e k rd => ?_) hE)
  match r, hr, e with
  | some false, _, e =>
    cases e
    have rd' := rd
    obtain rfl := Rep.bool_iff.mp rd
    exact wpAny_truthy_bool (hQ _ _ h' tk rfl k rd')
  | some true, hr, _ => exact absurd rfl hr
theorem evr_and_go {G : Glb} {C : Fcx} {μ : Loc} {x y : Expr} {rest : List Expr} {pos : Pos} {r : Option PyData} (h1 : Ev G C μ x (.bool true)) (h2 : EvR G C μ (.BoolOp .And (y :: rest) pos) r) : EvR G C μ (.BoolOp .And (x :: y :: rest) pos) r := by
  intro s os m Q E S hQ hE
  refine BoolOp_and (h1 s os m _ E S (fun d v h' tk e k rd => ?_) fun e => nomatch e)
  cases e
  obtain rfl := Rep.bool_iff.mp rd
  refine wpAny_truthy_bool ?_
  exact h2 _ os m Q E (S.keeps k) (fun d v h'' tk' e k' rd => hQ d v h'' tk' e (k.trans k') rd) hE
theorem evr_and_one {G : Glb} {C : Fcx} {μ : Loc} {x : Expr} {pos : Pos} {r : Option PyData} (h1 : EvR G C μ x r) : EvR G C μ (.BoolOp .And [x] pos) r := by
  intro s os m Q E S hQ hE
  exact BoolOp_one (h1 s os m Q E S hQ hE)

theorem callTo_of {G : Glb} {C : Fcx} {μ : Loc} {f : Value} {ds : List PyData} {r r' : Option PyData} (h : CallTo G C μ f ds r) (e : r = r') : CallTo G C μ f ds r' := e ▸ h

theorem restR_end {f : T → Option Int} {x : Int} : ∀ {cs : List T}, (∀ j < cs.length, ∀ c, cs[j]? = some c → f c = some x) → restR f x cs = some (x + 1)
  | [], _ => rfl
  | c :: cs, h => by
    rw [restR, h 0 (by simp) c (by simp)]
    simp only [ne_eq, not_true_eq_false, if_false]
    exact restR_end fun j hj c' hc => h (j + 1) (by simp; omega) c' (by simpa using hc)
theorem restR_at {f : T → Option Int} {x : Int} {c : T} {r : Option Int} (hr : f c = r) (hn : r ≠ some x) : ∀ {cs : List T} {i : Nat}, cs[i]? = some c → (∀ j < i, ∀ c, cs[j]? = some c → f c = some x) → restR f x cs = r.map fun _ => -1
  | [], i, h, _ => by simp at h
  | y :: cs, 0, h, _ => by
    simp at h
    subst h
    rw [restR, hr]
    match r, hn with
    | none, _ => rfl
    | some z, hn =>
      have : z ≠ x := fun e => hn (by rw [e])
      simp [this]
  | y :: cs, i + 1, h, hj => by
    rw [restR, hj 0 (by omega) y (by simp)]
    simp only [ne_eq, not_true_eq_false, if_false]
    exact restR_at hr hn (by simpa using h) fun j hj' c' hc => hj (j + 1) (by omega) c' (by simpa using hc)

theorem level_call {G : Glb} (ok : GOk G) : ∀ (d : Nat) (C : Fcx) (μ : Loc) (x : T) (n : Nat), Gc G C → small n x → C.A.depth + d + 1 < recursionLimit → C.A.units + 8 * d + 8 < cLine →
    CallTo G C μ (.ref 48) [dT x, .int d] ((levelR d x).map .int) := by
  intro d
  induction d with
  | zero =>
    intro C μ x n gc hs hd hu
    refine' fn_of ["node", "depth"] gc ok.hrz (ltR (ltR hd)) (by rw [ok.hK]; k_is) (by rw [ok.hK]; k_is) (by decide) (by exact all2 fun _ _ _ => BindsTo.of_eq rfl) rfl (by decide) rfl rfl rfl ?_
    intro L outer h₀ hid gc'
    refine ex_if (ts_cmp (ev_local rfl rfl) ev_int cmp_eq) (fun e => nomatch e) (fun _ => ?_) (fun e => ?_)
    · exact ex_raise gc' ok.hrz (n_DepthError ok) (q_exc ok) PySem.F.excBase_Exception ev_str rfl
    · cases e
  | succ d ih =>
    intro C μ x n gc hs hd hu
    obtain ⟨ks, vs, cs⟩ := x
    cases n with
    | zero => exact hs.elim
    | succ n =>
    obtain ⟨hk, hv, hc, hcs⟩ := hs
    refine' fn_of ["node", "depth"] gc ok.hrz (ltR (ltR hd)) (by rw [ok.hK]; k_is) (by rw [ok.hK]; k_is) (by decide) (by exact all2 fun _ _ _ => BindsTo.of_eq rfl) rfl (by decide) rfl rfl rfl ?_
    intro L outer h₀ hid gc'
    rw [dT]
    refine ex_if (ts_cmp (ev_local rfl rfl) ev_int cmp_eq) (fun e => nomatch e) (fun e => ?_) (fun _ => ?_)
    · exfalso
      simp at e
      omega
    refine ex_nil ?_
    refine ex_assign' (by walk_at "m_ev") rfl ?_
    have hu' : C.A.units + 3 + 1 < cLine := u4 hu
    have hd1 := predI d
    have hlc : (dTs cs).length = cs.length := by rw [dTs_eq, List.length_map]
    refine ex_if (ts_cmp (by walk_at "m_ev") (by walk_at "m_ev") (cmp_eqNil (canLay_dTs cs) hu')) (fun e => nomatch e) (fun e => ?_) (fun e => ?_)
    · rw [hlc] at e
      cases cs with
      | nil => exact ex_ret ev_int rfl
      | cons c cs => simp at e
    refine ex_nil ?_
    cases cs with
    | nil => cases e
    | cons c0 cs =>
    have hcall : ∀ (i : Int) (j : Nat) (c : T), 0 ≤ i → i.toNat = j → (c0 :: cs)[j]? = some c → i < 2 ^ 63 ∧ 0 ≤ i ∧ (dTs (c0 :: cs))[i.toNat]? = some (dT c) ∧ c ∈ c0 :: cs := by
      intro i j c h0 e hci
      have h1 := (List.getElem?_eq_some_iff.mp hci).1
      have h2 : (c0 :: cs).length ≤ 1000 := hc
      exact ⟨by omega, h0, by rw [e, dTs_eq, List.getElem?_map, hci]; rfl, List.mem_of_getElem? hci⟩
    obtain ⟨i1, i2, i3, i4⟩ := hcall 0 0 c0 (by decide) rfl rfl
    have hR : (levelR (d + 1) (.mk ks vs (c0 :: cs))) = match levelR d c0 with
      | none => none
      | some x => if x < 0 then some (-1) else restR (levelR d) x cs := by first | (rw [levelR]; cases levelR d c0 <;> rfl) | rw [levelR]
    rw [hR]
    refine ex_assign (r := (levelR d c0).map .int) (evr_call gc' (n_level ok) (kp_level ok) (ea_cons (ev_sub_ (by walk_at "m_ev") (by walk_at "m_ev") (idx_list i2 i1 i3)) (ea_cons (by walk_at "m_ev") ea_nil))
          (by rw [hd1]; exact ih _ _ c0 n gc' (hcs c0 i4) (dstep hd) (ustep hu))) rfl (fun e => ?_) (fun dd e => ?_)
    · have e' : levelR d c0 = none := by simpa using e
      rw [e']; rfl
    obtain ⟨x, e', rfl⟩ := Option.map_eq_some_iff.mp e
    rw [e']
    show Ex G _ _ _ _ (fun r' => r' = (if x < 0 then some (-1) else restR (levelR d) x cs).map PyData.int)
    refine ex_if (ts_cmp (by walk_at "m_ev") (by walk_at "m_ev") cmp_lt) (fun e => nomatch e) (fun e => ?_) (fun e1 => ?_)
    · have e1 : x < 0 := by simpa using e
      rw [if_pos e1]
      exact ex_ret (by walk_at "m_ev") rfl
    have e2 : ¬ x < 0 := by simpa using e1
    rw [if_neg e2]
    refine ex_nil ?_
    refine ex_for_range2 (n := cs.length) (fun i => ∀ j < i, ∀ c, cs[j]? = some c → levelR d c = some x) (fun _ => _) gc' (n_range ok) (by walk_at "m_ev") (by walk_at "m_ev") ?_ ?_ (by omega) ?_ (fun _ _ h => h) (fun j hj => absurd hj (Nat.not_lt_zero _)) (fun i hi ji => ?_) (fun jn => ?_)
    · rw [hlc, List.length_cons]; omega
    · rw [hlc, List.length_cons]; omega
    · rw [hlc]; omega
    · obtain ⟨c, hci⟩ : ∃ c, cs[i]? = some c := ⟨cs[i], by simp [hi]⟩
      obtain ⟨i1, i2, i3, i4⟩ := hcall (1 + (i : Int)) (i + 1) c (by omega) (by omega) (by simpa using hci)
      cases hl : levelR d c with
      | none =>
        refine ex_if (ts_cmp_none (evr_call gc' (n_level ok) (kp_level ok) (ea_cons (ev_sub_ (by walk_at "m_ev") (by walk_at "m_ev") (idx_list i2 i1 i3)) (ea_cons (by walk_at "m_ev") ea_nil))
          (by rw [hd1]; exact callTo_of (ih _ _ c n gc' (hcs c i4) (dstep hd) (ustep hu)) (by rw [hl]; rfl)))) (fun e => ?_) (fun e => nomatch e) (fun e => nomatch e)
        show none = _
        rw [restR_at hl (by simp) hci ji]; rfl
      | some z =>
        refine ex_if (ts_cmp (a := .int z) (evr_call gc' (n_level ok) (kp_level ok) (ea_cons (ev_sub_ (by walk_at "m_ev") (by walk_at "m_ev") (idx_list i2 i1 i3)) (ea_cons (by walk_at "m_ev") ea_nil))
          (by rw [hd1]; exact callTo_of (ih _ _ c n gc' (hcs c i4) (dstep hd) (ustep hu)) (by rw [hl]; rfl))) (by walk_at "m_ev") cmp_ne) (fun e => nomatch e) (fun e => ?_) (fun e => ?_)
        · have hz : z ≠ x := by simpa using e
          refine ex_ret (by walk_at "m_ev") ?_
          show some _ = _
          rw [restR_at hl (by simpa using hz) hci ji]; rfl
        · have hz : z = x := by simpa using e
          refine ex_nil (ex_nil ⟨by walk_at "m_sub", fun j hj c' hc => ?_⟩)
          by_cases h : j = i
          · subst h
            rw [hci] at hc; cases hc; rw [hl, hz]
          · exact ji j (ltE hj h) c' hc
    · refine ex_ret (by walk_at "m_ev") ?_
      show some _ = _
      rw [restR_end jn]; rfl

theorem btree_call {G : Glb} (ok : GOk G) (C : Fcx) (μ : Loc) (x : T) (t : Int) (n : Nat) (gc : Gc G C) (hs : small n x) (ht : t.natAbs ≤ 1000) (hth : shapeR t 64 true x = some true → thin x) (hd : C.A.depth + 70 < recursionLimit) (hu : C.A.units + 600 < cLine) :
    CallTo G C μ (.ref 55) [dT x, .int t] ((isB t x).map .bool) := by
  refine' fn_of ["tree", "t"] gc ok.hrz (ltR hd) (by rw [ok.hK]; k_is) (by rw [ok.hK]; k_is) (by decide) (by exact all2 fun _ _ _ => BindsTo.of_eq rfl) rfl (by decide) rfl rfl rfl ?_
  intro L outer h₀ hid gc'
  have hd' : C.A.depth + 1 + 64 + 1 < recursionLimit := by omega
  have hu' : C.A.units + 3 + 8 * 64 + 8 < cLine := by omega
  have c1 := fun μ' => shape_call ok 64 _ μ' x t true n gc' hs ht hd' hu'
  have c2 := fun μ' h => keys_call ok 64 _ μ' x none none n gc' hs (hth h) hd' hu'
  have c3 := fun μ' => level_call ok 64 _ μ' x n gc' hs hd' hu'
  unfold isB
  cases h1 : shapeR t 64 true x with
  | none =>
    rw [h1] at c1
    refine ex_ret (evr_and_stop (r := none) (evr_call gc' (n_shape ok) (kp_shape ok) (ea_cons (by walk_at "m_ev") (ea_cons (by walk_at "m_ev") (ea_cons (by walk_at "m_ev") (ea_cons (by walk_at "m_ev") ea_nil)))) (c1 _)) (by simp)) rfl
  | some b1 =>
  rw [h1] at c1
  cases b1 with
  | false =>
    refine ex_ret (evr_and_stop (r := some false) (evr_call gc' (n_shape ok) (kp_shape ok) (ea_cons (by walk_at "m_ev") (ea_cons (by walk_at "m_ev") (ea_cons (by walk_at "m_ev") (ea_cons (by walk_at "m_ev") ea_nil)))) (c1 _)) (by simp)) rfl
  | true =>
  have e1 := fun μ' => c2 μ' h1
  refine ex_ret (evr_and_go (evr_call gc' (n_shape ok) (kp_shape ok) (ea_cons (by walk_at "m_ev") (ea_cons (by walk_at "m_ev") (ea_cons (by walk_at "m_ev") (ea_cons (by walk_at "m_ev") ea_nil)))) (c1 _)) ?_) rfl
  show EvR G _ _ _ ((match keysR 64 none none x with
    | none => none
    | some false => some false
    | some true => match levelR 64 x with
      | none => none
      | some r => some (decide (r ≥ 0))).map .bool)
  cases h2 : keysR 64 none none x with
  | none =>
    rw [h2] at e1
    exact evr_and_stop (r := none) (evr_call gc' (n_keys ok) (kp_keys ok) (ea_cons (by walk_at "m_ev") (ea_cons ev_none (ea_cons ev_none (ea_cons (by walk_at "m_ev") ea_nil)))) (e1 _)) (by simp)
  | some b2 =>
  rw [h2] at e1
  cases b2 with
  | false =>
    exact evr_and_stop (r := some false) (evr_call gc' (n_keys ok) (kp_keys ok) (ea_cons (by walk_at "m_ev") (ea_cons ev_none (ea_cons ev_none (ea_cons (by walk_at "m_ev") ea_nil)))) (e1 _)) (by simp)
  | true =>
  refine evr_and_go (evr_call gc' (n_keys ok) (kp_keys ok) (ea_cons (by walk_at "m_ev") (ea_cons ev_none (ea_cons ev_none (ea_cons (by walk_at "m_ev") ea_nil)))) (e1 _)) (evr_and_one ?_)
  cases h3 : levelR 64 x with
  | none =>
    rw [h3] at c3
    exact evr_cmp_none (evr_call gc' (n_level ok) (kp_level ok) (ea_cons (by walk_at "m_ev") (ea_cons (by walk_at "m_ev") ea_nil)) (c3 _))
  | some z =>
    rw [h3] at c3
    exact ev_cmp (evr_call gc' (n_level ok) (kp_level ok) (ea_cons (by walk_at "m_ev") (ea_cons (by walk_at "m_ev") ea_nil)) (c3 _)) ev_int cmp_ge

section
variable {G : Glb} (ok : GOk G)
include ok
theorem n_row : nsIn G.K mainGlobals "_law_row" = some (some (.ref 78)) := by rw [ok.hK]; kernel_rfl
theorem n_branch : nsIn G.K mainGlobals "_law_branch" = some (some (.ref 85)) := by rw [ok.hK]; kernel_rfl
theorem n_nest : nsIn G.K mainGlobals "_law_nest" = some (some (.ref 92)) := by rw [ok.hK]; kernel_rfl
theorem kp_row : keepIn G.K (.ref 78) = true := by rw [ok.hK]; kernel_rfl
theorem kp_branch : keepIn G.K (.ref 85) = true := by rw [ok.hK]; kernel_rfl
theorem kp_nest : keepIn G.K (.ref 92) = true := by rw [ok.hK]; kernel_rfl
end

/-- an if whose arms meet again -/
theorem ex_if_to {G : Glb} {C : Fcx} {μ : Loc} {N : Loc → Prop} {R : Option PyData → Prop} {rest : List Stmt} {test : Expr} {body orelse : List Stmt} {pos : Pos} {b : Bool} (μ' : Loc) (ht : Ts G C μ test (some b)) (h1 : b = true → Ex G C μ body (Sub μ') R) (h2 : b = false → Ex G C μ orelse (Sub μ') R) (hn : Ex G C μ' rest N R) :
    Ex G C μ (.If test body orelse pos :: rest) N R := by
  refine ex_if ht (fun e => nomatch e) (fun e => ?_) (fun e => ?_)
  · cases e
    exact ex_mono (h1 rfl) (fun μ'' h => ex_sub hn h) fun _ h => h
  · cases e
    exact ex_mono (h2 rfl) (fun μ'' h => ex_sub hn h) fun _ h => h

/-! the row -/
noncomputable def rowSt (start gap place : Int) : Nat → List Int × Int
  | 0 => ([], start)
  | i + 1 => ((rowSt start gap place i).1 ++ [(rowSt start gap place i).2], if ((i : Int) == place) = true then (rowSt start gap place i).2 + 1 + gap else (rowSt start gap place i).2 + 1)
noncomputable def rowP (start gap place : Int) : List Int := (rowSt start gap place 52).1
theorem rowSt_length (start gap place : Int) : ∀ i, (rowSt start gap place i).1.length = i
  | 0 => rfl
  | i + 1 => by rw [rowSt, List.length_append, rowSt_length start gap place i]; rfl
theorem rowP_length (start gap place : Int) : (rowP start gap place).length = 52 := rowSt_length start gap place 52

theorem row_call {G : Glb} (ok : GOk G) (C : Fcx) (μ : Loc) (start gap place : Int) (gc : Gc G C) (hd : C.A.depth + 1 < recursionLimit) :
    CallTo G C μ (.ref 78) [.int start, .int gap, .int place] (some (.list ((rowP start gap place).map .int))) := by
  refine' fn_of ["start", "gap", "place"] gc ok.hrz (ltR hd) (by rw [ok.hK]; k_is) (by rw [ok.hK]; k_is) (by decide) (by exact all3 fun _ _ _ _ => BindsTo.of_eq rfl) rfl (by decide) rfl rfl rfl ?_
  intro L outer h₀ hid gc'
  refine ex_assign_own en_nil rfl ?_
  refine ex_assign' (by walk_at "m_ev") rfl ?_
  refine ex_for_range (b := 52) (fun _ => True) (fun i => [("row", .own ((rowSt start gap place i).1.map .int)), ("key", .val (.int (rowSt start gap place i).2)), ("gap", .val (.int gap)), ("place", .val (.int place))]) gc' (n_range ok) ev_int (by decide) (by walk_at "m_sub") trivial (fun i hi _ => ?_) (fun _ => ?_)
  · refine ex_append rfl (by walk_at "m_ev") (by rw [List.length_map, rowSt_length]; omega) rfl ?_
    refine ex_assign' (by walk_at "m_ev") rfl ?_
    refine ex_ifset (d := .int (rowSt start gap place (i + 1)).2) (ts_cmp (by walk_at "m_ev") (by walk_at "m_ev") cmp_eq) rfl (fun h => ?_) (fun h => ?_) ?_
    · rw [rowSt]
      simp only [h, if_true]
      walk_at "m_ev"
    · rw [rowSt]
      simp only [h, Bool.false_eq_true, if_false]
      rfl
    refine ex_nil ⟨?_, trivial⟩
    have e : (rowSt start gap place (i + 1)).1.map PyData.int = (rowSt start gap place i).1.map .int ++ [.int (rowSt start gap place i).2] := by rw [rowSt]; simp
    rw [e]
    walk_at "m_sub"
  · exact ex_freeze (x := "row") rfl (ex_ret (by walk_at "m_ev") rfl)

/-! the branch -/
noncomputable def dF (f : Form) : PyData := .tuple [.int f.m, .int f.count, .int f.size, .int f.held]

theorem branch_room {row : List Int} {v : Int} {f : Form} {at0 i : Nat} (h : at0 + f.use ≤ row.length) :
    (i < f.count → (branchSt row v f at0 i).at_ + f.size ≤ row.length) ∧ (i < f.m → (if i < f.count then (branchSt row v f at0 i).at_ + f.size else (branchSt row v f at0 i).at_) < row.length) := by
  obtain ⟨_, _, h3⟩ := branch_sizes row v f at0 i
  rw [h3]
  unfold Form.use at h
  have hx : ∀ j, j ≤ f.count → j * f.size ≤ f.count * f.size := fun j hj => Nat.mul_le_mul_right _ hj
  constructor
  · intro hi
    have h1 := hx (i + 1) hi
    rw [Nat.add_mul, Nat.one_mul] at h1
    rw [Nat.min_eq_left (by omega)]
    have h2 : min i f.m ≤ f.m := Nat.min_le_right _ _
    omega
  · intro hi
    rw [Nat.min_eq_left (show i ≤ f.m by omega)]
    split
    · rename_i hc
      have h1 := hx (i + 1) hc
      rw [Nat.add_mul, Nat.one_mul] at h1
      rw [Nat.min_eq_left (by omega)]
      omega
    · have h1 := hx (min i f.count) (Nat.min_le_right _ _)
      omega

theorem take_ints (row : List Int) (a b : Nat) : ((row.map PyData.int).drop a).take b = ((row.drop a).take b).map .int := by
  rw [List.map_take, List.map_drop]

theorem branch_call {G : Glb} (ok : GOk G) (C : Fcx) (μ : Loc) (row : List Int) (at0 : Nat) (f : Form) (v : Int) (gc : Gc G C) (hd : C.A.depth + 1 < recursionLimit) (hrow : row.length = 52) (hroom : at0 + f.use ≤ row.length) (hm : f.m ≤ 100) (hc : f.count ≤ 100) (hsz : f.size ≤ 100) (hh : f.held ≤ 100) :
    CallTo G C μ (.ref 85) [.list (row.map .int), .int at0, dF f, .int v] (some (.tuple [dT (branchT row v f at0), .int (branchSt row v f at0 (f.m + 2)).at_])) := by
  refine' fn_of ["row", "at", "form", "v"] gc ok.hrz (ltR hd) (by rw [ok.hK]; k_is) (by rw [ok.hK]; k_is) (by decide) (by exact all4 fun _ _ _ _ _ => BindsTo.of_eq rfl) rfl (by decide) rfl rfl rfl ?_
  intro L outer h₀ hid gc'
  refine ex_unpack (ds := [.int f.m, .int f.count, .int f.size, .int f.held]) (by walk_at "m_ev") rfl rfl gc' ?_
  refine ex_assign_own en_nil rfl ?_
  refine ex_assign_own en_nil rfl ?_
  have em : ((f.m + 2 : Nat) : Int) = (f.m : Int) + 2 := rfl
  have hlr : (row.map PyData.int).length = row.length := List.length_map ..
  refine ex_for_range (b := f.m + 2) (fun _ => True) (fun i => [("keys", .own ((branchSt row v f at0 i).keys.map .int)), ("kids", .own (dTs (branchSt row v f at0 i).kids)), ("at", .val (.int (branchSt row v f at0 i).at_)), ("row", .val (.list (row.map .int))), ("v", .val (.int v)), ("m", .val (.int f.m)), ("count", .val (.int f.count)), ("size", .val (.int f.size)), ("held", .val (.int f.held))]) gc' (n_range ok) (by rw [em]; walk_at "m_ev") (by omega) ?_ trivial (fun i hi _ => ?_) (fun _ => ?_)
  · rw [branchSt, dTs]; walk_at "m_sub"
  · obtain ⟨s1, s2, s3⟩ := branch_sizes row v f at0 i
    obtain ⟨r1, r2⟩ := branch_room (v := v) (i := i) hroom
    have ek : (branchSt row v f at0 (i + 1)) = branchStep row v f i (branchSt row v f at0 i) := rfl
    rw [ek]
    unfold branchStep
    revert s1 s2 r1 r2
    generalize branchSt row v f at0 i = st
    intro s1 s2 r1 r2
    refine ex_if_to [("kids", .own (dTs (if i < f.count then st.kids ++ [leaf row v st.at_ f.size] else st.kids))), ("at", .val (.int ((if i < f.count then st.at_ + f.size else st.at_ : Nat) : Int))), ("i", .val (.int i)), ("keys", .own (st.keys.map .int)), ("row", .val (.list (row.map .int))), ("v", .val (.int v)), ("m", .val (.int f.m)), ("count", .val (.int f.count)), ("size", .val (.int f.size)), ("held", .val (.int f.held))] (ts_cmp (by walk_at "m_ev") (by walk_at "m_ev") cmp_lt) (fun h => ?_) (fun h => ?_) ?_
    · have h' : i < f.count := by simpa using h
      have r1' := r1 h'
      refine ex_append (d := dT (leaf row v st.at_ f.size)) rfl ?_ (by rw [dTs_eq, List.length_map]; omega) rfl ?_
      · rw [leaf, dT, List.map_replicate, dTs, ← take_ints]
        have e1 : ((row.map PyData.int).drop st.at_).take f.size = ((row.map PyData.int).drop ((st.at_ : Nat) : Int).toNat).take ((((st.at_ : Nat) : Int) + (f.size : Nat)).toNat - ((st.at_ : Nat) : Int).toNat) := by
          congr 1
          omega
        have e2 : List.replicate f.size (PyData.int v) = List.replicate ((f.size : Nat) : Int).toNat (PyData.int v) := by congr 1
        rw [e1, e2]
        refine ev_tuple (ea_cons (ev_slice (by walk_at "m_ev") (by walk_at "m_ev") (by walk_at "m_ev") (by omega) (by omega) (by rw [hlr]; omega) (by rw [hlr]; omega)) (ea_cons (ev_listmul (by walk_at "m_ev") (by walk_at "m_ev") (by omega) (by omega)) (ea_cons (by walk_at "m_ev") ea_nil))) (by simp)
      refine ex_assign' (by walk_at "m_ev") rfl ?_
      refine ex_nil ?_
      rw [if_pos h', if_pos h', dTs_eq, List.map_append, ← dTs_eq]
      have e3 : ((st.at_ + f.size : Nat) : Int) = (st.at_ : Int) + (f.size : Int) := rfl
      rw [e3]
      walk_at "m_sub"
    · have h' : ¬ i < f.count := by simpa using h
      refine ex_nil ?_
      rw [if_neg h', if_neg h']
      walk_at "m_sub"
    generalize hkids : (if i < f.count then st.kids ++ [leaf row v st.at_ f.size] else st.kids) = kids1
    generalize hat : (if i < f.count then st.at_ + f.size else st.at_) = at1
    rw [hat] at r2
    refine ex_if_to [("kids", .own (dTs kids1)), ("at", .val (.int ((if i < f.m then at1 + 1 else at1 : Nat) : Int))), ("keys", .own ((if i < f.m then st.keys ++ [row.getD at1 0] else st.keys).map .int)), ("row", .val (.list (row.map .int))), ("v", .val (.int v)), ("m", .val (.int f.m)), ("count", .val (.int f.count)), ("size", .val (.int f.size)), ("held", .val (.int f.held))] (ts_cmp (by walk_at "m_ev") (by walk_at "m_ev") cmp_lt) (fun h => ?_) (fun h => ?_) ?_
    · have h' : i < f.m := by simpa using h
      have r2' := r2 h'
      refine ex_append rfl (ev_sub_ (by walk_at "m_ev") (by walk_at "m_ev") (idx_key (j := at1) (Int.natCast_nonneg _) (Int.toNat_natCast _) r2' (Nat.le_trans (Nat.le_of_eq hrow) (by decide)))) (by rw [List.length_map]; omega) rfl ?_
      refine ex_assign' (by walk_at "m_ev") rfl ?_
      refine ex_nil ?_
      rw [if_pos h', if_pos h', List.map_append]
      have e3 : ((at1 + 1 : Nat) : Int) = (at1 : Int) + 1 := rfl
      rw [e3]
      walk_at "m_sub"
    · have h' : ¬ i < f.m := by simpa using h
      refine ex_nil ?_
      rw [if_neg h', if_neg h']
      walk_at "m_sub"
    refine ex_nil ⟨?_, trivial⟩
    walk_at "m_sub"
  · refine ex_freeze (x := "keys") rfl (ex_freeze (x := "kids") rfl ?_)
    have e2 : List.replicate f.held (PyData.int v) = List.replicate ((f.held : Nat) : Int).toNat (PyData.int v) := by congr 1
    refine ex_ret (ev_tuple (ea_cons (ev_tuple (ea_cons (by walk_at "m_ev") (ea_cons (ev_listmul (by walk_at "m_ev") (by walk_at "m_ev") (by omega) (by omega)) (ea_cons (by walk_at "m_ev") ea_nil))) (by simp)) (ea_cons (by walk_at "m_ev") ea_nil)) (by simp)) ?_
    rw [branchT, dT, List.map_replicate, e2]

theorem wrap_order_length (v : Int) (s : WSt) : ∀ i, (wrapSt v s i).order.length = s.order.length + 2 * i
  | 0 => rfl
  | i + 1 => by
    rw [wrapSt, wrapStep, List.length_append, List.length_append, wrap_order_length v s i]
    simp only [List.length_cons, List.length_nil]
    omega

theorem branch_end_le (row : List Int) (v : Int) (f : Form) (at0 i : Nat) : (branchSt row v f at0 i).at_ ≤ at0 + f.use := by
  obtain ⟨_, _, h3⟩ := branch_sizes row v f at0 i
  rw [h3]
  unfold Form.use
  have h1 : min i f.count * f.size ≤ f.count * f.size := Nat.mul_le_mul_right _ (Nat.min_le_right _ _)
  have h2 : min i f.m ≤ f.m := Nat.min_le_right _ _
  omega

structure NestFor (n : Nest) (t a b extra slack flip inner lid : Int) : Prop where
  ok : n.Ok
  len : n.row.length = 52
  hm : t - 1 + a * t + b = n.odd.m
  hcnt : ((n.odd.m : Int) + 1 + extra) * (inner + flip).fmod 2 = n.odd.count
  hheld : (n.odd.m : Int) + slack = n.odd.held
  hgm : t - 1 = n.good.m
  hgh : t - 1 = n.good.held
  hgc : t * inner = n.good.count
  hgs : n.good.size = n.odd.size
  hlid : n.lid = (lid == 0)
  ht : t.natAbs ≤ 1000
  tl : n.tall ≤ 100
  o1 : n.odd.m ≤ 100 ∧ n.odd.count ≤ 100 ∧ n.odd.size ≤ 100 ∧ n.odd.held ≤ 100
  g1 : n.good.m ≤ 100 ∧ n.good.count ≤ 100 ∧ n.good.size ≤ 100 ∧ n.good.held ≤ 100

set_option maxHeartbeats 2000000 in
theorem nest_call {G : Glb} (ok : GOk G) (C : Fcx) (μ : Loc) (n : Nest) (t a b extra slack flip inner lid : Int) (gc : Gc G C) (hd : C.A.depth + 3 < recursionLimit) (H : NestFor n t a b extra slack flip inner lid) :
    CallTo G C μ (.ref 92) [.list (n.row.map .int), .tuple [.int t, .tuple [.int a, .int b, .int extra, .int slack, .int flip], .int n.tall, .int inner, .int n.place, .int n.odd.size, .int n.wraps, .int lid], .int n.v] (some (.tuple [dT n.tree, .list (n.order.map .int)])) := by
  obtain ⟨hok, hlen, hm, hcnt, hheld, hgm, hgh, hgc, hgs, hlid, ht, htl, ⟨o1, o2, o3, o4⟩, ⟨g1, g2, g3, g4⟩⟩ := H
  refine' fn_of ["row", "plan", "v"] gc ok.hrz (ltR hd) (by rw [ok.hK]; k_is) (by rw [ok.hK]; k_is) (by decide) (by exact all3 fun _ _ _ _ => BindsTo.of_eq rfl) rfl (by decide) rfl rfl rfl ?_
  intro L outer h₀ hid gc'
  refine ex_unpack (ds := [.int t, .tuple [.int a, .int b, .int extra, .int slack, .int flip], .int n.tall, .int inner, .int n.place, .int n.odd.size, .int n.wraps, .int lid]) (by walk_at "m_ev") rfl rfl gc' ?_
  refine ex_unpack (ds := [.int a, .int b, .int extra, .int slack, .int flip]) (by walk_at "m_ev") rfl rfl gc' ?_
  refine ex_assign' (d := .int n.odd.m) (by rw [← hm]; exact ev_add (ev_add (by walk_at "m_ev") (ev_mul (by walk_at "m_ev") (by walk_at "m_ev") (IntMulOk.of_right (intBits_small ht)))) (by walk_at "m_ev")) rfl ?_
  have hf2 : ((inner + flip).fmod 2).natAbs ≤ 1000 := by
    have h1 := Int.fmod_nonneg_of_pos (a := inner + flip) (b := 2) (by decide)
    have h2 := Int.fmod_lt_of_pos (inner + flip) (b := 2) (by decide)
    omega
  refine ex_assign' (d := dF n.odd) (by rw [dF, ← hcnt, ← hheld]; exact ev_tuple (ea_cons (by walk_at "m_ev") (ea_cons (ev_mul (by walk_at "m_ev") (ev_mod (by walk_at "m_ev") (by walk_at "m_ev") (by decide)) (IntMulOk.of_right (intBits_small hf2))) (ea_cons (by walk_at "m_ev") (ea_cons (by walk_at "m_ev") ea_nil)))) (by simp)) rfl ?_
  refine ex_assign' (d := dF n.good) (by show Ev G _ _ _ (PyData.tuple [.int (n.good.m : Int), .int (n.good.count : Int), .int (n.good.size : Int), .int (n.good.held : Int)]); rw [← hgm, ← hgh, ← hgc, hgs]; exact ev_tuple (ea_cons (by walk_at "m_ev") (ea_cons (ev_mul (by walk_at "m_ev") (by walk_at "m_ev") (IntMulOk.of_left (intBits_small ht))) (ea_cons (by walk_at "m_ev") (ea_cons (by walk_at "m_ev") ea_nil)))) (by simp)) rfl ?_
  refine ex_assign_own en_nil rfl ?_
  refine ex_assign_own en_nil rfl ?_
  refine ex_assign' (by walk_at "m_ev") rfl ?_
  have em : ((n.tall + 1 : Nat) : Int) = (n.tall : Int) + 1 := rfl
  have hlr : (n.row.map PyData.int).length = n.row.length := List.length_map ..
  refine ex_for_range (b := n.tall + 1) (fun _ => True) (fun i => [("keys", .own ((nestSt n.row n.v n.odd n.good n.place n.tall i).keys.map .int)), ("kids", .own (dTs (nestSt n.row n.v n.odd n.good n.place n.tall i).kids)), ("at", .val (.int (nestSt n.row n.v n.odd n.good n.place n.tall i).at_)), ("row", .val (.list (n.row.map .int))), ("v", .val (.int n.v)), ("tall", .val (.int n.tall)), ("place", .val (.int n.place)), ("wraps", .val (.int n.wraps)), ("lid", .val (.int lid)), ("odd", .val (dF n.odd)), ("good", .val (dF n.good))]) gc' (n_range ok) (by rw [em]; walk_at "m_ev") (by omega) ?_ trivial (fun i hi _ => ?_) (fun _ => ?_)
  · rw [nestSt, dTs]; walk_at "m_sub"
  · have hle := nest_at_le (v := n.v) hok.ok (i := i) (by omega)
    have hroom := hok.ok.room
    obtain ⟨s1, s2⟩ := nest_len n.row n.v n.odd n.good n.place n.tall i
    have ek : (nestSt n.row n.v n.odd n.good n.place n.tall (i + 1)) = nestStep n.row n.v n.odd n.good n.place n.tall i (nestSt n.row n.v n.odd n.good n.place n.tall i) := rfl
    rw [ek]
    simp only [nestStep]
    revert hle s1 s2
    generalize nestSt n.row n.v n.odd n.good n.place n.tall i = st
    intro hle s1 s2
    refine ex_assign' (by walk_at "m_ev") rfl ?_
    refine ex_ifset (d := dF (if i = n.place then n.odd else n.good)) (ts_cmp (by walk_at "m_ev") (by walk_at "m_ev") cmp_eq) rfl (fun h => ?_) (fun h => ?_) ?_
    · have h' : i = n.place := by have : (i : Int) = n.place := by simpa using h
                                  omega
      rw [if_pos h']; walk_at "m_ev"
    · have h' : ¬ i = n.place := by have : ¬ (i : Int) = n.place := by simpa using h
                                    omega
      rw [if_neg h']; rfl
    have hf : (if i = n.place then n.odd else n.good).m ≤ 100 ∧ (if i = n.place then n.odd else n.good).count ≤ 100 ∧ (if i = n.place then n.odd else n.good).size ≤ 100 ∧ (if i = n.place then n.odd else n.good).held ≤ 100 := by
      split
      · exact ⟨o1, o2, o3, o4⟩
      · exact ⟨g1, g2, g3, g4⟩
    revert hf hle
    generalize (if i = n.place then n.odd else n.good) = f
    intro hle hf
    obtain ⟨f1, f2, f3, f4⟩ := hf
    have hend := branch_end_le n.row n.v f st.at_ (f.m + 2)
    refine ex_unpack (ds := [dT (branchT n.row n.v f st.at_), .int (branchSt n.row n.v f st.at_ (f.m + 2)).at_]) (evr_call gc' (n_branch ok) (kp_branch ok) (by walk_at "m_ea") (branch_call ok _ _ n.row st.at_ f n.v gc' (ltR (show C.A.depth + 1 + 1 + 1 < recursionLimit from hd)) hlen (by omega) f1 f2 f3 f4)) rfl rfl gc' ?_
    refine ex_append (x := "kids") (ds := dTs st.kids) rfl (by walk_at "m_ev") (by rw [dTs_eq, List.length_map]; omega) rfl ?_
    generalize hat : (branchSt n.row n.v f st.at_ (f.m + 2)).at_ = at1
    rw [hat] at hend
    refine ex_if_to [("keys", .own ((if i < n.tall then st.keys ++ [n.row.getD at1 0] else st.keys).map .int)), ("kids", .own (dTs st.kids ++ [dT (branchT n.row n.v f st.at_)])), ("at", .val (.int ((if i < n.tall then at1 + 1 else at1 : Nat) : Int))), ("row", .val (.list (n.row.map .int))), ("v", .val (.int n.v)), ("tall", .val (.int n.tall)), ("place", .val (.int n.place)), ("wraps", .val (.int n.wraps)), ("lid", .val (.int lid)), ("odd", .val (dF n.odd)), ("good", .val (dF n.good))] (ts_cmp (by walk_at "m_ev") (by walk_at "m_ev") cmp_lt) (fun h => ?_) (fun h => ?_) ?_
    · have h' : i < n.tall := by simpa using h
      rw [if_pos h'] at hle
      refine ex_append (x := "keys") rfl (ev_sub_ (by walk_at "m_ev") (by walk_at "m_ev") (idx_key (j := at1) (Int.natCast_nonneg _) (Int.toNat_natCast _) (by omega) (Nat.le_trans (Nat.le_of_eq hlen) (by decide)))) (by rw [List.length_map]; omega) rfl ?_
      refine ex_assign' (by walk_at "m_ev") rfl ?_
      refine ex_nil ?_
      rw [if_pos h', if_pos h', List.map_append]
      have e3 : ((at1 + 1 : Nat) : Int) = (at1 : Int) + 1 := rfl
      rw [e3]
      walk_at "m_sub"
    · have h' : ¬ i < n.tall := by simpa using h
      refine ex_nil ?_
      rw [if_neg h', if_neg h']
      walk_at "m_sub"
    refine ex_nil ⟨?_, trivial⟩
    have e4 : dTs (st.kids ++ [branchT n.row n.v f st.at_]) = dTs st.kids ++ [dT (branchT n.row n.v f st.at_)] := by rw [dTs_eq, List.map_append, ← dTs_eq]; rfl
    simp only [e4]
    walk_at "m_sub"
  · have hale : (nestSt n.row n.v n.odd n.good n.place n.tall (n.tall + 1)).at_ ≤ 52 := by
      have hle := nest_at_le (v := n.v) hok.ok (i := n.tall) (Nat.le_refl _)
      have hroom := hok.ok.room
      rw [nestSt, nestStep]
      simp only [Nat.lt_irrefl, if_false] at hle ⊢
      have hend := branch_end_le n.row n.v (if n.tall = n.place then n.odd else n.good) (nestSt n.row n.v n.odd n.good n.place n.tall n.tall).at_ ((if n.tall = n.place then n.odd else n.good).m + 2)
      omega
    have hst : n.start = { order := n.row.take (nestSt n.row n.v n.odd n.good n.place n.tall (n.tall + 1)).at_, node := nest0 n.row n.v n.odd n.good n.place n.tall, top := n.row.getD 51 0 } := rfl
    have hn0 : nest0 n.row n.v n.odd n.good n.place n.tall = if n.tall = 0 then (nestSt n.row n.v n.odd n.good n.place n.tall (n.tall + 1)).kids.getD 0 (.mk [] [] []) else .mk (nestSt n.row n.v n.odd n.good n.place n.tall (n.tall + 1)).keys (List.replicate n.tall n.v) (nestSt n.row n.v n.odd n.good n.place n.tall (n.tall + 1)).kids := rfl
    obtain ⟨s1, s2⟩ := nest_len n.row n.v n.odd n.good n.place n.tall (n.tall + 1)
    revert hale hst hn0 s1 s2
    generalize nestSt n.row n.v n.odd n.good n.place n.tall (n.tall + 1) = st
    generalize hnode : nest0 n.row n.v n.odd n.good n.place n.tall = node0
    intro hale hst hn0 s1 s2
    refine ex_freeze (x := "keys") rfl (ex_freeze (x := "kids") rfl ?_)
    refine ex_assign' (d := dT (.mk st.keys (List.replicate n.tall n.v) st.kids)) ?_ rfl ?_
    · rw [dT, List.map_replicate]
      exact ev_tuple (ea_cons (by walk_at "m_ev") (ea_cons (ev_listmul (n := (n.tall : Int)) (by walk_at "m_ev") (by walk_at "m_ev") (by omega) (by omega)) (ea_cons (by walk_at "m_ev") ea_nil))) (by simp)
    refine ex_ifset (d := dT node0) (ts_cmp (by walk_at "m_ev") (by walk_at "m_ev") cmp_eq) rfl (fun h => ?_) (fun h => ?_) ?_
    · have h' : n.tall = 0 := by simpa using h
      rw [if_pos h'] at hn0
      refine ev_sub_ (by walk_at "m_ev") (by walk_at "m_ev") (idx_list (by decide) (by decide) ?_)
      rw [hn0, dTs_eq, List.getElem?_map]
      have : 0 < st.kids.length := by omega
      simp [List.getD, this]
    · have h' : ¬ n.tall = 0 := by simpa using h
      rw [if_neg h'] at hn0
      rw [hn0]; rfl
    refine ex_assign_own (ds := (n.row.take st.at_).map .int) ?_ rfl ?_
    · rw [List.map_take]
      exact en_slice_upto (b := (st.at_ : Int)) (by walk_at "m_ev") (by walk_at "m_ev") (by omega) (by rw [hlr]; omega) (by rw [hlr]; omega)
    refine ex_assign' (ev_sub_ (by walk_at "m_ev") (by walk_at "m_ev") (idx_key (j := 51) (by decide) (by decide) (by rw [hlen]; decide) (Nat.le_trans (Nat.le_of_eq hlen) (by decide)))) rfl ?_
    refine ex_for_range (b := n.wraps) (fun _ => True) (fun i => [("order", .own ((wrapSt n.v n.start i).order.map .int)), ("node", .val (dT (wrapSt n.v n.start i).node)), ("top", .val (.int (wrapSt n.v n.start i).top)), ("v", .val (.int n.v)), ("lid", .val (.int lid))]) gc' (n_range ok) (by walk_at "m_ev") (by have := hok.wr; omega) ?_ trivial (fun i hi _ => ?_) (fun _ => ?_)
    · rw [wrapSt, hst]; walk_at "m_sub"
    · have hol := wrap_order_length n.v n.start i
      have hsl : n.start.order.length ≤ 52 := by rw [hst]; simp; omega
      have hwr := hok.wr
      have ek : wrapSt n.v n.start (i + 1) = wrapStep n.v (wrapSt n.v n.start i) := rfl
      rw [ek]
      unfold wrapStep
      revert hol
      generalize wrapSt n.v n.start i = ws
      intro hol
      refine ex_append (x := "order") rfl (by walk_at "m_ev") (by rw [List.length_map]; omega) rfl ?_
      refine ex_append (x := "order") rfl (by walk_at "m_ev") (by rw [List.length_append, List.length_map]; simp; omega) rfl ?_
      refine ex_assign' (by walk_at "m_ev") rfl ?_
      refine ex_assign' (by walk_at "m_ev") rfl ?_
      refine ex_nil ⟨?_, trivial⟩
      have e1 : (ws.order ++ [ws.top + 1] ++ [ws.top + 2]).map PyData.int = ws.order.map .int ++ [.int (ws.top + 1)] ++ [.int (ws.top + 2)] := by simp
      simp only [e1]
      rw [dT, dTs, dTs, dTs, dT, dTs]
      walk_at "m_sub"
    · refine ex_ifset (d := dT n.tree) (ts_cmp (by walk_at "m_ev") (by walk_at "m_ev") cmp_eq) rfl (fun h => ?_) (fun h => ?_) ?_
      · rw [Nest.tree, lidT, hlid, h, if_pos rfl, dT, dTs, dTs]
        walk_at "m_ev"
      · rw [Nest.tree, lidT, hlid, h]
        rfl
      exact ex_freeze (x := "order") rfl (ex_ret (by walk_at "m_ev") rfl)

abbrev cmp2 (elt t0 i0 t1 i1 : Expr) (scope : Scope) (pos : Pos) : Expr := .ListComp elt [⟨t0, i0, [], 0⟩, ⟨t1, i1, [], 0⟩] scope pos

theorem turn0 (elt t0 i0 t1 i1 : Expr) (scope : Scope) (pos : Pos) (it acc : Value) (env : Env) :
    compTurn (cmp2 elt t0 i0 t1 i1 scope pos) 0 it acc env = (standAt i0.pos >>= fun _ => pyNext it >>= fun r => match r with
      | none => pure (.done .next)
      | some v => letOwnedTupleGo t0 it v >>= fun _ => assign t0 env v >>= fun _ => eval i1 env >>= fun x => standAt i1.pos >>= fun _ => foldedSetIterable i1 env x >>= fun x => holding [x] (pyIter x) >>= fun it' =>
        runOwn (.compStart (cmp2 elt t0 i0 t1 i1 scope pos) 1 it' acc env) env >>= fun _ =>
          again (.compLoop (cmp2 elt t0 i0 t1 i1 scope pos) 0 it acc env)) := by rfl
theorem turn1 (elt t0 i0 t1 i1 : Expr) (scope : Scope) (pos : Pos) (it acc : Value) (env : Env) :
    compTurn (cmp2 elt t0 i0 t1 i1 scope pos) 1 it acc env = (standAt i1.pos >>= fun _ => pyNext it >>= fun r => match r with
      | none => pure (.done .next)
      | some v => letOwnedTupleGo t1 it v >>= fun _ => assign t1 env v >>= fun _ =>
        (eval elt env >>= fun x => call (.builtin "list.append") [acc, x] >>= fun _ => pure ()) >>= fun _ =>
          again (.compLoop (cmp2 elt t0 i0 t1 i1 scope pos) 1 it acc env)) := by rfl

section
variable {prog : Program} {w : World} {A : Around} {R : Result → Shared → Prop} {s : Shared}

theorem loop1 {elt t0 i0 t1 i1 : Expr} {scope : Scope} {pos : Pos} {it acc : Value} {env : Env} (I : Nat → Shared → Prop)
    (turn : ∀ n s (Er : Value → Shared → Prop), I n s → wpAny (model prog w) A (pyNext it) (fun r s₁ => match r with
      | none => R (.ok .next) s₁
      | some v => wpAny (model prog w) A (assign t1 env v) (fun _ s₂ => wpAny (model prog w) A (eval elt env) (fun x s₃ =>
          wpAny (model prog w) A (call (.builtin "list.append") [acc, x]) (fun _ s₄ => ∃ m, m < n ∧ I m s₄) Er s₃) Er s₂) Er s₁) Er s)
    (n : Nat) (h : I n s) (ht : ∀ v, letOwnedTupleGo t1 it v = pure ()) :
    codeAny (model prog w) A (.compLoop (cmp2 elt t0 i0 t1 i1 scope pos) 1 it acc env) R s := by
  refine codeAny_loop rfl I (fun n s hI => ?_) n h
  show wpAny _ _ ((compTurn (cmp2 elt t0 i0 t1 i1 scope pos) 1 it acc env).onRaise (fun x => do noteFrame x env; theTreesLotGoes x)) _ _ s
  refine wpAny_noted ?_
  rw [turn1]
  refine wpAny_bind (wpAny_standAt (wpAny_bind (wpAny_mono (turn n s _ hI) (fun r s₁ h₁ => ?_) fun _ _ h' => h')))
  cases r with
  | none => exact wpAny_pure h₁
  | some v =>
    refine wpAny_bind (wpAny_of_eq (ht v) ?_)
    exact wpAny_bind (wpAny_mono h₁ (fun _ s₂ h₂ => wpAny_bind (wpAny_bind (wpAny_mono h₂ (fun x s₃ h₃ => wpAny_bind (wpAny_mono h₃
      (fun _ s₄ h₄ => wpAny_pure (wpAny_pure ⟨rfl, h₄⟩)) fun _ _ h' => h')) fun _ _ h' => h'))) fun _ _ h' => h')

theorem start2 {elt t0 i0 t1 i1 : Expr} {scope : Scope} {pos : Pos} {it acc : Value} {env : Env} {d : Nat} (hd : d = 0 ∨ d = 1)
    (h0 : codeAny (model prog w) A (.compLoop (cmp2 elt t0 i0 t1 i1 scope pos) d it acc env) R s)
    (h : ∀ Er : Value → Shared → Prop, wpAny (model prog w) A (pyIter it) (fun it' s' => codeAny (model prog w) A (.compLoop (cmp2 elt t0 i0 t1 i1 scope pos) d it' acc env) R s') Er s) :
    codeAny (model prog w) A (.compStart (cmp2 elt t0 i0 t1 i1 scope pos) d it acc env) R s := by
  refine codeAny_of_tree ?_
  show wpAny _ _ ((compStart (cmp2 elt t0 i0 t1 i1 scope pos) d it acc env).onRaise (fun x => do noteFrame x env; standAt theWindowsPlace)) _ _ s
  refine wpAny_notedAt ?_
  unfold compStart
  rcases hd with rfl | rfl
  · show wpAny _ _ (ask >>= _) _ _ s
    refine wpAny_bind (wpAny_askSetting (wpAny_ite ?_))
    split
    · first
        | exact wpAny_bind (wpAny_pure (wpAny_pure (And.intro rfl h0)))
        | exact wpAny_pure (And.intro rfl h0)
    · first
        | exact wpAny_bind (wpAny_rule (wpAny_bind (wpAny_standAt (wpAny_bind (wpAny_mono (h _) (fun it' s' h' => wpAny_pure (And.intro rfl h')) fun _ _ x => x)))))
        | (refine wpAny_bind (wpAny_rule ?_); show wpAny _ _ (standAt i0.pos >>= _) _ _ s; exact wpAny_bind (wpAny_standAt (wpAny_bind (wpAny_mono (h _) (fun it' s' h' => wpAny_pure (And.intro rfl h')) fun _ _ x => x))))
  · show wpAny _ _ (ask >>= _) _ _ s
    refine wpAny_bind (wpAny_askSetting (wpAny_ite ?_))
    split
    · first
        | exact wpAny_bind (wpAny_pure (wpAny_pure (And.intro rfl h0)))
        | exact wpAny_pure (And.intro rfl h0)
    · first
        | exact wpAny_bind (wpAny_rule (wpAny_bind (wpAny_standAt (wpAny_bind (wpAny_mono (h _) (fun it' s' h' => wpAny_pure (And.intro rfl h')) fun _ _ x => x)))))
        | (refine wpAny_bind (wpAny_rule ?_); show wpAny _ _ (standAt i1.pos >>= _) _ _ s; exact wpAny_bind (wpAny_standAt (wpAny_bind (wpAny_mono (h _) (fun it' s' h' => wpAny_pure (And.intro rfl h')) fun _ _ x => x))))

theorem loop0 {elt t0 i0 t1 i1 : Expr} {scope : Scope} {pos : Pos} {it acc : Value} {env : Env} (I : Nat → Shared → Prop)
    (turn : ∀ n s (Er : Value → Shared → Prop), I n s → wpAny (model prog w) A (pyNext it) (fun r s₁ => match r with
      | none => R (.ok .next) s₁
      | some v => wpAny (model prog w) A (assign t0 env v) (fun _ s₂ => wpAny (model prog w) A (eval i1 env) (fun x s₃ =>
          wpAny (model prog w) A (pyIter x) (fun it' s₄ => codeAny (model prog w) A (.compStart (cmp2 elt t0 i0 t1 i1 scope pos) 1 it' acc env) (fun r s₅ => (∃ f, r = .ok f) ∧ ∃ m, m < n ∧ I m s₅) s₄) Er s₃) Er s₂) Er s₁) Er s)
    (n : Nat) (h : I n s) (ht : ∀ v, letOwnedTupleGo t0 it v = pure ()) (hs : ∀ x, foldedSetIterable i1 env x = pure x) :
    codeAny (model prog w) A (.compLoop (cmp2 elt t0 i0 t1 i1 scope pos) 0 it acc env) R s := by
  refine codeAny_loop rfl I (fun n s hI => ?_) n h
  show wpAny _ _ ((compTurn (cmp2 elt t0 i0 t1 i1 scope pos) 0 it acc env).onRaise (fun x => do noteFrame x env; theTreesLotGoes x)) _ _ s
  refine wpAny_noted ?_
  rw [turn0]
  refine wpAny_bind (wpAny_standAt (wpAny_bind (wpAny_mono (turn n s _ hI) (fun r s₁ h₁ => ?_) fun _ _ h' => h')))
  cases r with
  | none => exact wpAny_pure h₁
  | some v =>
    refine wpAny_bind (wpAny_of_eq (ht v) ?_)
    refine wpAny_bind (wpAny_mono h₁ (fun _ s₂ h₂ => wpAny_bind (wpAny_mono h₂ (fun x s₃ h₃ => wpAny_bind (wpAny_standAt (wpAny_bind (wpAny_of_eq (hs x) (wpAny_bind (wpAny_holding (wpAny_mono h₃ (fun it' s₄ h₄ => ?_) fun _ _ h' => h'))))))) fun _ _ h' => h')) fun _ _ h' => h')
    refine wpAny_bind (wpAny_runOwn (codeAny_mono h₄ fun r s₅ h₅ => ?_))
    obtain ⟨⟨f, rfl⟩, h₅⟩ := h₅
    exact wpAny_pure ⟨rfl, h₅⟩
end

section
variable {prog : Program} {w : World} {A : Around} {R : Result → Shared → Prop}

/-- the inner for of the comprehension: it takes over the items of one list -/
theorem inner_comp {s : Shared} {kd : Str} {pk pk2 : Pos} {t0 i0 i1 : Expr} {scope : Scope} {pos : Pos} {env : Env} {I D Cx I2 ax2 : Addr} {its2 ys : List Value} {hb : Heap} {h₄ : Heap} {tk : Nat} {oI : Obj} {m4 : Str → Option Value}
    (hh : A.handled = none) (hkind : scope.kind = .function) (hkd : scope.names.lookup kd = some .local) (hdbg : (kd == ("__debug__" : Str)) = false)
    (hDI : D ≠ I2) (hCI : Cx ≠ I2) (hII : I ≠ I2) (haI : ax2 ≠ I2) (hDC : D ≠ Cx) (hIC : I ≠ Cx) (hID : I ≠ D)
    (fI2 : hb.get? I2 = none) (fD : hb.get? D = none) (fC : hb.get? Cx = none)
    (k₄ : Keeps hb h₄) (hl2 : hb.IsList ax2 its2.toArray) (hit : h₄.IsListIter I2 ax2 0) (eI : h₄.get? I = some oI) (eD : h₄.get? D = some (LCg.lst ys)) (eC : h₄.Ns Cx m4) (hsz : ys.length + its2.length ≤ 1000000)
    (hR : ∀ h' tk' m', Keeps hb h' → h'.get? I = some oI → h'.get? D = some (LCg.lst (ys ++ its2)) → h'.Ns Cx m' → R (.ok .next) { s with heap := h', toks := tk' }) :
    codeAny (model prog w) A (.compStart (cmp2 (.Name kd pk) t0 i0 (.Name kd pk2) i1 scope pos) 1 (.ref I2) (.ref D) (compEnvC scope [] Cx env)) R { s with heap := h₄, toks := tk } := by
  have W := Walks.list (prog := prog) (w := w) hh I2 ax2 haI its2.toArray
  have hn2 : its2.toArray.size = its2.length := by simp
  have hl4 : h₄.IsList ax2 its2.toArray := by obtain ⟨o, e, r⟩ := hl2; exact ⟨o, k₄ _ _ e, r⟩
  have loop : codeAny (model prog w) A (.compLoop (cmp2 (.Name kd pk) t0 i0 (.Name kd pk2) i1 scope pos) 1 (.ref I2) (.ref D) (compEnvC scope [] Cx env)) R { s with heap := h₄, toks := tk } := by
    refine loop1 (fun k s' => ∃ j h' tk' m', s' = { s with heap := h', toks := tk' } ∧ j ≤ its2.length ∧ k = its2.length + 1 - j ∧ Keeps hb h' ∧ h'.IsListIter I2 ax2 j ∧ h'.get? I = some oI ∧ h'.get? D = some (LCg.lst (ys ++ its2.take j)) ∧ h'.Ns Cx m') ?_ (its2.length + 1)
      ⟨0, h₄, tk, m4, rfl, Nat.zero_le _, rfl, k₄, hit, eI, by simpa using eD, eC⟩ (fun _ => rfl)
    rintro k s' Er ⟨j, h', tk', m', rfl, hj, rfl, kk, hit', eI', eD', eC'⟩
    have hl' : h'.IsList ax2 its2.toArray := by obtain ⟨o, e, r⟩ := hl2; exact ⟨o, kk _ _ e, r⟩
    by_cases hlt : j < its2.length
    · refine W.item j _ _ _ (by omega) ⟨hit', hl'⟩ fun v h₅ tk₅ hv st₅ hk₅ => ?_
      have hv' : its2[j]? = some v := by simpa using hv
      have nI2 : ∀ b, b ≠ I2 → b ∉ [I2] := fun b h hm => h (List.mem_singleton.mp hm)
      refine wpAny_assign_Name (wpAny_storeName_local (lookup_relabel_local hkd) (eC'.at' fun o e => hk₅ _ o (nI2 _ hCI) e) (fun h₆ hn₆ hs₆ => ?_) (by simp [compEnvC, relabel, hkind]))
      refine wpAny_Name (wpAny_loadName_local (v := v) (by simpa [compEnvC, relabel] using hkind) (lookup_relabel_local hkd) hn₆ (by simp) ?_) hdbg
      have kk₆ : Keeps hb h₆ := fun b o e => hs₆.extBut b o (fun q => by rw [show b = Cx from q, fC] at e; cases e) (hk₅ b o (nI2 b fun q => by rw [q, fI2] at e; cases e) (kk b o e))
      have eD₆ : h₆.get? D = some (LCg.lst (ys ++ its2.take j)) := hs₆.extBut _ _ hDC (hk₅ _ _ (nI2 _ hDI) eD')
      have eI₆ : h₆.get? I = some oI := hs₆.extBut _ _ hIC (hk₅ _ _ (nI2 _ hII) eI')
      have hlen : (ys ++ its2.take j).length = ys.length + j := by simp; omega
      have hsz' : (ys ++ its2.take j).toArray.size ≤ sizeLine := by
        rw [List.size_toArray, hlen]
        show ys.length + j ≤ 2 ^ 24
        omega
      refine append_at (hsz := hsz') eD₆ fun h₇ hs₇ eD₇ => ?_
      have e1 : ys ++ its2.take (j + 1) = (ys ++ its2.take j) ++ [v] := by
        rw [List.append_assoc]
        congr 1
        rw [List.take_succ, hv']
        rfl
      refine ⟨its2.length + 1 - (j + 1), by omega, j + 1, h₇, _, _, rfl, hlt, rfl, fun b o e => hs₇.extBut b o (fun q => by rw [show b = D from q, fD] at e; cases e) (kk₆ b o e), ?_, hs₇.extBut _ _ hID eI₆, ?_, hn₆.sameBut hs₇ (Ne.symm hDC)⟩
      · have := st₅.1
        obtain ⟨o, e, r⟩ := this
        exact ⟨o, hs₇.extBut _ _ (Ne.symm hDI) (hs₆.extBut _ _ (Ne.symm hCI) e), r⟩
      · rw [e1, eD₇, LCg.lst_snoc]
    · obtain rfl : j = its2.length := by omega
      refine W.done _ _ _ (by rw [hn2]; exact ⟨hit', hl'⟩) fun h₅ tk₅ hk₅ => ?_
      have nI2 : ∀ b, b ≠ I2 → b ∉ [I2] := fun b h hm => h (List.mem_singleton.mp hm)
      refine hR h₅ tk₅ m' (fun b o e => hk₅ b o (nI2 b fun q => by rw [q, fI2] at e; cases e) (kk b o e)) (hk₅ _ _ (nI2 _ hII) eI') ?_ (eC'.at' fun o e => hk₅ _ o (nI2 _ hCI) e)
      have := hk₅ _ _ (nI2 _ hDI) eD'
      rwa [List.take_length] at this
  exact start2 (.inr rfl) loop fun Er => W.self 0 _ _ _ ⟨hit, hl4⟩ loop

theorem flat_take {l : List T} {i : Nat} {x : T} (h : l[i]? = some x) : dTs ((l.take (i + 1)).flatMap T.cs) = dTs ((l.take i).flatMap T.cs) ++ dTs x.cs := by
  rw [List.take_succ, h, dTs_eq, dTs_eq, dTs_eq]
  simp
theorem flat_len {l : List T} {i : Nat} {x : T} (h : l[i]? = some x) : ((l.take i).flatMap T.cs).length + x.cs.length ≤ (l.flatMap T.cs).length := by
  have h1 : l = l.take i ++ x :: l.drop (i + 1) := by
    obtain ⟨hi, e⟩ := List.getElem?_eq_some_iff.mp h
    rw [← e, List.getElem_cons_drop, List.take_append_drop]
  have h2 : l.flatMap T.cs = (l.take i).flatMap T.cs ++ (x.cs ++ (l.drop (i + 1)).flatMap T.cs) := by
    conv => lhs; rw [h1]
    rw [List.flatMap_append, List.flatMap_cons]
  rw [h2, List.length_append, List.length_append]
  omega

/-- y = [kd for nd in lv for kd in nd[2]] -/
theorem ex_comp2 {G : Glb} {C : Fcx} {μ : Loc} {N : Loc → Prop} {R : Option PyData → Prop} {rest : List Stmt} {y lv nd kd : Str} {py pk pn pl pk2 pn2 pc ps pos spos : Pos} {kc : Nat} {scope : Scope} {l : List T} (gc : Gc G C) (hl : μ.lookup lv = some (.val (.list (dTs l)))) (hsz : (l.flatMap T.cs).length ≤ 1000000)
    (hn : Ex G C ((y, .val (.list (dTs (l.flatMap T.cs)))) :: μ) rest N R)
    (hsw : swapsWith (cmp2 (.Name kd pk) (.Name nd pn) (.Name lv pl) (.Name kd pk2) (.Subscript (.Name nd pn2) (.Constant (.int 2) kc pc) ps) scope pos) (some (.Name y py)) spos.line C.env = pure true := by rfl)
    (hclos : closureFor scope C.env = pure [] := by rfl) (hcell : ∀ z ∈ scope.names, z.2 ≠ .cell := by decide) (hkind : scope.kind = .function := by rfl)
    (hnames : ∀ z ∈ scope.names, z.2 = .local → scope.names.lookup z.1 = some .local := by decide) (hnd : scope.names.lookup nd = some .local := by rfl) (hkd : scope.names.lookup kd = some .local := by rfl)
    (hlv : C.env.kindOf lv = some .local := by rfl) (hy : C.env.kindOf y = some .local := by rfl) (hd1 : (kd == ("__debug__" : Str)) = false := by decide) (hd2 : (nd == ("__debug__" : Str)) = false := by decide) (hd3 : (lv == ("__debug__" : Str)) = false := by decide)
    (hs : ∀ x, foldedSetIterable (.Name lv pl) C.env x = pure x := by intro _; rfl) (hs2 : ∀ env x, foldedSetIterable (.Subscript (.Name nd pn2) (.Constant (.int 2) kc pc) ps) env x = pure x := by intro _ _; rfl) :
    Ex G C μ (.Assign [.Name y py] (cmp2 (.Name kd pk) (.Name nd pn) (.Name lv pl) (.Name kd pk2) (.Subscript (.Name nd pn2) (.Constant (.int 2) kc pc) ps) scope pos) spos :: rest) N R := by
  intro s os m Q E S hE hN hRt hX
  obtain ⟨v₀, hv₀, rv⟩ := S.rel lv _ hl
  obtain ⟨ax, its, rfl, hax, hr⟩ := rv.isListL Fz.get
  have hh : C.A.handled = none := gc.hand
  refine wpAny_execs_cons ?_
  rw [exec_Assign_Name_used _ _ _ _ hsw]
  refine wpAny_bind (wpAny_standAt (wpAny_bind ?_))
  show wpAny _ C.A (do let _ ← comprehension (cmp2 (.Name kd pk) (.Name nd pn) (.Name lv pl) (.Name kd pk2) (.Subscript (.Name nd pn2) (.Constant (.int 2) kc pc) ps) scope pos) scope C.env _ (newList []) false (eval (.Name lv pl) C.env) (some (assign (.Name y py) C.env))) _ _ s
  refine wpAny_bind (wpAny_mono (wpAny_comprehension_free (use := some (assign (.Name y py) C.env)) (Q := fun _ s' => wpAny G.M C.A (execs rest C.env) Q E s') rfl hs hclos hkind hnames
    (ld S.fr hv₀ (wpAny_pyIter_list hax ?_) gc.kind hlv hd3)) (fun _ s' hq => wpAny_pure (wpAny_pure hq)) fun _ _ e => e)
  refine wpAny_newObj_type (wpAny_newFunctionEnv hcell (by intro y hy; simp at hy) (fun h₁ hns₁ hsb₁ => ?_) hkind)
  dsimp only at hns₁ hsb₁ ⊢
  generalize hH1 : s.heap.push { cls := .type "list_iterator", data := .fields #[.ref ax, .int 0 0] } = H1 at hns₁ hsb₁ ⊢
  generalize hH2 : H1.push { cls := .type "list", dict := none, data := .seq ([] : List Value).toArray } = H2 at hns₁ hsb₁ ⊢
  have sD : H1.objs.size = s.heap.objs.size + 1 := by rw [← hH1, Heap.size_push]
  have sC : H2.objs.size = s.heap.objs.size + 2 := by rw [← hH2, Heap.size_push, sD]
  have fresh : ∀ a, s.heap.objs.size ≤ a → s.heap.get? a = none := fun a ha => by
    cases e : s.heap.get? a with
    | none => rfl
    | some o' => exact absurd (Heap.lt_size e) (Nat.not_lt.mpr ha)
  have eI₁ : h₁.get? s.heap.objs.size = some { cls := .type "list_iterator", data := .fields #[.ref ax, .int 0 0] } :=
    hsb₁.extBut _ _ (fun q => by have q' : s.heap.objs.size = H2.objs.size := q; omega) (Heap.get?_push_of_some _ (hH2 ▸ Heap.get?_push_of_some _ (hH1 ▸ Heap.get?_push_size _ rfl)))
  have eD₁ : h₁.get? H1.objs.size = some (LCg.lst []) :=
    hsb₁.extBut _ _ (fun q => by have q' : H1.objs.size = H2.objs.size := q; omega) (Heap.get?_push_of_some _ (hH2 ▸ Heap.get?_push_size _ rfl))
  have k₁ : Keeps s.heap h₁ := fun b o e => hsb₁.extBut b o (fun q => by have h1 := Heap.lt_size e; rw [show b = H2.objs.size from q] at h1; exact absurd (show H2.objs.size < s.heap.objs.size from h1) (by omega)) (Heap.get?_push_of_some _ (hH2 ▸ Heap.get?_push_of_some _ (hH1 ▸ Heap.get?_push_of_some _ e)))
  have haxlt : ax < s.heap.objs.size := by obtain ⟨_, e, _⟩ := hax; exact Heap.lt_size e
  revert eI₁ eD₁ hns₁
  have fI := fresh s.heap.objs.size (Nat.le_refl _)
  have fD := fresh H1.objs.size (by omega)
  have fC := fresh H2.objs.size (by omega)
  have nIC : s.heap.objs.size ≠ H2.objs.size := by omega
  have nID : s.heap.objs.size ≠ H1.objs.size := by omega
  have nDC : H1.objs.size ≠ H2.objs.size := by omega
  have nax : ax ≠ s.heap.objs.size := Nat.ne_of_lt haxlt
  generalize s.heap.objs.size = I at fI nIC nID nax
  generalize H1.objs.size = D at fD nID nDC
  generalize H2.objs.size = Cx at fC nIC nDC
  intro hns₁ eI₁ eD₁
  have hn₀ : its.toArray.size = its.length := by simp
  have hlen₀ : its.length = l.length := by rw [hr.length, dTs_eq, List.length_map]
  have W := Walks.list (prog := G.prog) (w := G.w) hh I ax nax its.toArray
  have nI : ∀ b, b ≠ I → b ∉ [I] := fun b h hm => h (List.mem_singleton.mp hm)
  have hit₁ : h₁.IsListIter I ax 0 := ⟨_, eI₁, rfl, rfl⟩
  have islist : ∀ h' : Heap, Keeps s.heap h' → h'.IsList ax its.toArray := fun h' kk => by obtain ⟨o, e, r⟩ := hax; exact ⟨o, kk _ _ e, r⟩
  have loop : ∀ tk₁, codeAny G.M C.A (.compLoop (cmp2 (.Name kd pk) (.Name nd pn) (.Name lv pl) (.Name kd pk2) (.Subscript (.Name nd pn2) (.Constant (.int 2) kc pc) ps) scope pos) 0 (.ref I) (.ref D) (compEnvC scope [] Cx C.env))
      (compPost G.M C.A E (some (assign (Expr.Name y py) C.env)) (fun x s' => wpAny G.M C.A (execs rest C.env) Q E s') (Value.ref D) Cx) { s with heap := h₁, toks := tk₁ } := by
    intro tk₁
    refine loop0 (fun k s' => ∃ i h' tk' m' ys, s' = { s with heap := h', toks := tk' } ∧ i ≤ its.length ∧ k = its.length + 1 - i ∧ Keeps s.heap h' ∧ h'.IsListIter I ax i ∧ h'.get? D = some (LCg.lst ys) ∧ h'.Ns Cx m' ∧ RepAll (Fz C os s.heap) (dTs ((l.take i).flatMap T.cs)) ys) ?_ (its.length + 1)
      ⟨0, h₁, tk₁, _, [], rfl, Nat.zero_le _, rfl, k₁, hit₁, eD₁, hns₁, by simpa [dTs] using RepAll.nil⟩ (fun _ => rfl) (hs2 _)
    rintro k s' Er ⟨i, h', tk', m', ys, rfl, hi, rfl, kk, hit', eD', eC', hys⟩
    by_cases hlt : i < its.length
    · refine W.item i _ _ _ (by omega) ⟨hit', islist h' kk⟩ fun v h₂ tk₂ hv st₂ hk₂ => ?_
      have hv' : its[i]? = some v := by simpa using hv
      obtain ⟨x, hx⟩ : ∃ x, l[i]? = some x := ⟨l[i]'(by omega), by simp [show i < l.length by omega]⟩
      have rx : Rep (Fz C os s.heap) (dT x) v := by
        obtain ⟨v', e', r'⟩ := hr.get (i := i) (d := dT x) (by rw [dTs_eq, List.getElem?_map, hx]; rfl)
        rw [hv'] at e'
        cases e'
        exact r'
      refine wpAny_assign_Name (wpAny_storeName_local (lookup_relabel_local hnd) (eC'.at' fun o e => hk₂ _ o (nI _ (Ne.symm nIC)) e) (fun h₃ hn₃ hs₃ => ?_) (by simp [compEnvC, relabel, hkind]))
      have kk₃ : Keeps s.heap h₃ := fun b o e => hs₃.extBut b o (fun q => by rw [show b = Cx from q, fC] at e; cases e) (hk₂ b o (nI b fun q => by rw [q, fI] at e; cases e) (kk b o e))
      have eD₃ : h₃.get? D = some (LCg.lst ys) := hs₃.extBut _ _ nDC (hk₂ _ _ (nI _ (Ne.symm nID)) eD')
      have hit₃ : h₃.IsListIter I ax (i + 1) := by obtain ⟨o, e, r⟩ := st₂.1; exact ⟨o, hs₃.extBut _ _ nIC e, r⟩
      obtain ⟨ks, vs, cs⟩ := x
      rw [dT] at rx
      have hp : ∀ a o, Fz C os s.heap a o → h₃.get? a = some o := fun a o f => kk₃ _ _ f.1
      obtain ⟨a, us, rfl, ht, hru⟩ := rx.isTup hp
      obtain ⟨u, hu, ru⟩ := hru.get (i := 2) (d := .list (dTs cs)) rfl
      obtain ⟨ax2, its2, rfl, hax2, hr2⟩ := ru.isListL (h := s.heap) Fz.get
      refine Subscript_ (wpAny_Name (wpAny_loadName_local (v := .ref a) (by simpa [compEnvC, relabel] using hkind) (lookup_relabel_local hnd) hn₃ (by simp) ?_) hd2)
      refine wpAny_Constant_int ?_
      obtain ⟨ops, hso⟩ := subscripted_ops (.Constant (.int 2) kc pc) (.ref a) (.int 2 ({ s with heap := h₃, toks := _ } : Shared).toks)
      have hlt2 : 2 < us.size := by
        have := (List.getElem?_eq_some_iff.mp hu).1
        simpa using this
      refine tail_any (ht : IsTup ({ s with heap := h₃, toks := _ } : Shared).heap a us).typeIs slot_tuple_getitem.lookup (getItem_tuple ht (by decide) (by decide) (j := 2) ?_ (by simpa using hu) ?_) hso
      · unfold seqIndex?
        simp
        omega
      have hl₃ : h₃.IsList ax2 its2.toArray := by obtain ⟨o, e, r⟩ := hax2; exact ⟨o, kk₃ _ _ e, r⟩
      refine wpAny_pyIter_list hl₃ ?_
      have lt : ∀ {b o}, h₃.get? b = some o → b ≠ h₃.objs.size := fun e => Nat.ne_of_lt (Heap.lt_size e)
      obtain ⟨oI, eI, rI⟩ := hit₃
      obtain ⟨oC, esC, epC, eC, rC⟩ := hn₃
      obtain ⟨oa, ea, _⟩ := hl₃
      have up : ∀ b o, h₃.get? b = some o → (h₃.push { cls := .type "list_iterator", data := .fields #[.ref ax2, .int 0 0] }).get? b = some o := fun b o e => Heap.get?_push_of_some _ e
      have hfl := flat_len hx
      have hcl : its2.length = cs.length := by rw [hr2.length, dTs_eq, List.length_map]
      have hyl : ys.length = ((l.take i).flatMap T.cs).length := by rw [hys.length, dTs_eq, List.length_map]
      refine inner_comp (hb := s.heap) (its2 := its2) (ys := ys) (oI := oI) (ax2 := ax2) hh hkind hkd hd1 (lt eD₃) (lt eC) (lt eI) (lt ea) nDC nIC nID ?_ fD fC (fun b o e => up b o (kk₃ b o e)) hax2 ⟨_, Heap.get?_push_size _ rfl, rfl, rfl⟩ (up _ _ eI) (up _ _ eD₃) (m4 := _) ⟨oC, esC, epC, up _ _ eC, rC⟩ ?_ fun h₅ tk₅ m₅ kk₅ eI₅ eD₅ eC₅ => ?_
      · cases e : s.heap.get? h₃.objs.size with
        | none => rfl
        | some o => exact absurd (Heap.lt_size (kk₃ _ _ e)) (Nat.lt_irrefl _)
      · have : ((T.mk ks vs cs).cs).length = cs.length := rfl
        omega
      · refine ⟨⟨_, rfl⟩, its.length + 1 - (i + 1), by omega, i + 1, h₅, tk₅, m₅, ys ++ its2, rfl, hlt, rfl, kk₅, ⟨oI, eI₅, rI⟩, eD₅, eC₅, ?_⟩
        rw [flat_take hx]
        exact hys.append hr2
    · obtain rfl : i = its.length := by omega
      refine W.done _ _ _ (by rw [hn₀]; exact ⟨hit', islist h' kk⟩) fun h₂ tk₂ hk₂ => ?_
      have kk₂ : Keeps s.heap h₂ := fun b o e => hk₂ b o (nI b fun q => by rw [q, fI] at e; cases e) (kk b o e)
      have eD₂ := hk₂ _ _ (nI _ (Ne.symm nID)) eD'
      have eC₂ : h₂.Ns Cx m' := eC'.at' fun o e => hk₂ _ o (nI _ (Ne.symm nIC)) e
      have hall : (l.take its.length).flatMap T.cs = l.flatMap T.cs := by rw [hlen₀, List.take_length]
      rw [hall] at hys
      have kp₂ := S.kp kk₂
      have S₂ := S.keeps (tk := tk₂) kp₂
      have fr := S.fresh fD
      have frC := S.fresh fC
      have rD : Rep (Fz C os h₂) (.list (dTs (l.flatMap T.cs))) (.ref D) := Rep.list_iff.mpr ⟨D, LCg.lst ys, ys.toArray, ys.length, rfl, ⟨eD₂, fr.1, fr.2.1, fr.2.2⟩, rfl, rfl, RepAll.mono (Fz.keeps kp₂) _ hys⟩
      show wpAny G.M C.A (assign (.Name y py) C.env (.ref D)) _ E _
      refine wpAny_assign_Name (store_val S₂ rD gc.kind hy fun os' m'' h₃ tk₃ S₃ c₃ => ?_)
      obtain ⟨oC, esC, epC, eC, dC, rC⟩ := eC₂
      have cC := c₃ Cx oC eC frC.1 frC.2.2
      refine ⟨m', ⟨oC, esC, epC, cC.1, dC, rC⟩, fun h₄ hs₄ => ?_⟩
      have S₄ : St C os' m'' _ { s with heap := h₄, toks := tk₃ } := St.next (s := { s with heap := h₃, toks := tk₃ }) (wr := [Cx]) S₃ (fun b o hb e => hs₄.extBut b o (fun q => hb (List.mem_singleton.mpr q)) e) (fun b hb => ?_) (fun b hb p hp => ?_)
      · refine ex_go (s := s) (os := os) hn S₄ (fun a o e nL ho => ?_) hE hN hRt hX
        obtain ⟨e2, ho2⟩ := c₃ a o (kk₂ _ _ e) nL ho
        exact ⟨hs₄.extBut a o (fun q => by rw [show a = Cx from q, fC] at e; cases e) e2, ho2⟩
      · rw [List.mem_singleton.mp hb]
        refine ⟨frC.1, ?_, fun o vs n e q => ?_⟩
        · cases e : C.h₀.get? Cx with
          | none => rfl
          | some o => rw [S.fr.keep _ _ e] at fC; cases fC
        · have e' : h₃.get? Cx = some o := e
          rw [cC.1] at e'
          cases e'
          rw [dC] at q
          cases q
      · rw [List.mem_singleton.mp hb]
        exact cC.2 p hp
  exact start2 (.inl rfl) (loop _) fun Er => W.self 0 _ _ _ ⟨hit₁, islist _ k₁⟩ (loop _)
end

/-! how many nodes -/
mutual
noncomputable def cnt : T → Nat
  | .mk _ _ cs => 1 + cnts cs
noncomputable def cnts : List T → Nat
  | [] => 0
  | c :: cs => cnt c + cnts cs
end
theorem cnts_append : ∀ (a b : List T), cnts (a ++ b) = cnts a + cnts b
  | [], b => by rw [List.nil_append, cnts, Nat.zero_add]
  | x :: a, b => by rw [List.cons_append, cnts, cnts, cnts_append a b, Nat.add_assoc]
theorem cnts_flat : ∀ l : List T, cnts (l.flatMap T.cs) + l.length = cnts l
  | [] => by rw [List.flatMap_nil, cnts]; rfl
  | .mk ks vs cs :: l => by
    have := cnts_flat l
    rw [List.flatMap_cons, cnts_append, cnts, cnt, List.length_cons]
    show cnts cs + cnts (l.flatMap T.cs) + (l.length + 1) = 1 + cnts cs + cnts l
    omega
theorem length_cnts (l : List T) : l.length ≤ cnts l := by have := cnts_flat l; omega

/-! levels -/
noncomputable def levAt (x : T) : Nat → List T
  | 0 => [x]
  | i + 1 => (levAt x i).flatMap T.cs
noncomputable def levOut (x : T) : Nat → List (List T)
  | 0 => []
  | i + 1 => if (levAt x i).length ≠ 0 then levOut x i ++ [levAt x i] else levOut x i
theorem lev_eq (x : T) : ∀ i j, levOut x i ++ levelsN j (levAt x i) = levelsN (i + j) [x]
  | 0, j => by rw [levOut, levAt, List.nil_append, Nat.zero_add]
  | i + 1, j => by
    rw [show i + 1 + j = i + (j + 1) by omega, ← lev_eq x i (j + 1), levelsN, levOut, levAt]
    split <;> simp
theorem lev_end (x : T) : levOut x 70 = levelsN 70 [x] := by
  have := lev_eq x 70 0
  rwa [levelsN, List.append_nil] at this
theorem lev_cnt (x : T) : ∀ i, cnts (levAt x i) ≤ cnt x
  | 0 => by rw [levAt, cnts, cnts]; omega
  | i + 1 => by
    have h1 := lev_cnt x i
    have h2 := cnts_flat (levAt x i)
    rw [levAt]
    omega
theorem lev_len (x : T) (i : Nat) : (levAt x i).length ≤ cnt x := Nat.le_trans (length_cnts _) (lev_cnt x i)
theorem levOut_len (x : T) : ∀ i, (levOut x i).length ≤ i
  | 0 => by rw [levOut]; exact Nat.le_refl _
  | i + 1 => by
    have := levOut_len x i
    rw [levOut]
    split
    · rw [List.length_append]; simp; omega
    · omega

noncomputable def dL (ls : List (List T)) : List PyData := ls.map fun l => .list (dTs l)

theorem levels_call {G : Glb} (ok : GOk G) (C : Fcx) (μ : Loc) (x : T) (gc : Gc G C) (hd : C.A.depth + 1 < recursionLimit) (hu : C.A.units + 10 < cLine) (hc : cnt x ≤ 1000000) :
    CallTo G C μ (.ref 97) [dT x] (some (.list (dL (levelsN 70 [x])))) := by
  refine' fn_of ["tree"] gc ok.hrz (ltR hd) (by rw [ok.hK]; k_is) (by rw [ok.hK]; k_is) (by decide) (by exact all1 fun _ _ => BindsTo.of_eq rfl) rfl (by decide) rfl rfl rfl ?_
  intro L outer h₀ hid gc'
  have hu' : C.A.units + 3 + 1 < cLine := u10 hu
  refine ex_assign_own en_nil rfl ?_
  refine ex_assign' (by walk_at "m_ev") rfl ?_
  refine ex_for_range (b := 70) (fun _ => True) (fun i => [("out", .own (dL (levOut x i))), ("level", .val (.list (dTs (levAt x i))))]) gc' (n_range ok) ev_int (by decide) ?_ trivial (fun i hi _ => ?_) (fun _ => ?_)
  · rw [levOut, levAt, dTs, dTs]; walk_at "m_sub"
  · refine ex_if_to [("out", .own (dL (levOut x (i + 1)))), ("level", .val (.list (dTs (levAt x i))))] (ts_cmp (by walk_at "m_ev") (by walk_at "m_ev") (cmp_neNil (canLay_dTs _) hu')) (fun h => ?_) (fun h => ?_) ?_
    · have h' : (levAt x i).length ≠ 0 := by simpa [dTs_eq] using h
      refine ex_append (x := "out") (ds := dL (levOut x i)) rfl (by walk_at "m_ev") (by rw [dL, List.length_map]; have := levOut_len x i; omega) rfl ?_
      refine ex_nil ?_
      rw [levOut, if_pos h', dL, List.map_append]
      walk_at "m_sub"
    · have h' : ¬ (levAt x i).length ≠ 0 := by simpa [dTs_eq] using h
      refine ex_nil ?_
      rw [levOut, if_neg h']
      walk_at "m_sub"
    refine ex_comp2 gc' (l := levAt x i) rfl (Nat.le_trans (lev_len x (i + 1)) hc) ?_
    exact ex_nil ⟨by rw [levAt]; walk_at "m_sub", trivial⟩
  · rw [← lev_end]
    exact ex_freeze (x := "out") rfl (ex_ret (by walk_at "m_ev") rfl)

theorem ts_or' {G : Glb} {C : Fcx} {μ : Loc} {x y : Expr} {pos : Pos} {a : Bool} {b : Option Bool} (h1 : Ts G C μ x (some a)) (h2 : Ts G C μ y b) : Ts G C μ (.BoolOp .Or [x, y] pos) (if a then some true else b) := ts_or h1 fun _ => h2

noncomputable def tup3 (x : T) : List PyData := [.list (x.ks.map .int), .list (x.vs.map .int), .list (dTs x.cs)]
theorem dT_tup (x : T) : dT x = .tuple (tup3 x) := by cases x; rw [dT]; rfl
theorem dTs_tup (l : List T) : dTs l = (l.map tup3).map .tuple := by
  rw [dTs_eq, List.map_map]
  apply List.map_congr_left
  intro x _
  exact dT_tup x

noncomputable def lenOk (x : T) : Prop := x.ks.length ≤ 1000 ∧ x.vs.length ≤ 1000 ∧ x.cs.length ≤ 1000

/-! sizes -/
noncomputable def leastAt (t least : Int) (i : Nat) : Int := if i = 0 then least else t - 1
theorem sizesP_bad {t : Int} : ∀ {ls : List (List T)} {least : Int} {i : Nat} {l : List T}, ls[i]? = some l → l.any (sizeBad t (leastAt t least i)) = true → sizesP t least ls = false
  | [], _, i, _, h, _ => by simp at h
  | l' :: ls, least, 0, l, h, hb => by
    simp at h
    subst h
    rw [sizesP]
    have : l'.any (sizeBad t least) = true := hb
    rw [this]; rfl
  | l' :: ls, least, i + 1, l, h, hb => by
    rw [sizesP, sizesP_bad (least := t - 1) (i := i) (l := l) (by simpa using h), Bool.and_false]
    have e : leastAt t (t - 1) i = leastAt t least (i + 1) := by unfold leastAt; simp
    rw [e]; exact hb
theorem sizesP_good {t : Int} : ∀ {ls : List (List T)} {least : Int}, (∀ (i : Nat) (l : List T), ls[i]? = some l → l.any (sizeBad t (leastAt t least i)) = false) → sizesP t least ls = true
  | [], _, _ => rfl
  | l' :: ls, least, h => by
    have h0 : l'.any (sizeBad t least) = false := h 0 l' rfl
    rw [sizesP, h0, sizesP_good (least := t - 1) fun i l hi => ?_]
    · rfl
    have e : leastAt t (t - 1) i = leastAt t least (i + 1) := by unfold leastAt; simp
    rw [e]
    exact h (i + 1) l (by simpa using hi)

noncomputable def dB (b : Bool) : PyData := .str (if b then "True" else "False")

theorem sizes_call {G : Glb} (ok : GOk G) (C : Fcx) (μ : Loc) (ls : List (List T)) (t : Int) (crown : Bool) (gc : Gc G C) (hd : C.A.depth + 1 < recursionLimit) (hu : C.A.units + 10 < cLine) (hl : ∀ l ∈ ls, ∀ x ∈ l, lenOk x) :
    CallTo G C μ (.ref 104) [.list (dL ls), .int t, .bool crown] (some (dB (sizesP t (if crown then 0 else t - 1) ls))) := by
  refine' fn_of ["levels", "t", "crown"] gc ok.hrz (ltR hd) (by rw [ok.hK]; k_is) (by rw [ok.hK]; k_is) (by decide) (by exact all3 fun _ _ _ _ => BindsTo.of_eq rfl) rfl (by decide) rfl rfl rfl ?_
  intro L outer h₀ hid gc'
  have hu' : C.A.units + 3 + 1 < cLine := u10 hu
  generalize hle : (if crown then (0 : Int) else t - 1) = least
  refine ex_assign' (by walk_at "m_ev") rfl ?_
  refine ex_ifset (d := .int least) (ts_val (r := some crown) (ev_local rfl rfl)) rfl (fun h => ?_) (fun h => ?_) ?_
  · rw [h] at hle
    rw [← hle]
    exact ev_int
  · rw [h] at hle
    rw [← hle]
    rfl
  refine ex_for_list (xs := dL ls) (fun i => ∀ j < i, ∀ l, ls[j]? = some l → l.any (sizeBad t (leastAt t least j)) = false) (fun i => [("least", .val (.int (leastAt t least i))), ("t", .val (.int t))]) gc' (by walk_at "m_ev") (by walk_at "m_sub") (fun j hj => absurd hj (Nat.not_lt_zero _)) (fun i dd hi ji => ?_) (fun jn => ?_)
  · rw [dL, List.getElem?_map, Option.map_eq_some_iff] at hi
    obtain ⟨l, hi, rfl⟩ := hi
    have hx := hl l (List.mem_of_getElem? hi)
    rw [dTs_tup]
    generalize hla : leastAt t least i = la
    have hR : ∀ (k : Nat) (x : T), l[k]? = some x → sizeBad t la x = true → some (PyData.str (Str.ofString "False")) = some (dB (sizesP t least ls)) := by
      intro k x hk hb
      rw [sizesP_bad hi (by rw [hla]; exact List.any_eq_true.mpr ⟨x, List.mem_of_getElem? hk, hb⟩)]
      rfl
    refine ex_for_tuples (xs := l.map tup3) (names := ["keys", "values", "kids"]) (fun k => ∀ j < k, ∀ x, l[j]? = some x → sizeBad t la x = false) (fun _ => [("least", .val (.int la)), ("t", .val (.int t))]) gc' (by walk_at "m_ev") rfl (by walk_at "m_sub") (fun j hj => absurd hj (Nat.not_lt_zero _)) ?_ (fun k ds hk jk => ?_) (fun jm => ?_)
    · intro ds hds
      obtain ⟨x, _, rfl⟩ := List.mem_map.mp hds
      rfl
    · rw [List.getElem?_map, Option.map_eq_some_iff] at hk
      obtain ⟨x, hk, rfl⟩ := hk
      obtain ⟨b1, b2, b3⟩ := hx x (List.mem_of_getElem? hk)
      have hR' := hR k x hk
      obtain ⟨ks, vs, cs⟩ := x
      have b1 : ks.length ≤ 1000 := b1
      have b2 : vs.length ≤ 1000 := b2
      have b3 : cs.length ≤ 1000 := b3
      have hlk : (ks.map PyData.int).length = ks.length := List.length_map ..
      have hlv : (vs.map PyData.int).length = vs.length := List.length_map ..
      have hlc : (dTs cs).length = cs.length := by rw [dTs_eq, List.length_map]
      have hsb : sizeBad t la (.mk ks vs cs) = (!(decide (la ≤ (ks.length : Int)) && decide ((ks.length : Int) < 2 * t)) || decide (vs.length ≠ ks.length) || (decide (cs.length ≠ 0) && decide ((cs.length : Int) - (ks.length : Int) ≠ 1))) := rfl
      show Ex G _ [("kids", .val (.list (dTs cs))), ("values", .val (.list (vs.map .int))), ("keys", .val (.list (ks.map .int))), ("least", .val (.int la)), ("t", .val (.int t))] _ _ _
      refine ex_if (ts_or' (ts_not (ts_chain (by walk_at "m_ev") (by walk_at "m_ev") cmp_le (fun _ => ev_mul ev_int (ev_local rfl rfl) (IntMulOk.of_left (by decide))) (fun _ => cmp_lt))) (ts_cmp (by walk_at "m_ev") (by walk_at "m_ev") cmp_ne)) (fun e => ?_) (fun e => ?_) (fun e1 => ?_)
      · split at e <;> cases e
      · refine ex_ret ev_str (hR' ?_)
        rw [hlk, hlv] at e
        rw [hsb]
        split at e
        · rename_i h0
          have h0' : (!(decide (la ≤ (ks.length : Int)) && decide ((ks.length : Int) < 2 * t))) = true := h0
          rw [h0']; rfl
        · have h1 : vs.length ≠ ks.length := by have : ¬ (vs.length : Int) = ks.length := by simpa using e
                                                omega
          simp [h1]
      refine ex_nil ?_
      refine ex_if (ts_and' (ts_cmp (by walk_at "m_ev") (by walk_at "m_ev") (cmp_neNil (canLay_dTs cs) hu')) (ts_cmp (by walk_at "m_ev") (by walk_at "m_ev") cmp_ne)) (fun e => ?_) (fun e => ?_) (fun e2 => ?_)
      · split at e <;> cases e
      · refine ex_ret ev_str (hR' ?_)
        rw [hlk, hlc] at e
        rw [hsb]
        split at e
        · rename_i h0
          have h0' : cs.length ≠ 0 := by simpa using h0
          have h1 : (cs.length : Int) - (ks.length : Int) ≠ 1 := by simpa using e
          have hb : (decide (cs.length ≠ 0) && decide ((cs.length : Int) - (ks.length : Int) ≠ 1)) = true := by rw [decide_eq_true h0', decide_eq_true h1]; rfl
          rw [hb, Bool.or_true]
        · cases e
      refine ex_nil (ex_nil ⟨by walk_at "m_sub", fun j hj x hjx => ?_⟩)
      by_cases h : j = k
      · subst h
        rw [hk] at hjx
        cases hjx
        rw [hlk, hlv] at e1
        rw [hlk, hlc] at e2
        rw [hsb]
        have p1 : (!(decide (la ≤ (ks.length : Int)) && decide ((ks.length : Int) < 2 * t))) = false := by
          cases hq : (!(decide (la ≤ (ks.length : Int)) && decide ((ks.length : Int) < 2 * t))) with
          | false => rfl
          | true => rw [if_pos (show (fun x => !x) (decide (la ≤ (ks.length : Int)) && decide ((ks.length : Int) < 2 * t)) = true from hq)] at e1; cases e1
        rw [if_neg (show ¬ (fun x => !x) (decide (la ≤ (ks.length : Int)) && decide ((ks.length : Int) < 2 * t)) = true by show ¬ (!(decide (la ≤ (ks.length : Int)) && decide ((ks.length : Int) < 2 * t))) = true; rw [p1]; simp)] at e1
        have p2 : decide (vs.length ≠ ks.length) = false := by
          have : (vs.length : Int) = ks.length := by simpa using e1
          exact decide_eq_false (by omega)
        have p3 : (decide (cs.length ≠ 0) && decide ((cs.length : Int) - (ks.length : Int) ≠ 1)) = false := by
          by_cases h0 : cs.length ≠ 0
          · rw [if_pos (by simpa using h0)] at e2
            have : (cs.length : Int) - ks.length = 1 := by simpa using e2
            rw [decide_eq_true h0, Bool.true_and]
            exact decide_eq_false (by omega)
          · rw [decide_eq_false h0]; rfl
        rw [p1, p2, p3]; rfl
      · exact jk j (ltE hj h) x hjx
    · refine ex_assign' (by walk_at "m_ev") rfl ?_
      refine ex_nil ⟨?_, fun j hj l' hl' => ?_⟩
      · have e : leastAt t least (i + 1) = t - 1 := by unfold leastAt; simp
        rw [e]
        walk_at "m_sub"
      · by_cases h : j = i
        · subst h
          rw [hi] at hl'
          cases hl'
          rw [hla]
          rw [List.length_map] at jm
          rw [List.any_eq_false]
          intro x hx'
          obtain ⟨k, hk, e⟩ := List.getElem_of_mem hx'
          have := jm k hk x (by rw [← e]; simp [hk])
          rw [this]; simp
        · exact ji j (ltE hj h) l' hl'
  · refine ex_ret ev_str ?_
    have e : sizesP t least ls = true := sizesP_good fun i l hi => jn i (by rw [dL, List.length_map]; exact (List.getElem?_eq_some_iff.mp hi).1) l hi
    rw [e]; rfl

theorem idxA {G : Glb} {C : Fcx} {μ : Loc} {l : List Int} {i : Nat} (hi : i < l.length - 1) (hl : l.length ≤ 902) : IdxTo G C μ (.list (l.map .int)) (.int (1 + (i : Int) - 1)) (.int (l.getD i 0)) :=
  idx_key (by omega) (by omega) (by omega) (Nat.le_trans hl (by decide))
theorem idxB {G : Glb} {C : Fcx} {μ : Loc} {l : List Int} {i : Nat} (hi : i < l.length - 1) (hl : l.length ≤ 902) : IdxTo G C μ (.list (l.map .int)) (.int (1 + (i : Int))) (.int (l.getD (i + 1) 0)) :=
  idx_key (by omega) (by omega) (by omega) (Nat.le_trans hl (by decide))
theorem order_call {G : Glb} (ok : GOk G) (C : Fcx) (μ : Loc) (order : List Int) (low high : Option Int) (gc : Gc G C) (hd : C.A.depth + 1 < recursionLimit) (hlen : order.length ≤ 900) :
    CallTo G C μ (.ref 111) [.list (order.map .int), dO low, dO high] (some (dB (orderP (low.toList ++ order ++ high.toList)))) := by
  refine' fn_of ["order", "low", "high"] gc ok.hrz (ltR hd) (by rw [ok.hK]; k_is) (by rw [ok.hK]; k_is) (by decide) (by exact all3 fun _ _ _ _ => BindsTo.of_eq rfl) rfl (by decide) rfl rfl rfl ?_
  intro L outer h₀ hid gc'
  refine ex_assign' (ev_tcall gc' (n_list ok) boot_list (by decide) (by walk_at "m_ea") (call_list_copy (by rw [List.length_map]; omega))) rfl ?_
  refine ex_ifset (b := low.isSome) (d := .list ((low.toList ++ order).map .int)) (ts_cmp (by walk_at "m_ev") ev_none (cmp_notNone (by cases low <;> rfl))) rfl (fun h => ?_) (fun h => ?_) ?_
  · cases low with
    | none => cases h
    | some l =>
      rw [List.map_append]
      exact ev_listadd (xs := [.int l]) (ev_list (ea_cons (ev_local rfl rfl) ea_nil) (by simp)) (by walk_at "m_ev") (by simp; omega)
  · cases low with
    | none => rfl
    | some l => cases h
  have h1 : (low.toList ++ order).length ≤ 901 := by cases low <;> simp <;> omega
  refine ex_ifset (b := high.isSome) (d := .list ((low.toList ++ order ++ high.toList).map .int)) (ts_cmp (by walk_at "m_ev") ev_none (cmp_notNone (by cases high <;> rfl))) rfl (fun h => ?_) (fun h => ?_) ?_
  · cases high with
    | none => cases h
    | some l =>
      rw [List.map_append (l₁ := low.toList ++ order)]
      exact ev_listadd (ys := [.int l]) (by walk_at "m_ev") (ev_list (ea_cons (ev_local rfl rfl) ea_nil) (by simp)) (by rw [List.length_map]; simp at h1 ⊢; omega)
  · cases high with
    | none => simp only [Option.toList_none, List.append_nil]; rfl
    | some l => cases h
  have h2 : (low.toList ++ order ++ high.toList).length ≤ 902 := by rw [List.length_append]; cases high <;> simp at h1 ⊢ <;> omega
  revert h2
  generalize low.toList ++ order ++ high.toList = l
  intro h2
  have hll : (l.map PyData.int).length = l.length := List.length_map ..
  refine ex_for_range2 (n := l.length - 1) (fun i => ∀ j < i, orderBad l j = false) (fun _ => [("rest", .val (.list (l.map .int)))]) gc' (n_range ok) (by walk_at "m_ev") (by walk_at "m_ev") (by rw [hll]; omega) (by rw [hll]; omega) (by omega) (by rw [hll]; omega) (by walk_at "m_sub") (fun j hj => absurd hj (Nat.not_lt_zero _)) (fun i hi ji => ?_) (fun jn => ?_)
  · refine ex_if (ts_cmp (ev_sub_ (by walk_at "m_ev") (by walk_at "m_ev") (idxA hi h2)) (ev_sub_ (by walk_at "m_ev") (by walk_at "m_ev") (idxB hi h2)) cmp_ge) (fun e => nomatch e) (fun e => ?_) (fun e => ?_)
    · refine ex_ret ev_str ?_
      have e' : orderBad l i = true := by unfold orderBad; exact decide_eq_true (of_decide_eq_true (Option.some.inj e))
      have : orderP l = false := by
        unfold orderP
        rw [List.any_eq_true.mpr ⟨i, List.mem_range.mpr hi, e'⟩]; rfl
      rw [this]; rfl
    · refine ex_nil (ex_nil ⟨by walk_at "m_sub", fun j hj => ?_⟩)
      by_cases h : j = i
      · subst h
        unfold orderBad
        exact decide_eq_false (of_decide_eq_false (Option.some.inj e))
      · exact ji j (ltE hj h)
  · refine ex_ret ev_str ?_
    have : orderP l = true := by
      unfold orderP
      have e : (List.range (l.length - 1)).any (orderBad l) = false := by
        rw [List.any_eq_false]
        intro i hi
        rw [jn i (List.mem_range.mp hi)]; simp
      rw [e]; rfl
    rw [this]; rfl

theorem dL_take (ls : List (List T)) (k : Nat) : (dL ls).take k = dL (ls.take k) := by unfold dL; rw [List.map_take]

theorem balance_call {G : Glb} (ok : GOk G) (C : Fcx) (μ : Loc) (ls : List (List T)) (gc : Gc G C) (hd : C.A.depth + 1 < recursionLimit) (hu : C.A.units + 10 < cLine) (h0 : 0 < ls.length) (h1 : ls.length ≤ 1000) :
    CallTo G C μ (.ref 118) [.list (dL ls)] (some (.str (toString (balP ls)))) := by
  refine' fn_of ["levels"] gc ok.hrz (ltR hd) (by rw [ok.hK]; k_is) (by rw [ok.hK]; k_is) (by decide) (by exact all1 fun _ _ => BindsTo.of_eq rfl) rfl (by decide) rfl rfl rfl ?_
  intro L outer h₀ hid gc'
  have hu' : C.A.units + 3 + 1 < cLine := u10 hu
  have hlen : (dL ls).length = ls.length := List.length_map ..
  have hsl : ((dL ls).take ((ls.length : Int) - 1).toNat) = dL (ls.take (ls.length - 1)) := by
    rw [dL_take]
    congr 2
    omega
  refine ex_for_list (xs := dL (ls.take (ls.length - 1))) (fun i => ∀ j < i, ∀ l, (ls.take (ls.length - 1))[j]? = some l → leafIn l = false) (fun _ => [("levels", .val (.list (dL ls)))]) gc' (by rw [← hsl]; exact ev_slice_upto (b := (ls.length : Int) - 1) (by walk_at "m_ev") (by rw [← hlen]; exact ev_sub (ev_bcall gc' (n_len ok) boot_len (by decide) (ea_cons (by walk_at "m_ev") ea_nil) (call_len (by rw [hlen]; omega))) ev_int) (by omega) (by rw [hlen]; omega) (by rw [hlen]; omega)) (by walk_at "m_sub") (fun j hj => absurd hj (Nat.not_lt_zero _)) (fun i dd hi ji => ?_) (fun jn => ?_)
  · rw [dL, List.getElem?_map, Option.map_eq_some_iff] at hi
    obtain ⟨l, hi, rfl⟩ := hi
    refine ex_for_list (xs := dTs l) (fun i => ∀ j < i, ∀ x, l[j]? = some x → decide (x.cs.length = 0) = false) (fun _ => [("levels", .val (.list (dL ls)))]) gc' (by walk_at "m_ev") (by walk_at "m_sub") (fun j hj => absurd hj (Nat.not_lt_zero _)) (fun k dd hk jk => ?_) (fun jm => ?_)
    · rw [dTs_eq, List.getElem?_map, Option.map_eq_some_iff] at hk
      obtain ⟨x, hk, rfl⟩ := hk
      rw [dT_tup]
      obtain ⟨ks, vs, cs⟩ := x
      have hlc : (dTs cs).length = cs.length := by rw [dTs_eq, List.length_map]
      refine ex_if (ts_cmp (a := .list (dTs cs)) (by exact ev_sub_ (ev_local rfl rfl) ev_int (idx_tuple (by decide) (by decide) rfl)) (by walk_at "m_ev") (cmp_eqNil (canLay_dTs cs) hu')) (fun e => nomatch e) (fun e => ?_) (fun e => ?_)
      · refine ex_ret ev_str ?_
        rw [hlc] at e
        have hc : cs.length = 0 := of_decide_eq_true (Option.some.inj e)
        have hb : balBad ls = true := by
          unfold balBad
          refine List.any_eq_true.mpr ⟨l, List.mem_of_getElem? hi, ?_⟩
          exact List.any_eq_true.mpr ⟨_, List.mem_of_getElem? hk, decide_eq_true hc⟩
        unfold balP
        rw [if_pos hb]
        rfl
      · refine ex_nil (ex_nil ⟨by walk_at "m_sub", fun j hj x hjx => ?_⟩)
        by_cases h : j = k
        · subst h
          rw [hk] at hjx
          cases hjx
          rw [hlc] at e
          exact Option.some.inj e
        · exact jk j (ltE hj h) x hjx
    · refine ex_nil ⟨by walk_at "m_sub", fun j hj l' hl' => ?_⟩
      by_cases h : j = i
      · subst h
        rw [hi] at hl'
        cases hl'
        rw [dTs_eq, List.length_map] at jm
        unfold leafIn
        rw [List.any_eq_false]
        intro x hx'
        obtain ⟨k, hk, e⟩ := List.getElem_of_mem hx'
        have := jm k hk x (by rw [← e]; simp [hk])
        rw [this]; simp
      · exact ji j (ltE hj h) l' hl'
  · have hb : balBad ls = false := by
      unfold balBad
      rw [List.any_eq_false]
      intro l hl
      obtain ⟨k, hk, e⟩ := List.getElem_of_mem hl
      have := jn k (by rw [dL, List.length_map]; exact hk) l (by rw [← e]; exact List.getElem?_eq_getElem hk)
      rw [this]; simp
    have hbp : balP ls = (ls.length : Int) - 1 := by unfold balP; rw [hb]; rfl
    rw [hbp]
    refine ex_ret (ev_tcall gc' (n_str ok) boot_str (by decide) (ea_cons (d := .int ((ls.length : Int) - 1)) (by rw [← hlen]; exact ev_sub (ev_bcall gc' (n_len ok) boot_len (by decide) (ea_cons (by walk_at "m_ev") ea_nil) (call_len (by rw [hlen]; omega))) ev_int) ea_nil) (call_str_int ?_)) rfl
    have : ((ls.length : Int) - 1).natAbs < 2 ^ 1920 := Nat.lt_of_lt_of_le (show ((ls.length : Int) - 1).natAbs < 2 ^ 10 by omega) (Nat.pow_le_pow_right (by decide) (by decide))
    by_cases hz : ((ls.length : Int) - 1).natAbs = 0
    · rw [hz]; decide
    · exact (Nat.log2_lt hz).mpr this

theorem strOk_of (s : String) : PyData.strOk (Str.ofString s) = true := by
  unfold PyData.strOk
  rw [Str.ofString_eq_toList]
  simp only [List.all_toArray, List.all_map, List.all_eq_true, Function.comp_apply, decide_eq_true_eq]
  intro c _
  have := c.valid
  have h : c.toNat = c.val.toNat := rfl
  rw [h]
  rcases this with h1 | h1
  · have : c.val.toNat < 55296 := h1
    omega
  · exact h1.2
theorem canLay_str (s : String) : (PyData.str (Str.ofString s)).canLay0 = true := by rw [PyData.canLay0]; exact strOk_of s
theorem canLay_dB (b : Bool) : (dB b).canLay0 = true := by
  cases b
  · exact canLay_str "False"
  · exact canLay_str "True"

theorem due_call {G : Glb} (ok : GOk G) (C : Fcx) (μ : Loc) (ls : List (List T)) (due : Str) (depth : Nat) (ref : Bool) (gc : Gc G C) (hd : C.A.depth + 1 < recursionLimit) (hu : C.A.units + 10 < cLine) (h1 : ls.length ≤ 1000) :
    CallTo G C μ (.ref 125) [.str due, .list (dL ls), .int depth, dB ref] (some (.list (if ls.length ≤ depth then [.str due] else if ref then [.str "deep"] else [.str due, .str "deep"]))) := by
  refine' fn_of ["due", "levels", "depth", "refused"] gc ok.hrz (ltR hd) (by rw [ok.hK]; k_is) (by rw [ok.hK]; k_is) (by decide) (by exact all4 fun _ _ _ _ _ => BindsTo.of_eq rfl) rfl (by decide) rfl rfl rfl ?_
  intro L outer h₀ hid gc'
  have hlen : (dL ls).length = ls.length := List.length_map ..
  refine ex_if (ts_cmp (ev_bcall gc' (n_len ok) boot_len (by decide) (ea_cons (by walk_at "m_ev") ea_nil) (call_len (by rw [hlen]; omega))) (by walk_at "m_ev") cmp_le) (fun e => nomatch e) (fun e => ?_) (fun e => ?_)
  · rw [hlen] at e
    have h : ls.length ≤ depth := by have := of_decide_eq_true (Option.some.inj e); omega
    rw [if_pos h]
    exact ex_ret (by walk_at "m_ev") rfl
  · rw [hlen] at e
    have h : ¬ ls.length ≤ depth := by have := of_decide_eq_false (Option.some.inj e); omega
    rw [if_neg h]
    refine ex_nil ?_
    cases ref with
    | true =>
      refine ex_if (ts_cmp (by walk_at "m_ev") (by walk_at "m_ev") (cmp_data (a := dB true) (b := dB false) (canLay_dB _) (canLay_dB _) (show C.A.units + 3 + _ < cLine by show C.A.units + 3 + 0 < cLine; omega))) (fun e => nomatch e) (fun e => ?_) (fun e => ?_)
      · exact absurd (Option.some.inj e) (by decide)
      · exact ex_nil (ex_ret (by walk_at "m_ev") rfl)
    | false =>
      refine ex_if (ts_cmp (by walk_at "m_ev") (by walk_at "m_ev") (cmp_data (a := dB false) (b := dB false) (canLay_dB _) (canLay_dB _) (show C.A.units + 3 + _ < cLine by show C.A.units + 3 + 0 < cLine; omega))) (fun e => nomatch e) (fun e => ?_) (fun e => ?_)
      · exact ex_ret (by walk_at "m_ev") rfl
      · exact absurd (Option.some.inj e) (by decide)

theorem q_kts {G : Glb} (ok : GOk G) : ktsIn G.K 24 "BaseException" = true := by rw [ok.hK]; kernel_rfl

structure AtBase (G : Glb) (C : Fcx) : Prop where
  out : C.outer = []
  kin : G.K.In C.base
  top : Top G.p G.loose G.mean G.mg G.mb C.base

noncomputable def wB : PyData → Str
  | .bool b => if b then "True" else "False"
  | .int i => toString i
  | _ => "deep"

theorem ask_shape {G : Glb} (ok : GOk G) (C : Fcx) (μ : Loc) (x : T) (t : Int) (crown : Bool) (d n : Nat) (gc : Gc G C) (bs : AtBase G C) (hs : small n x) (ht : t.natAbs ≤ 1000) (hd : C.A.depth + d + 5 < recursionLimit) (hu : C.A.units + 8 * d + 20 < cLine) :
    CallTo G C μ (.ref 132) [dT x, .int t, .bool crown, .int d] (some (.str (match shapeR t d crown x with | none => "deep" | some b => if b then "True" else "False"))) := by
  refine' callTo_of (ask_of (r := (shapeR t d crown x).map .bool) ["tree", "t", "crown", "depth"] gc ok.hrz bs.out bs.kin bs.top (ltR (ltR hd)) (by rw [ok.hK]; k_is) (by rw [ok.hK]; k_is) (by decide) (by exact all4 fun _ _ _ _ _ => BindsTo.of_eq rfl) rfl (by decide) rfl rfl rfl (n_DepthError ok) (q_kts ok) (n_str ok) rfl rfl rfl (by decide) (by decide) wB ?hw ?hsw ?_) ?he
  case hw =>
    intro C' μ' dd e
    obtain ⟨b, _, rfl⟩ := Option.map_eq_some_iff.mp e
    exact call_str_bool
  case hsw => intro env; rfl
  case he => cases shapeR t d crown x <;> rfl
  intro L outer h₀ hid gc'
  exact evx_call gc' (n_shape ok) (kp_shape ok) (by walk_at "m_ea") (shape_call ok d _ _ x t crown n gc' hs ht (dask hd) (uask hu))

theorem ask_keys {G : Glb} (ok : GOk G) (C : Fcx) (μ : Loc) (x : T) (low high : Option Int) (d n : Nat) (gc : Gc G C) (bs : AtBase G C) (hs : small n x) (hth : thin x) (hd : C.A.depth + d + 5 < recursionLimit) (hu : C.A.units + 8 * d + 20 < cLine) :
    CallTo G C μ (.ref 139) [dT x, dO low, dO high, .int d] (some (.str (match keysR d low high x with | none => "deep" | some b => if b then "True" else "False"))) := by
  refine' callTo_of (ask_of (r := (keysR d low high x).map .bool) ["tree", "low", "high", "depth"] gc ok.hrz bs.out bs.kin bs.top (ltR (ltR hd)) (by rw [ok.hK]; k_is) (by rw [ok.hK]; k_is) (by decide) (by exact all4 fun _ _ _ _ _ => BindsTo.of_eq rfl) rfl (by decide) rfl rfl rfl (n_DepthError ok) (q_kts ok) (n_str ok) rfl rfl rfl (by decide) (by decide) wB ?hw ?hsw ?_) ?he
  case hw =>
    intro C' μ' dd e
    obtain ⟨b, _, rfl⟩ := Option.map_eq_some_iff.mp e
    exact call_str_bool
  case hsw => intro env; rfl
  case he => cases keysR d low high x <;> rfl
  intro L outer h₀ hid gc'
  exact evx_call gc' (n_keys ok) (kp_keys ok) (by walk_at "m_ea") (keys_call ok d _ _ x low high n gc' hs hth (dask hd) (uask hu))

theorem ask_level {G : Glb} (ok : GOk G) (C : Fcx) (μ : Loc) (x : T) (d n : Nat) (gc : Gc G C) (bs : AtBase G C) (hs : small n x) (hd : C.A.depth + d + 5 < recursionLimit) (hu : C.A.units + 8 * d + 20 < cLine) (hl : ∀ i, levelR d x = some i → i.natAbs ≤ 1000) :
    CallTo G C μ (.ref 146) [dT x, .int d] (some (.str (match levelR d x with | none => "deep" | some i => toString i))) := by
  refine' callTo_of (ask_of (r := (levelR d x).map .int) ["tree", "depth"] gc ok.hrz bs.out bs.kin bs.top (ltR (ltR hd)) (by rw [ok.hK]; k_is) (by rw [ok.hK]; k_is) (by decide) (by exact all2 fun _ _ _ => BindsTo.of_eq rfl) rfl (by decide) rfl rfl rfl (n_DepthError ok) (q_kts ok) (n_str ok) rfl rfl rfl (by decide) (by decide) wB ?hw ?hsw ?_) ?he
  case hw =>
    intro C' μ' dd e
    obtain ⟨i, ei, rfl⟩ := Option.map_eq_some_iff.mp e
    have h := hl i ei
    refine call_str_int ?_
    by_cases hz : i.natAbs = 0
    · rw [hz]; decide
    · exact (Nat.log2_lt hz).mpr (Nat.lt_of_lt_of_le (show i.natAbs < 2 ^ 10 by omega) (Nat.pow_le_pow_right (by decide) (by decide)))
  case hsw => intro env; rfl
  case he => cases levelR d x <;> rfl
  intro L outer h₀ hid gc'
  exact evx_call gc' (n_level ok) (kp_level ok) (by walk_at "m_ea") (level_call ok d _ _ x n gc' hs (dask hd) (uask hu))

theorem ask_whole {G : Glb} (ok : GOk G) (C : Fcx) (μ : Loc) (x : T) (t : Int) (n : Nat) (gc : Gc G C) (bs : AtBase G C) (hs : small n x) (ht : t.natAbs ≤ 1000) (hth : shapeR t 64 true x = some true → thin x) (hd : C.A.depth + 80 < recursionLimit) (hu : C.A.units + 700 < cLine) :
    CallTo G C μ (.ref 153) [dT x, .int t] (some (.str (match isB t x with | none => "deep" | some b => if b then "True" else "False"))) := by
  refine' callTo_of (ask_of (r := (isB t x).map .bool) ["tree", "t"] gc ok.hrz bs.out bs.kin bs.top (ltR hd) (by rw [ok.hK]; k_is) (by rw [ok.hK]; k_is) (by decide) (by exact all2 fun _ _ _ => BindsTo.of_eq rfl) rfl (by decide) rfl rfl rfl (n_DepthError ok) (q_kts ok) (n_str ok) rfl rfl rfl (by decide) (by decide) wB ?hw ?hsw ?_) ?he
  case hw =>
    intro C' μ' dd e
    obtain ⟨b, _, rfl⟩ := Option.map_eq_some_iff.mp e
    exact call_str_bool
  case hsw => intro env; rfl
  case he => cases isB t x <;> rfl
  intro L outer h₀ hid gc'
  exact evx_call gc' (n_btree ok) (kp_btree ok) (by walk_at "m_ea") (btree_call ok _ _ x t n gc' hs ht hth (show C.A.depth + 1 + 70 < recursionLimit by omega) (show C.A.units + 3 + 600 < cLine by omega))

/-! the tables at the top -/
noncomputable def chk (K : Frag) : Nat → PyData → Value → Bool
  | _, .int i, .int j _ => i == j
  | n + 1, .tuple ds, .ref a => match K.lookup a with
    | some ⟨.type "tuple", _, .seq vs _, _⟩ => decide (ds.length = vs.toList.length) && (ds.zip vs.toList).all fun p => chk K n p.1 p.2
    | _ => false
  | _, _, _ => false
theorem chk_rep {K : Frag} {P : Addr → Obj → Prop} (hP : ∀ a o, K.lookup a = some o → P a o) : ∀ (n : Nat) (d : PyData) (v : Value), chk K n d v = true → Rep P d v := by
  intro n
  induction n with
  | zero =>
    intro d v h
    cases d <;> cases v <;> simp [chk] at h
    subst h
    exact rep_int _ _
  | succ n ih =>
    intro d v h
    cases d <;> cases v <;> try (simp [chk] at h; done)
    · simp [chk] at h
      subst h
      exact rep_int _ _
    · rename_i ds a
      rw [chk] at h
      split at h
      · rename_i dd vs k sl hl
        rw [Bool.and_eq_true, decide_eq_true_eq] at h
        obtain ⟨hlen, hall⟩ := h
        refine Rep.tuple_iff.mpr ⟨a, _, vs, k, rfl, hP _ _ hl, rfl, rfl, ?_⟩
        clear hl
        revert hlen hall
        generalize vs.toList = us
        intro hlen hall
        induction ds generalizing us with
        | nil =>
          cases us with
          | nil => exact .nil
          | cons u us => simp at hlen
        | cons d ds ihd =>
          cases us with
          | nil => simp at hlen
          | cons u us =>
            rw [List.zip_cons_cons, List.all_cons, Bool.and_eq_true] at hall
            exact .cons (ih _ _ hall.1) (ihd us (by simpa using hlen) hall.2)
      · cases h
theorem ev_table {G : Glb} {C : Fcx} {μ : Loc} {x : Str} {p : Pos} {d : PyData} {a : Addr} (gc : Gc G C) (hid : ∀ b, ¬ C.hid b) (hb : nsIn G.K mainGlobals x = some (some (.ref a))) (hc : chk G.K 3 d (.ref a) = true)
    (hx : C.env.kindOf x = some .globalImplicit := by rfl) (hd : (x == ("__debug__" : Str)) = false := by decide) : Ev G C μ (.Name x p) d := by
  intro s os m Q E S hQ _
  refine gname gc S hb (hQ d _ s.heap s.toks rfl S.refl (chk_rep (fun b o hl => ?_) 3 d _ hc)) hx hd
  have h0 := gc.kin _ _ hl
  refine ⟨S.fr.keep _ _ h0, fun e => ?_, hid b, fun p hp e => ?_⟩
  · rw [e, S.L_none] at h0; cases h0
  · have := (S.own p hp).2.1
    rw [e, h0] at this; cases this

noncomputable def degs : List Int := [2, 3, 2]
noncomputable def wrapsL : List Int := [0, 0, 61, 0, 1, 0, 62, 0, 0, 2, 0, 63]
noncomputable def gapsL : List Int := [0, -1, 4, -3, 0, 1]
noncomputable def kindsL : List (List Int) := [[0, 0, 0, 0, 0], [1, 0, 0, 0, 0], [0, 1, 0, 0, 0], [0, -1, 0, 0, 0], [1, 1, 0, 0, 0], [0, 0, -1, 0, 0], [0, 0, 1, 0, 0], [0, 0, 0, -1, 0], [0, 0, 0, 1, 0], [0, 0, 0, 0, 1], [0, 0, 0, 0, 0], [1, 0, 0, 0, 0]]
section
variable {G : Glb} (ok : GOk G)
include ok
theorem n_kinds : nsIn G.K mainGlobals "_law_kinds" = some (some (.ref 68)) := by rw [ok.hK]; kernel_rfl
theorem n_degs : nsIn G.K mainGlobals "_law_degrees" = some (some (.ref 69)) := by rw [ok.hK]; kernel_rfl
theorem n_wraps : nsIn G.K mainGlobals "_law_wraps" = some (some (.ref 70)) := by rw [ok.hK]; kernel_rfl
theorem n_gaps : nsIn G.K mainGlobals "_law_gaps" = some (some (.ref 71)) := by rw [ok.hK]; kernel_rfl
theorem c_degs : chk G.K 3 (.tuple (degs.map .int)) (.ref 69) = true := by rw [ok.hK]; kernel_rfl
theorem c_wraps : chk G.K 3 (.tuple (wrapsL.map .int)) (.ref 70) = true := by rw [ok.hK]; kernel_rfl
theorem c_gaps : chk G.K 3 (.tuple (gapsL.map .int)) (.ref 71) = true := by rw [ok.hK]; kernel_rfl
theorem c_kinds : chk G.K 3 (.tuple (kindsL.map fun l => .tuple (l.map .int))) (.ref 68) = true := by rw [ok.hK]; kernel_rfl
theorem n_levels : nsIn G.K mainGlobals "_law_levels" = some (some (.ref 97)) := by rw [ok.hK]; kernel_rfl
theorem n_sizes : nsIn G.K mainGlobals "_law_sizes" = some (some (.ref 104)) := by rw [ok.hK]; kernel_rfl
theorem n_order : nsIn G.K mainGlobals "_law_order" = some (some (.ref 111)) := by rw [ok.hK]; kernel_rfl
theorem n_balance : nsIn G.K mainGlobals "_law_balance" = some (some (.ref 118)) := by rw [ok.hK]; kernel_rfl
theorem n_due : nsIn G.K mainGlobals "_law_due" = some (some (.ref 125)) := by rw [ok.hK]; kernel_rfl
theorem n_askS : nsIn G.K mainGlobals "_law_ask_shape" = some (some (.ref 132)) := by rw [ok.hK]; kernel_rfl
theorem n_askK : nsIn G.K mainGlobals "_law_ask_keys" = some (some (.ref 139)) := by rw [ok.hK]; kernel_rfl
theorem n_askL : nsIn G.K mainGlobals "_law_ask_level" = some (some (.ref 146)) := by rw [ok.hK]; kernel_rfl
theorem n_askW : nsIn G.K mainGlobals "_law_ask_whole" = some (some (.ref 153)) := by rw [ok.hK]; kernel_rfl
theorem kp_levels : keepIn G.K (.ref 97) = true := by rw [ok.hK]; kernel_rfl
theorem kp_sizes : keepIn G.K (.ref 104) = true := by rw [ok.hK]; kernel_rfl
theorem kp_order : keepIn G.K (.ref 111) = true := by rw [ok.hK]; kernel_rfl
theorem kp_balance : keepIn G.K (.ref 118) = true := by rw [ok.hK]; kernel_rfl
theorem kp_due : keepIn G.K (.ref 125) = true := by rw [ok.hK]; kernel_rfl
theorem kp_askS : keepIn G.K (.ref 132) = true := by rw [ok.hK]; kernel_rfl
theorem kp_askK : keepIn G.K (.ref 139) = true := by rw [ok.hK]; kernel_rfl
theorem kp_askL : keepIn G.K (.ref 146) = true := by rw [ok.hK]; kernel_rfl
theorem kp_askW : keepIn G.K (.ref 153) = true := by rw [ok.hK]; kernel_rfl
end

/-! bounds of a nest -/
theorem small_mono : ∀ {n k : Nat} {x : T}, n ≤ k → small n x → small k x
  | 0, _, _, _, h => h.elim
  | n + 1, 0, _, h, _ => by omega
  | n + 1, k + 1, .mk ks vs cs, h, hs => ⟨hs.1, hs.2.1, hs.2.2.1, fun c hc => small_mono (n := n) (by omega) (hs.2.2.2 c hc)⟩

theorem branch_kid {row : List Int} {v : Int} {f : Form} {at0 : Nat} : ∀ i, ∀ c ∈ (branchSt row v f at0 i).kids, ∃ a, c = leaf row v a f.size
  | 0 => fun c hc => nomatch hc
  | i + 1 => by
    intro c hc
    simp only [branchSt, branchStep] at hc
    split at hc
    · rcases List.mem_append.mp hc with hc | hc
      · exact branch_kid i c hc
      · exact ⟨_, List.mem_singleton.mp hc⟩
    · exact branch_kid i c hc

noncomputable def fineF (f : Form) : Prop := f.m ≤ 100 ∧ f.count ≤ 100 ∧ f.size ≤ 100 ∧ f.held ≤ 100

theorem leaf_small {row : List Int} {v : Int} {a k : Nat} (h : k ≤ 100) : small 1 (leaf row v a k) := by
  refine ⟨?_, ?_, by simp, fun c hc => nomatch hc⟩
  · rw [List.length_take]; omega
  · rw [List.length_replicate]; omega
theorem leaf_cnt {row : List Int} {v : Int} {a k : Nat} : cnt (leaf row v a k) = 1 := by rw [leaf, cnt, cnts]
theorem cnts_le {B : Nat} : ∀ {l : List T}, (∀ c ∈ l, cnt c ≤ B) → cnts l ≤ l.length * B
  | [], _ => by rw [cnts]; omega
  | c :: l, h => by
    have h1 := h c (.head _)
    have h2 := cnts_le (l := l) fun x hx => h x (.tail _ hx)
    rw [cnts, List.length_cons, Nat.add_mul]
    omega

theorem branch_small {row : List Int} {v : Int} {f : Form} {at0 : Nat} (h : fineF f) : small 2 (branchT row v f at0) ∧ cnt (branchT row v f at0) ≤ 101 := by
  obtain ⟨s1, s2, _⟩ := branch_sizes row v f at0 (f.m + 2)
  obtain ⟨h1, h2, h3, h4⟩ := h
  rw [branchT]
  refine ⟨⟨by rw [s1]; omega, by rw [List.length_replicate]; omega, by rw [s2]; omega, fun c hc => ?_⟩, ?_⟩
  · obtain ⟨a, rfl⟩ := branch_kid _ c hc
    exact leaf_small h3
  · rw [cnt]
    have := cnts_le (B := 1) (l := (branchSt row v f at0 (f.m + 2)).kids) fun c hc => by
      obtain ⟨a, rfl⟩ := branch_kid _ c hc
      rw [leaf_cnt]; exact Nat.le_refl _
    rw [s2] at this
    omega

theorem nest0_small {row : List Int} {v : Int} {odd good : Form} {place tall : Nat} (ho : fineF odd) (hg : fineF good) (ht : tall ≤ 100) : small 3 (nest0 row v odd good place tall) ∧ cnt (nest0 row v odd good place tall) ≤ 10300 := by
  have hb : ∀ c ∈ (nestSt row v odd good place tall (tall + 1)).kids, small 2 c ∧ cnt c ≤ 101 := by
    intro c hc
    obtain ⟨f, a, hf, rfl⟩ := nest_kid hc
    refine branch_small ?_
    rcases hf with rfl | rfl
    · exact ho
    · exact hg
  obtain ⟨l1, l2⟩ := nest_len row v odd good place tall (tall + 1)
  unfold nest0
  by_cases h0 : tall = 0
  · simp only [if_pos h0]
    have h1 : 0 < (nestSt row v odd good place tall (tall + 1)).kids.length := by omega
    have e : (nestSt row v odd good place tall (tall + 1)).kids.getD 0 (.mk [] [] []) = (nestSt row v odd good place tall (tall + 1)).kids[0] := by simp [List.getD, h1]
    rw [e]
    have := hb _ (List.getElem_mem h1)
    exact ⟨small_mono (by decide) this.1, by omega⟩
  · simp only [if_neg h0]
    refine ⟨⟨by rw [l2]; omega, by rw [List.length_replicate]; omega, by rw [l1]; omega, fun c hc => (hb c hc).1⟩, ?_⟩
    rw [cnt]
    have := cnts_le (B := 101) fun c hc => (hb c hc).2
    rw [l1] at this
    omega

theorem wrap_small {v : Int} {s : WSt} (h : small 3 s.node) : ∀ i, small (3 + i) (wrapSt v s i).node ∧ cnt (wrapSt v s i).node = cnt s.node + 2 * i
  | 0 => ⟨h, rfl⟩
  | i + 1 => by
    obtain ⟨h1, h2⟩ := wrap_small (v := v) h i
    rw [wrapSt, wrapStep]
    refine ⟨⟨by simp, by simp, by simp, fun c hc => ?_⟩, ?_⟩
    · rcases List.mem_cons.mp hc with rfl | hc
      · exact h1
      · rw [List.mem_singleton.mp hc]
        exact small_mono (n := 1) (k := 3 + i) (by omega) ⟨by simp, by simp, by simp, fun c hc => nomatch hc⟩
    · rw [cnt, cnts, cnts, cnts, cnt, cnts, h2]
      omega

theorem nest_small (n : Nest) (ho : fineF n.odd) (hg : fineF n.good) (ht : n.tall ≤ 100) (hw : n.wraps ≤ 63) : small 70 n.tree ∧ cnt n.tree ≤ 20000 := by
  obtain ⟨h1, h2⟩ := nest0_small (row := n.row) (v := n.v) (place := n.place) ho hg ht
  obtain ⟨h3, h4⟩ := wrap_small (v := n.v) (s := n.start) h1 n.wraps
  have h5 : cnt n.start.node ≤ 10300 := h2
  rw [Nest.tree, lidT]
  split
  · refine ⟨small_mono (n := 3 + n.wraps + 1) (by omega) ⟨by simp, by simp, by simp, fun c hc => ?_⟩, ?_⟩
    · rw [List.mem_singleton.mp hc]; exact h3
    · rw [cnt, cnts, cnts]
      have : cnt n.wrapped.node = cnt n.start.node + 2 * n.wraps := h4
      omega
  · refine ⟨small_mono (n := 3 + n.wraps) (by omega) h3, ?_⟩
    have : cnt n.wrapped.node = cnt n.start.node + 2 * n.wraps := h4
    omega

theorem small_len {n : Nat} {x : T} (h : small n x) : lenOk x := by
  cases n with
  | zero => exact h.elim
  | succ n => cases x; exact ⟨h.1, h.2.1, h.2.2.1⟩
theorem small_kid {n : Nat} {x : T} (h : small n x) : ∀ c ∈ x.cs, ∃ k, small k c := by
  cases n with
  | zero => exact h.elim
  | succ n => cases x; exact fun c hc => ⟨n, h.2.2.2 c hc⟩
theorem levels_lenOk : ∀ (n : Nat) (l : List T), (∀ x ∈ l, ∃ k, small k x) → ∀ l' ∈ levelsN n l, ∀ x ∈ l', lenOk x
  | 0, _, _, l', hl' => by rw [levelsN] at hl'; cases hl'
  | n + 1, l, h, l', hl' => by
    rw [levelsN] at hl'
    rcases List.mem_append.mp hl' with hl' | hl'
    · split at hl'
      · rw [List.mem_singleton.mp hl']
        intro x hx
        obtain ⟨k, hk⟩ := h x hx
        exact small_len hk
      · cases hl'
    · refine levels_lenOk n (l.flatMap T.cs) ?_ l' hl'
      rw [flat_all]
      intro x hx c hc
      obtain ⟨k, hk⟩ := h x hx
      exact small_kid hk c hc
theorem levelsN_len : ∀ (n : Nat) (l : List T), (levelsN n l).length ≤ n
  | 0, _ => by rw [levelsN]; exact Nat.le_refl _
  | n + 1, l => by
    have := levelsN_len n (l.flatMap T.cs)
    rw [levelsN, List.length_append]
    split <;> simp <;> omega

theorem order_len (n : Nest) (h : n.row.length = 52) (hw : n.wraps ≤ 63) : n.order.length ≤ 900 := by
  have := wrap_order_length n.v n.start n.wraps
  have h2 : n.start.order.length ≤ 52 := by
    show (n.row.take _).length ≤ 52
    rw [List.length_take]; omega
  have h3 : n.order.length = n.start.order.length + 2 * n.wraps := this
  omega

theorem levelR_bound : ∀ (d : Nat) (x : T) (i : Int), levelR d x = some i → -1 ≤ i ∧ i ≤ d := by
  have rest : ∀ (f : T → Option Int) (first : Int) (cs : List T) (i : Int), restR f first cs = some i → i = -1 ∨ i = first + 1 := by
    intro f first cs
    induction cs with
    | nil => intro i h; rw [restR] at h; cases h; exact .inr rfl
    | cons c cs ih =>
      intro i h
      rw [restR] at h
      split at h
      · cases h
      · split at h
        · cases h; exact .inl rfl
        · exact ih i h
  intro d
  induction d with
  | zero => intro x i h; rw [levelR] at h; cases h
  | succ d ih =>
    intro x i h
    obtain ⟨ks, vs, cs⟩ := x
    cases cs with
    | nil => rw [levelR] at h; cases h; omega
    | cons c cs =>
      rw [levelR] at h
      split at h
      · cases h
      · rename_i z hz
        have := ih _ _ hz
        split at h
        · cases h; omega
        · rcases rest _ _ _ _ h with rfl | rfl <;> omega

theorem depth_dT : ∀ (n : Nat) (x : T), fits n x → (dT x).depth ≤ 2 * n + 1
  | 0, _, h => h.elim
  | n + 1, .mk ks vs cs, h => by
    have intz : ∀ l : List Int, PyData.depthAll (l.map PyData.int) = 0 := by
      intro l
      induction l with
      | nil => rfl
      | cons k l ih => rw [List.map_cons, PyData.depthAll, ih]; rfl
    have kids : ∀ l : List T, (∀ c ∈ l, fits n c) → PyData.depthAll (dTs l) ≤ 2 * n + 1 := by
      intro l
      induction l with
      | nil => intro _; rw [dTs, PyData.depthAll]; omega
      | cons c l ih =>
        intro hl
        rw [dTs, PyData.depthAll]
        have h1 := depth_dT n c (hl c (.head _))
        have h2 := ih fun x hx => hl x (.tail _ hx)
        omega
    have h3 := kids cs h
    rw [dT]
    simp only [PyData.depth, PyData.depthAll, intz]
    omega

theorem eqv_ints : ∀ l : List Int, PyData.eqvAll (l.map .int) (l.map .int) = true
  | [] => by rw [List.map_nil, PyData.eqvAll]
  | k :: l => by rw [List.map_cons, PyData.eqvAll, PyData.eqv, eqv_ints l]; simp
mutual
theorem eqv_dT : ∀ x : T, PyData.eqv (dT x) (dT x) = true
  | .mk ks vs cs => by
    rw [dT]
    simp [PyData.eqv, PyData.eqvAll, eqv_ints, eqv_dTs cs]
theorem eqv_dTs : ∀ l : List T, PyData.eqvAll (dTs l) (dTs l) = true
  | [] => by rw [dTs, PyData.eqvAll]
  | c :: l => by rw [dTs, PyData.eqvAll, eqv_dT c, eqv_dTs l]; rfl
end

noncomputable def saidOf {α : Type} (w : α → Str) : Option α → Str
  | none => "deep"
  | some a => w a
/-- what may be said is said -/
theorem due_any {α : Type} {r : Option α} {due : α} {len depth : Nat} {ref : Bool} {w : α → Str} {s : Str} (h : Due r due len depth (ref = false)) (hs : s = saidOf w r) :
    ((if len ≤ depth then [PyData.str (w due)] else if ref then [.str "deep"] else [.str (w due), .str "deep"]).any fun y => PyData.eqv y (.str s)) = true := by
  have self : ∀ x : Str, PyData.eqv (.str x) (.str x) = true := fun x => by rw [PyData.eqv]; exact beq_self_eq_true x
  by_cases hl : len ≤ depth
  · rw [if_pos hl, hs, h.1 hl]
    simp [self, saidOf]
  · rw [if_neg hl]
    rcases h.2 hl with h1 | ⟨h1, h2⟩
    · rw [hs, h1]
      cases ref <;> simp [self, saidOf]
    · rw [hs, h2, h1]
      simp [self, saidOf]

noncomputable def nestOf (row : List Int) (v t a b extra slack flip : Int) (tall inner sz place wraps : Nat) (lid : Int) : Nest where
  row := row
  v := v
  odd := ⟨(t - 1 + a * t + b).toNat, ((t - 1 + a * t + b + 1 + extra) * ((inner : Int) + flip).fmod 2).toNat, (t - 1 + sz).toNat, (t - 1 + a * t + b + slack).toNat⟩
  good := ⟨(t - 1).toNat, (t * inner).toNat, (t - 1 + sz).toNat, (t - 1).toNat⟩
  place := place
  tall := tall
  wraps := wraps
  lid := lid == 0

noncomputable def okB (t a b extra slack flip : Int) (tall inner sz : Nat) : Bool :=
  let m := t - 1 + a * t + b
  let c := (m + 1 + extra) * ((inner : Int) + flip).fmod 2
  let o : Form := ⟨m.toNat, c.toNat, (t - 1 + sz).toNat, (m + slack).toNat⟩
  let g : Form := ⟨(t - 1).toNat, (t * inner).toNat, (t - 1 + sz).toNat, (t - 1).toNat⟩
  (decide (o.count ≤ o.m + 2) && decide (o.count = 0 ∨ o.m ≤ o.count) && decide (g.count = 0 ∨ g.count = g.m + 1) && decide (o.use + tall * g.use + tall < 52)) &&
    (decide (m = (o.m : Int)) && decide (((o.m : Int) + 1 + extra) * ((inner : Int) + flip).fmod 2 = (o.count : Int)) && decide ((o.m : Int) + slack = (o.held : Int)) && decide (t - 1 = (g.m : Int)) && decide (t - 1 = (g.held : Int)) && decide (t * inner = (g.count : Int)) && decide (t.natAbs ≤ 1000)) &&
    (decide (o.m ≤ 100) && decide (o.count ≤ 100) && decide (o.size ≤ 100) && decide (o.held ≤ 100)) && (decide (g.m ≤ 100) && decide (g.count ≤ 100) && decide (g.size ≤ 100) && decide (g.held ≤ 100)) &&
    (decide ((o.size : Int) = t - 1 + sz) && decide (extra < 1 → o.count ≤ o.m + 1))

theorem all_ok : ∀ i0 : _root_.Fin 3, ∀ i1 : _root_.Fin 12, ∀ tall : _root_.Fin 3, ∀ inner : _root_.Fin 2, ∀ sz : _root_.Fin 2, (match kindsL.getD i1.val [] with
    | [a, b, e, s, f] => okB (degs.getD i0.val 0) a b e s f tall.val inner.val sz.val
    | _ => false) = true := by decide +kernel

theorem kind_ok {i0 i1 tall inner sz : Nat} (h0 : i0 < 3) (h1 : i1 < 12) (h2 : tall < 3) (h3 : inner < 2) (h4 : sz < 2) :
    ∃ a b e s f, kindsL.getD i1 [] = [a, b, e, s, f] ∧ okB (degs.getD i0 0) a b e s f tall inner sz = true := by
  have h := all_ok ⟨i0, h0⟩ ⟨i1, h1⟩ ⟨tall, h2⟩ ⟨inner, h3⟩ ⟨sz, h4⟩
  split at h
  · rename_i a b e s f hk
    exact ⟨a, b, e, s, f, hk, h⟩
  · cases h

theorem nest_for {row : List Int} {v t a b extra slack flip : Int} {tall inner sz place wraps : Nat} {lid : Int} (h : okB t a b extra slack flip tall inner sz = true) (hr : row.length = 52) (ht : tall < 3) (hp : place ≤ tall) (hw : wraps ≤ 63) :
    NestFor (nestOf row v t a b extra slack flip tall inner sz place wraps lid) t a b extra slack flip inner lid ∧ ((nestOf row v t a b extra slack flip tall inner sz place wraps lid).odd.size : Int) = t - 1 + sz ∧ (extra < 1 → (nestOf row v t a b extra slack flip tall inner sz place wraps lid).odd.count ≤ (nestOf row v t a b extra slack flip tall inner sz place wraps lid).odd.m + 1) := by
  simp only [okB, Bool.and_eq_true, decide_eq_true_eq] at h
  obtain ⟨⟨⟨⟨⟨⟨⟨k1, k2⟩, k3⟩, k4⟩, ⟨⟨⟨⟨⟨⟨m1, m2⟩, m3⟩, m4⟩, m5⟩, m6⟩, m7⟩⟩, ⟨⟨⟨o1, o2⟩, o3⟩, o4⟩⟩, ⟨⟨⟨g1, g2⟩, g3⟩, g4⟩⟩, ⟨z1, z2⟩⟩ := h
  exact ⟨⟨⟨⟨k1, k2, k3, hp, by rw [show (nestOf row v t a b extra slack flip tall inner sz place wraps lid).row.length = 52 from hr]; exact k4⟩, hw⟩, hr, m1, m2, m3, m4, m5, m6, rfl, rfl, m7, Nat.le_trans (Nat.le_of_lt ht) (by decide), ⟨o1, o2, o3, o4⟩, ⟨g1, g2, g3, g4⟩⟩, z1, z2⟩

theorem fmod_nat (a : Int) (n : Nat) (hn : 0 < n) : ∃ k : Nat, a.fmod (n : Int) = k ∧ k < n := by
  have h1 := Int.fmod_nonneg_of_pos (a := a) (b := (n : Int)) (by omega)
  have h2 := Int.fmod_lt_of_pos a (b := (n : Int)) (by omega)
  exact ⟨(a.fmod n).toNat, by omega, by omega⟩

theorem same_fn {K : Frag} {f : Addr} {P : Scope → List Stmt → Prop} {oc oc' : Value} {od od' : Option Addr} {osl osl' : Array (Option Value)} {name qual name' qual' : Str} {params params' : Arguments} {body body' : List Stmt} {scope scope' : Scope} {dV kV doc pm cdv ct dV' kV' doc' pm' cdv' ct' : Value} {an an' : Option Addr}
    (h1 : K.lookup f = some ⟨oc, od, .func (fnOf name qual params body scope dV kV doc pm an cdv ct), osl⟩) (h : P scope body) (h2 : K.lookup f = some ⟨oc', od', .func (fnOf name' qual' params' body' scope' dV' kV' doc' pm' an' cdv' ct'), osl'⟩) : P scope' body' := by
  rw [h1] at h2
  unfold fnOf at h2
  cases h2
  exact h

theorem ev_of {G : Glb} {C : Fcx} {μ : Loc} {e : Expr} {d d' : PyData} (h : Ev G C μ e d) (q : d = d') : Ev G C μ e d' := q ▸ h
theorem idx_tab {G : Glb} {C : Fcx} {μ : Loc} {l : List Int} {k : Int} {j : Nat} (hj : k = j) (hk : j < l.length) (hl : l.length ≤ 100) : IdxTo G C μ (.tuple (l.map .int)) (.int k) (.int (l.getD j 0)) := by
  subst hj
  refine idx_tuple (by omega) (by omega) ?_
  simp [List.getD, hk]
theorem idx_tab2 {G : Glb} {C : Fcx} {μ : Loc} {l : List (List Int)} {k : Int} {j : Nat} (hj : k = j) (hk : j < l.length) (hl : l.length ≤ 100) : IdxTo G C μ (.tuple (l.map fun x => .tuple (x.map .int))) (.int k) (.tuple ((l.getD j []).map .int)) := by
  subst hj
  refine idx_tuple (by omega) (by omega) ?_
  simp [List.getD, hk]

noncomputable def dueL (due : Str) (len depth : Nat) (ref : Bool) : List PyData := if len ≤ depth then [.str due] else if ref then [.str "deep"] else [.str due, .str "deep"]
theorem dueL_lay {due : String} {len depth : Nat} {ref : Bool} : PyData.canLayAll0 (dueL due len depth ref) = true := by
  have h1 := canLay_str due
  have h2 := canLay_str "deep"
  unfold dueL
  split
  · simp [PyData.canLayAll0, h1]
  · split
    · simp [PyData.canLayAll0, h2]
    · simp [PyData.canLayAll0, h1, h2]

theorem ts_due {G : Glb} {C : Fcx} {μ : Loc} {l r : Expr} {pos : Pos} {α : Type} {x : Option α} {due : α} {len depth : Nat} {ref : Bool} {w : α → String} {s : Str} (h1 : Ev G C μ l (.str s)) (h2 : Ev G C μ r (.list (dueL (w due) len depth ref))) (hs : s = saidOf (fun a => Str.ofString (w a)) x) (h : Due x due len depth (ref = false)) (hu : C.A.units + 70 < cLine)
    (hm : behindInMarks .NotIn r = false := by with_unfolding_all rfl) : Ts G C μ (.Compare l [.NotIn] [r] pos) (some false) := by
  have hl : (PyData.str s).canLay0 = true := by
    rw [hs]
    cases x with
    | none => exact canLay_str "deep"
    | some a => exact canLay_str _
  have hc := cmp_notIn (G := G) (C := C) (μ := μ) (d := .str s) (xs := dueL (w due) len depth ref) hl dueL_lay (by
    have : min (PyData.depthAll (dueL (w due) len depth ref)) (PyData.str s).depth ≤ 0 := Nat.min_le_right _ _
    omega)
  have ha : ((dueL (w due) len depth ref).any fun y => PyData.eqv y (.str s)) = true := due_any (w := fun a => Str.ofString (w a)) h hs
  rw [ha] at hc
  exact ts_cmp h1 h2 hc hm

theorem str_int_ne : ∀ i : _root_.Fin 72, ((Str.ofString (toString ((i.val : Int) - 1))) == Str.ofString "-1") = decide (i.val = 0) := by decide +kernel

theorem edB (b : Bool) : dB b = .str (Str.ofString (if b then "True" else "False")) := by cases b <;> rfl
theorem said_bool (r : Option Bool) : (match r with | none => Str.ofString "deep" | some b => if b then Str.ofString "True" else Str.ofString "False") = saidOf (fun b => Str.ofString (if b then "True" else "False")) r := by
  cases r with
  | none => rfl
  | some b => cases b <;> rfl
theorem eqv_dB (b : Bool) : PyData.eqv (dB b) (.str "True") = b := by
  cases b
  · show PyData.eqv (.str "False") (.str "True") = false
    rw [PyData.eqv]
    decide +kernel
  · show PyData.eqv (.str "True") (.str "True") = true
    rw [PyData.eqv]
    decide +kernel
theorem eqv_bal {i : Int} (h1 : -1 ≤ i) (h2 : i ≤ 70) : (!PyData.eqv (.str (Str.ofString (toString i))) (.str "-1")) = decide (i ≠ -1) := by
  rw [PyData.eqv]
  have h := str_int_ne ⟨(i + 1).toNat, by omega⟩
  have e : (((i + 1).toNat : Nat) : Int) - 1 = i := by omega
  simp only [e] at h
  rw [h]
  by_cases hi : i = -1
  · subst hi; rfl
  · have h3 : ¬ (i + 1).toNat = 0 := by omega
    rw [decide_eq_false h3, decide_eq_true hi]; rfl
theorem cmp_dB {G : Glb} {C : Fcx} {μ : Loc} {b : Bool} (hu : C.A.units + 70 < cLine) : CmpTo G C μ .Eq (dB b) (.str "True") b := by
  have h := cmp_data (G := G) (C := C) (μ := μ) (a := dB b) (b := .str "True") (canLay_dB _) (canLay_str "True") (by
    have : min (dB b).depth (PyData.str "True").depth ≤ 0 := Nat.min_le_right _ _
    omega)
  rwa [eqv_dB] at h
theorem cmp_bal {G : Glb} {C : Fcx} {μ : Loc} {i : Int} (h1 : -1 ≤ i) (h2 : i ≤ 70) (hu : C.A.units + 70 < cLine) : CmpTo G C μ .NotEq (.str (Str.ofString (toString i))) (.str "-1") (decide (i ≠ -1)) := by
  have h := cmp_dataNe (G := G) (C := C) (μ := μ) (a := .str (Str.ofString (toString i))) (b := .str "-1") (canLay_str _) (canLay_str "-1") (by
    have : min (PyData.str (Str.ofString (toString i))).depth (PyData.str "-1").depth ≤ 0 := Nat.min_le_right _ _
    omega)
  rwa [eqv_bal h1 h2] at h
theorem cmp_tree {G : Glb} {C : Fcx} {μ : Loc} {x : T} (hf : fits 70 x) (hu : C.A.units + 200 < cLine) : CmpTo G C μ .NotEq (dT x) (dT x) false := by
  have h := cmp_dataNe (G := G) (C := C) (μ := μ) (a := dT x) (b := dT x) (canLay_dT _) (canLay_dT _) (by
    have : min (dT x).depth (dT x).depth ≤ 2 * 70 + 1 := Nat.le_trans (Nat.min_le_left _ _) (depth_dT 70 x hf)
    omega)
  rwa [eqv_dT] at h
theorem level_due {α : Type} {r : Option α} {due : α} {len depth : Nat} (h : Due r due len depth False) : Due r due len depth (true = false) :=
  ⟨h.1, fun hl => (h.2 hl).imp id fun q => q.1.elim⟩

set_option maxHeartbeats 4000000 in
theorem law_ex {G : Glb} (ok : GOk G) {oc : Value} {od : Option Addr} {osl : Array (Option Value)} {name qual : Str} {params : Arguments} {body : List Stmt} {scope : Scope} {dV kV doc pm cdv ct : Value} {an : Option Addr} (ho : G.K.lookup 160 = some ⟨oc, od, .func (fnOf name qual params body scope dV kV doc pm an cdv ct), osl⟩) :
    ∀ (nm : Str) (fa : Addr) (cd : Value) (L : Addr) (h : Heap) (is : List Int), Gc G ⟨nm, scope, fa, cd, L, callerA, h, [], h, fun _ => False⟩ → AtBase G ⟨nm, scope, fa, cd, L, callerA, h, [], h, fun _ => False⟩ → is.length ≤ 63 →
      Ex G ⟨nm, scope, fa, cd, L, callerA, h, [], h, fun _ => False⟩ [("script", .val (.list (is.map .int)))] body (fun _ => False) (fun r => r = some (.bool true)) := by
  refine same_fn (P := fun scope body => ∀ (nm : Str) (fa : Addr) (cd : Value) (L : Addr) (h : Heap) (is : List Int), Gc G ⟨nm, scope, fa, cd, L, callerA, h, [], h, fun _ => False⟩ → AtBase G ⟨nm, scope, fa, cd, L, callerA, h, [], h, fun _ => False⟩ → is.length ≤ 63 →
      Ex G ⟨nm, scope, fa, cd, L, callerA, h, [], h, fun _ => False⟩ [("script", .val (.list (is.map .int)))] body (fun _ => False) (fun r => r = some (.bool true))) (by rw [ok.hK]; k_is) ?_ ho
  intro nm fa cd L h is gc bs hlen
  have hhid : ∀ b : Addr, ¬ (fun _ : Addr => False) b := fun _ q => q
  have hll : (is.map PyData.int).length = is.length := List.length_map ..
  refine ex_if (ts_cmp (by walk_at "m_ev") (by walk_at "m_ev") cmp_lt) (fun e => nomatch e) (fun e => ex_ret ev_bool rfl) (fun e => ?_)
  have h16 : 16 ≤ is.length := by
    rw [hll] at e
    have := of_decide_eq_false (Option.some.inj e)
    omega
  clear e
  have h1k : is.length ≤ 1000 := Nat.le_trans hlen (by decide)
  refine ex_nil ?_
  obtain ⟨i0, e0, l0⟩ := fmod_nat (is.getD 0 0) 3 (by decide)
  obtain ⟨i1, e1, l1⟩ := fmod_nat (is.getD 1 0) 12 (by decide)
  obtain ⟨tall, e2, l2⟩ := fmod_nat (is.getD 2 0) 3 (by decide)
  obtain ⟨inner, e3, l3⟩ := fmod_nat (is.getD 3 0) 2 (by decide)
  obtain ⟨place, e4, l4⟩ := fmod_nat (is.getD 4 0) (tall + 1) (by omega)
  obtain ⟨sz, e5, l5⟩ := fmod_nat (is.getD 5 0) 2 (by decide)
  obtain ⟨i6, e6, l6⟩ := fmod_nat (is.getD 6 0) 12 (by decide)
  obtain ⟨i9, e9, l9⟩ := fmod_nat (is.getD 9 0) 6 (by decide)
  obtain ⟨dp, e11, l11⟩ := fmod_nat (is.getD 11 0) 6 (by decide)
  obtain ⟨a, b, extra, slack, flip, hkind, hokb⟩ := kind_ok l0 l1 l2 l3 l5
  obtain ⟨wraps, hwraps, hw63⟩ : ∃ wraps : Nat, wrapsL.getD i6 0 = (wraps : Int) ∧ wraps ≤ 63 := by
    have : ∀ i : _root_.Fin 12, 0 ≤ wrapsL.getD i.val 0 ∧ wrapsL.getD i.val 0 ≤ 63 := by decide
    have := this ⟨i6, l6⟩
    exact ⟨(wrapsL.getD i6 0).toNat, by simp only at this; omega, by simp only at this; omega⟩
  generalize ht : degs.getD i0 0 = t at hokb
  refine ex_assign' (d := .int t) (ev_of (ev_sub_ (ev_table gc hhid (n_degs ok) (c_degs ok)) (by walk_at "m_ev") (idx_tab e0 l0 (by decide))) (by rw [ht])) rfl ?_
  refine ex_assign' (d := .tuple [.int a, .int b, .int extra, .int slack, .int flip]) (ev_of (ev_sub_ (ev_table gc hhid (n_kinds ok) (c_kinds ok)) (by walk_at "m_ev") (idx_tab2 e1 l1 (by decide))) (by rw [hkind]; rfl)) rfl ?_
  refine ex_assign' (d := .int tall) (ev_of (by walk_at "m_ev") (congrArg PyData.int e2)) rfl ?_
  generalize hlid : (is.getD 7 0).fmod 5 = lid
  generalize hn : nestOf (rowP (is.getD 8 0) (gapsL.getD i9 0) ((is.getD 10 0).fmod 12)) (is.getD 15 0) t a b extra slack flip tall inner sz place wraps lid = n
  obtain ⟨NF, hsize, hthin⟩ := nest_for (row := rowP (is.getD 8 0) (gapsL.getD i9 0) ((is.getD 10 0).fmod 12)) (v := is.getD 15 0) (lid := lid) hokb (rowP_length _ _ _) l2 (show place ≤ tall by omega) hw63
  have hnrow : n.row = rowP (is.getD 8 0) (gapsL.getD i9 0) ((is.getD 10 0).fmod 12) := by rw [← hn]; rfl
  have hnv : n.v = is.getD 15 0 := by rw [← hn]; rfl
  have hntall : n.tall = tall := by rw [← hn]; rfl
  have hnplace : n.place = place := by rw [← hn]; rfl
  have hnwraps : n.wraps = wraps := by rw [← hn]; rfl
  rw [hn] at NF hsize hthin
  refine ex_assign' (d := .tuple [.int t, .tuple [.int a, .int b, .int extra, .int slack, .int flip], .int n.tall, .int inner, .int n.place, .int n.odd.size, .int n.wraps, .int lid]) ?_ rfl ?_
  · rw [hntall, hnplace, hnwraps, hsize]
    refine ev_tuple (ea_cons (by walk_at "m_ev") (ea_cons (by walk_at "m_ev") (ea_cons (by walk_at "m_ev") (ea_cons (ev_of (by walk_at "m_ev") (congrArg PyData.int e3)) (ea_cons (ev_of (d := .int ((is.getD 4 0).fmod ((tall : Int) + 1))) (by walk_at "m_ev") (congrArg PyData.int (show (is.getD 4 0).fmod ((tall : Int) + 1) = (place : Int) from e4))) (ea_cons (ev_of (ev_add (by walk_at "m_ev") (by walk_at "m_ev")) (by rw [← e5]; rfl)) (ea_cons (ev_of (ev_sub_ (ev_table gc hhid (n_wraps ok) (c_wraps ok)) (by walk_at "m_ev") (idx_tab e6 l6 (by decide))) (congrArg PyData.int hwraps)) (ea_cons (ev_of (by walk_at "m_ev") (congrArg PyData.int hlid)) ea_nil)))))))) (by simp)
  have hNok := NF.ok
  have hsm := nest_small n NF.o1 NF.g1 NF.tl (by rw [hnwraps]; exact hw63)
  have hlv70 : n.levels.length ≤ 70 := levelsN_len 70 _
  have hlv0 : 0 < n.levels.length := levels_pos (n.fits hNok)
  have hlok : ∀ l ∈ n.levels, ∀ x ∈ l, lenOk x := levels_lenOk 70 [n.tree] fun x hx => ⟨70, by rw [List.mem_singleton.mp hx]; exact hsm.1⟩
  have hol : n.order.length ≤ 900 := order_len n NF.len (by rw [hnwraps]; exact hw63)
  have hbal : -1 ≤ balP n.levels ∧ balP n.levels ≤ 69 := by
    unfold balP
    split <;> omega
  refine ex_assign' (d := .int (is.getD 8 0)) (by walk_at "m_ev") rfl ?_
  refine ex_assign' (d := .list (n.row.map .int)) (by rw [hnrow]; exact evr_call gc (n_row ok) (kp_row ok) (ea_cons (by walk_at "m_ev") (ea_cons (ev_sub_ (ev_table gc hhid (n_gaps ok) (c_gaps ok)) (by walk_at "m_ev") (idx_tab e9 l9 (by decide))) (ea_cons (by walk_at "m_ev") ea_nil))) (row_call ok _ _ _ _ _ gc (show callerA.depth + 1 + 1 < recursionLimit by decide))) rfl ?_
  have callN := fun μ' => nest_call ok _ μ' n t a b extra slack flip inner lid gc (show callerA.depth + 1 + 3 < recursionLimit by decide) NF
  rw [hnv] at callN
  refine ex_unpack (ds := [dT n.tree, .list (n.order.map .int)]) (evr_call gc (n_nest ok) (kp_nest ok) (ea_cons (by walk_at "m_ev") (ea_cons (by walk_at "m_ev") (ea_cons (by walk_at "m_ev") ea_nil))) (callN _)) rfl rfl gc ?_
  refine ex_assign' (d := dT n.tree) (ev_sub_ (evr_call gc (n_nest ok) (kp_nest ok) (ea_cons (by walk_at "m_ev") (ea_cons (by walk_at "m_ev") (ea_cons (by walk_at "m_ev") ea_nil))) (callN _)) ev_int (idx_tuple (by decide) (by decide) rfl)) rfl ?_
  refine ex_assign' (d := .int dp) (ev_of (by walk_at "m_ev") (congrArg PyData.int e11)) rfl ?_
  -- low and high
  obtain ⟨k12, e12, l12⟩ := fmod_nat (is.getD 12 0) 3 (by decide)
  obtain ⟨k13, e13, l13⟩ := fmod_nat (is.getD 13 0) 3 (by decide)
  generalize hlow : (if 0 < k12 then some (is.getD 8 0 + 1 - (k12 : Int)) else none) = low
  generalize hz : ((is.getD 8 0 + 1) :: n.order).getLast (by simp) = z
  generalize hhigh : (if 0 < k13 then some (z - 1 + (k13 : Int)) else none) = high
  have hlast : ([PyData.int (is.getD 8 0 + 1)] ++ n.order.map PyData.int).getLast? = some (PyData.int z) := by
    have : [PyData.int (is.getD 8 0 + 1)] ++ n.order.map PyData.int = ((is.getD 8 0 + 1) :: n.order).map PyData.int := rfl
    rw [this, List.getLast?_map, List.getLast?_eq_some_getLast (by simp), hz]
    rfl
  have hbnd : n.order ≠ [] ∨ ltO low high := by
    by_cases ho : n.order = []
    · right
      have hz' : z = is.getD 8 0 + 1 := by
        rw [← hz]
        simp [ho]
      rw [← hlow, ← hhigh]
      split <;> split <;> simp only [ltO]
      omega
    · exact .inl ho
  refine ex_assign' ev_none rfl ?_
  refine ex_ifset (d := dO low) (ts_cmp (a := .int ((is.getD 12 0).fmod 3)) (by walk_at "m_ev") (by walk_at "m_ev") cmp_gt) rfl (fun hh => ?_) (fun hh => ?_) ?_
  · have h1 : (0 : Int) < (is.getD 12 0).fmod 3 := of_decide_eq_true hh
    have h2 : 0 < k12 := by
      rw [show (is.getD 12 0).fmod 3 = (k12 : Int) from e12] at h1
      exact Int.natCast_pos.mp h1
    rw [if_pos h2] at hlow
    refine ev_of (d := .int (is.getD 8 0 + 1 - (is.getD 12 0).fmod 3)) (by walk_at "m_ev") ?_
    rw [← hlow]
    show PyData.int _ = PyData.int _
    rw [← e12]
    rfl
  · have h1 : ¬ (0 : Int) < (is.getD 12 0).fmod 3 := of_decide_eq_false hh
    have h2 : ¬ 0 < k12 := by
      rw [show (is.getD 12 0).fmod 3 = (k12 : Int) from e12] at h1
      exact fun q => h1 (Int.natCast_pos.mpr q)
    rw [if_neg h2] at hlow
    rw [← hlow]
    rfl
  refine ex_assign' ev_none rfl ?_
  refine ex_ifset (d := dO high) (ts_cmp (a := .int ((is.getD 13 0).fmod 3)) (by walk_at "m_ev") (by walk_at "m_ev") cmp_gt) rfl (fun hh => ?_) (fun hh => ?_) ?_
  · have h1 : (0 : Int) < (is.getD 13 0).fmod 3 := of_decide_eq_true hh
    have h2 : 0 < k13 := by
      rw [show (is.getD 13 0).fmod 3 = (k13 : Int) from e13] at h1
      exact Int.natCast_pos.mp h1
    rw [if_pos h2] at hhigh
    refine ev_of (d := .int (z - 1 + (is.getD 13 0).fmod 3)) (ev_add (ev_sub (ev_sub_ (ev_listadd (by walk_at "m_ev") (by walk_at "m_ev") (by simp; omega)) (by walk_at "m_ev") (idx_last hlast)) ev_int) (by walk_at "m_ev")) ?_
    rw [← hhigh]
    show PyData.int _ = PyData.int _
    rw [← e13]
    rfl
  · have h1 : ¬ (0 : Int) < (is.getD 13 0).fmod 3 := of_decide_eq_false hh
    have h2 : ¬ 0 < k13 := by
      rw [show (is.getD 13 0).fmod 3 = (k13 : Int) from e13] at h1
      exact fun q => h1 (Int.natCast_pos.mpr q)
    rw [if_neg h2] at hhigh
    rw [← hhigh]
    rfl
  refine ex_assign' ev_bool rfl ?_
  generalize hcr : (!((is.getD 14 0).fmod 3 == 0)) = crown
  refine ex_ifset (d := .bool crown) (ts_cmp (a := .int ((is.getD 14 0).fmod 3)) (by walk_at "m_ev") (by walk_at "m_ev") cmp_eq) rfl (fun hh => ?_) (fun hh => ?_) ?_
  · rw [hh] at hcr
    rw [← hcr]
    exact ev_bool
  · rw [hh] at hcr
    rw [← hcr]
    rfl
  -- the readings
  refine ex_sub (μ' := [("t", .val (.int t)), ("kind", .val (.tuple [.int a, .int b, .int extra, .int slack, .int flip])), ("tree", .val (dT n.tree)), ("order", .val (.list (n.order.map .int))), ("twin", .val (dT n.tree)), ("depth", .val (.int dp)), ("low", .val (dO low)), ("high", .val (dO high)), ("crown", .val (.bool crown))]) ?_ (by walk_at "m_sub")
  refine ex_assign' (d := .list (dL n.levels)) (evr_call gc (n_levels ok) (kp_levels ok) (by walk_at "m_ea") (levels_call ok _ _ n.tree gc (show callerA.depth + 1 + 1 < recursionLimit by decide) (show callerA.units + 3 + 10 < cLine by decide) (Nat.le_trans hsm.2 (by decide)))) rfl ?_
  have hdep1 : callerA.depth + 1 + 1 < recursionLimit := by decide
  have huni1 : callerA.units + 3 + 10 < cLine := by decide
  have huni7 : callerA.units + 3 + 70 < cLine := by decide
  have hdepA : callerA.depth + 1 + dp + 5 < recursionLimit := Nat.lt_of_le_of_lt (Nat.add_le_add_right (Nat.add_le_add_left (Nat.le_of_lt l11) _) _) (show callerA.depth + 1 + 6 + 5 < recursionLimit by decide)
  have huniA : callerA.units + 3 + 8 * dp + 20 < cLine := Nat.lt_of_le_of_lt (Nat.add_le_add_right (Nat.add_le_add_left (Nat.mul_le_mul_left 8 (Nat.le_of_lt l11)) _) _) (show callerA.units + 3 + 8 * 6 + 20 < cLine by decide)
  have hlv1k : n.levels.length ≤ 1000 := Nat.le_trans hlv70 (by decide)
  generalize hle : (if crown then (0 : Int) else t - 1) = least
  refine ex_assign' (d := dB (sizesP t least n.levels)) (by rw [← hle]; exact evr_call gc (n_sizes ok) (kp_sizes ok) (by walk_at "m_ea") (sizes_call ok _ _ n.levels t crown gc hdep1 huni1 hlok)) rfl ?_
  have hdueS := n.shape hNok t crown dp
  rw [hle] at hdueS
  refine ex_if (ts_due (x := shapeR t dp crown n.tree) (due := sizesP t least n.levels) (len := n.levels.length) (depth := dp) (ref := sizesP t least n.levels) (w := fun b => if b then "True" else "False") (evr_call gc (n_askS ok) (kp_askS ok) (by walk_at "m_ea") (ask_shape ok _ _ n.tree t crown dp 70 gc bs hsm.1 NF.ht hdepA huniA))
    (evr_call gc (n_due ok) (kp_due ok) (ea_cons (ev_of (by walk_at "m_ev") (edB _)) (by walk_at "m_ea")) (due_call ok _ _ n.levels _ dp (sizesP t least n.levels) gc hdep1 huni1 hlv1k)) (said_bool _) hdueS huni7) (fun e => nomatch e) (fun e => nomatch e) (fun _ => ex_nil ?_)
  refine ex_if_to [("t", .val (.int t)), ("tree", .val (dT n.tree)), ("order", .val (.list (n.order.map .int))), ("twin", .val (dT n.tree)), ("depth", .val (.int dp)), ("levels", .val (.list (dL n.levels)))] (ts_cmp (by walk_at "m_ev") (by walk_at "m_ev") cmp_lt) (fun hh => ?_) (fun hh => ex_nil (by walk_at "m_sub")) ?_
  · have he : extra < 1 := of_decide_eq_true hh
    have hth := hthin he
    have hthn : thin n.tree := (n.thin_iff hNok).mpr hth
    have hdueK := n.keys hNok hth low high dp hbnd
    refine ex_assign' (evr_call gc (n_order ok) (kp_order ok) (by walk_at "m_ea") (order_call ok _ _ n.order low high gc hdep1 hol)) rfl ?_
    refine ex_if (ts_due (x := keysR dp low high n.tree) (due := orderP (low.toList ++ n.order ++ high.toList)) (len := n.levels.length) (depth := dp) (ref := orderP (low.toList ++ n.order ++ high.toList)) (w := fun b => if b then "True" else "False") (evr_call gc (n_askK ok) (kp_askK ok) (by walk_at "m_ea") (ask_keys ok _ _ n.tree low high dp 70 gc bs hsm.1 hthn hdepA huniA))
      (evr_call gc (n_due ok) (kp_due ok) (ea_cons (ev_of (by walk_at "m_ev") (edB _)) (by walk_at "m_ea")) (due_call ok _ _ n.levels _ dp (orderP (low.toList ++ n.order ++ high.toList)) gc hdep1 huni1 hlv1k)) (said_bool _) hdueK huni7) (fun e => nomatch e) (fun e => nomatch e) (fun _ => ex_nil (ex_nil (by walk_at "m_sub")))
  refine ex_assign' (evr_call gc (n_balance ok) (kp_balance ok) (by walk_at "m_ea") (balance_call ok _ _ n.levels gc hdep1 huni1 hlv0 hlv1k)) rfl ?_
  have hdueL := level_due (n.level hNok dp)
  refine ex_if (ts_due (x := levelR dp n.tree) (due := balP n.levels) (len := n.levels.length) (depth := dp) (ref := true) (w := fun i : Int => toString i) (evr_call gc (n_askL ok) (kp_askL ok) (by walk_at "m_ea") (ask_level ok _ _ n.tree dp 70 gc bs hsm.1 hdepA huniA (fun i hi => by have := levelR_bound dp n.tree i hi; omega)))
    (evr_call gc (n_due ok) (kp_due ok) (by walk_at "m_ea") (due_call ok _ _ n.levels _ dp true gc hdep1 huni1 hlv1k)) (by cases levelR dp n.tree <;> rfl) hdueL huni7) (fun e => nomatch e) (fun e => nomatch e) (fun _ => ex_nil ?_)
  refine ex_assign' (d := dB (sizesP t 0 n.levels)) (evr_call gc (n_sizes ok) (kp_sizes ok) (by walk_at "m_ea") (sizes_call ok _ _ n.levels t true gc hdep1 huni1 hlok)) rfl ?_
  refine ex_assign' ev_str rfl ?_
  have hord : orderP (Option.toList none ++ n.order ++ Option.toList none) = orderP n.order := by simp
  generalize hwh : (sizesP t 0 n.levels && (orderP n.order && decide (balP n.levels ≠ -1))) = whole
  refine ex_ifset (b := whole) (d := dB whole) (ts_of (ts_and3 (a := sizesP t 0 n.levels) (b := orderP n.order) (c := decide (balP n.levels ≠ -1)) ?t1 (fun _ => ?t2) (fun _ _ => ?t3)) (congrArg some hwh)) rfl (fun hh => ?_) (fun hh => ?_) ?_
  case t1 =>
    exact ts_cmp (by walk_at "m_ev") ev_str (cmp_dB huni7)
  case t2 =>
    refine ts_cmp (ev_of (evr_call gc (n_order ok) (kp_order ok) (ea_cons (by walk_at "m_ev") (ea_cons ev_none (ea_cons ev_none ea_nil))) (order_call ok _ _ n.order none none gc hdep1 hol)) (by rw [hord])) ev_str (cmp_dB huni7)
  case t3 =>
    exact ts_cmp (by walk_at "m_ev") ev_str (cmp_bal hbal.1 (by omega) huni7)
  · rw [hh]; exact ev_str
  · rw [hh]; rfl
  have hdueW := n.whole hNok t
  rw [hwh] at hdueW
  refine ex_if (ts_due (x := isB t n.tree) (due := whole) (len := n.levels.length) (depth := 64) (ref := sizesP t 0 n.levels) (w := fun b => if b then "True" else "False") (evr_call gc (n_askW ok) (kp_askW ok) (by walk_at "m_ea") (ask_whole ok _ _ n.tree t 70 gc bs hsm.1 NF.ht (good_keys_thin t n) (show callerA.depth + 1 + 80 < recursionLimit by decide) (show callerA.units + 3 + 700 < cLine by decide)))
    (evr_call gc (n_due ok) (kp_due ok) (ea_cons (ev_of (by walk_at "m_ev") (edB _)) (ea_cons (by walk_at "m_ev") (ea_cons (d := .int ((64 : Nat) : Int)) ev_int (by walk_at "m_ea")))) (due_call ok _ _ n.levels _ 64 (sizesP t 0 n.levels) gc hdep1 huni1 hlv1k)) (said_bool _) hdueW huni7) (fun e => nomatch e) (fun e => nomatch e) (fun _ => ex_nil ?_)
  exact ex_if (ts_cmp (by walk_at "m_ev") (by walk_at "m_ev") (cmp_tree (n.fits hNok) (show callerA.units + 3 + 200 < cLine by decide))) (fun e => nomatch e) (fun e => nomatch e) (fun _ => ex_nil (ex_ret ev_bool rfl))

theorem rep_ints {P : Addr → Obj → Prop} : ∀ {vs : List Value} {is : List Int}, IntsAre vs is → RepAll P (is.map .int) vs := by
  intro vs is h
  induction h with
  | nil => exact .nil
  | cons _ _ _ ih => exact .cons (rep_int _ _) ih

theorem law_join {prog : Program} {w : World} {p : Program} {loose : List Str} {mean : ExcName → Option Value} {mg mb : Str → Option Value} {nm : Str} {fa : Addr} {cd : Value} {s : Shared} {h₀ h₁ : Heap} {tk : Nat} {m : Str → Option Value} {aL : Addr} {vs : List Value} {is : List Int} {Q : Flow → Shared → Prop} {E : Value → Shared → Prop}
    {oc : Value} {od : Option Addr} {osl : Array (Option Value)} {name qual : Str} {params : Arguments} {body : List Stmt} {scope : Scope} {dV kV doc pm cdv ct : Value} {an : Option Addr}
    (T : Top p loose mean mg mb h₀) (KX : (Mine.hd.heap_39 w.params).In h₀) (F : Fr h₀ h₀.objs.size h₁ m) (hm : m "script" = some (.ref aL)) (hL : h₀.IsList aL vs.toArray) (hI : IntsAre vs is) (hlen : is.length ≤ 63) (hk : scope.kind = .function)
    (ho : (Mine.hd.heap_39 w.params).lookup 160 = some ⟨oc, od, .func (fnOf name qual params body scope dV kV doc pm an cdv ct), osl⟩)
    (hE : PassesOwn (model prog w) (callerA.deeper (envOf nm scope h₀.objs.size fa cd)) (envOf nm scope h₀.objs.size fa cd) E) (hQ : ∀ h' tk, Keeps h₀ h' → Q (.ret (.bool true)) { s with heap := h', toks := tk }) :
    wpAny (model prog w) (callerA.deeper (envOf nm scope h₀.objs.size fa cd)) (execs body (envOf nm scope h₀.objs.size fa cd)) Q E { s with heap := h₁, toks := tk } := by
  let G : Glb := ⟨prog, w, Mine.hd.heap_39 w.params, p, loose, mean, mg, mb, Rz 24, RzF 24, fun _ _ _ q => .inr q⟩
  have ok : GOk G := ⟨rfl, ⟨rfl, rfl⟩⟩
  have gc : Gc G ⟨nm, scope, fa, cd, h₀.objs.size, callerA, h₀, [], h₀, fun _ => False⟩ := ⟨below_caller h₀, KX, T, hk, rfl⟩
  have bs : AtBase G ⟨nm, scope, fa, cd, h₀.objs.size, callerA, h₀, [], h₀, fun _ => False⟩ := ⟨rfl, KX, T⟩
  have S : St ⟨nm, scope, fa, cd, h₀.objs.size, callerA, h₀, [], h₀, fun _ => False⟩ [] m [("script", .val (.list (is.map .int)))] { s with heap := h₁, toks := tk } := by
    refine ⟨F, fun p hp => (nomatch hp), fun p hp => (nomatch hp), fun a ha => ha.elim, fun y lv hy => ?_⟩
    have := mem_of_look hy
    rw [List.mem_singleton] at this
    cases this
    obtain ⟨o, e, hc, n, hd⟩ := hL
    refine ⟨_, hm, Rep.list_iff.mpr ⟨aL, o, vs.toArray, n, rfl, ⟨F.keep _ _ e, Nat.ne_of_lt (Heap.lt_size e), fun q => q, fun p hp => (nomatch hp)⟩, hc, hd, ?_⟩⟩
    simpa using rep_ints hI
  refine law_ex ok ho nm fa cd h₀.objs.size h₀ is gc bs hlen _ [] m Q E S hE (fun _ _ _ _ _ q => q.elim) (fun d v m' h' tk' hr F' rd => ?_) (fun hr => nomatch hr)
  cases hr
  obtain rfl := Rep.bool_iff.mp rd
  exact hQ h' tk' F'.keep

theorem final : PySem.Challenge.rw_sx_zcanopy_4.Holds := hd (by
  k_go0
  refine law_join (by assumption) (by assumption) (by assumption) rfl (by assumption) (by assumption) (by omega) rfl (by k_is) PassesOwn.leaving (fun h' tk hk => ?_)
  refine ⟨.inl ⟨_, .bool true, [], rfl, fun _ => rfl, ?_, ?_, fun _ => ⟨.nil, fun _ q => nomatch q⟩⟩, hk, rfl, by assumption⟩
  · exact .bool _
  · first | with_unfolding_all rfl | kernel_rfl | decide | (unfold Challenge.rw_sx_zcanopy_4; rfl))
end Mine

theorem PySem.Challenge.cw_sx_zcanopy_4_holds : PySem.Challenge.rw_sx_zcanopy_4.Holds :=
  Mine.final
