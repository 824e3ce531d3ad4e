/- Part 7 of the proof: texts merged. Conditions: those that each theorem states. -/
import Derived.Test.YtopahhcojncgaaaDoorZ6p6
namespace Go.Proofs.YtopahhcojncgaaaDoor.G
open Go.RowKit Go.Proofs.YtopahhcojncgaaaDoorW.PrintWords Go.Proofs.YtopahhcojncgaaaDoorW.PrintLast Go.Proofs.YtopahhcojncgaaaDoorW.PrintMore
set_option linter.unusedVariables false
set_option linter.unusedSimpArgs false
theorem Has.congr {e : Nat → Nat → Prop} {k : Nat} {S S' : Nat → Prop} (h : ∀ i, S i ↔ S' i) : Has e k S ↔ Has e k S' := ⟨Has.mono (fun i hi => (h i).1 hi), Has.mono (fun i hi => (h i).2 hi)⟩
structure Num (ps : List S98) (t : List Int) (s : Nat) (v : Nat) : Prop where
  eq : mo t s = (v : Int)
  le : v ≤ 16
  has : ∀ k, Has (eA ps) k (inS s) ↔ k ≤ v
theorem num_of (n : Nat) (hn : n ≤ 12) (ps : List S98) (hself : ∀ a, adj ps a a = false) (t : List Int) (ht : MaskI n t ps) (s : Nat) (hs : s < 2 ^ n) : ∃ v, Num ps t s v := by
  obtain ⟨v, h1, h2, h3⟩ := mo_spec n hn ps hself t ht ((bl s).length + 1) s hs (Nat.lt_succ_self _)
  exact ⟨v, h1, Nat.le_trans h2 (bl_length s), h3⟩
theorem Num.wrap {ps t s v s' v'} (h : Num ps t s v) (h' : Num ps t s' v') : wrap64 (1 + mo t s) = mo t s' ↔ v + 1 = v' := by
  have l1 := h.le
  have l2 := h'.le
  rw [h.eq, h'.eq, w64 (by omega) (by omega)]
  omega
theorem cut_bit (s A B : Nat) (hs : s < 65536) (i : Nat) : inS (clr (clr s (2 ^ A ||| 2 ^ B)) (2 ^ A - 1)) i ↔ but2 (inS s) A B i ∧ A ≤ i := by
  rw [← but2_clr hs]
  unfold inS
  rw [testBit_clr _ _ _ (clr_lt _ _ hs), Nat.testBit_two_pow_sub_one]
  rw [Bool.and_eq_true]
  constructor
  · rintro ⟨h1, h2⟩
    refine ⟨h1, ?_⟩
    simpa using h2
  · rintro ⟨h1, h2⟩
    refine ⟨h1, ?_⟩
    simpa using h2
theorem ask_alike (n : Nat) (hn : n ≤ 12) (ps : List S98) (hg : Good (n : Int) ps) (t : List Int) (ht : MaskI n t ps) (S : Nat) (hS : S < 2 ^ n) (v : Nat) (hv : Num ps t S v) (i A B : Nat) (hi : i < ps.length)
    (hA : (rd_T98 ps (i : Int)).f0 = (A : Int)) (hB : (rd_T98 ps (i : Int)).f1 = (B : Int)) (hAB : A < B) (sA : inS S A) (sB : inS S B) (hJ : JI ps (inS S) v i) :
    (wrap64 (1 + mo t (clr (clr S (2 ^ A ||| 2 ^ B)) (2 ^ A - 1))) = mo t S ↔ wrap64 (1 + mo t (clr S (2 ^ A ||| 2 ^ B))) = mo t S) ∧
    (wrap64 (1 + mo t (clr S (2 ^ A ||| 2 ^ B))) = mo t S → ∃ v', Num ps t (clr S (2 ^ A ||| 2 ^ B)) v' ∧ v' + 1 = v ∧ JI ps (inS (clr S (2 ^ A ||| 2 ^ B))) v' (i + 1)) ∧
    (¬ wrap64 (1 + mo t (clr S (2 ^ A ||| 2 ^ B))) = mo t S → JI ps (inS S) v (i + 1)) := by
  have hp16 : S < 65536 := Nat.lt_of_lt_of_le hS (Nat.pow_le_pow_right (by decide) (by omega : n ≤ 16))
  obtain ⟨v1, h1⟩ := num_of n hn ps (adj_self hg) t ht (clr S (2 ^ A ||| 2 ^ B)) (clr_lt_two _ _ _ hS)
  obtain ⟨v2, h2⟩ := num_of n hn ps (adj_self hg) t ht (clr (clr S (2 ^ A ||| 2 ^ B)) (2 ^ A - 1)) (clr_lt_two _ _ _ (clr_lt_two _ _ _ hS))
  have k1 : ∀ k, Has (eA ps) k (but2 (inS S) A B) ↔ k ≤ v1 := fun k => by rw [← h1.has]; exact Has.congr (fun i => (but2_clr hp16 i).symm)
  have k2 : ∀ k, Has (eA ps) k (fun i => but2 (inS S) A B i ∧ A ≤ i) ↔ k ≤ v2 := fun k => by rw [← h2.has]; exact Has.congr (fun i => (cut_bit S A B hp16 i).symm)
  obtain ⟨g1, g2⟩ := greedy_cut (eA_comm ps) hAB (at_adj hi hA hB) sA sB hv.has k1 k2 (JI.before hg hi hA hJ)
  refine ⟨(h2.wrap hv).trans (g1.trans (h1.wrap hv).symm), fun h => ?_, fun h => ?_⟩
  · have h3 := (h1.wrap hv).1 h
    exact ⟨v1, h1, h3, JI.yes hJ hi hA hB (Nat.ne_of_lt hAB) sA sB h3 (fun i => but2_clr hp16 i)⟩
  · refine hJ.no (fun A' B' e0 e1 _ _ k hk h3 => ?_)
    obtain rfl : A' = A := by omega
    obtain rfl : B' = B := by omega
    have h4 := (k1 k).1 h3
    exact h ((h1.wrap hv).2 (by omega))
theorem specMost_l1 (n : Nat) (hn : n ≤ 12) (ps : List S98) (T : List (List Bool)) (t : List Int) (hT : TabI n T ps) (ht : MaskI n t ps) (dn : List Bool) (hdn : dn.length = n) (S : Nat) (hS : S < 2 ^ n) (hbit : ∀ j, j < n → S.testBit j = !dn.getD j false)
    (out : List S98) (i A B : Nat) (hA : A < n) (L : Int) (pp : List S98) (R : List S98 × Bool)
    (hfin : Ev (fun k => if wrap64 (1 + mo t (clr (clr S (2 ^ A ||| 2 ^ B)) (2 ^ A - 1))) = mo t S then (if out.length < 8796093022208 then (if 0 ≤ (A : Int) then (if (A : Int) < (dn.length : Int) then (if 0 ≤ (B : Int) then (if (B : Int) < (dn.length : Int) then (spec_MostInPairs.l0 k T ((dn.set (A : Int).toNat true).set (B : Int).toNat true) (out ++ [(⟨A, B⟩ : S98)]) (wrap64 (mo t S - 1)) pp L (wrap64 ((i : Int) + 1))) else none) else none) else none) else none) else none) else (spec_MostInPairs.l0 k T dn out (mo t S) pp L (wrap64 ((i : Int) + 1)))) R) :
    ∀ (c j : Nat) (nx : List Bool), j + c = A → nx.length = n → (∀ j', j' < n → nx.getD j' false = (dn.getD j' false || decide (j' = A ∨ j' = B ∨ j' < j))) →
    Ev (fun k => spec_MostInPairs.l1 k T dn out (mo t S) nx (j : Int) pp L (i : Int) (A : Int) (B : Int)) R := by
  intro c
  induction c with
  | zero =>
    intro j nx hj hl hx
    obtain rfl : j = A := by omega
    have hp16 : S < 65536 := Nat.lt_of_lt_of_le hS (Nat.pow_le_pow_right (by decide) (by omega : n ≤ 16))
    refine Ev.step (fun k => spec_MostInPairs.l1.eq_2 ..) (Ev.ifn (by omega) ?_)
    refine Ev.bind (taMost_eq n hn ps T t hT ht (clr (clr S (2 ^ j ||| 2 ^ B)) (2 ^ j - 1)) 0 nx (Nat.zero_le _) hl (clr_lt_two _ _ _ (clr_lt_two _ _ _ hS)) (fun j' hj' => ?_)) hfin
    rw [testBit_clr _ _ _ (clr_lt _ _ hp16), testBit_clr _ _ _ hp16, hbit j' hj', hx j' hj', Nat.testBit_or, Nat.testBit_two_pow, Nat.testBit_two_pow, Nat.testBit_two_pow_sub_one]
    cases dn.getD j' false
    · simp only [Nat.zero_le, decide_true, Bool.true_and, Bool.not_false, Bool.false_or]
      rw [← Bool.not_or, ← Bool.decide_or, ← Bool.decide_or]
      congr 1
      rw [decide_eq_decide]
      omega
    · simp
  | succ c ih =>
    intro j nx hj hl hx
    have e2 : Aside0 (wrap64 ((j : Int) + 1) = ((j + 1 : Nat) : Int)) := ⟨by rw [w64 (by omega) (by omega)]; omega⟩
    refine Ev.step (fun k => spec_MostInPairs.l1.eq_2 ..) (Ev.ifp (by omega) (Ev.ifp (Int.natCast_nonneg j) (Ev.ifp (by omega) ?_)))
    rw [e2.out, Int.toNat_natCast]
    refine ih (j + 1) (nx.set j true) (by omega) (by rw [List.length_set]; exact hl) (fun j' hj' => ?_)
    simp only [List.getD_eq_getElem?_getD]
    by_cases e : j = j'
    · subst e
      rw [List.getElem?_set_self (by omega)]
      have : decide (j = A ∨ j = B ∨ j < j + 1) = true := decide_eq_true (Or.inr (Or.inr (Nat.lt_succ_self j)))
      rw [this]; simp
    · rw [List.getElem?_set_ne e]
      have h9 := hx j' hj'
      simp only [List.getD_eq_getElem?_getD] at h9
      rw [h9]
      congr 1
      rw [decide_eq_decide]
      omega
theorem specMost_l0 (n : Nat) (ps : List S98) (hg : Good (n : Int) ps) (hl : ps.length ≤ 1000) (T : List (List Bool)) (t : List Int) (hT : TabI n T ps) (ht : MaskI n t ps) : ∀ (d i : Nat) (dn : List Bool) (S : Nat) (out : List S98) (v : Nat),
    i + d = ps.length → dn.length = n → S < 2 ^ n → (∀ j, j < n → S.testBit j = !dn.getD j false) → out.length ≤ i → Num ps t S v → JI ps (inS S) v i →
    Ev (fun k => spec_MostInPairs.l0 k T dn out (mo t S) ps (ps.length : Int) (i : Int)) (((ps.drop i).foldl (mipS t) (S, out)).2, true) := by
  intro d
  have hn : n ≤ 12 := by have := hg.2.1; omega
  induction d with
  | zero =>
    intro i dn S out v hi _ _ _ _ _ _
    rw [List.drop_of_length_le (by omega)]
    exact Ev.step (fun k => spec_MostInPairs.l0.eq_2 ..) (Ev.ifn (by omega) (Ev.pure _))
  | succ d ih =>
    intro i dn S out v hi hdn hS hbit hout hv hJ
    have hil : i < ps.length := by omega
    have e2 : Aside0 (wrap64 ((i : Int) + 1) = ((i + 1 : Nat) : Int)) := ⟨by rw [w64 (by omega) (by omega)]; omega⟩
    obtain ⟨g1, g2, g3, _⟩ := hg.2.2 i hil
    obtain ⟨x, hx⟩ : ∃ x, rd_T98 ps (i : Int) = x := ⟨_, rfl⟩
    have hx2 : ps[i] = x := by rw [← rd98 ps i hil, hx]
    rw [hx] at g1 g2 g3
    obtain ⟨A, eA'⟩ : ∃ A : Nat, x.f0 = (A : Int) := ⟨x.f0.toNat, by omega⟩
    obtain ⟨B, eB⟩ : ∃ B : Nat, x.f1 = (B : Int) := ⟨x.f1.toNat, by omega⟩
    have hAB : A < B := by omega
    have hBn : B < n := by omega
    have hA : (rd_T98 ps (i : Int)).f0 = (A : Int) := by rw [hx]; exact eA'
    have hB : (rd_T98 ps (i : Int)).f1 = (B : Int) := by rw [hx]; exact eB
    have hms : Aside0 (mipS t (S, out) x = if S &&& (2 ^ A ||| 2 ^ B) = (2 ^ A ||| 2 ^ B) ∧ wrap64 (1 + mo t (clr S (2 ^ A ||| 2 ^ B))) = mo t S then (clr S (2 ^ A ||| 2 ^ B), out ++ [x]) else (S, out)) := ⟨by
      unfold mipS
      rw [eA', eB, Int.toNat_natCast, Int.toNat_natCast]⟩
    rw [List.drop_eq_getElem_cons hil, hx2, List.foldl_cons]
    have left_ : ¬ (inS S A ∧ inS S B) ∨ ¬ Aside0 (wrap64 (1 + mo t (clr S (2 ^ A ||| 2 ^ B))) = mo t S) → JI ps (inS S) v (i + 1) → Ev (fun k => spec_MostInPairs.l0 k T dn out (mo t S) ps (ps.length : Int) (wrap64 ((i : Int) + 1))) (((ps.drop (i + 1)).foldl (mipS t) (mipS t (S, out) x)).2, true) := by
      intro hno hJ2
      rw [hms.out, if_neg (fun h => by
        rcases hno with h2 | h2
        · exact h2 ((sub_own S A B).1 h.1)
        · exact h2 ⟨h.2⟩), e2.out]
      exact ih (i + 1) dn S out v (by omega) hdn hS hbit (by omega) hv hJ2
    have skip_ : ¬ (inS S A ∧ inS S B) ∨ ¬ Aside0 (wrap64 (1 + mo t (clr S (2 ^ A ||| 2 ^ B))) = mo t S) → JI ps (inS S) v (i + 1) → Ev (fun k => spec_MostInPairs.j1 k T dn out (mo t S) ps (ps.length : Int) (i : Int) true x.f0 x.f1) (((ps.drop (i + 1)).foldl (mipS t) (mipS t (S, out) x)).2, true) :=
      fun h1 h2 => Ev.step (fun k => spec_MostInPairs.j1.eq_2 ..) (Ev.ifp rfl (left_ h1 h2))
    have notin : ∀ C, C < n → dn.getD C false = true → ¬ inS S C := fun C hC h1 h2 => by
      unfold inS at h2
      rw [hbit C hC, h1] at h2; cases h2
    refine Ev.step (fun k => spec_MostInPairs.l0.eq_2 ..) (Ev.ifp (by omega) (Ev.ifp (Int.natCast_nonneg i) (Ev.ifp (by omega) ?_)))
    rw [hx]
    by_cases h0 : v = 0
    · refine Ev.ifp (by rw [hv.eq, h0]; rfl) (skip_ (.inr (fun h => ?_)) (hJ.no (fun _ _ _ _ _ _ k hk => by omega)))
      obtain ⟨v1, h1⟩ := num_of n hn ps (adj_self hg) t ht (clr S (2 ^ A ||| 2 ^ B)) (clr_lt_two _ _ _ hS)
      have := (h1.wrap hv).1 h.out
      omega
    refine Ev.ifn (by rw [hv.eq]; omega) ?_
    rw [eA', eB]
    rw [eA', eB] at skip_
    refine Ev.ifp (Int.natCast_nonneg A) (Ev.ifp (by omega) ?_)
    rw [rdOf_getD, rdOf_getD]
    by_cases hdA : dn.getD A false = true
    · exact Ev.ifp hdA (skip_ (.inl (fun h => notin A (by omega) hdA h.1)) (hJ.no (fun A' B' e0 e1 h1 h3 => by
        obtain rfl : A' = A := by omega
        exact absurd h1 (notin A' (by omega) hdA))))
    refine Ev.ifn hdA (Ev.ifp (Int.natCast_nonneg B) (Ev.ifp (by omega) ?_))
    by_cases hdB : dn.getD B false = true
    · rw [hdB]
      exact skip_ (.inl (fun h => notin B hBn hdB h.2)) (hJ.no (fun A' B' e0 e1 h1 h3 => by
        obtain rfl : B' = B := by omega
        exact absurd h3 (notin B' hBn hdB)))
    have hdA' : dn.getD A false = false := by simpa using hdA
    have hdB' : dn.getD B false = false := by simpa using hdB
    have sA : inS S A := by unfold inS; rw [hbit A (by omega), hdA']; rfl
    have sB : inS S B := by unfold inS; rw [hbit B hBn, hdB']; rfl
    rw [hdB']
    refine Ev.step (fun k => spec_MostInPairs.j1.eq_2 ..) (Ev.ifn (by decide) (Ev.bindC rfl (Ev.ifp (by simp; omega) (Ev.bindC rfl (Ev.ifp (Int.natCast_nonneg A) (Ev.ifp (by simp; omega) (Ev.ifp (Int.natCast_nonneg B) (Ev.ifp (by simp; omega) ?_))))))))
    obtain ⟨a1, a2, a3⟩ := ask_alike n hn ps hg t ht S hS v hv i A B hil hA hB hAB sA sB hJ
    have A1 := Aside0.mk a1
    have A2 := Aside0.mk a2
    have A3 := Aside0.mk a3
    clear a1 a2 a3
    refine specMost_l1 n hn ps T t hT ht dn hdn S hS hbit out i A B (by omega) _ _ _ ?_ A 0 _ (by omega) (by simp [hdn]) (fun j' hj' => ?_)
    · by_cases hq : Aside0 (wrap64 (1 + mo t (clr S (2 ^ A ||| 2 ^ B))) = mo t S)
      · obtain ⟨v', n1, n2, n3⟩ := A2.out hq.out
        refine Ev.ifp (A1.out.2 hq.out) (Ev.ifp (by omega) (Ev.ifp (Int.natCast_nonneg A) (Ev.ifp (by omega) (Ev.ifp (Int.natCast_nonneg B) (Ev.ifp (by omega) ?_)))))
        have e5 : Aside0 (wrap64 (mo t S - 1) = mo t (clr S (2 ^ A ||| 2 ^ B))) := ⟨by rw [hv.eq, n1.eq, w64 (by have := hv.le; omega) (by have := hv.le; omega)]; omega⟩
        rw [hms.out, if_pos ⟨(sub_own S A B).2 ⟨sA, sB⟩, hq.out⟩, e2.out, e5.out, Int.toNat_natCast, Int.toNat_natCast]
        have e6 : (⟨A, B⟩ : S98) = x := by cases x; simp_all
        rw [e6]
        refine ih (i + 1) _ (clr S (2 ^ A ||| 2 ^ B)) (out ++ [x]) v' (by omega) (by simp [hdn]) (clr_lt_two _ _ _ hS) (fun j hj => ?_) (by simp; omega) n1 n3
        have hp16 : S < 65536 := Nat.lt_of_lt_of_le hS (Nat.pow_le_pow_right (by decide) (by omega : n ≤ 16))
        rw [testBit_clr _ _ _ hp16, hbit j hj, Nat.testBit_or, Nat.testBit_two_pow, Nat.testBit_two_pow]
        simp only [List.getD_eq_getElem?_getD]
        by_cases e7 : B = j
        · subst e7; rw [List.getElem?_set_self (by rw [List.length_set]; omega)]; simp
        · rw [List.getElem?_set_ne e7]
          by_cases e8 : A = j
          · subst e8; rw [List.getElem?_set_self (by omega)]; simp
          · rw [List.getElem?_set_ne e8]; simp [e7, e8]
      · exact Ev.ifn (fun h => hq ⟨A1.out.1 h⟩) (left_ (.inr hq) (A3.out (fun h => hq ⟨h⟩)))
    · rw [List.nil_append, Int.toNat_natCast, Int.toNat_natCast]
      simp only [List.getD_eq_getElem?_getD]
      by_cases e7 : B = j'
      · subst e7; rw [List.getElem?_set_self (by rw [List.length_set]; omega)]; simp
      · rw [List.getElem?_set_ne e7]
        by_cases e8 : A = j'
        · subst e8; rw [List.getElem?_set_self (by omega)]; simp
        · rw [List.getElem?_set_ne e8]
          have : decide (j' = A ∨ j' = B ∨ j' < 0) = false := decide_eq_false (by omega)
          rw [this, Bool.or_false]
theorem good_len_le {n : Int} {ps : List S98} (h : Good n ps) : ps.length ≤ 66 := by
  have h1 := good_len h
  obtain ⟨m, rfl⟩ : ∃ m : Nat, n = (m : Int) := ⟨n.toNat, by have := h.1; omega⟩
  have e : ∀ m : Nat, m < 13 → Int.tdiv ((m : Int) * ((m : Int) - 1)) 2 ≤ 66 := by decide +kernel
  have := e m (by have := h.2.1; omega)
  omega
theorem ji_zero (ps : List S98) (S : Nat → Prop) (v : Nat) : JI ps S v 0 := fun _ _ _ h => absurd h (Nat.not_lt_zero _)
theorem mostInPairs_good (n : Nat) (ps : List S98) (hg : Good (n : Int) ps) : ∃ t, MaskI n t ps ∧ Ev (fun k => spec_MostInPairs.f k (n : Int) ps) ((mip t (2 ^ n - 1) ps).2, true) ∧ Ev (fun k => impl_mostInPairs.f k (n : Int) ps) (mip t (2 ^ n - 1) ps).2 := by
  have hn : n ≤ 12 := by have := hg.2.1; omega
  have hl := good_len_le hg
  have hl2 : ps.length < 4611686018427387904 := by omega
  obtain ⟨T, hT, hTE⟩ := paTable_eq n ps hg hl2
  obtain ⟨t, ht, htE⟩ := table_eq n ps hg hl2
  have hbit : ∀ j, j < n → (2 ^ n - 1).testBit j = !(List.replicate n false).getD j false := fun j hj => by
    rw [Nat.testBit_two_pow_sub_one]
    simp [List.getD_eq_getElem?_getD, List.getElem?_replicate, hj]
  have hlt : 2 ^ n - 1 < 2 ^ n := Nat.sub_lt (Nat.two_pow_pos _) (by decide)
  obtain ⟨v, hv⟩ := num_of n hn ps (adj_self hg) t ht (2 ^ n - 1) hlt
  have h1 := paGood_eq (n : Int) ps hl2
  rw [good_iff.2 hg] at h1
  refine ⟨t, ht, ?_, ?_⟩
  · unfold spec_MostInPairs.f
    refine Ev.bind h1 (Ev.ifp rfl (Ev.bind hTE (Ev.ifp (Int.natCast_nonneg n) (Ev.ifp (by omega) ?_))))
    rw [Int.toNat_natCast]
    refine Ev.bind (taMost_eq n hn ps T t hT ht (2 ^ n - 1) 0 (List.replicate n false) (Nat.zero_le _) (by simp) hlt (fun j hj => by rw [hbit j hj]; simp)) ?_
    have := specMost_l0 n ps hg (by omega) T t hT ht ps.length 0 (List.replicate n false) (2 ^ n - 1) [] v (by omega) (by simp) hlt hbit (Nat.le_refl _) hv (ji_zero _ _ _)
    rw [List.drop_zero] at this
    exact this
  · unfold impl_mostInPairs.f
    refine Ev.bind htE (Ev.bindC (all_eq t (by rw [ht.len]; omega)) (Ev.ifp ⟨⟨by rw [ht.len]; exact hn, by omega⟩, fun i hi => ?_, ⟨Int.natCast_nonneg _, by rw [Int.toNat_natCast, ht.len]; exact hlt⟩, fun x hx => ?_⟩ ?_))
    · have := ht.lt i
      have hp16 : 2 ^ n ≤ 65536 := Nat.pow_le_pow_right (by decide) (by omega : n ≤ 16)
      have e : ((2 : Int) ^ n) = ((2 ^ n : Nat) : Int) := by simp
      rw [e] at this
      omega
    · obtain ⟨j, hj, rfl⟩ := List.getElem_of_mem hx
      obtain ⟨q1, q2, q3, _⟩ := hg.2.2 j hj
      rw [rd98 ps j hj] at q1 q2 q3
      omega
    · rw [Int.toNat_natCast, ht.len]; exact Ev.pure _
theorem MostInPairs_eq (n : Int) (ps : List S98) (hl : ps.length < 4611686018427387904) :
    ∃ (r : List S98) (g : Bool), Ev (fun k => spec_MostInPairs.f k n ps) (r, g) ∧ Ev (fun k => impl_MostInPairs.f k n ps) (r, g) ∧ r.length ≤ 1048576 := by
  have h1 := paGood_eq n ps hl
  have h2 := isParty_eq n ps hl
  cases hg : good n ps
  · rw [hg] at h1 h2
    exact ⟨[], false, Ev.bind h1 (Ev.ifn (by decide) (Ev.pure _)), Ev.bind h2 (Ev.ifn (by decide) (Ev.pure _)), by simp⟩
  · rw [hg] at h1 h2
    have hG := good_iff.1 hg
    obtain ⟨N, rfl⟩ : ∃ N : Nat, n = (N : Int) := ⟨n.toNat, by have := hG.1; omega⟩
    obtain ⟨t, ht, e1, e2⟩ := mostInPairs_good N ps hG
    refine ⟨_, true, e1, Ev.bind h2 (Ev.ifp rfl (Ev.bind e2 (Ev.pure _))), ?_⟩
    have := mip_len t (2 ^ N - 1) ps
    have := good_len_le hG
    omega
theorem FnExactMostInPairs_true (n : Int) (l : List S144) (hl : l.length ≤ 9223372036854775807) : ∃ k, laws_FnExactMostInPairs.f k n l = some true := by
  refine Ev.one ?_
  unfold laws_FnExactMostInPairs.f
  refine Ev.bindC (szParty_eq n l hl) ?_
  by_cases h : l.length ≤ 1048576
  · rw [if_pos h]
    have hp : (l.map toP).length < 4611686018427387904 := by rw [List.length_map]; omega
    have hp2 : (l.map toP).length ≤ 1048576 := by rw [List.length_map]; exact h
    obtain ⟨r, g, h1, h2, hr⟩ := MostInPairs_eq n (l.map toP) hp
    have hr2 : r.length < 4611686018427387904 := by omega
    refine Ev.ifn (by omega) (Ev.bind (toParty_eq n l h) (Ev.bind h1 (Ev.bind (toParty_eq n l h) (Ev.bind h2 (Ev.bind (eqPairS_refl r hr2) (Ev.ifp rfl ?_))))))
    refine Ev.step (fun k => laws_FnExactMostInPairs.j0.eq_2 ..) (Ev.ifn (by simp) ?_)
    refine Ev.bind (toParty_eq n l h) (Ev.bind (eqParty_refl n _ hp) (Ev.ifp rfl (Ev.bind (markParty_eq n _ hp2) (Ev.ifn (by omega) (Ev.bind (eqPairS_refl r hr2) (Ev.ifp rfl ?_))))))
    refine Ev.step (fun k => laws_FnExactMostInPairs.j1.eq_2 ..) (Ev.ifn (by simp) ?_)
    refine Ev.bind (markPairS_eq r hr) (Ev.bind (heldPairS_eq r.length hr) (Ev.ifn (by omega) (Ev.ifp rfl (Ev.bind (toParty_eq n l h) (Ev.bind h2 (Ev.bind (eqPairS_refl r hr2) (Ev.ifp rfl ?_)))))))
    refine Ev.step (fun k => laws_FnExactMostInPairs.j2.eq_2 ..) (Ev.ifn (by simp) ?_)
    exact Ev.bind (heldPairS_eq r.length hr) (Ev.ifn (by omega) (Ev.ifp rfl (Ev.pure _)))
  · rw [if_neg h]
    exact Ev.ifp (by decide) (Ev.pure _)
end Go.Proofs.YtopahhcojncgaaaDoor.G
