/- Part 6 of the proof: texts merged. Conditions: those that each theorem states. -/
import Derived.Test.YtopahhcojncgaaaDoorZ6p5
import Derived.Test.YtopahhcojncgaaaDoorZ6p2
import Derived.Test.YtopahhcojncgaaaDoorZ6p3
import Derived.Test.YtopahhcojncgaaaDoorZ6p4
namespace Go.Proofs.YtopahhcojncgaaaDoor.G
open Go.RowKit Go.Proofs.YtopahhcojncgaaaDoorW.PrintWords Go.Proofs.YtopahhcojncgaaaDoorW.PrintLast Go.Proofs.YtopahhcojncgaaaDoorW.PrintMore
set_option linter.unusedVariables false
set_option linter.unusedSimpArgs false
def marks (m : Nat) : List S98 := (List.range m).map fun (i : Nat) => ⟨1 + 2 * (i : Int), 2 + 2 * (i : Int)⟩
theorem marks_len (m : Nat) : (marks m).length = m := by simp [marks]
theorem marks_at (m i : Nat) (h : i < m) : rd_T98 (marks m) (i : Int) = ⟨1 + 2 * (i : Int), 2 + 2 * (i : Int)⟩ := by
  rw [rd98 _ _ (by rw [marks_len]; exact h)]
  simp [marks]
theorem markPairS_l0 (m : Nat) (hl : m ≤ 1048576) : ∀ (d i : Nat) (x : List S98), i + d = m → x.length = m → x.take i = (marks m).take i →
    Ev (fun k => laws_markPairS.l0 k x (1 + 2 * (i : Int)) (i : Int)) (1 + 2 * (m : Int), marks m) := by
  intro d
  induction d with
  | zero =>
    intro i x hi hx ht
    have : x = marks m := by
      rw [List.take_of_length_le (by omega), List.take_of_length_le (by rw [marks_len]; omega)] at ht
      exact ht
    subst this
    obtain rfl : i = m := by omega
    exact Ev.step (fun k => laws_markPairS.l0.eq_2 ..) (Ev.ifn (by omega) (Ev.pure _))
  | succ d ih =>
    intro i x hi hx ht
    have hil : i < x.length := by omega
    refine Ev.step (fun k => laws_markPairS.l0.eq_2 ..) (Ev.ifp (by omega) (Ev.ifp (by omega) (Ev.bindC rfl ?_)))
    rw [w64 (x := (i : Int) + 1) (by omega) (by omega), w64 (x := 1 + 2 * (i : Int) + 1) (by omega) (by omega), w64 (by omega) (by omega)]
    have e1 : (1 + 2 * (i : Int) + 1 + 1) = 1 + 2 * ((i + 1 : Nat) : Int) := by omega
    have e2 : ((i : Int) + 1) = ((i + 1 : Nat) : Int) := by omega
    rw [e1, e2]
    refine ih (i + 1) _ (by omega) (by simp only [List.length_set]; exact hx) ?_
    rw [Int.toNat_natCast]
    have e3 : (rd_T98 (x.set i (⟨1 + 2 * (i : Int), (rd_T98 x (i : Int)).f1⟩ : S98)) (i : Int)).f0 = 1 + 2 * (i : Int) := by
      rw [rd98 _ _ (by rw [List.length_set]; exact hil), List.getElem_set_self]
    rw [e3, List.set_set, List.take_succ_eq_append_getElem (by rw [List.length_set]; omega), List.take_set_of_le (Nat.le_refl _), ht, List.take_succ_eq_append_getElem (by rw [marks_len]; omega), List.getElem_set_self]
    congr 2
    simp [marks]
    omega
theorem markPairS_eq (l : List S98) (hl : l.length ≤ 1048576) : Ev (fun k => laws_markPairS.f k l 1) (1 + 2 * (l.length : Int), marks l.length) := by
  unfold laws_markPairS.f
  exact markPairS_l0 l.length hl l.length 0 l (by omega) rfl (by simp)
theorem heldPairS_l0 (m : Nat) (hl : m ≤ 1048576) : ∀ (d i : Nat), i + d = m → Ev (fun k => laws_heldPairS.l0 k (marks m) (1 + 2 * (i : Int)) (i : Int)) (1 + 2 * (m : Int)) := by
  intro d
  induction d with
  | zero =>
    intro i hi
    obtain rfl : i = m := by omega
    exact Ev.step (fun k => laws_heldPairS.l0.eq_2 ..) (Ev.ifn (by rw [marks_len]; omega) (Ev.pure _))
  | succ d ih =>
    intro i hi
    refine Ev.step (fun k => laws_heldPairS.l0.eq_2 ..) (Ev.ifp (by rw [marks_len]; omega) (Ev.ifp (by omega) ?_))
    rw [marks_at m i (by omega), w64 (x := (i : Int) + 1) (by omega) (by omega), w64 (x := 1 + 2 * (i : Int) + 1) (by omega) (by omega), w64 (by omega) (by omega)]
    refine Ev.ifp rfl (Ev.ifp (by show 2 + 2 * (i : Int) = _; omega) ?_)
    have e1 : (1 + 2 * (i : Int) + 1 + 1) = 1 + 2 * ((i + 1 : Nat) : Int) := by omega
    have e2 : ((i : Int) + 1) = ((i + 1 : Nat) : Int) := by omega
    rw [e1, e2]
    exact ih (i + 1) (by omega)
theorem heldPairS_eq (m : Nat) (hl : m ≤ 1048576) : Ev (fun k => laws_heldPairS.f k (marks m) 1) (1 + 2 * (m : Int)) := by
  unfold laws_heldPairS.f
  exact heldPairS_l0 m hl m 0 (by omega)
theorem markParty_eq (n : Int) (l : List S98) (hl : l.length ≤ 1048576) : Ev (fun k => laws_markParty.f k n l 1) (1 + 2 * (l.length : Int), marks l.length) := by
  unfold laws_markParty.f
  exact Ev.bind (markPairS_eq l hl) (Ev.pure _)
theorem eqPairS_refl (l : List S98) (hl : l.length < 4611686018427387904) : Ev (fun k => laws_eqPairS.f k l l) true := by
  unfold laws_eqPairS.f
  exact Ev.ifp rfl (eqPairS_l0 l hl l.length 0 (by omega))
theorem l1Most_eq (a b : Int) : spec_l1Most.f a b = some (max a b) := by
  unfold spec_l1Most.f
  rw [Int.max_def]
  split <;> split <;> (first | rfl | (congr 1; omega))
theorem rdOf_getD (d : List Bool) (j : Nat) : rdOf false d (j : Int) = d.getD j false := by simp [rdOf]
theorem set_back (d : List Bool) (b : Nat) (h : d.getD b false = false) : (d.set b true).set b false = d := by
  rw [List.set_set]
  apply List.ext_getElem (by simp)
  intro i h1 h2
  rw [List.getElem_set]
  split
  · rename_i e
    subst e
    rw [List.getD_eq_getElem?_getD, List.getElem?_eq_getElem h2, Option.getD_some] at h
    exact h.symm
  · rfl
def gL (M : Nat → Int) (s : Nat) (i : Int) (l : List Nat) : Int := l.foldl (fun best b => max best (wrap64 (1 + M (clr s (2 ^ b))))) i
theorem gL_cons (M s i b l) : gL M s i (b :: l) = gL M s (max i (wrap64 (1 + M (clr s (2 ^ b))))) l := rfl
set_option maxHeartbeats 400000 in
theorem taMost_gen (M : Nat → Int) (hM0 : M 0 = 0) (n : Nat) (hn : n ≤ 12) (ps : List S98) (T : List (List Bool)) (t : List Int) (hT : TabI n T ps) (ht : MaskI n t ps)
    (hMs : ∀ s, s ≠ 0 → s < 65536 → M s = gL M (clr s (2 ^ tz16 s)) (M (clr s (2 ^ tz16 s))) (bl ((t.getD (tz16 s) 0).toNat &&& clr s (2 ^ tz16 s)))) : ∀ (m s a : Nat) (d : List Bool),
    a ≤ n → d.length = n → s < 2 ^ n → (∀ j, j < n → s.testBit j = (decide (a ≤ j) && !d.getD j false)) → (bl s).length < m → Ev (fun k => spec_taMost.f k T d (a : Int)) (M s, d) := by
  intro m
  have hlt16 : ∀ s : Nat, s < 2 ^ n → s < 65536 := fun s h => Nat.lt_of_lt_of_le h (Nat.pow_le_pow_right (by decide) (by omega : n ≤ 16))
  induction m with
  | zero => intro s a d _ _ _ _ h; omega
  | succ m ih =>
    intro s a0 d ha0 hd hs hbits0 hm
    refine Ev.step (fun k => spec_taMost.f.eq_2 ..) ?_
    have skip : ∀ (c a : Nat), a + c = n → (∀ j, j < n → s.testBit j = (decide (a ≤ j) && !d.getD j false)) → Ev (fun k => spec_taMost.l0 k T d (a : Int)) (M s, d) := by
      intro c
      induction c with
      | zero =>
        intro a hac hbits
        have hz : s = 0 := by
          apply Nat.eq_of_testBit_eq
          intro j
          rw [Nat.zero_testBit]
          by_cases hj : j < n
          · rw [hbits j hj]; simp; omega
          · exact Nat.testBit_lt_two_pow (Nat.lt_of_lt_of_le hs (Nat.pow_le_pow_right (by decide) (by omega)))
        subst hz
        rw [hM0]
        exact Ev.step (fun k => spec_taMost.l0.eq_2 ..) (Ev.ifn (by omega) (Ev.step (fun k => spec_taMost.j1.eq_2 ..) (Ev.ifp (by omega) (Ev.pure _))))
      | succ c ihc =>
        intro a hac hbits
        have e2 : Aside0 (wrap64 ((a : Int) + 1) = ((a + 1 : Nat) : Int)) := ⟨by rw [w64 (by omega) (by omega)]; omega⟩
        refine Ev.step (fun k => spec_taMost.l0.eq_2 ..) (Ev.ifp (by omega) (Ev.ifp (Int.natCast_nonneg a) ?_))
        by_cases hda : d.getD a false = true
        · refine Ev.ifp (by rw [rdOf_getD]; exact hda) ?_
          rw [e2.out]
          refine ihc (a + 1) (by omega) (fun j hj => ?_)
          rw [hbits j hj]
          by_cases e : j = a
          · subst e; rw [hda]; simp
          · congr 1; rw [decide_eq_decide]; omega
        · have hda : d.getD a false = false := by simpa using hda
          refine Ev.ifn (by rw [rdOf_getD, hda]; decide) ?_
          have han : a < n := by omega
          have hsa : s.testBit a = true := by rw [hbits a han, hda]; simp
          have hlow : ∀ j, j < a → s.testBit j = false := fun j hj => by rw [hbits j (by omega)]; simp; omega
          have h0 : s ≠ 0 := by intro e; subst e; rw [Nat.zero_testBit] at hsa; cases hsa
          have hs16 : s < 65536 := hlt16 s hs
          have hta : tz16 s = a := by
            obtain ⟨t1, t2⟩ := tz16_spec s (by omega) hs16
            rcases Nat.lt_trichotomy (tz16 s) a with h | h | h
            · rw [hlow _ h] at t1; cases t1
            · exact h
            · rw [t2 _ h] at hsa; cases hsa
          have hl1 := bl_clr1 s (tz16 s) (by omega) hs16 rfl
          rw [hMs s h0 hs16, hta]
          rw [hta] at hl1
          obtain ⟨left, el⟩ : ∃ l, clr s (2 ^ a) = l := ⟨_, rfl⟩
          have hl2 : left < 2 ^ n := by rw [← el]; exact clr_lt_two _ _ _ hs
          have hl16 := hlt16 left hl2
          have hleft : ∀ j, j < n → left.testBit j = (decide (a + 1 ≤ j) && !d.getD j false) := fun j hj => by
            rw [← el, testBit_clr _ _ _ hs16, hbits j hj, Nat.testBit_two_pow]
            by_cases e : a = j
            · subst e
              rw [decide_eq_true (Nat.le_refl a), decide_eq_false (Nat.not_succ_le_self a)]; simp
            · have : decide (a ≤ j) = decide (a + 1 ≤ j) := by rw [decide_eq_decide]; omega
              rw [this]; simp [e]
          rw [el] at hl1 ⊢
          have e3 : (List.range n).filter (fun i => ((t.getD a 0).toNat &&& left).testBit i) = (List.range' (a + 1) (n - (a + 1))).filter (fun i => ((t.getD a 0).toNat &&& left).testBit i) := by
            have e4 : List.range n = List.range' 0 (a + 1) ++ List.range' (a + 1) (n - (a + 1)) := by
              rw [List.range_eq_range']
              have := List.range'_append_1 (s := 0) (m := a + 1) (n := n - (a + 1))
              rw [Nat.zero_add] at this
              rw [this]
              congr 1; omega
            rw [e4, List.filter_append]
            have e5 : (List.range' 0 (a + 1)).filter (fun i => ((t.getD a 0).toNat &&& left).testBit i) = [] := by
              rw [List.filter_eq_nil_iff]
              intro j hj
              have hj2 := List.mem_range'_1.1 hj
              rw [Nat.testBit_and, hleft j (by omega)]
              simp
              intro _ h; omega
            rw [e5, List.nil_append]
          rw [bl_ltn _ n (Nat.and_lt_two_pow _ hl2) (by omega), e3]
          refine Ev.step (fun k => spec_taMost.j1.eq_2 ..) (Ev.ifn (by omega) ?_)
          rw [e2.out]
          refine Ev.bind (ih left (a + 1) d (by omega) hd hl2 hleft (by omega)) ?_
          have part : ∀ (c b : Nat) (v : Int), b + c = n → a < b → Ev (fun k => spec_taMost.l1 k T d (a : Int) v (b : Int)) (gL M left v ((List.range' b c).filter (fun i => ((t.getD a 0).toNat &&& left).testBit i)), d) := by
            intro c
            induction c with
            | zero => intro b v hb hab; exact Ev.step (fun k => spec_taMost.l1.eq_2 ..) (Ev.ifn (by omega) (Ev.pure _))
            | succ c ihp =>
              intro b v hb hab
              have hbn : b < n := by omega
              have e6 : Aside0 (wrap64 ((b : Int) + 1) = ((b + 1 : Nat) : Int)) := ⟨by rw [w64 (by omega) (by omega)]; omega⟩
              have hrow : (rd_L4 T (a : Int)).length = n := hT.row a han
              have htab : rdOf false (rd_L4 T (a : Int)) (b : Int) = adj ps a b := by rw [← hT.at_ a b han hbn]; simp [rdOf, rd_L4, tab]
              have hbit : ((t.getD a 0).toNat &&& left).testBit b = (adj ps a b && !d.getD b false) := by
                rw [Nat.testBit_and, ht.at_ a b han hbn, hleft b hbn]
                have : decide (a + 1 ≤ b) = true := decide_eq_true (Nat.succ_le_of_lt hab)
                rw [this, Bool.true_and]
              have off : ((t.getD a 0).toNat &&& left).testBit b = false → Ev (fun k => spec_taMost.j3 k T d (a : Int) v (b : Int) false) (gL M left v ((List.range' b (c + 1)).filter (fun i => ((t.getD a 0).toNat &&& left).testBit i)), d) := by
                intro h
                refine Ev.step (fun k => spec_taMost.j3.eq_2 ..) (Ev.ifn (by decide) ?_)
                rw [e6.out, List.range'_succ, List.filter_cons_of_neg (by rw [h]; decide)]
                exact ihp (b + 1) v (by omega) (by omega)
              refine Ev.step (fun k => spec_taMost.l1.eq_2 ..) (Ev.ifp (by omega) (Ev.ifp (Int.natCast_nonneg a) (Ev.ifp (by rw [hT.len]; omega) (Ev.ifp (Int.natCast_nonneg b) (Ev.ifp (by rw [hrow]; omega) ?_)))))
              rw [htab, rdOf_getD]
              by_cases hadj : adj ps a b = true
              · refine Ev.ifp hadj ?_
                by_cases hdb : d.getD b false = true
                · rw [hdb]
                  exact off (by rw [hbit, hdb]; simp)
                · have hdb : d.getD b false = false := by simpa using hdb
                  rw [hdb]
                  have hon : ((t.getD a 0).toNat &&& left).testBit b = true := by rw [hbit, hdb, hadj]; rfl
                  refine Ev.step (fun k => spec_taMost.j3.eq_2 ..) (Ev.ifp rfl (Ev.ifp (Int.natCast_nonneg b) (Ev.ifp (by omega) ?_)))
                  rw [Int.toNat_natCast, e2.out]
                  have hlb : left.testBit b = true := by
                    rw [Nat.testBit_and, Bool.and_eq_true] at hon; exact hon.2
                  have hlt : (bl (clr left (2 ^ b))).length < (bl left).length := by
                    rw [bl_clr _ _ hl16, List.length_filter_lt_length_iff_exists]
                    exact ⟨b, (mem_bl _ _ hl16).2 hlb, by simp [Nat.testBit_two_pow_self]⟩
                  refine Ev.bind (ih (clr left (2 ^ b)) (a + 1) (d.set b true) (by omega) (by rw [List.length_set]; exact hd) (clr_lt_two _ _ _ hl2) (fun j hj => ?_) (by omega)) (Ev.bindC (l1Most_eq _ _) ?_)
                  · rw [testBit_clr _ _ _ hl16, hleft j hj, Nat.testBit_two_pow]
                    simp only [List.getD_eq_getElem?_getD]
                    by_cases e : b = j
                    · subst e
                      rw [List.getElem?_set_self (by omega)]; simp
                    · rw [List.getElem?_set_ne e]; simp [e]
                  · have e7 := set_back d b hdb
                    rw [List.range'_succ, List.filter_cons_of_pos hon, gL_cons]
                    have h9 := ihp (b + 1) (max v (wrap64 (1 + M (clr left (2 ^ b))))) (by omega) (by omega)
                    rw [← e6.out] at h9
                    simp only [Int.toNat_natCast, e7]
                    exact h9
              · refine Ev.ifn hadj (off ?_)
                rw [hbit]; simp [hadj]
          exact part (n - (a + 1)) (a + 1) (M left) (by omega) (by omega)
    exact skip (n - a0) a0 (by omega) hbits0
theorem taMost_eq (n : Nat) (hn : n ≤ 12) (ps : List S98) (T : List (List Bool)) (t : List Int) (hT : TabI n T ps) (ht : MaskI n t ps) (s a : Nat) (d : List Bool) (ha : a ≤ n) (hd : d.length = n) (hs : s < 2 ^ n)
    (hb : ∀ j, j < n → s.testBit j = (decide (a ≤ j) && !d.getD j false)) : Ev (fun k => spec_taMost.f k T d (a : Int)) (mo t s, d) :=
  taMost_gen (mo t) (mo_zero t) n hn ps T t hT ht (fun s h0 hs => mo_step t s h0 hs) ((bl s).length + 1) s a d ha hd hs hb (Nat.lt_succ_self _)
end Go.Proofs.YtopahhcojncgaaaDoor.G
namespace Go.Proofs.YtopahhcojncgaaaDoor.G
open Go.RowKit Go.Proofs.YtopahhcojncgaaaDoorW.PrintWords Go.Proofs.YtopahhcojncgaaaDoorW.PrintLast Go.Proofs.YtopahhcojncgaaaDoorW.PrintMore
attribute [local go_sem] max2_int min2_int max_two min_two max_three min_three max_four min_four
set_option linter.unusedVariables false
set_option linter.unusedSimpArgs false
mutual
def spec_MostInPairs.l0 : Nat → List (List Bool) → List Bool → List (S98) → Int → List (S98) → Int → Int → Option ((List (S98)) × Bool)
 | 0, _, _, _, _, _, _, _ => none
 | k + 1, x4, x5, x6, x7, x24, x25, x26 => if x26 < x25 then (if 0 ≤ x26 then (if x26 < (x24.length : Int) then (if x7 = 0 then (spec_MostInPairs.j1 k x4 x5 x6 x7 x24 x25 x26 true ((rd_T98 x24 x26).f0) ((rd_T98 x24 x26).f1)) else (if 0 ≤ ((rd_T98 x24 x26).f0) then (if ((rd_T98 x24 x26).f0) < (x5.length : Int) then (if rdOf false x5 ((rd_T98 x24 x26).f0) = true then (spec_MostInPairs.j1 k x4 x5 x6 x7 x24 x25 x26 true ((rd_T98 x24 x26).f0) ((rd_T98 x24 x26).f1)) else (if 0 ≤ ((rd_T98 x24 x26).f1) then (if ((rd_T98 x24 x26).f1) < (x5.length : Int) then (spec_MostInPairs.j1 k x4 x5 x6 x7 x24 x25 x26 (rdOf false x5 ((rd_T98 x24 x26).f1)) ((rd_T98 x24 x26).f0) ((rd_T98 x24 x26).f1)) else (none)) else (none))) else (none)) else (none))) else (none)) else (none)) else (some (x6, true))
def spec_MostInPairs.j1 : Nat → List (List Bool) → List Bool → List (S98) → Int → List (S98) → Int → Int → Bool → Int → Int → Option ((List (S98)) × Bool)
 | 0, _, _, _, _, _, _, _, _, _, _ => none
 | k + 1, x4, x5, x6, x7, x24, x25, x26, x45, x367000, x367001 => if x45 = true then (spec_MostInPairs.l0 k x4 x5 x6 x7 x24 x25 (wrap64 (x26 + 1))) else ((some (([] : List Bool) : List Bool)).bind fun y369 => (if y369.length + x5.length < 140737488355328 then ((some (y369 ++ x5 : List Bool)).bind fun y372 => (if 0 ≤ x367000 then (if x367000 < (y372.length : Int) then (if 0 ≤ x367001 then (if x367001 < (y372.length : Int) then (spec_MostInPairs.l1 k x4 x5 x6 x7 ((y372.set (x367000 : Int).toNat true).set (x367001 : Int).toNat true) 0 x24 x25 x26 x367000 x367001) else (none)) else (none)) else (none)) else (none))) else (none)))
def spec_MostInPairs.l1 : Nat → List (List Bool) → List Bool → List (S98) → Int → List Bool → Int → List (S98) → Int → Int → Int → Int → Option ((List (S98)) × Bool)
 | 0, _, _, _, _, _, _, _, _, _, _, _ => none
 | k + 1, x4, x5, x6, x7, x10, x11, x24, x25, x26, x367000, x367001 => if x11 < x367000 then (if 0 ≤ x11 then (if x11 < (x10.length : Int) then (spec_MostInPairs.l1 k x4 x5 x6 x7 (x10.set (x11 : Int).toNat true) (wrap64 (x11 + 1)) x24 x25 x26 x367000 x367001) else (none)) else (none)) else ((spec_taMost.f k x4 x10 0).bind fun bt378 => (if (wrap64 (1 + bt378.1)) = x7 then (if x6.length < 8796093022208 then (if 0 ≤ x367000 then (if x367000 < (x5.length : Int) then (if 0 ≤ x367001 then (if x367001 < (x5.length : Int) then (spec_MostInPairs.l0 k x4 ((x5.set (x367000 : Int).toNat true).set (x367001 : Int).toNat true) (x6 ++ [(⟨x367000, x367001⟩ : S98)]) (wrap64 (x7 - 1)) x24 x25 (wrap64 (x26 + 1))) else (none)) else (none)) else (none)) else (none)) else (none)) else (spec_MostInPairs.l0 k x4 x5 x6 x7 x24 x25 (wrap64 (x26 + 1)))))
end
def spec_MostInPairs.f (k : Nat) (a0_0 : Int) (l0_1 : List (S98)) : Option ((List (S98)) × Bool) := (spec_paGood.f k a0_0 l0_1).bind fun t356 => (if t356 = true then ((spec_paTable.f k a0_0 l0_1).bind fun t357 => (if 0 ≤ a0_0 then (if (a0_0 : Int).toNat ≤ 281474976710656 then ((spec_taMost.f k t357 (List.replicate (a0_0 : Int).toNat false) 0).bind fun bt363 => (spec_MostInPairs.l0 k t357 bt363.2 ([] : List (S98)) bt363.1 l0_1 (l0_1.length : Int) 0)) else (none)) else (none))) else (some (([] : List (S98)), false)))
theorem spec_MostInPairs.mono_l : ∀ k, (∀ y0 y1 y2 y3 y4 y5 y6, LeO (spec_MostInPairs.l0 k y0 y1 y2 y3 y4 y5 y6) (spec_MostInPairs.l0 (k + 1) y0 y1 y2 y3 y4 y5 y6)) ∧ (∀ y0 y1 y2 y3 y4 y5 y6 y7 y8 y9, LeO (spec_MostInPairs.j1 k y0 y1 y2 y3 y4 y5 y6 y7 y8 y9) (spec_MostInPairs.j1 (k + 1) y0 y1 y2 y3 y4 y5 y6 y7 y8 y9)) ∧ (∀ y0 y1 y2 y3 y4 y5 y6 y7 y8 y9 y10, LeO (spec_MostInPairs.l1 k y0 y1 y2 y3 y4 y5 y6 y7 y8 y9 y10) (spec_MostInPairs.l1 (k + 1) y0 y1 y2 y3 y4 y5 y6 y7 y8 y9 y10))
 | 0 => ⟨fun _ _ _ _ _ _ _ r h => by simp [spec_MostInPairs.l0] at h, fun _ _ _ _ _ _ _ _ _ _ r h => by simp [spec_MostInPairs.j1] at h, fun _ _ _ _ _ _ _ _ _ _ _ r h => by simp [spec_MostInPairs.l1] at h⟩
 | k + 1 => by
  obtain ⟨ih0, ih1, ih2⟩ := spec_MostInPairs.mono_l k
  refine ⟨?_, ?_, ?_⟩
  ·intro y0 y1 y2 y3 y4 y5 y6
   unfold spec_MostInPairs.l0
   repeat' first
   | (with_reducible exact ih0 _ _ _ _ _ _ _)
   | (with_reducible exact ih1 _ _ _ _ _ _ _ _ _ _)
   | (with_reducible exact ih2 _ _ _ _ _ _ _ _ _ _ _)
   | (with_reducible exact spec_paGood.mono _ _ _)
   | (with_reducible exact spec_paTable.mono _ _ _)
   | (with_reducible exact spec_taMost.mono _ _ _ _)
   | (with_reducible exact LeO.refl _)
   | (with_reducible exact LeO.none _)
   | (with_reducible refine LeO.ite ?_ ?_)
   | (with_reducible refine LeO.bind ?_ (fun _ => ?_))
   | exact ih0 _ _ _ _ _ _ _
   | exact ih1 _ _ _ _ _ _ _ _ _ _
   | exact ih2 _ _ _ _ _ _ _ _ _ _ _
   | exact spec_paGood.mono _ _ _
   | exact spec_paTable.mono _ _ _
   | exact spec_taMost.mono _ _ _ _
   | exact LeO.none _
   | refine LeO.ite ?_ ?_
   | refine LeO.bind ?_ (fun _ => ?_)
  ·intro y0 y1 y2 y3 y4 y5 y6 y7 y8 y9
   unfold spec_MostInPairs.j1
   repeat' first
   | (with_reducible exact ih0 _ _ _ _ _ _ _)
   | (with_reducible exact ih1 _ _ _ _ _ _ _ _ _ _)
   | (with_reducible exact ih2 _ _ _ _ _ _ _ _ _ _ _)
   | (with_reducible exact spec_paGood.mono _ _ _)
   | (with_reducible exact spec_paTable.mono _ _ _)
   | (with_reducible exact spec_taMost.mono _ _ _ _)
   | (with_reducible exact LeO.refl _)
   | (with_reducible exact LeO.none _)
   | (with_reducible refine LeO.ite ?_ ?_)
   | (with_reducible refine LeO.bind ?_ (fun _ => ?_))
   | exact ih0 _ _ _ _ _ _ _
   | exact ih1 _ _ _ _ _ _ _ _ _ _
   | exact ih2 _ _ _ _ _ _ _ _ _ _ _
   | exact spec_paGood.mono _ _ _
   | exact spec_paTable.mono _ _ _
   | exact spec_taMost.mono _ _ _ _
   | exact LeO.none _
   | refine LeO.ite ?_ ?_
   | refine LeO.bind ?_ (fun _ => ?_)
  ·intro y0 y1 y2 y3 y4 y5 y6 y7 y8 y9 y10
   unfold spec_MostInPairs.l1
   repeat' first
   | (with_reducible exact ih0 _ _ _ _ _ _ _)
   | (with_reducible exact ih1 _ _ _ _ _ _ _ _ _ _)
   | (with_reducible exact ih2 _ _ _ _ _ _ _ _ _ _ _)
   | (with_reducible exact spec_paGood.mono _ _ _)
   | (with_reducible exact spec_paTable.mono _ _ _)
   | (with_reducible exact spec_taMost.mono _ _ _ _)
   | (with_reducible exact LeO.refl _)
   | (with_reducible exact LeO.none _)
   | (with_reducible refine LeO.ite ?_ ?_)
   | (with_reducible refine LeO.bind ?_ (fun _ => ?_))
   | exact ih0 _ _ _ _ _ _ _
   | exact ih1 _ _ _ _ _ _ _ _ _ _
   | exact ih2 _ _ _ _ _ _ _ _ _ _ _
   | exact spec_paGood.mono _ _ _
   | exact spec_paTable.mono _ _ _
   | exact spec_taMost.mono _ _ _ _
   | exact LeO.none _
   | refine LeO.ite ?_ ?_
   | refine LeO.bind ?_ (fun _ => ?_)
theorem spec_MostInPairs.mono : ∀ a0 a1 k, LeO (spec_MostInPairs.f k a0 a1) (spec_MostInPairs.f (k + 1) a0 a1) := by
 intro a0 a1 k
 obtain ⟨ih0, ih1, ih2⟩ := spec_MostInPairs.mono_l k
 unfold spec_MostInPairs.f
 repeat' first
   | (with_reducible exact ih0 _ _ _ _ _ _ _)
   | (with_reducible exact ih1 _ _ _ _ _ _ _ _ _ _)
   | (with_reducible exact ih2 _ _ _ _ _ _ _ _ _ _ _)
   | (with_reducible exact spec_paGood.mono _ _ _)
   | (with_reducible exact spec_paTable.mono _ _ _)
   | (with_reducible exact spec_taMost.mono _ _ _ _)
   | (with_reducible exact LeO.refl _)
   | (with_reducible exact LeO.none _)
   | (with_reducible refine LeO.ite ?_ ?_)
   | (with_reducible refine LeO.bind ?_ (fun _ => ?_))
   | exact ih0 _ _ _ _ _ _ _
   | exact ih1 _ _ _ _ _ _ _ _ _ _
   | exact ih2 _ _ _ _ _ _ _ _ _ _ _
   | exact spec_paGood.mono _ _ _
   | exact spec_paTable.mono _ _ _
   | exact spec_taMost.mono _ _ _ _
   | exact LeO.none _
   | refine LeO.ite ?_ ?_
   | refine LeO.bind ?_ (fun _ => ?_)
set_option maxHeartbeats 8000000 in
set_option maxRecDepth 100000 in
theorem spec_MostInPairs.calls (k : Nat) (a0_0 : Int) (A0_1 : Option Addr) (c0_1 : Nat) (l0_1 : List (S98)) (r1 : List (S98)) (r2 : Bool) (w : World) (hr0_1 : Kd.C k98 w A0_1 l0_1.length l0_1) (hc0_1 : l0_1.length ≤ c0_1) (h : spec_MostInPairs.f k a0_0 l0_1 = some (r1, r2)) :
  Calls Tryd.prog 26 #[.agg #[.int .i64 a0_0, .slice A0_1 l0_1.length c0_1]] w fun e w' => ∃ v0_ : Value, e = .returned (.tuple #[v0_, .bool r2]) ∧ Kd.R k98 98 w' w.heap.size (fun _ => True) v0_ r1 ∧ Below w.heap.size w w' := by
 have hu30 := Tryd.underlying30
 have hu98 := Tryd.underlying98
 have HR0_1 := Aside0.mk hr0_1
 have HC0_1 := Aside0.mk hc0_1
 clear hr0_1 hc0_1
 have HB := Aside0.mk (Below.refl w.heap.size w)
 have H : ((spec_paGood.f k a0_0 l0_1).bind fun t356 => (if t356 = true then ((spec_paTable.f k a0_0 l0_1).bind fun t357 => (if 0 ≤ a0_0 then (if (a0_0 : Int).toNat ≤ 281474976710656 then ((spec_taMost.f k t357 (List.replicate (a0_0 : Int).toNat false) 0).bind fun bt363 => (spec_MostInPairs.l0 k t357 bt363.2 ([] : List (S98)) bt363.1 l0_1 (l0_1.length : Int) 0)) else (none)) else (none))) else (some (([] : List (S98)), false)))) = some (r1, r2) := h
 clear h
 replace H := Option.bind_eq_some_iff.mp H
 obtain ⟨t356, A20, H⟩ := H
 replace H : (if t356 = true then ((spec_paTable.f k a0_0 l0_1).bind fun t357 => (if 0 ≤ a0_0 then (if (a0_0 : Int).toNat ≤ 281474976710656 then ((spec_taMost.f k t357 (List.replicate (a0_0 : Int).toNat false) 0).bind fun bt363 => (spec_MostInPairs.l0 k t357 bt363.2 ([] : List (S98)) bt363.1 l0_1 (l0_1.length : Int) 0)) else (none)) else (none))) else (some (([] : List (S98)), false))) = some (r1, r2) := H
 have A2 := Aside0.mk A20
 clear A20
 by_cases c3 : t356 = true
 ·subst c3
  have H1 : ((spec_paTable.f k a0_0 l0_1).bind fun t357 => (if 0 ≤ a0_0 then (if (a0_0 : Int).toNat ≤ 281474976710656 then ((spec_taMost.f k t357 (List.replicate (a0_0 : Int).toNat false) 0).bind fun bt363 => (spec_MostInPairs.l0 k t357 bt363.2 ([] : List (S98)) bt363.1 l0_1 (l0_1.length : Int) 0)) else (none)) else (none))) = some (r1, r2) := by rw [if_pos rfl] at H; exact H
  clear H
  have H := H1
  clear H1
  replace H := Option.bind_eq_some_iff.mp H
  obtain ⟨t357, A40, H⟩ := H
  replace H : (if 0 ≤ a0_0 then (if (a0_0 : Int).toNat ≤ 281474976710656 then ((spec_taMost.f k t357 (List.replicate (a0_0 : Int).toNat false) 0).bind fun bt363 => (spec_MostInPairs.l0 k t357 bt363.2 ([] : List (S98)) bt363.1 l0_1 (l0_1.length : Int) 0)) else (none)) else (none)) = some (r1, r2) := H
  have A4 := Aside0.mk A40
  clear A40
  by_cases c5 : 0 ≤ a0_0
  ·rw [if_pos c5] at H
   have c5b0 := eq_true c5
   have c5b1 : decide (0 ≤ a0_0) = true := decide_eq_true c5
   clear c5
   by_cases c6 : (a0_0 : Int).toNat ≤ 281474976710656
   ·rw [if_pos c6] at H
    have c6b0 := eq_true c6
    have c6b1 : decide ((a0_0 : Int).toNat ≤ 281474976710656) = true := decide_eq_true c6
    clear c6
    obtain ⟨y360, hy360⟩ : ∃ y_ : List Bool, y_ = (List.replicate (a0_0 : Int).toNat false) := ⟨_, rfl⟩
    replace H : ((spec_taMost.f k t357 y360 0).bind fun bt363 => (spec_MostInPairs.l0 k t357 bt363.2 ([] : List (S98)) bt363.1 l0_1 (l0_1.length : Int) 0)) = some (r1, r2) := by first | (rw [hy360]; with_reducible exact H) | (have H2_ := (Option.bind_some _ _).symm.trans H; rw [hy360]; with_reducible exact H2_) | (have H2_ := (Option.bind_some _ _).symm.trans H; with_reducible exact H2_) | with_reducible exact H | (rw [hy360]; exact H) | exact H
    have Ny360 := Aside0.mk hy360
    clear hy360
    replace H := Option.bind_eq_some_iff.mp H
    obtain ⟨⟨t363, t364⟩, A70, H⟩ := H
    replace H : (spec_MostInPairs.l0 k t357 t364 ([] : List (S98)) t363 l0_1 (l0_1.length : Int) 0) = some (r1, r2) := H
    have A7 := Aside0.mk A70
    clear A70
    have H' := Aside0.mk H
    clear H
    go_enter Tryd.func26, Tryd.ntmps26
    go_wp2_with (first | ((with_reducible refine gate_dst (N := 1) rfl ?_); refine box_event ?hg (N := 1) ?hd (cs := #[.int .i64 a0_0, .slice A0_1 l0_1.length c0_1]) (t := 30) ?hr ?_; (case hd => rfl); (case hg => rfl); (case hr => first | (go_simp; done) | (go_simp; rfl)); intro gb355 hg w8 hbox hb; have n0_ := Aside0.mk (below_step (by repeat (first | (with_reducible first | exact HB.out | apply below_alloc | apply pw_below_drewN | apply below_drew1) | exact HB.out)) hb); have n1_ := Aside0.mk (hbox); have n2_ := Aside0.mk ((by rw [hg]; exact (below_size (by repeat (first | (with_reducible first | exact HB.out | apply below_alloc | apply pw_below_drewN | apply below_drew1) | exact HB.out))) : w.heap.size ≤ gb355)); have n3_ := Aside0.mk ((by rw [hg]; exact (below_size (by repeat (first | (with_reducible first | exact HB.out | apply below_alloc | apply pw_below_drewN | apply below_drew1) | exact HB.out))) : w.heap.size ≤ gb355)); clear HB; have HB := n0_; have BK355 := n1_; have GW355 := n2_; have GE355 := n3_; clear n0_ n1_ n2_ n3_; clear hb hbox hg; have hcz9_0 : w8.cell? ⟨gb355, 0, none⟩ = some (.int .i64 a0_0) := (blk_cell BK355.out 0).trans rfl; have hcz9_1 : w8.cell? ⟨gb355, 1, none⟩ = some (.slice A0_1 l0_1.length c0_1) := (blk_cell BK355.out 1).trans rfl; have hfz9_0 := blk_frozen BK355.out 0; have hfz9_1 := blk_frozen BK355.out 1) | ((with_reducible refine gate_callee (f := 66) rfl ?_); refine goesL_ (some 13) rfl rfl Tryd.func66 (by kernel_rfl) rfl #[.agg #[.int .i64 a0_0, .slice A0_1 l0_1.length c0_1]] rfl (by (try simp only [List.map_toArray, List.map_cons, List.map_nil]); first | done | rfl | (simp only [List.length_drop, List.length_take]; rfl)) ?_; (with_reducible refine (spec_paGood.calls k a0_0 _ _ l0_1 true _ ?side1 ?side2 A2.out).mono ?_); (case side1 => repeat (first | exact (Kd.C_below HR0_1.out HB.out) | (with_reducible refine Kd.C_alloc ?_ _) | (with_reducible refine Kd.C_drewN ?_ _) | (with_reducible refine Kd.C_drew ?_))); (case side2 => exact HC0_1.out); rintro e w10 ⟨rfl, hb⟩; refine ⟨_, rfl, ?_⟩; have n0_ := Aside0.mk (blk_below (g := gb355) (o := .cells #[.int .i64 a0_0, .slice A0_1 l0_1.length c0_1] 30 (0, 0)) (by (with_reducible repeat (first | refine blk_drewN ?_ _ | refine blk_drew ?_ | refine blk_alloc ?_ _)); exact BK355.out) hb); have n1_ := Aside0.mk (below_step (by repeat (first | (with_reducible first | exact HB.out | apply below_alloc | apply pw_below_drewN | apply below_drew1 | refine below_set ?_ GE355.out) | exact HB.out)) hb); clear BK355; clear HB; have BK355 := n0_; have HB := n1_; clear n0_ n1_; (try clear hb); (try clear hb2); (try clear hk); (try clear hi); have hcz11_0 : w10.cell? ⟨gb355, 0, none⟩ = some (.int .i64 a0_0) := (blk_cell BK355.out 0).trans rfl; have hcz11_1 : w10.cell? ⟨gb355, 1, none⟩ = some (.slice A0_1 l0_1.length c0_1) := (blk_cell BK355.out 1).trans rfl; have hfz11_0 := blk_frozen BK355.out 0; have hfz11_1 := blk_frozen BK355.out 1) | ((with_reducible refine gate_callee (f := 79) rfl ?_); refine goesL_ (some 16) rfl rfl Tryd.func79 (by kernel_rfl) rfl #[.agg #[.int .i64 a0_0, .slice A0_1 l0_1.length c0_1]] rfl (by (try simp only [List.map_toArray, List.map_cons, List.map_nil]); first | done | rfl | (simp only [List.length_drop, List.length_take]; rfl)) ?_; (with_reducible refine (spec_paTable.calls k a0_0 _ _ l0_1 t357 _ ?side1 ?side2 A4.out).mono ?_); (case side1 => repeat (first | exact (Kd.C_below HR0_1.out HB.out) | (with_reducible refine Kd.C_alloc ?_ _) | (with_reducible refine Kd.C_drewN ?_ _) | (with_reducible refine Kd.C_drew ?_))); (case side2 => exact HC0_1.out); rintro e w12 ⟨v358, rfl, ho0, hb⟩; refine ⟨_, rfl, ?_⟩; have n0_ := Aside0.mk (Kd.S_lower ho0 (below_size (by repeat (first | (with_reducible first | exact HB.out | apply below_alloc | apply pw_below_drewN | apply below_drew1 | refine below_set ?_ GE355.out) | exact HB.out)))); have n1_ := Aside0.mk (blk_below (g := gb355) (o := .cells #[.int .i64 a0_0, .slice A0_1 l0_1.length c0_1] 30 (0, 0)) (by (with_reducible repeat (first | refine blk_drewN ?_ _ | refine blk_drew ?_ | refine blk_alloc ?_ _)); exact BK355.out) hb); have n2_ := Aside0.mk (below_step (by repeat (first | (with_reducible first | exact HB.out | apply below_alloc | apply pw_below_drewN | apply below_drew1 | refine below_set ?_ GE355.out) | exact HB.out)) hb); clear BK355; clear HB; have HO359 := n0_; have BK355 := n1_; have HB := n2_; clear n0_ n1_ n2_; (try clear hb); (try clear hb2); (try clear hk); (try clear hi); (try clear ho0); have hcz13_0 : w12.cell? ⟨gb355, 0, none⟩ = some (.int .i64 a0_0) := (blk_cell BK355.out 0).trans rfl; have hcz13_1 : w12.cell? ⟨gb355, 1, none⟩ = some (.slice A0_1 l0_1.length c0_1) := (blk_cell BK355.out 1).trans rfl; have hfz13_0 := blk_frozen BK355.out 0; have hfz13_1 := blk_frozen BK355.out 1) | ((with_reducible refine gate_dst (N := 19) rfl ?_); refine Kd.R_make Kd.bool _ 4 rfl (N := 19) rfl 101 _ _ rfl a0_0 rfl rfl Tryd.underlying101 (.bool false) 1 info4 rfl (by decide) (by omega) false (ok := fun _ => True) (okp := fun _ => True) rfl (fun _ hk => hk) trivial (of_decide_eq_true (by first | (with_reducible assumption) | assumption)) (Nat.le_trans (Nat.mul_le_mul_right _ (of_decide_eq_true (by first | (with_reducible assumption) | assumption) : a0_0.toNat ≤ 281474976710656)) (by omega)) (Below.refl _ _) (Nat.le_refl _) ?_; intro v361 w14 ho15 hb hg_ hnew_; clear hg_ hnew_; (first | rw [← Ny360.out] at ho15 | (simp only [Int.reduceToNat] at ho15; rw [← Ny360.out] at ho15)); have n0_ := Aside0.mk (Kd.S_elder' (by (with_reducible repeat (first | apply Kd.S_alloc | apply Kd.S_drewN | apply Kd.S_drew)); exact HO359.out) (Kd.R_base ho15) hb); have n1_ := Aside0.mk (Kd.R_lower ho15 (below_size (by repeat (first | (with_reducible first | exact HB.out | apply below_alloc | apply pw_below_drewN | apply below_drew1 | refine below_set ?_ GE355.out) | exact HB.out)))); have n2_ := Aside0.mk (blk_below (g := gb355) (o := .cells #[.int .i64 a0_0, .slice A0_1 l0_1.length c0_1] 30 (0, 0)) (by (with_reducible repeat (first | refine blk_drewN ?_ _ | refine blk_drew ?_ | refine blk_alloc ?_ _)); exact BK355.out) hb); have n3_ := Aside0.mk (below_step (by repeat (first | (with_reducible first | exact HB.out | apply below_alloc | apply pw_below_drewN | apply below_drew1 | refine below_set ?_ GE355.out) | exact HB.out)) hb); clear HO359; clear BK355; clear HB; have HO359 := n0_; have HO362 := n1_; have BK355 := n2_; have HB := n3_; clear n0_ n1_ n2_ n3_; clear hb ho15; obtain ⟨Ao16, co16, eo16⟩ := Kd.S_slice HO359.out; subst eo16; obtain ⟨Ao17, co17, eo17⟩ := Kd.R_slice HO362.out; subst eo17) | ((with_reducible refine gate_callee (f := 80) rfl ?_); refine goesL_ (some 22) rfl rfl Tryd.func80 (by kernel_rfl) rfl #[.slice Ao16 t357.length co16, .slice Ao17 y360.length co17, .int .i64 0] rfl (by (try simp only [List.map_toArray, List.map_cons, List.map_nil]); first | done | rfl | (simp only [List.length_drop, List.length_take]; rfl)) ?_; (with_reducible refine (spec_taMost.calls k _ _ t357 (fun k_ => some k_ = (.slice Ao17 y360.length co17 : Value).ownBlock) (.slice Ao17 y360.length co17) y360 0 t363 t364 w _ ?side1 ?side2 ?side3 ?side4 A7.out).mono ?_); (case side1 => repeat (first | (with_reducible first | exact HB.out | apply below_alloc | apply pw_below_drewN | apply below_drew1 | refine below_set ?_ GE355.out) | exact HB.out)); (case side2 => exact Kd.C_kept_own ((Kd.S_R HO359.out)) (fun k_ hk_ hs_ => (hk_.2) hs_)); (case side3 => exact (Kd.S_reads' HO359.out).2.1); (case side4 => exact Kd.R_tight rfl HO362.out); rintro e w18 ⟨rfl, hy0, hb, hkp⟩; refine ⟨_, rfl, ?_⟩; have n0_ := Aside0.mk (blk_kept (by (with_reducible repeat (first | refine blk_drewN ?_ _ | refine blk_drew ?_ | refine blk_alloc ?_ _)); exact BK355.out) hkp (fun hs_ => (fun e_ => (Kd.R_ne HO362.out BK355.out (by decide)) e_) hs_)); have n1_ := Aside0.mk (Kd.S_mono (ok' := fun k_ => some k_ ≠ (.slice Ao17 y360.length co17 : Value).ownBlock) (Kd.S_keptB (HO359.out) hkp (fun k_ hk_ hs_ => (hk_.2) hs_)) (fun k_ hk_ => hk_.1.2)); have n2_ := Aside0.mk (Kd.R_reok rfl hy0 (fun k_ e_ => HO362.out.1 k_ e_)); have n3_ := Aside0.mk (hb); clear BK355; clear HO359; clear HO362; clear HB; have BK355 := n0_; have HO359 := n1_; have HO362 := n2_; have HB := n3_; clear n0_ n1_ n2_ n3_; (try clear hb); (try clear hkp); (try clear hy0); have hcz19_0 : w18.cell? ⟨gb355, 0, none⟩ = some (.int .i64 a0_0) := (blk_cell BK355.out 0).trans rfl; have hcz19_1 : w18.cell? ⟨gb355, 1, none⟩ = some (.slice A0_1 l0_1.length c0_1) := (blk_cell BK355.out 1).trans rfl; have hfz19_0 := blk_frozen BK355.out 0; have hfz19_1 := blk_frozen BK355.out 1))
    go_loopg [6, 7, 26] k (fun kq v6 v7 v26 w' => ∃ (x5_1 : List Bool) (x6_1 : List (S98)) (x7_1 : Int) (x26_1 : Int), v7 = .int .i64 x7_1 ∧ v26 = .int .i64 x26_1 ∧ Aside0 (spec_MostInPairs.l0 kq t357 x5_1 x6_1 x7_1 l0_1 (l0_1.length : Int) x26_1 = some (r1, r2)) ∧ Aside0 (kq ≤ k) ∧ Aside0 (Kd.S (Kd.slice 4 Kd.bool) 101 w' w.heap.size (fun k_ => some k_ ≠ ((.slice Ao17 y360.length co17) : Value).ownBlock) (.slice Ao16 t357.length co16) t357) ∧ Aside0 (Kd.R Kd.bool 4 w' w.heap.size (fun _ => True) (.slice Ao17 y360.length co17) x5_1) ∧ Aside0 (Kd.R k98 98 w' w.heap.size (fun _ => True) v6 x6_1) ∧ Aside0 (w'.heap[gb355]? = some (.cells #[.int .i64 a0_0, (.slice A0_1 l0_1.length c0_1)] 30 (0, 0))) ∧ Aside0 (Below w.heap.size w w'))
    case atStart => exact ⟨(t364), (([] : List (S98))), (t363), (0), (by first | rfl | (simp; done) | (simp [*]; done)), (by first | rfl | (simp; done) | (simp [*]; done)), H', ⟨Nat.le_refl _⟩, ⟨by (with_reducible repeat (first | apply Kd.S_alloc | apply Kd.S_drewN | apply Kd.S_drew)); exact HO359.out⟩, ⟨by (with_reducible repeat (first | apply Kd.R_alloc | apply Kd.R_drewN | apply Kd.R_drew)); exact HO362.out⟩, ⟨by first | exact Kd.R_nil _ _ _ _ _ | exact Kd.N_nil _ _ _ _ _ | exact Kd.V_nil _ _ _ _ _ | exact Kd.Q_nil _ _ _ _ _ | exact Kd.S_nil _ _ _ _ _⟩, ⟨by (with_reducible repeat (first | refine blk_drewN ?_ _ | refine blk_drew ?_ | refine blk_alloc ?_ _)); exact BK355.out⟩, ⟨by repeat (first | (with_reducible first | exact HB.out | apply below_alloc | apply pw_below_drewN | apply below_drew1 | refine below_set ?_ GE355.out) | exact HB.out)⟩⟩
    case round =>
     clear H'
     try clear c2
     try clear p2
     try clear c3
     try clear c5
     try clear c5b0
     try clear c5b1
     try clear c6
     try clear c6b0
     try clear c6b1
     try clear c7
     try clear c8
     try clear hcz11_0
     try clear hcz11_1
     try clear hcz13_0
     try clear hcz13_1
     try clear hcz19_0
     try clear hcz19_1
     try clear hcz9_0
     try clear hcz9_1
     try clear hfz11_0
     try clear hfz11_1
     try clear hfz13_0
     try clear hfz13_1
     try clear hfz19_0
     try clear hfz19_1
     try clear hfz9_0
     try clear hfz9_1
     obtain ⟨x5_1, x6_1, x7_1, x26_1, rfl, rfl, HA, HK1, HO_4, HO_5, HO_6, BK355, HB⟩ := hrel
     have hl5_1 := (Kd.R_reads' HO_5.out).1
     rw [hl5_1] at HO_5
     (try simp only [hl5_1])
     (try simp only [hl5_1] at BK355)
     (try simp only [hl5_1] at HO_4)
     (try simp only [hl5_1] at HO_6)
     cases gk with
     | zero => exact absurd HA.out (by simp [spec_MostInPairs.l0])
     | succ k1 =>
      have H := HA.out
      clear HA
      simp only [spec_MostInPairs.l0] at H
      by_cases c20 : x26_1 < (l0_1.length : Int)
      ·rw [if_pos c20] at H
       have c20b0 : decide (x26_1 < (l0_1.length : Int)) = true := decide_eq_true c20
       clear c20
       by_cases c21 : 0 ≤ x26_1
       ·rw [if_pos c21] at H
        have c21b0 : decide (0 ≤ x26_1) = true := decide_eq_true c21
        clear c21
        by_cases c22 : x26_1 < (l0_1.length : Int)
        ·rw [if_pos c22] at H
         have c22b0 : decide (x26_1 < (l0_1.length : Int)) = true := decide_eq_true c22
         clear c22
         have HC23 := Aside0.mk H
         clear H
         have p365 : 0 ≤ (x26_1 : Int) := of_decide_eq_true (by first | (with_reducible assumption) | assumption)
         have q365 : x26_1 < (l0_1.length : Int) := of_decide_eq_true (by first | (with_reducible assumption) | assumption)
         obtain ⟨ad365, e365, hx365_0, hx365_1⟩ := at_T98 HR0_1.out x26_1 p365 q365
         cases e365
         replace hx365_0 := (HB.out.cell (World.block_lt_of_cell? w _ hx365_0)).trans hx365_0
         replace hx365_1 := (HB.out.cell (World.block_lt_of_cell? w _ hx365_1)).trans hx365_1
         replace p365 := eq_true p365
         replace q365 := eq_true q365
         go_upto_region 10 with (first | ((with_reducible refine gate_dst (N := 9) rfl ?_); refine box_event ?hg (N := 9) ?hd (cs := #[.int .i64 0, .int .i64 0]) (t := 98) ?hr ?_; (case hd => rfl); (case hg => rfl); (case hr => first | (go_simp; done) | (go_simp; rfl)); intro gb366 hg w24 hbox hb; have n0_ := Aside0.mk (Kd.S_below (by (with_reducible repeat (first | apply Kd.S_alloc | apply Kd.S_drewN | apply Kd.S_drew)); exact HO_4.out) hb); have n1_ := Aside0.mk (Kd.R_below (by (with_reducible repeat (first | apply Kd.R_alloc | apply Kd.R_drewN | apply Kd.R_drew)); exact HO_5.out) hb); have n2_ := Aside0.mk (Kd.R_below (Kd.R_elderB (by (with_reducible repeat (first | apply Kd.R_alloc | apply Kd.R_drewN | apply Kd.R_drew)); exact HO_6.out) gb366 (Nat.le_of_eq hg.symm)) hb); have n3_ := Aside0.mk (blk_below (g := gb355) (o := .cells #[.int .i64 a0_0, .slice (some ad365) l0_1.length c0_1] 30 (0, 0)) (by (with_reducible repeat (first | refine blk_drewN ?_ _ | refine blk_drew ?_ | refine blk_alloc ?_ _)); exact BK355.out) hb); have n4_ := Aside0.mk (below_step (by repeat (first | (with_reducible first | exact HB.out | apply below_alloc | apply pw_below_drewN | apply below_drew1 | refine below_set ?_ GE355.out) | exact HB.out)) hb); have n5_ := Aside0.mk (hbox); have n6_ := Aside0.mk ((by rw [hg]; exact (below_size (by repeat (first | (with_reducible first | exact HB.out | apply below_alloc | apply pw_below_drewN | apply below_drew1 | refine below_set ?_ GE355.out) | exact HB.out))) : w.heap.size ≤ gb366)); have n7_ := Aside0.mk ((by rw [hg]; exact (below_size (by repeat (first | (with_reducible first | exact HB.out | apply below_alloc | apply pw_below_drewN | apply below_drew1 | refine below_set ?_ GE355.out) | exact HB.out))) : w.heap.size ≤ gb366)); have n8_ := Aside0.mk ((by rw [hg]; exact Nat.ne_of_lt (blk_lt (g := gb355) (o := .cells #[.int .i64 a0_0, .slice (some ad365) l0_1.length c0_1] 30 (0, 0)) (by (with_reducible repeat (first | refine blk_drewN ?_ _ | refine blk_drew ?_ | refine blk_alloc ?_ _)); exact BK355.out)) : gb355 ≠ gb366)); have n9_ := Aside0.mk ((by rw [hg]; exact Nat.ne_of_gt (blk_lt (g := gb355) (o := .cells #[.int .i64 a0_0, .slice (some ad365) l0_1.length c0_1] 30 (0, 0)) (by (with_reducible repeat (first | refine blk_drewN ?_ _ | refine blk_drew ?_ | refine blk_alloc ?_ _)); exact BK355.out)) : gb366 ≠ gb355)); clear HO_4; clear HO_5; clear HO_6; clear BK355; clear HB; have HO_4 := n0_; have HO_5 := n1_; have HO_6 := n2_; have BK355 := n3_; have HB := n4_; have BK366 := n5_; have GW366 := n6_; have GE366 := n7_; have NB355_366 := n8_; have NB366_355 := n9_; clear n0_ n1_ n2_ n3_ n4_ n5_ n6_ n7_ n8_ n9_; clear hb hbox hg; have hnb25 := NB366_355.out; have hnc25 := NB355_366.out; have hcz26_0 : w24.cell? ⟨gb366, 0, none⟩ = some (.int .i64 0) := (blk_cell BK366.out 0).trans rfl; have hcz26_1 : w24.cell? ⟨gb366, 1, none⟩ = some (.int .i64 0) := (blk_cell BK366.out 1).trans rfl; have hfz26_0 := blk_frozen BK366.out 0; have hfz26_1 := blk_frozen BK366.out 1))
         (try simp only [Act.put, List.setIfInBounds_toArray, List.set_cons_zero, List.set_cons_succ])
         go_cut [45] (fun v45 wc => ∃ (kq : Nat) (x45_22 : Bool), v45 = .bool x45_22 ∧ Aside0 (spec_MostInPairs.j1 kq t357 x5_1 x6_1 x7_1 l0_1 (l0_1.length : Int) x26_1 x45_22 ((rd_T98 l0_1 x26_1).f0) ((rd_T98 l0_1 x26_1).f1) = some (r1, r2)) ∧ Aside0 (kq ≤ k1) ∧ Aside0 (Kd.S (Kd.slice 4 Kd.bool) 101 wc w.heap.size (fun k_ => some k_ ≠ ((.slice Ao17 x5_1.length co17) : Value).ownBlock) (.slice Ao16 t357.length co16) t357) ∧ Aside0 (Kd.R Kd.bool 4 wc w.heap.size (fun _ => True) (.slice Ao17 x5_1.length co17) x5_1) ∧ Aside0 (Kd.R k98 98 wc w.heap.size (fun k_ => k_ ≠ gb366) u6 x6_1) ∧ Aside0 (wc.heap[gb355]? = some (.cells #[.int .i64 a0_0, (.slice (some ad365) l0_1.length c0_1)] 30 (0, 0))) ∧ Aside0 (wc.heap[gb366]? = some (.cells #[.int .i64 ((rd_T98 l0_1 x26_1).f0), .int .i64 ((rd_T98 l0_1 x26_1).f1)] 98 (0, 0))) ∧ Aside0 (Below w.heap.size w wc))
         case first =>
          have H := HC23.out
          clear HC23
          by_cases c27 : x7_1 = 0
          ·rw [if_pos c27] at H
           have c27b0 : (x7_1 == 0) = true := beq_iff_eq.mpr c27
           have c27b1 : (x7_1 != 0) = false := bne_eq_false_iff_eq.mpr c27
           clear c27
           (first | rw [c27b0] | (simp only [i64_w, i32_w]; rw [c27b0]) | skip)
           have H' := Aside0.mk H
           clear H
           go_wp2
           go_meet
           case rel => exact ⟨_, (true), (by first | rfl | (simp; done) | (simp [*]; done)), H', ⟨by have := HK1.out; first | omega | exact Nat.le_refl _⟩, ⟨by (try simp only [hl5_1]); (with_reducible repeat (first | apply Kd.S_alloc | apply Kd.S_drewN | apply Kd.S_drew)); exact Kd.S_mono (Kd.S_far (p := ⟨gb366, 1, none⟩) (Kd.S_far (p := ⟨gb366, 0, none⟩) (Kd.S_types HO_4.out BK366.out (by decide)) (fun _ hk => hk.2) (.int .i64 ((rd_T98 l0_1 x26_1).f0))) (fun _ hk => hk.2) (.int .i64 ((rd_T98 l0_1 x26_1).f1))) (fun _ hk => hk.1)⟩, ⟨by (try simp only [hl5_1]); (with_reducible repeat (first | apply Kd.R_alloc | apply Kd.R_drewN | apply Kd.R_drew)); exact Kd.R_mono (Kd.R_far (p := ⟨gb366, 1, none⟩) (Kd.R_far (p := ⟨gb366, 0, none⟩) (Kd.R_types HO_5.out BK366.out (by decide)) (fun _ hk => hk.2) (.int .i64 ((rd_T98 l0_1 x26_1).f0))) (fun _ hk => hk.2) (.int .i64 ((rd_T98 l0_1 x26_1).f1))) (fun _ hk => trivial)⟩, ⟨by (try simp only [hl5_1]); (with_reducible repeat (first | apply Kd.R_alloc | apply Kd.R_drewN | apply Kd.R_drew)); exact Kd.R_mono (Kd.R_far (p := ⟨gb366, 1, none⟩) (Kd.R_far (p := ⟨gb366, 0, none⟩) (Kd.R_mono HO_6.out (fun k_ hk => (⟨hk, hk.2⟩ : _ ∧ k_ ≠ gb366))) (fun _ hk => hk.2) (.int .i64 ((rd_T98 l0_1 x26_1).f0))) (fun _ hk => hk.2) (.int .i64 ((rd_T98 l0_1 x26_1).f1))) (fun _ hk => hk.1.2)⟩, ⟨by (try simp only [hl5_1]); (with_reducible repeat (first | refine blk_drewN ?_ _ | refine blk_drew ?_ | refine blk_alloc ?_ _)); refine blk_far ?_ NB355_366.out _; (with_reducible repeat (first | refine blk_drewN ?_ _ | refine blk_drew ?_ | refine blk_alloc ?_ _)); refine blk_far ?_ NB355_366.out _; (with_reducible repeat (first | refine blk_drewN ?_ _ | refine blk_drew ?_ | refine blk_alloc ?_ _)); exact BK355.out⟩, ⟨by (try simp only [hl5_1]); (with_reducible repeat (first | refine blk_drewN ?_ _ | refine blk_drew ?_ | refine blk_alloc ?_ _)); refine blk_put (cs := #[.int .i64 ((rd_T98 l0_1 x26_1).f0), .int .i64 0]) ?_ 1 _ rfl; (with_reducible repeat (first | refine blk_drewN ?_ _ | refine blk_drew ?_ | refine blk_alloc ?_ _)); refine blk_put (cs := #[.int .i64 0, .int .i64 0]) ?_ 0 _ rfl; (with_reducible repeat (first | refine blk_drewN ?_ _ | refine blk_drew ?_ | refine blk_alloc ?_ _)); exact BK366.out⟩, ⟨by repeat (first | (with_reducible first | exact HB.out | apply below_alloc | apply pw_below_drewN | apply below_drew1 | refine below_set ?_ GE355.out | refine below_set ?_ GE366.out) | exact HB.out)⟩⟩
          ·rw [if_neg c27] at H
           have c27b0 : (x7_1 == 0) = false := beq_eq_false_iff_ne.mpr c27
           have c27b1 : (x7_1 != 0) = true := bne_iff_ne.mpr c27
           (first | rw [c27b0] | (simp only [i64_w, i32_w]; rw [c27b0]) | skip)
           by_cases c28 : 0 ≤ ((rd_T98 l0_1 x26_1).f0)
           ·rw [if_pos c28] at H
            have c28b0 : decide (0 ≤ ((rd_T98 l0_1 x26_1).f0)) = true := decide_eq_true c28
            clear c28
            by_cases c29 : ((rd_T98 l0_1 x26_1).f0) < (x5_1.length : Int)
            ·rw [if_pos c29] at H
             have c29b0 : decide (((rd_T98 l0_1 x26_1).f0) < (x5_1.length : Int)) = true := decide_eq_true c29
             clear c29
             obtain ⟨bq30, hbq30⟩ : ∃ b_ : Bool, b_ = (rdOf false x5_1 ((rd_T98 l0_1 x26_1).f0)) := ⟨_, rfl⟩
             replace H : (if bq30 = true then (spec_MostInPairs.j1 k1 t357 x5_1 x6_1 x7_1 l0_1 (l0_1.length : Int) x26_1 true ((rd_T98 l0_1 x26_1).f0) ((rd_T98 l0_1 x26_1).f1)) else (if 0 ≤ ((rd_T98 l0_1 x26_1).f1) then (if ((rd_T98 l0_1 x26_1).f1) < (x5_1.length : Int) then (spec_MostInPairs.j1 k1 t357 x5_1 x6_1 x7_1 l0_1 (l0_1.length : Int) x26_1 (rdOf false x5_1 ((rd_T98 l0_1 x26_1).f1)) ((rd_T98 l0_1 x26_1).f0) ((rd_T98 l0_1 x26_1).f1)) else (none)) else (none))) = some (r1, r2) := by rw [← hbq30] at H; exact H
             have Nbq30 := Aside0.mk hbq30
             clear hbq30
             by_cases c31 : bq30 = true
             ·subst c31
              have H1 : (spec_MostInPairs.j1 k1 t357 x5_1 x6_1 x7_1 l0_1 (l0_1.length : Int) x26_1 true ((rd_T98 l0_1 x26_1).f0) ((rd_T98 l0_1 x26_1).f1)) = some (r1, r2) := by rw [if_pos rfl] at H; exact H
              clear H
              have H := H1
              clear H1
              have H' := Aside0.mk H
              clear H
              have hnb32 := NB366_355.out
              have hnc32 := NB355_366.out
              have hcz33_0 : w24.cell? ⟨gb366, 0, none⟩ = some (.int .i64 0) := (blk_cell BK366.out 0).trans rfl
              have hcz33_1 : w24.cell? ⟨gb366, 1, none⟩ = some (.int .i64 0) := (blk_cell BK366.out 1).trans rfl
              have hfz33_0 := blk_frozen BK366.out 0
              have hfz33_1 := blk_frozen BK366.out 1
              have p367 : 0 ≤ (((rd_T98 l0_1 x26_1).f0) : Int) := of_decide_eq_true (by first | (with_reducible assumption) | assumption)
              have q367 : ((rd_T98 l0_1 x26_1).f0) < (x5_1.length : Int) := of_decide_eq_true (by first | (with_reducible assumption) | assumption)
              obtain ⟨ad367, e367, hx367_0⟩ := Kd.at_bool (Kd.R_reads' HO_5.out).2.2 ((rd_T98 l0_1 x26_1).f0) p367 q367
              (try rw [← Nbq30.out] at hx367_0)
              cases e367
              have hn367_0 : ad367.block ≠ gb366 := Kd.own_blk (Kd.R_ne HO_5.out BK366.out (by decide))
              have hn367_1 : ad367.block ≠ gb366 := Kd.own_blk (Kd.R_ne HO_5.out BK366.out (by decide))
              replace hx367_0 := (cell_far (p := ⟨gb366, 0, none⟩) (by first | (rw [add_block]; exact hn367_0) | (show (Addr.add _ _).block ≠ _; rw [add_block]; exact hn367_0) | exact hn367_0) (.int .i64 ((rd_T98 l0_1 x26_1).f0))).trans hx367_0
              replace hx367_0 := (cell_far (p := ⟨gb366, 1, none⟩) (by first | (rw [add_block]; exact hn367_1) | (show (Addr.add _ _).block ≠ _; rw [add_block]; exact hn367_1) | exact hn367_1) (.int .i64 ((rd_T98 l0_1 x26_1).f1))).trans hx367_0
              clear hn367_0
              clear hn367_1
              replace p367 := eq_true p367
              replace q367 := eq_true q367
              go_wp2
              go_meet
              case rel => exact ⟨_, (true), (by first | rfl | (simp; done) | (simp [*]; done)), H', ⟨by have := HK1.out; first | omega | exact Nat.le_refl _⟩, ⟨by (try simp only [hl5_1]); (with_reducible repeat (first | apply Kd.S_alloc | apply Kd.S_drewN | apply Kd.S_drew)); exact Kd.S_mono (Kd.S_far (p := ⟨gb366, 1, none⟩) (Kd.S_far (p := ⟨gb366, 0, none⟩) (Kd.S_types HO_4.out BK366.out (by decide)) (fun _ hk => hk.2) (.int .i64 ((rd_T98 l0_1 x26_1).f0))) (fun _ hk => hk.2) (.int .i64 ((rd_T98 l0_1 x26_1).f1))) (fun _ hk => hk.1)⟩, ⟨by (try simp only [hl5_1]); (with_reducible repeat (first | apply Kd.R_alloc | apply Kd.R_drewN | apply Kd.R_drew)); exact Kd.R_mono (Kd.R_far (p := ⟨gb366, 1, none⟩) (Kd.R_far (p := ⟨gb366, 0, none⟩) (Kd.R_types HO_5.out BK366.out (by decide)) (fun _ hk => hk.2) (.int .i64 ((rd_T98 l0_1 x26_1).f0))) (fun _ hk => hk.2) (.int .i64 ((rd_T98 l0_1 x26_1).f1))) (fun _ hk => trivial)⟩, ⟨by (try simp only [hl5_1]); (with_reducible repeat (first | apply Kd.R_alloc | apply Kd.R_drewN | apply Kd.R_drew)); exact Kd.R_mono (Kd.R_far (p := ⟨gb366, 1, none⟩) (Kd.R_far (p := ⟨gb366, 0, none⟩) (Kd.R_mono HO_6.out (fun k_ hk => (⟨hk, hk.2⟩ : _ ∧ k_ ≠ gb366))) (fun _ hk => hk.2) (.int .i64 ((rd_T98 l0_1 x26_1).f0))) (fun _ hk => hk.2) (.int .i64 ((rd_T98 l0_1 x26_1).f1))) (fun _ hk => hk.1.2)⟩, ⟨by (try simp only [hl5_1]); (with_reducible repeat (first | refine blk_drewN ?_ _ | refine blk_drew ?_ | refine blk_alloc ?_ _)); refine blk_far ?_ NB355_366.out _; (with_reducible repeat (first | refine blk_drewN ?_ _ | refine blk_drew ?_ | refine blk_alloc ?_ _)); refine blk_far ?_ NB355_366.out _; (with_reducible repeat (first | refine blk_drewN ?_ _ | refine blk_drew ?_ | refine blk_alloc ?_ _)); exact BK355.out⟩, ⟨by (try simp only [hl5_1]); (with_reducible repeat (first | refine blk_drewN ?_ _ | refine blk_drew ?_ | refine blk_alloc ?_ _)); refine blk_put (cs := #[.int .i64 ((rd_T98 l0_1 x26_1).f0), .int .i64 0]) ?_ 1 _ rfl; (with_reducible repeat (first | refine blk_drewN ?_ _ | refine blk_drew ?_ | refine blk_alloc ?_ _)); refine blk_put (cs := #[.int .i64 0, .int .i64 0]) ?_ 0 _ rfl; (with_reducible repeat (first | refine blk_drewN ?_ _ | refine blk_drew ?_ | refine blk_alloc ?_ _)); exact BK366.out⟩, ⟨by repeat (first | (with_reducible first | exact HB.out | apply below_alloc | apply pw_below_drewN | apply below_drew1 | refine below_set ?_ GE355.out | refine below_set ?_ GE366.out) | exact HB.out)⟩⟩
             ·replace c31 := Bool.eq_false_iff.mpr c31
              subst c31
              have H1 : (if 0 ≤ ((rd_T98 l0_1 x26_1).f1) then (if ((rd_T98 l0_1 x26_1).f1) < (x5_1.length : Int) then (spec_MostInPairs.j1 k1 t357 x5_1 x6_1 x7_1 l0_1 (l0_1.length : Int) x26_1 (rdOf false x5_1 ((rd_T98 l0_1 x26_1).f1)) ((rd_T98 l0_1 x26_1).f0) ((rd_T98 l0_1 x26_1).f1)) else (none)) else (none)) = some (r1, r2) := by rw [if_neg (show ¬ (false = true) by decide)] at H; exact H
              clear H
              have H := H1
              clear H1
              by_cases c34 : 0 ≤ ((rd_T98 l0_1 x26_1).f1)
              ·rw [if_pos c34] at H
               have c34b0 : decide (0 ≤ ((rd_T98 l0_1 x26_1).f1)) = true := decide_eq_true c34
               clear c34
               by_cases c35 : ((rd_T98 l0_1 x26_1).f1) < (x5_1.length : Int)
               ·rw [if_pos c35] at H
                have c35b0 : decide (((rd_T98 l0_1 x26_1).f1) < (x5_1.length : Int)) = true := decide_eq_true c35
                clear c35
                have H' := Aside0.mk H
                clear H
                have hnb36 := NB366_355.out
                have hnc36 := NB355_366.out
                have hcz37_0 : w24.cell? ⟨gb366, 0, none⟩ = some (.int .i64 0) := (blk_cell BK366.out 0).trans rfl
                have hcz37_1 : w24.cell? ⟨gb366, 1, none⟩ = some (.int .i64 0) := (blk_cell BK366.out 1).trans rfl
                have hfz37_0 := blk_frozen BK366.out 0
                have hfz37_1 := blk_frozen BK366.out 1
                have p367 : 0 ≤ (((rd_T98 l0_1 x26_1).f0) : Int) := of_decide_eq_true (by first | (with_reducible assumption) | assumption)
                have q367 : ((rd_T98 l0_1 x26_1).f0) < (x5_1.length : Int) := of_decide_eq_true (by first | (with_reducible assumption) | assumption)
                obtain ⟨ad367, e367, hx367_0⟩ := Kd.at_bool (Kd.R_reads' HO_5.out).2.2 ((rd_T98 l0_1 x26_1).f0) p367 q367
                (try rw [← Nbq30.out] at hx367_0)
                cases e367
                have hn367_0 : ad367.block ≠ gb366 := Kd.own_blk (Kd.R_ne HO_5.out BK366.out (by decide))
                have hn367_1 : ad367.block ≠ gb366 := Kd.own_blk (Kd.R_ne HO_5.out BK366.out (by decide))
                replace hx367_0 := (cell_far (p := ⟨gb366, 0, none⟩) (by first | (rw [add_block]; exact hn367_0) | (show (Addr.add _ _).block ≠ _; rw [add_block]; exact hn367_0) | exact hn367_0) (.int .i64 ((rd_T98 l0_1 x26_1).f0))).trans hx367_0
                replace hx367_0 := (cell_far (p := ⟨gb366, 1, none⟩) (by first | (rw [add_block]; exact hn367_1) | (show (Addr.add _ _).block ≠ _; rw [add_block]; exact hn367_1) | exact hn367_1) (.int .i64 ((rd_T98 l0_1 x26_1).f1))).trans hx367_0
                clear hn367_0
                clear hn367_1
                replace p367 := eq_true p367
                replace q367 := eq_true q367
                have p368 : 0 ≤ (((rd_T98 l0_1 x26_1).f1) : Int) := of_decide_eq_true (by first | (with_reducible assumption) | assumption)
                have q368 : ((rd_T98 l0_1 x26_1).f1) < (x5_1.length : Int) := of_decide_eq_true (by first | (with_reducible assumption) | assumption)
                obtain ⟨ad368, e368, hx368_0⟩ := Kd.at_bool (Kd.R_reads' HO_5.out).2.2 ((rd_T98 l0_1 x26_1).f1) p368 q368
                (try rw [← Nbq30.out] at hx368_0)
                obtain rfl : ad367 = ad368 := (by injection e368)
                have hn368_0 : ad367.block ≠ gb366 := Kd.own_blk (Kd.R_ne HO_5.out BK366.out (by decide))
                have hn368_1 : ad367.block ≠ gb366 := Kd.own_blk (Kd.R_ne HO_5.out BK366.out (by decide))
                replace hx368_0 := (cell_far (p := ⟨gb366, 0, none⟩) (by first | (rw [add_block]; exact hn368_0) | (show (Addr.add _ _).block ≠ _; rw [add_block]; exact hn368_0) | exact hn368_0) (.int .i64 ((rd_T98 l0_1 x26_1).f0))).trans hx368_0
                replace hx368_0 := (cell_far (p := ⟨gb366, 1, none⟩) (by first | (rw [add_block]; exact hn368_1) | (show (Addr.add _ _).block ≠ _; rw [add_block]; exact hn368_1) | exact hn368_1) (.int .i64 ((rd_T98 l0_1 x26_1).f1))).trans hx368_0
                clear hn368_0
                clear hn368_1
                replace p368 := eq_true p368
                replace q368 := eq_true q368
                go_wp2
                go_meet
                case rel => exact ⟨_, (rdOf false x5_1 ((rd_T98 l0_1 x26_1).f1)), (by first | rfl | (simp; done) | (simp [*]; done)), H', ⟨by have := HK1.out; first | omega | exact Nat.le_refl _⟩, ⟨by (try simp only [hl5_1]); (with_reducible repeat (first | apply Kd.S_alloc | apply Kd.S_drewN | apply Kd.S_drew)); exact Kd.S_mono (Kd.S_far (p := ⟨gb366, 1, none⟩) (Kd.S_far (p := ⟨gb366, 0, none⟩) (Kd.S_types HO_4.out BK366.out (by decide)) (fun _ hk => hk.2) (.int .i64 ((rd_T98 l0_1 x26_1).f0))) (fun _ hk => hk.2) (.int .i64 ((rd_T98 l0_1 x26_1).f1))) (fun _ hk => hk.1)⟩, ⟨by (try simp only [hl5_1]); (with_reducible repeat (first | apply Kd.R_alloc | apply Kd.R_drewN | apply Kd.R_drew)); exact Kd.R_mono (Kd.R_far (p := ⟨gb366, 1, none⟩) (Kd.R_far (p := ⟨gb366, 0, none⟩) (Kd.R_types HO_5.out BK366.out (by decide)) (fun _ hk => hk.2) (.int .i64 ((rd_T98 l0_1 x26_1).f0))) (fun _ hk => hk.2) (.int .i64 ((rd_T98 l0_1 x26_1).f1))) (fun _ hk => trivial)⟩, ⟨by (try simp only [hl5_1]); (with_reducible repeat (first | apply Kd.R_alloc | apply Kd.R_drewN | apply Kd.R_drew)); exact Kd.R_mono (Kd.R_far (p := ⟨gb366, 1, none⟩) (Kd.R_far (p := ⟨gb366, 0, none⟩) (Kd.R_mono HO_6.out (fun k_ hk => (⟨hk, hk.2⟩ : _ ∧ k_ ≠ gb366))) (fun _ hk => hk.2) (.int .i64 ((rd_T98 l0_1 x26_1).f0))) (fun _ hk => hk.2) (.int .i64 ((rd_T98 l0_1 x26_1).f1))) (fun _ hk => hk.1.2)⟩, ⟨by (try simp only [hl5_1]); (with_reducible repeat (first | refine blk_drewN ?_ _ | refine blk_drew ?_ | refine blk_alloc ?_ _)); refine blk_far ?_ NB355_366.out _; (with_reducible repeat (first | refine blk_drewN ?_ _ | refine blk_drew ?_ | refine blk_alloc ?_ _)); refine blk_far ?_ NB355_366.out _; (with_reducible repeat (first | refine blk_drewN ?_ _ | refine blk_drew ?_ | refine blk_alloc ?_ _)); exact BK355.out⟩, ⟨by (try simp only [hl5_1]); (with_reducible repeat (first | refine blk_drewN ?_ _ | refine blk_drew ?_ | refine blk_alloc ?_ _)); refine blk_put (cs := #[.int .i64 ((rd_T98 l0_1 x26_1).f0), .int .i64 0]) ?_ 1 _ rfl; (with_reducible repeat (first | refine blk_drewN ?_ _ | refine blk_drew ?_ | refine blk_alloc ?_ _)); refine blk_put (cs := #[.int .i64 0, .int .i64 0]) ?_ 0 _ rfl; (with_reducible repeat (first | refine blk_drewN ?_ _ | refine blk_drew ?_ | refine blk_alloc ?_ _)); exact BK366.out⟩, ⟨by repeat (first | (with_reducible first | exact HB.out | apply below_alloc | apply pw_below_drewN | apply below_drew1 | refine below_set ?_ GE355.out | refine below_set ?_ GE366.out) | exact HB.out)⟩⟩
               ·rw [if_neg c35] at H
                exact absurd H (by simp)
              ·rw [if_neg c34] at H
               exact absurd H (by simp)
            ·rw [if_neg c29] at H
             exact absurd H (by simp)
           ·rw [if_neg c28] at H
            exact absurd H (by simp)
         case rest =>
          clear HC23
          try clear c2
          try clear p2
          try clear c3
          try clear p3
          try clear q3
          try clear hx3
          try clear c5
          try clear c5b0
          try clear c5b1
          try clear c6
          try clear c6b0
          try clear c6b1
          try clear c7
          try clear c8
          try clear c20
          try clear c20b0
          try clear c21
          try clear c21b0
          try clear c22
          try clear c22b0
          try clear c25
          try clear c26
          try clear c27
          try clear c27b0
          try clear c27b1
          try clear c28
          try clear c28b0
          try clear c29
          try clear c29b0
          try clear q30
          try clear c31
          try clear c32
          try clear c34
          try clear c34b0
          try clear c35
          try clear c35b0
          try clear c36
          try clear p36
          try clear q36
          try clear hx36
          try clear hcz11_0
          try clear hcz11_1
          try clear hcz13_0
          try clear hcz13_1
          try clear hcz19_0
          try clear hcz19_1
          try clear hcz26_0
          try clear hcz26_1
          try clear hcz33_0
          try clear hcz33_1
          try clear hcz37_0
          try clear hcz37_1
          try clear hcz9_0
          try clear hcz9_1
          try clear hfz11_0
          try clear hfz11_1
          try clear hfz13_0
          try clear hfz13_1
          try clear hfz19_0
          try clear hfz19_1
          try clear hfz26_0
          try clear hfz26_1
          try clear hfz33_0
          try clear hfz33_1
          try clear hfz37_0
          try clear hfz37_1
          try clear hfz9_0
          try clear hfz9_1
          try clear hx365_0
          try clear hx365_1
          try clear hx367_0
          try clear hx368_0
          try clear p2
          try clear p365
          try clear p367
          try clear p368
          try clear q365
          try clear q367
          try clear q368
          obtain ⟨kq, x45_22, rfl, HA, HJ22, HO_4, HO_5, HO_6, BK355, BK366, HB⟩ := hcut
          cases kq with
          | zero => exact absurd HA.out (by simp [spec_MostInPairs.j1])
          | succ kj22 =>
           have H := HA.out
           clear HA
           simp only [spec_MostInPairs.j1] at H
           by_cases c38 : x45_22 = true
           ·subst c38
            have H1 : (spec_MostInPairs.l0 kj22 t357 x5_1 x6_1 x7_1 l0_1 (l0_1.length : Int) (wrap64 (x26_1 + 1))) = some (r1, r2) := by rw [if_pos rfl] at H; exact H
            clear H
            have H := H1
            clear H1
            have H' := Aside0.mk H
            clear H
            go_wp2
            (try simp only [← hl5_1])
            go_roundg kj22
            case measure => have := HK1.out; have := HJ22.out; omega
            case rel => exact ⟨(x5_1), (x6_1), (x7_1), (wrap64 (x26_1 + 1)), (by first | rfl | (simp; done) | (simp [*]; done)), (by first | rfl | (simp; done) | (simp [*]; done)), H', ⟨by have := HK1.out; have := HJ22.out; omega⟩, ⟨by (try simp only [hl5_1]); (with_reducible repeat (first | apply Kd.S_alloc | apply Kd.S_drewN | apply Kd.S_drew)); exact HO_4.out⟩, ⟨by (try simp only [hl5_1]); (with_reducible repeat (first | apply Kd.R_alloc | apply Kd.R_drewN | apply Kd.R_drew)); exact HO_5.out⟩, ⟨by (try simp only [hl5_1]); (with_reducible repeat (first | apply Kd.R_alloc | apply Kd.R_drewN | apply Kd.R_drew)); exact Kd.R_mono HO_6.out (fun _ hk => trivial)⟩, ⟨by (try simp only [hl5_1]); (with_reducible repeat (first | refine blk_drewN ?_ _ | refine blk_drew ?_ | refine blk_alloc ?_ _)); exact BK355.out⟩, ⟨by repeat (first | (with_reducible first | exact HB.out | apply below_alloc | apply pw_below_drewN | apply below_drew1 | refine below_set ?_ GE355.out | refine below_set ?_ GE366.out) | exact HB.out)⟩⟩
           ·replace c38 := Bool.eq_false_iff.mpr c38
            subst c38
            have H1 : ((some (([] : List Bool) : List Bool)).bind fun y369 => (if y369.length + x5_1.length < 140737488355328 then ((some (y369 ++ x5_1 : List Bool)).bind fun y372 => (if 0 ≤ ((rd_T98 l0_1 x26_1).f0) then (if ((rd_T98 l0_1 x26_1).f0) < (y372.length : Int) then (if 0 ≤ ((rd_T98 l0_1 x26_1).f1) then (if ((rd_T98 l0_1 x26_1).f1) < (y372.length : Int) then (spec_MostInPairs.l1 kj22 t357 x5_1 x6_1 x7_1 ((y372.set (((rd_T98 l0_1 x26_1).f0) : Int).toNat true).set (((rd_T98 l0_1 x26_1).f1) : Int).toNat true) 0 l0_1 (l0_1.length : Int) x26_1 ((rd_T98 l0_1 x26_1).f0) ((rd_T98 l0_1 x26_1).f1)) else (none)) else (none)) else (none)) else (none))) else (none))) = some (r1, r2) := by rw [if_neg (show ¬ (false = true) by decide)] at H; exact H
            clear H
            have H := H1
            clear H1
            obtain ⟨y369, hy369⟩ : ∃ y_ : List Bool, y_ = (([] : List Bool)) := ⟨_, rfl⟩
            replace H : (if y369.length + x5_1.length < 140737488355328 then ((some (y369 ++ x5_1 : List Bool)).bind fun y372 => (if 0 ≤ ((rd_T98 l0_1 x26_1).f0) then (if ((rd_T98 l0_1 x26_1).f0) < (y372.length : Int) then (if 0 ≤ ((rd_T98 l0_1 x26_1).f1) then (if ((rd_T98 l0_1 x26_1).f1) < (y372.length : Int) then (spec_MostInPairs.l1 kj22 t357 x5_1 x6_1 x7_1 ((y372.set (((rd_T98 l0_1 x26_1).f0) : Int).toNat true).set (((rd_T98 l0_1 x26_1).f1) : Int).toNat true) 0 l0_1 (l0_1.length : Int) x26_1 ((rd_T98 l0_1 x26_1).f0) ((rd_T98 l0_1 x26_1).f1)) else (none)) else (none)) else (none)) else (none))) else (none)) = some (r1, r2) := by first | (rw [hy369]; with_reducible exact H) | (have H2_ := (Option.bind_some _ _).symm.trans H; rw [hy369]; with_reducible exact H2_) | (have H2_ := (Option.bind_some _ _).symm.trans H; with_reducible exact H2_) | with_reducible exact H | (rw [hy369]; exact H) | exact H
            have Ny369 := Aside0.mk hy369
            clear hy369
            by_cases c39 : y369.length + x5_1.length < 140737488355328
            ·rw [if_pos c39] at H
             have LMc39 := Aside0.mk c39
             clear c39
             obtain ⟨y372, hy372⟩ : ∃ y_ : List Bool, y_ = (y369 ++ x5_1) := ⟨_, rfl⟩
             replace H : (if 0 ≤ ((rd_T98 l0_1 x26_1).f0) then (if ((rd_T98 l0_1 x26_1).f0) < (y372.length : Int) then (if 0 ≤ ((rd_T98 l0_1 x26_1).f1) then (if ((rd_T98 l0_1 x26_1).f1) < (y372.length : Int) then (spec_MostInPairs.l1 kj22 t357 x5_1 x6_1 x7_1 ((y372.set (((rd_T98 l0_1 x26_1).f0) : Int).toNat true).set (((rd_T98 l0_1 x26_1).f1) : Int).toNat true) 0 l0_1 (l0_1.length : Int) x26_1 ((rd_T98 l0_1 x26_1).f0) ((rd_T98 l0_1 x26_1).f1)) else (none)) else (none)) else (none)) else (none)) = some (r1, r2) := by first | (rw [hy372]; with_reducible exact H) | (have H2_ := (Option.bind_some _ _).symm.trans H; rw [hy372]; with_reducible exact H2_) | (have H2_ := (Option.bind_some _ _).symm.trans H; with_reducible exact H2_) | with_reducible exact H | (rw [hy372]; exact H) | exact H
             have Ny372 := Aside0.mk hy372
             clear hy372
             by_cases c40 : 0 ≤ ((rd_T98 l0_1 x26_1).f0)
             ·rw [if_pos c40] at H
              have c40b0 : decide (0 ≤ ((rd_T98 l0_1 x26_1).f0)) = true := decide_eq_true c40
              clear c40
              by_cases c41 : ((rd_T98 l0_1 x26_1).f0) < (y372.length : Int)
              ·rw [if_pos c41] at H
               have c41b0 : decide (((rd_T98 l0_1 x26_1).f0) < (y372.length : Int)) = true := decide_eq_true c41
               clear c41
               obtain ⟨y375, hy375⟩ : ∃ y_ : List Bool, y_ = (y372.set (((rd_T98 l0_1 x26_1).f0) : Int).toNat true) := ⟨_, rfl⟩
               replace H : (if 0 ≤ ((rd_T98 l0_1 x26_1).f1) then (if ((rd_T98 l0_1 x26_1).f1) < (y372.length : Int) then (spec_MostInPairs.l1 kj22 t357 x5_1 x6_1 x7_1 (y375.set (((rd_T98 l0_1 x26_1).f1) : Int).toNat true) 0 l0_1 (l0_1.length : Int) x26_1 ((rd_T98 l0_1 x26_1).f0) ((rd_T98 l0_1 x26_1).f1)) else (none)) else (none)) = some (r1, r2) := by first | (rw [hy375]; with_reducible exact H) | (have H2_ := (Option.bind_some _ _).symm.trans H; rw [hy375]; with_reducible exact H2_) | (have H2_ := (Option.bind_some _ _).symm.trans H; with_reducible exact H2_) | with_reducible exact H | (rw [hy375]; exact H) | exact H
               have Ny375 := Aside0.mk hy375
               clear hy375
               by_cases c43 : 0 ≤ ((rd_T98 l0_1 x26_1).f1)
               ·rw [if_pos c43] at H
                have c43b0 : decide (0 ≤ ((rd_T98 l0_1 x26_1).f1)) = true := decide_eq_true c43
                clear c43
                by_cases c44 : ((rd_T98 l0_1 x26_1).f1) < (y372.length : Int)
                ·rw [if_pos c44] at H
                 have c44b0 : decide (((rd_T98 l0_1 x26_1).f1) < (y372.length : Int)) = true := decide_eq_true c44
                 clear c44
                 obtain ⟨y376, hy376⟩ : ∃ y_ : List Bool, y_ = (y375.set (((rd_T98 l0_1 x26_1).f1) : Int).toNat true) := ⟨_, rfl⟩
                 replace H : (spec_MostInPairs.l1 kj22 t357 x5_1 x6_1 x7_1 y376 0 l0_1 (l0_1.length : Int) x26_1 ((rd_T98 l0_1 x26_1).f0) ((rd_T98 l0_1 x26_1).f1)) = some (r1, r2) := by first | (rw [hy376]; with_reducible exact H) | (have H2_ := (Option.bind_some _ _).symm.trans H; rw [hy376]; with_reducible exact H2_) | (have H2_ := (Option.bind_some _ _).symm.trans H; with_reducible exact H2_) | with_reducible exact H | (rw [hy376]; exact H) | exact H
                 have Ny376 := Aside0.mk hy376
                 clear hy376
                 have H' := Aside0.mk H
                 clear H
                 go_wp2_with (first | ((with_reducible refine gate_dst (N := 46) rfl ?_); refine Kd.R_lit Kd.bool _ 4 ?hg (N := 46) ?hd (xs := ([] : List Bool)) (inner := []) (ok := fun _ => True) (okp := fun _ => True) ?hr ?hp (fun _ hk => hk) trivial (Below.refl _ _) (Nat.le_refl _) (by simp) ?_; (case hd => rfl); (case hg => rfl); (case hr => first | (go_simp; done) | (go_simp; rfl)); (case hp => exact (Reps.none _ _)); intro v370 w46 ho47 hb hg_ hnew_; clear hg_ hnew_; (first | rw [← Ny369.out] at ho47 | (simp only [Int.reduceToNat] at ho47; rw [← Ny369.out] at ho47)); have n0_ := Aside0.mk (Kd.S_elder' (by (with_reducible repeat (first | apply Kd.S_alloc | apply Kd.S_drewN | apply Kd.S_drew)); exact HO_4.out) (Kd.R_base ho47) hb); have n1_ := Aside0.mk (Kd.R_elder' (by (with_reducible repeat (first | apply Kd.R_alloc | apply Kd.R_drewN | apply Kd.R_drew)); exact HO_5.out) (Kd.R_base ho47) hb); have n2_ := Aside0.mk (Kd.R_below (by (with_reducible repeat (first | apply Kd.R_alloc | apply Kd.R_drewN | apply Kd.R_drew)); exact HO_6.out) hb); have n3_ := Aside0.mk (Kd.R_lower (Kd.R_new' ho47 (Kd.R_lt (by (with_reducible repeat (first | apply Kd.R_alloc | apply Kd.R_drewN | apply Kd.R_drew)); exact HO_5.out))) (below_size (by repeat (first | (with_reducible first | exact HB.out | apply below_alloc | apply pw_below_drewN | apply below_drew1 | refine below_set ?_ GE355.out | refine below_set ?_ GE366.out) | exact HB.out)))); have n4_ := Aside0.mk (blk_below (g := gb355) (o := .cells #[.int .i64 a0_0, .slice (some ad365) l0_1.length c0_1] 30 (0, 0)) (by (with_reducible repeat (first | refine blk_drewN ?_ _ | refine blk_drew ?_ | refine blk_alloc ?_ _)); exact BK355.out) hb); have n5_ := Aside0.mk (blk_below (g := gb366) (o := .cells #[.int .i64 ((rd_T98 l0_1 x26_1).f0), .int .i64 ((rd_T98 l0_1 x26_1).f1)] 98 (0, 0)) (by (with_reducible repeat (first | refine blk_drewN ?_ _ | refine blk_drew ?_ | refine blk_alloc ?_ _)); exact BK366.out) hb); have n6_ := Aside0.mk (below_step (by repeat (first | (with_reducible first | exact HB.out | apply below_alloc | apply pw_below_drewN | apply below_drew1 | refine below_set ?_ GE355.out | refine below_set ?_ GE366.out) | exact HB.out)) hb); clear HO_4; clear HO_5; clear HO_6; clear BK355; clear BK366; clear HB; have HO_4 := n0_; have HO_5 := n1_; have HO_6 := n2_; have HO371 := n3_; have BK355 := n4_; have BK366 := n5_; have HB := n6_; clear n0_ n1_ n2_ n3_ n4_ n5_ n6_; clear hb ho47) | ((with_reducible refine gate_builtin (b := .append) (xs := #[.tmp 46, .tmp 47]) rfl ?_); at_builtin; refine Kd.R_append_rows Kd.bool (w0 := w) w.heap.size rfl (.tmp 46) (.tmp 47) 101 4 (.bool false) 1 rfl Tryd.underlying101 info4 rfl (by decide) (by omega) v370 y369 x5_1 _ _ _ (fun k_ => some k_ ≠ (.slice Ao17 x5_1.length co17 : Value).ownBlock) (fun _ => False) rfl rfl ?aO ?aR (fun _ _ h => h) (fun _ h => h.elim) ?aF ?aB ?aS ?aL ?_; (case aR => repeat (first | exact (Kd.R_reads' HO_5.out).2.2 | (with_reducible refine Kd.C_alloc ?_ _) | (with_reducible refine Kd.C_drewN ?_ _) | (with_reducible refine Kd.C_drew ?_))); (case aB => exact (by repeat (first | (with_reducible first | exact HB.out | apply below_alloc | apply pw_below_drewN | apply below_drew1 | refine below_set ?_ GE355.out | refine below_set ?_ GE366.out) | exact HB.out))); (case aF => exact (fun k_ hk => Kd.fresh' (Kd.R_lt (by (with_reducible repeat (first | apply Kd.R_alloc | apply Kd.R_drewN | apply Kd.R_drew)); exact HO_5.out)) k_ hk)); (case aO => exact (by (with_reducible repeat (first | apply Kd.R_alloc | apply Kd.R_drewN | apply Kd.R_drew)); exact Kd.R_mono HO371.out (fun _ hk => hk.2))); (case aS => exact (below_size (by repeat (first | (with_reducible first | exact HB.out | apply below_alloc | apply pw_below_drewN | apply below_drew1 | refine below_set ?_ GE355.out | refine below_set ?_ GE366.out) | exact HB.out)))); (case aL => have := LMc39.out; omega); intro v373 w48 ho hb hg hat; rw [← Ny372.out] at ho; have n0_ := Aside0.mk (Kd.S_after (ok := (fun k_ => some k_ ≠ (.slice Ao17 x5_1.length co17 : Value).ownBlock)) (by (with_reducible repeat (first | apply Kd.S_alloc | apply Kd.S_drewN | apply Kd.S_drew)); exact HO_4.out) hg hat); have n1_ := Aside0.mk (Kd.R_after (ok := (fun _ => True)) (by (with_reducible repeat (first | apply Kd.R_alloc | apply Kd.R_drewN | apply Kd.R_drew)); exact HO_5.out) hg hat); have n2_ := Aside0.mk (Kd.R_over' (by (with_reducible repeat (first | apply Kd.R_alloc | apply Kd.R_drewN | apply Kd.R_drew)); exact HO_6.out) (Kd.R_typed (by (with_reducible repeat (first | apply Kd.R_alloc | apply Kd.R_drewN | apply Kd.R_drew)); exact HO371.out)) (by decide) hg); have n3_ := Aside0.mk (blk_grown (g := gb355) (o := .cells #[.int .i64 a0_0, .slice (some ad365) l0_1.length c0_1] 30 (0, 0)) (by (with_reducible repeat (first | refine blk_drewN ?_ _ | refine blk_drew ?_ | refine blk_alloc ?_ _)); exact BK355.out) hg (Kd.R_ne HO371.out BK355.out (by decide))); have n4_ := Aside0.mk (blk_grown (g := gb366) (o := .cells #[.int .i64 ((rd_T98 l0_1 x26_1).f0), .int .i64 ((rd_T98 l0_1 x26_1).f1)] 98 (0, 0)) (by (with_reducible repeat (first | refine blk_drewN ?_ _ | refine blk_drew ?_ | refine blk_alloc ?_ _)); exact BK366.out) hg (Kd.R_ne HO371.out BK366.out (by decide))); have n5_ := Aside0.mk (hb); have n6_ := Aside0.mk (ho); clear HO_4; clear HO_5; clear HO_6; clear BK355; clear BK366; clear HB; clear HO371; have HO_4 := n0_; have HO_5 := n1_; have HO_6 := n2_; have BK355 := n3_; have BK366 := n4_; have HB := n5_; have HO374 := n6_; clear n0_ n1_ n2_ n3_ n4_ n5_ n6_; clear ho hb hg hat; have hnb49 := NB366_355.out; have hnc49 := NB355_366.out; have hcz50_0 : w48.cell? ⟨gb366, 0, none⟩ = some (.int .i64 ((rd_T98 l0_1 x26_1).f0)) := (blk_cell BK366.out 0).trans rfl; have hcz50_1 : w48.cell? ⟨gb366, 1, none⟩ = some (.int .i64 ((rd_T98 l0_1 x26_1).f1)) := (blk_cell BK366.out 1).trans rfl; have hfz50_0 := blk_frozen BK366.out 0; have hfz50_1 := blk_frozen BK366.out 1; have p42 : 0 ≤ (((rd_T98 l0_1 x26_1).f0) : Int) := of_decide_eq_true (by first | (with_reducible assumption) | assumption); have q42 : (((rd_T98 l0_1 x26_1).f0) : Int) < ((y372.length : Int) : Int) := of_decide_eq_true (by first | (with_reducible assumption) | assumption); obtain ⟨go42, co42, eo42, gb42, gl42, cl42, HG42⟩ := Kd.R_form HO374.out (by omega); (first | cases eo42 | (injection eo42 with ea_ en_ ec_; (first | subst ea_ | (injection ea_ with ea_; subst ea_)); subst ec_; clear en_)); have GB42 := Aside0.mk gb42; have GG42 := Aside0.mk HG42; clear gb42 gl42 HG42; obtain ⟨hx42_0, hf42_0⟩ := Kd.R_celln false HO374.out (((rd_T98 l0_1 x26_1).f0) : Int) p42 q42; replace p42 := eq_true p42; replace q42 := eq_true q42; obtain ⟨hy51_, hz51_⟩ := Kd.R_celln false HO374.out (((rd_T98 l0_1 x26_1).f0) : Int) (of_decide_eq_true (by first | (with_reducible assumption) | assumption)) (of_decide_eq_true (by first | (with_reducible assumption) | assumption)); have HP51 := Kd.R_putg HO374.out (((rd_T98 l0_1 x26_1).f0) : Int) true) | ((with_reducible refine gate_store (t := 4) (p := 52) rfl ?_); refine store_event (t := 4) (p := 52) (v := ?vo_w52) (w1 := (w48.setCell ⟨go42, (((rd_T98 l0_1 x26_1).f0) : Int).toNat, none⟩ (.bool true))) ?hg ?ho ?hn ?hr ?_; (case ho => rfl); (case hg => rfl); (case hn => rfl); (case hr => first | (go_simp; done) | (go_simp; rfl)); intro w52 hw; have hg : w48.grownBy w52 (some go42) := (by rw [hw]; exact HP51.2); have hp_ : Kd.R Kd.bool 4 w52 w.heap.size (fun k_ => some k_ ≠ (.slice Ao17 x5_1.length co17 : Value).ownBlock) (.slice (some ⟨go42, 0, none⟩) y372.length co42) y375 := (by rw [hw, Ny375.out]; exact HP51.1); clear HP51; have n0_ := Aside0.mk (Kd.S_after (v := (.slice (some ⟨go42, 0, none⟩) y372.length co42)) (v1 := (.slice (some ⟨go42, 0, none⟩) y372.length co42)) (ok := (fun k_ => some k_ ≠ (.slice Ao17 x5_1.length co17 : Value).ownBlock)) (by (with_reducible repeat (first | apply Kd.S_alloc | apply Kd.S_drewN | apply Kd.S_drew)); exact HO_4.out) hg (.inl rfl)); have n1_ := Aside0.mk (Kd.R_after (v := (.slice (some ⟨go42, 0, none⟩) y372.length co42)) (v1 := (.slice (some ⟨go42, 0, none⟩) y372.length co42)) (ok := (fun _ => True)) (by (with_reducible repeat (first | apply Kd.R_alloc | apply Kd.R_drewN | apply Kd.R_drew)); exact HO_5.out) hg (.inl rfl)); have n2_ := Aside0.mk (Kd.R_over' (v := (.slice (some ⟨go42, 0, none⟩) y372.length co42)) (by (with_reducible repeat (first | apply Kd.R_alloc | apply Kd.R_drewN | apply Kd.R_drew)); exact HO_6.out) (Kd.R_typed HO374.out) (by decide) hg); have n3_ := Aside0.mk (blk_grown (g := gb355) (o := .cells #[.int .i64 a0_0, .slice (some ad365) l0_1.length c0_1] 30 (0, 0)) (by (with_reducible repeat (first | refine blk_drewN ?_ _ | refine blk_drew ?_ | refine blk_alloc ?_ _)); exact BK355.out) hg (Kd.R_ne HO374.out BK355.out (by decide))); have n4_ := Aside0.mk (blk_grown (g := gb366) (o := .cells #[.int .i64 ((rd_T98 l0_1 x26_1).f0), .int .i64 ((rd_T98 l0_1 x26_1).f1)] 98 (0, 0)) (by (with_reducible repeat (first | refine blk_drewN ?_ _ | refine blk_drew ?_ | refine blk_alloc ?_ _)); exact BK366.out) hg (Kd.R_ne HO374.out BK366.out (by decide))); have n5_ := Aside0.mk (hp_); have n6_ := Aside0.mk ((by rw [hw]; exact below_set (HB.out) GB42.out : Below w.heap.size w w52)); clear HO_4; clear HO_5; clear HO_6; clear BK355; clear BK366; clear HO374; clear HB; have HO_4 := n0_; have HO_5 := n1_; have HO_6 := n2_; have BK355 := n3_; have BK366 := n4_; have HO374 := n5_; have HB := n6_; clear n0_ n1_ n2_ n3_ n4_ n5_ n6_; clear hg hw hp_; have hcz53_0 : w52.cell? ⟨gb366, 0, none⟩ = some (.int .i64 ((rd_T98 l0_1 x26_1).f0)) := (blk_cell BK366.out 0).trans rfl; have hcz53_1 : w52.cell? ⟨gb366, 1, none⟩ = some (.int .i64 ((rd_T98 l0_1 x26_1).f1)) := (blk_cell BK366.out 1).trans rfl; have hfz53_0 := blk_frozen BK366.out 0; have hfz53_1 := blk_frozen BK366.out 1; have p45 : 0 ≤ (((rd_T98 l0_1 x26_1).f1) : Int) := of_decide_eq_true (by first | (with_reducible assumption) | assumption); have q45 : (((rd_T98 l0_1 x26_1).f1) : Int) < ((y372.length : Int) : Int) := of_decide_eq_true (by first | (with_reducible assumption) | assumption); obtain ⟨hx45_0, hf45_0⟩ := Kd.R_celln false HO374.out (((rd_T98 l0_1 x26_1).f1) : Int) p45 q45; replace p45 := eq_true p45; replace q45 := eq_true q45; obtain ⟨hy54_, hz54_⟩ := Kd.R_celln false HO374.out (((rd_T98 l0_1 x26_1).f1) : Int) (of_decide_eq_true (by first | (with_reducible assumption) | assumption)) (of_decide_eq_true (by first | (with_reducible assumption) | assumption)); have HP54 := Kd.R_putg HO374.out (((rd_T98 l0_1 x26_1).f1) : Int) true) | ((with_reducible refine gate_store (t := 4) (p := 56) rfl ?_); refine store_event (t := 4) (p := 56) (v := ?vo_w55) (w1 := (w52.setCell ⟨go42, (((rd_T98 l0_1 x26_1).f1) : Int).toNat, none⟩ (.bool true))) ?hg ?ho ?hn ?hr ?_; (case ho => rfl); (case hg => rfl); (case hn => rfl); (case hr => first | (go_simp; done) | (go_simp; rfl)); intro w55 hw; have hg : w52.grownBy w55 (some go42) := (by rw [hw]; exact HP54.2); have hp_ : Kd.R Kd.bool 4 w55 w.heap.size (fun k_ => some k_ ≠ (.slice Ao17 x5_1.length co17 : Value).ownBlock) (.slice (some ⟨go42, 0, none⟩) y372.length co42) y376 := (by rw [hw, Ny376.out]; exact HP54.1); clear HP54; have n0_ := Aside0.mk (Kd.S_after (v := (.slice (some ⟨go42, 0, none⟩) y372.length co42)) (v1 := (.slice (some ⟨go42, 0, none⟩) y372.length co42)) (ok := (fun k_ => some k_ ≠ (.slice Ao17 x5_1.length co17 : Value).ownBlock)) (by (with_reducible repeat (first | apply Kd.S_alloc | apply Kd.S_drewN | apply Kd.S_drew)); exact HO_4.out) hg (.inl rfl)); have n1_ := Aside0.mk (Kd.R_after (v := (.slice (some ⟨go42, 0, none⟩) y372.length co42)) (v1 := (.slice (some ⟨go42, 0, none⟩) y372.length co42)) (ok := (fun _ => True)) (by (with_reducible repeat (first | apply Kd.R_alloc | apply Kd.R_drewN | apply Kd.R_drew)); exact HO_5.out) hg (.inl rfl)); have n2_ := Aside0.mk (Kd.R_over' (v := (.slice (some ⟨go42, 0, none⟩) y372.length co42)) (by (with_reducible repeat (first | apply Kd.R_alloc | apply Kd.R_drewN | apply Kd.R_drew)); exact HO_6.out) (Kd.R_typed HO374.out) (by decide) hg); have n3_ := Aside0.mk (blk_grown (g := gb355) (o := .cells #[.int .i64 a0_0, .slice (some ad365) l0_1.length c0_1] 30 (0, 0)) (by (with_reducible repeat (first | refine blk_drewN ?_ _ | refine blk_drew ?_ | refine blk_alloc ?_ _)); exact BK355.out) hg (Kd.R_ne HO374.out BK355.out (by decide))); have n4_ := Aside0.mk (blk_grown (g := gb366) (o := .cells #[.int .i64 ((rd_T98 l0_1 x26_1).f0), .int .i64 ((rd_T98 l0_1 x26_1).f1)] 98 (0, 0)) (by (with_reducible repeat (first | refine blk_drewN ?_ _ | refine blk_drew ?_ | refine blk_alloc ?_ _)); exact BK366.out) hg (Kd.R_ne HO374.out BK366.out (by decide))); have n5_ := Aside0.mk (hp_); have n6_ := Aside0.mk ((by rw [hw]; exact below_set (HB.out) GB42.out : Below w.heap.size w w55)); clear HO_4; clear HO_5; clear HO_6; clear BK355; clear BK366; clear HO374; clear HB; have HO_4 := n0_; have HO_5 := n1_; have HO_6 := n2_; have BK355 := n3_; have BK366 := n4_; have HO374 := n5_; have HB := n6_; clear n0_ n1_ n2_ n3_ n4_ n5_ n6_; clear hg hw hp_))
                 go_loopg [11] kj22 (fun kq v11 w' => ∃ (x10_3 : List Bool) (x11_3 : Int), v11 = .int .i64 x11_3 ∧ Aside0 (spec_MostInPairs.l1 kq t357 x5_1 x6_1 x7_1 x10_3 x11_3 l0_1 (l0_1.length : Int) x26_1 ((rd_T98 l0_1 x26_1).f0) ((rd_T98 l0_1 x26_1).f1) = some (r1, r2)) ∧ Aside0 (kq ≤ kj22) ∧ Aside0 (Kd.S (Kd.slice 4 Kd.bool) 101 w' w.heap.size (fun k_ => some k_ ≠ ((.slice Ao17 x5_1.length co17) : Value).ownBlock ∧ some k_ ≠ ((.slice (some ⟨go42, 0, none⟩) y372.length co42) : Value).ownBlock) (.slice Ao16 t357.length co16) t357) ∧ Aside0 (Kd.R Kd.bool 4 w' w.heap.size (fun k_ => some k_ ≠ ((.slice (some ⟨go42, 0, none⟩) y372.length co42) : Value).ownBlock) (.slice Ao17 x5_1.length co17) x5_1) ∧ Aside0 (Kd.R k98 98 w' w.heap.size (fun k_ => k_ ≠ gb366) u6 x6_1) ∧ Aside0 (Kd.R Kd.bool 4 w' w.heap.size (fun k_ => some k_ ≠ ((.slice Ao17 x5_1.length co17) : Value).ownBlock) (.slice (some ⟨go42, 0, none⟩) y372.length co42) x10_3) ∧ Aside0 (w'.heap[gb355]? = some (.cells #[.int .i64 a0_0, (.slice (some ad365) l0_1.length c0_1)] 30 (0, 0))) ∧ Aside0 (w'.heap[gb366]? = some (.cells #[.int .i64 ((rd_T98 l0_1 x26_1).f0), .int .i64 ((rd_T98 l0_1 x26_1).f1)] 98 (0, 0))) ∧ Aside0 (Below w.heap.size w w'))
                 case atStart => exact ⟨(y376), (0), (by first | rfl | (simp; done) | (simp [*]; done)), H', ⟨Nat.le_refl _⟩, ⟨by (try simp only [hl5_1]); (with_reducible repeat (first | apply Kd.S_alloc | apply Kd.S_drewN | apply Kd.S_drew)); exact HO_4.out⟩, ⟨by (try simp only [hl5_1]); (with_reducible repeat (first | apply Kd.R_alloc | apply Kd.R_drewN | apply Kd.R_drew)); exact Kd.R_mono HO_5.out (fun _ hk => hk.2)⟩, ⟨by (try simp only [hl5_1]); (with_reducible repeat (first | apply Kd.R_alloc | apply Kd.R_drewN | apply Kd.R_drew)); exact HO_6.out⟩, ⟨by (try simp only [hl5_1]); (with_reducible repeat (first | apply Kd.R_alloc | apply Kd.R_drewN | apply Kd.R_drew)); exact HO374.out⟩, ⟨by (try simp only [hl5_1]); (with_reducible repeat (first | refine blk_drewN ?_ _ | refine blk_drew ?_ | refine blk_alloc ?_ _)); exact BK355.out⟩, ⟨by (try simp only [hl5_1]); (with_reducible repeat (first | refine blk_drewN ?_ _ | refine blk_drew ?_ | refine blk_alloc ?_ _)); exact BK366.out⟩, ⟨by repeat (first | (with_reducible first | exact HB.out | apply below_alloc | apply pw_below_drewN | apply below_drew1 | refine below_set ?_ GE355.out | refine below_set ?_ GE366.out) | exact HB.out)⟩⟩
                 case round =>
                  clear H'
                  try clear c2
                  try clear p2
                  try clear c3
                  try clear p3
                  try clear q3
                  try clear hx3
                  try clear c4
                  try clear p4
                  try clear q4
                  try clear hx4
                  try clear hf4
                  try clear c5
                  try clear c5b0
                  try clear c5b1
                  try clear c6
                  try clear c6b0
                  try clear c6b1
                  try clear p6
                  try clear c7
                  try clear c8
                  try clear c20
                  try clear c20b0
                  try clear c21
                  try clear c21b0
                  try clear c22
                  try clear c22b0
                  try clear c25
                  try clear c26
                  try clear c27
                  try clear c27b0
                  try clear c27b1
                  try clear c28
                  try clear c28b0
                  try clear c29
                  try clear c29b0
                  try clear q30
                  try clear c31
                  try clear c32
                  try clear c34
                  try clear c34b0
                  try clear c35
                  try clear c35b0
                  try clear c36
                  try clear p36
                  try clear q36
                  try clear hx36
                  try clear c38
                  try clear c39
                  try clear c40
                  try clear c40b0
                  try clear c41
                  try clear c41b0
                  try clear p42
                  try clear q42
                  try clear hx42
                  try clear hf42
                  try clear c43
                  try clear c43b0
                  try clear c44
                  try clear c44b0
                  try clear p45
                  try clear q45
                  try clear hx45
                  try clear hf45
                  try clear c49
                  try clear hcz11_0
                  try clear hcz11_1
                  try clear hcz13_0
                  try clear hcz13_1
                  try clear hcz19_0
                  try clear hcz19_1
                  try clear hcz26_0
                  try clear hcz26_1
                  try clear hcz33_0
                  try clear hcz33_1
                  try clear hcz37_0
                  try clear hcz37_1
                  try clear hcz50_0
                  try clear hcz50_1
                  try clear hcz53_0
                  try clear hcz53_1
                  try clear hcz9_0
                  try clear hcz9_1
                  try clear hfz11_0
                  try clear hfz11_1
                  try clear hfz13_0
                  try clear hfz13_1
                  try clear hfz19_0
                  try clear hfz19_1
                  try clear hfz26_0
                  try clear hfz26_1
                  try clear hfz33_0
                  try clear hfz33_1
                  try clear hfz37_0
                  try clear hfz37_1
                  try clear hfz50_0
                  try clear hfz50_1
                  try clear hfz53_0
                  try clear hfz53_1
                  try clear hfz9_0
                  try clear hfz9_1
                  try clear hx365_0
                  try clear hx365_1
                  try clear hx367_0
                  try clear hx368_0
                  try clear hx42_0
                  try clear hx45_0
                  try clear p2
                  try clear p3
                  try clear p36
                  try clear p365
                  try clear p367
                  try clear p368
                  try clear p42
                  try clear p45
                  try clear q3
                  try clear q30
                  try clear q36
                  try clear q365
                  try clear q367
                  try clear q368
                  try clear q42
                  try clear q45
                  obtain ⟨x10_3, x11_3, rfl, HA, HK3, HO_4, HO_5, HO_6, HO_10, BK355, BK366, HB⟩ := hrel
                  have hl10_3 := (Kd.R_reads' HO_10.out).1
                  rw [hl10_3] at HO_10
                  (try simp only [hl10_3])
                  (try simp only [hl10_3] at BK355)
                  (try simp only [hl10_3] at BK366)
                  (try simp only [hl10_3] at HO_4)
                  (try simp only [hl10_3] at HO_5)
                  (try simp only [hl10_3] at HO_6)
                  cases gk with
                  | zero => exact absurd HA.out (by simp [spec_MostInPairs.l1])
                  | succ k3 =>
                   have H := HA.out
                   clear HA
                   simp only [spec_MostInPairs.l1] at H
                   by_cases c56 : x11_3 < ((rd_T98 l0_1 x26_1).f0)
                   ·rw [if_pos c56] at H
                    have c56b0 : decide (x11_3 < ((rd_T98 l0_1 x26_1).f0)) = true := decide_eq_true c56
                    clear c56
                    by_cases c57 : 0 ≤ x11_3
                    ·rw [if_pos c57] at H
                     have c57b0 : decide (0 ≤ x11_3) = true := decide_eq_true c57
                     clear c57
                     by_cases c58 : x11_3 < (x10_3.length : Int)
                     ·rw [if_pos c58] at H
                      have c58b0 : decide (x11_3 < (x10_3.length : Int)) = true := decide_eq_true c58
                      clear c58
                      obtain ⟨y377, hy377⟩ : ∃ y_ : List Bool, y_ = (x10_3.set (x11_3 : Int).toNat true) := ⟨_, rfl⟩
                      replace H : (spec_MostInPairs.l1 k3 t357 x5_1 x6_1 x7_1 y377 (wrap64 (x11_3 + 1)) l0_1 (l0_1.length : Int) x26_1 ((rd_T98 l0_1 x26_1).f0) ((rd_T98 l0_1 x26_1).f1)) = some (r1, r2) := by first | (rw [hy377]; with_reducible exact H) | (have H2_ := (Option.bind_some _ _).symm.trans H; rw [hy377]; with_reducible exact H2_) | (have H2_ := (Option.bind_some _ _).symm.trans H; with_reducible exact H2_) | with_reducible exact H | (rw [hy377]; exact H) | exact H
                      have Ny377 := Aside0.mk hy377
                      clear hy377
                      have H' := Aside0.mk H
                      clear H
                      have hnb60 := NB366_355.out
                      have hnc60 := NB355_366.out
                      have hcz61_0 : wr.cell? ⟨gb366, 0, none⟩ = some (.int .i64 ((rd_T98 l0_1 x26_1).f0)) := (blk_cell BK366.out 0).trans rfl
                      have hcz61_1 : wr.cell? ⟨gb366, 1, none⟩ = some (.int .i64 ((rd_T98 l0_1 x26_1).f1)) := (blk_cell BK366.out 1).trans rfl
                      have hfz61_0 := blk_frozen BK366.out 0
                      have hfz61_1 := blk_frozen BK366.out 1
                      have p59 : 0 ≤ (x11_3 : Int) := of_decide_eq_true (by first | (with_reducible assumption) | assumption)
                      have q59 : (x11_3 : Int) < ((x10_3.length : Int) : Int) := of_decide_eq_true (by first | (with_reducible assumption) | assumption)
                      obtain ⟨hx59_0, hf59_0⟩ := Kd.R_celln false HO_10.out (x11_3 : Int) p59 q59
                      replace p59 := eq_true p59
                      replace q59 := eq_true q59
                      have HP62 := Kd.R_putg HO_10.out (x11_3 : Int) true
                      go_wp2_with (first | ((with_reducible refine gate_store (t := 4) (p := 65) rfl ?_); refine store_event (t := 4) (p := 65) (v := ?vo_w63) (w1 := (wr.setCell ⟨go42, (x11_3 : Int).toNat, none⟩ (.bool true))) ?hg ?ho ?hn ?hr ?_; (case ho => rfl); (case hg => rfl); (case hn => rfl); (case hr => first | (go_simp; done) | (go_simp; rfl)); intro w63 hw; have hg : wr.grownBy w63 (some go42) := (by rw [hw]; exact HP62.2); have hp_ : Kd.R Kd.bool 4 w63 w.heap.size (fun k_ => some k_ ≠ (.slice Ao17 x5_1.length co17 : Value).ownBlock) (.slice (some ⟨go42, 0, none⟩) x10_3.length co42) y377 := (by rw [hw, Ny377.out]; exact HP62.1); clear HP62; have n0_ := Aside0.mk (Kd.S_after (v := (.slice (some ⟨go42, 0, none⟩) x10_3.length co42)) (v1 := (.slice (some ⟨go42, 0, none⟩) x10_3.length co42)) (ok := (fun k_ => some k_ ≠ (.slice Ao17 x5_1.length co17 : Value).ownBlock)) (by (with_reducible repeat (first | apply Kd.S_alloc | apply Kd.S_drewN | apply Kd.S_drew)); exact HO_4.out) hg (.inl rfl)); have n1_ := Aside0.mk (Kd.R_after (v := (.slice (some ⟨go42, 0, none⟩) x10_3.length co42)) (v1 := (.slice (some ⟨go42, 0, none⟩) x10_3.length co42)) (ok := (fun _ => True)) (by (with_reducible repeat (first | apply Kd.R_alloc | apply Kd.R_drewN | apply Kd.R_drew)); exact Kd.R_mono HO_5.out (fun _ hk => ⟨trivial, hk⟩)) hg (.inl rfl)); have n2_ := Aside0.mk (Kd.R_over' (v := (.slice (some ⟨go42, 0, none⟩) x10_3.length co42)) (by (with_reducible repeat (first | apply Kd.R_alloc | apply Kd.R_drewN | apply Kd.R_drew)); exact HO_6.out) (Kd.R_typed HO_10.out) (by decide) hg); have n3_ := Aside0.mk (hp_); have n4_ := Aside0.mk (blk_grown (g := gb355) (o := .cells #[.int .i64 a0_0, .slice (some ad365) l0_1.length c0_1] 30 (0, 0)) (by (with_reducible repeat (first | refine blk_drewN ?_ _ | refine blk_drew ?_ | refine blk_alloc ?_ _)); exact BK355.out) hg (Kd.R_ne HO_10.out BK355.out (by decide))); have n5_ := Aside0.mk (blk_grown (g := gb366) (o := .cells #[.int .i64 ((rd_T98 l0_1 x26_1).f0), .int .i64 ((rd_T98 l0_1 x26_1).f1)] 98 (0, 0)) (by (with_reducible repeat (first | refine blk_drewN ?_ _ | refine blk_drew ?_ | refine blk_alloc ?_ _)); exact BK366.out) hg (Kd.R_ne HO_10.out BK366.out (by decide))); have n6_ := Aside0.mk ((by rw [hw]; exact below_set (HB.out) GB42.out : Below w.heap.size w w63)); clear HO_4; clear HO_5; clear HO_6; clear HO_10; clear BK355; clear BK366; clear HB; have HO_4 := n0_; have HO_5 := n1_; have HO_6 := n2_; have HO_10 := n3_; have BK355 := n4_; have BK366 := n5_; have HB := n6_; clear n0_ n1_ n2_ n3_ n4_ n5_ n6_; clear hg hw hp_))
                      (try simp only [← hl10_3])
                      go_roundg k3
                      case measure => have := HK1.out; have := HJ22.out; have := HK3.out; omega
                      case rel => exact ⟨(y377), (wrap64 (x11_3 + 1)), (by first | rfl | (simp; done) | (simp [*]; done)), H', ⟨by have := HK1.out; have := HJ22.out; have := HK3.out; omega⟩, ⟨by (try simp only [hl5_1]); (try simp only [hl10_3]); (with_reducible repeat (first | apply Kd.S_alloc | apply Kd.S_drewN | apply Kd.S_drew)); exact HO_4.out⟩, ⟨by (try simp only [hl5_1]); (try simp only [hl10_3]); (with_reducible repeat (first | apply Kd.R_alloc | apply Kd.R_drewN | apply Kd.R_drew)); exact Kd.R_mono HO_5.out (fun _ hk => hk.2)⟩, ⟨by (try simp only [hl5_1]); (try simp only [hl10_3]); (with_reducible repeat (first | apply Kd.R_alloc | apply Kd.R_drewN | apply Kd.R_drew)); exact HO_6.out⟩, ⟨by (try simp only [hl5_1]); (try simp only [hl10_3]); (with_reducible repeat (first | apply Kd.R_alloc | apply Kd.R_drewN | apply Kd.R_drew)); exact HO_10.out⟩, ⟨by (try simp only [hl5_1]); (try simp only [hl10_3]); (with_reducible repeat (first | refine blk_drewN ?_ _ | refine blk_drew ?_ | refine blk_alloc ?_ _)); exact BK355.out⟩, ⟨by (try simp only [hl5_1]); (try simp only [hl10_3]); (with_reducible repeat (first | refine blk_drewN ?_ _ | refine blk_drew ?_ | refine blk_alloc ?_ _)); exact BK366.out⟩, ⟨by repeat (first | (with_reducible first | exact HB.out | apply below_alloc | apply pw_below_drewN | apply below_drew1 | refine below_set ?_ GE355.out | refine below_set ?_ GE366.out) | exact HB.out)⟩⟩
                     ·rw [if_neg c58] at H
                      exact absurd H (by simp)
                    ·rw [if_neg c57] at H
                     exact absurd H (by simp)
                   ·rw [if_neg c56] at H
                    have c56b0 : decide (x11_3 < ((rd_T98 l0_1 x26_1).f0)) = false := decide_eq_false c56
                    clear c56
                    replace H := Option.bind_eq_some_iff.mp H
                    obtain ⟨⟨t378, t379⟩, A640, H⟩ := H
                    replace H : (if (wrap64 (1 + t378)) = x7_1 then (if x6_1.length < 8796093022208 then (if 0 ≤ ((rd_T98 l0_1 x26_1).f0) then (if ((rd_T98 l0_1 x26_1).f0) < (x5_1.length : Int) then (if 0 ≤ ((rd_T98 l0_1 x26_1).f1) then (if ((rd_T98 l0_1 x26_1).f1) < (x5_1.length : Int) then (spec_MostInPairs.l0 k3 t357 ((x5_1.set (((rd_T98 l0_1 x26_1).f0) : Int).toNat true).set (((rd_T98 l0_1 x26_1).f1) : Int).toNat true) (x6_1 ++ [(⟨((rd_T98 l0_1 x26_1).f0), ((rd_T98 l0_1 x26_1).f1)⟩ : S98)]) (wrap64 (x7_1 - 1)) l0_1 (l0_1.length : Int) (wrap64 (x26_1 + 1))) else (none)) else (none)) else (none)) else (none)) else (none)) else (spec_MostInPairs.l0 k3 t357 x5_1 x6_1 x7_1 l0_1 (l0_1.length : Int) (wrap64 (x26_1 + 1)))) = some (r1, r2) := H
                    have A64 := Aside0.mk A640
                    clear A640
                    by_cases c65 : (wrap64 (1 + t378)) = x7_1
                    ·rw [if_pos c65] at H
                     have c65b0 : ((wrap64 (1 + t378)) == x7_1) = true := beq_iff_eq.mpr c65
                     have c65b1 : ((wrap64 (1 + t378)) != x7_1) = false := bne_eq_false_iff_eq.mpr c65
                     clear c65
                     by_cases c66 : x6_1.length < 8796093022208
                     ·rw [if_pos c66] at H
                      have LMc66 := Aside0.mk c66
                      clear c66
                      obtain ⟨y380, hy380⟩ : ∃ y_ : List (S98), y_ = (x6_1 ++ [(⟨((rd_T98 l0_1 x26_1).f0), ((rd_T98 l0_1 x26_1).f1)⟩ : S98)]) := ⟨_, rfl⟩
                      replace H : (if 0 ≤ ((rd_T98 l0_1 x26_1).f0) then (if ((rd_T98 l0_1 x26_1).f0) < (x5_1.length : Int) then (if 0 ≤ ((rd_T98 l0_1 x26_1).f1) then (if ((rd_T98 l0_1 x26_1).f1) < (x5_1.length : Int) then (spec_MostInPairs.l0 k3 t357 ((x5_1.set (((rd_T98 l0_1 x26_1).f0) : Int).toNat true).set (((rd_T98 l0_1 x26_1).f1) : Int).toNat true) y380 (wrap64 (x7_1 - 1)) l0_1 (l0_1.length : Int) (wrap64 (x26_1 + 1))) else (none)) else (none)) else (none)) else (none)) = some (r1, r2) := by first | (rw [hy380]; with_reducible exact H) | (have H2_ := (Option.bind_some _ _).symm.trans H; rw [hy380]; with_reducible exact H2_) | (have H2_ := (Option.bind_some _ _).symm.trans H; with_reducible exact H2_) | with_reducible exact H | (rw [hy380]; exact H) | exact H
                      have Ny380 := Aside0.mk hy380
                      clear hy380
                      by_cases c67 : 0 ≤ ((rd_T98 l0_1 x26_1).f0)
                      ·rw [if_pos c67] at H
                       have c67b0 : decide (0 ≤ ((rd_T98 l0_1 x26_1).f0)) = true := decide_eq_true c67
                       clear c67
                       by_cases c68 : ((rd_T98 l0_1 x26_1).f0) < (x5_1.length : Int)
                       ·rw [if_pos c68] at H
                        have c68b0 : decide (((rd_T98 l0_1 x26_1).f0) < (x5_1.length : Int)) = true := decide_eq_true c68
                        clear c68
                        obtain ⟨y383, hy383⟩ : ∃ y_ : List Bool, y_ = (x5_1.set (((rd_T98 l0_1 x26_1).f0) : Int).toNat true) := ⟨_, rfl⟩
                        replace H : (if 0 ≤ ((rd_T98 l0_1 x26_1).f1) then (if ((rd_T98 l0_1 x26_1).f1) < (x5_1.length : Int) then (spec_MostInPairs.l0 k3 t357 (y383.set (((rd_T98 l0_1 x26_1).f1) : Int).toNat true) y380 (wrap64 (x7_1 - 1)) l0_1 (l0_1.length : Int) (wrap64 (x26_1 + 1))) else (none)) else (none)) = some (r1, r2) := by first | (rw [hy383]; with_reducible exact H) | (have H2_ := (Option.bind_some _ _).symm.trans H; rw [hy383]; with_reducible exact H2_) | (have H2_ := (Option.bind_some _ _).symm.trans H; with_reducible exact H2_) | with_reducible exact H | (rw [hy383]; exact H) | exact H
                        have Ny383 := Aside0.mk hy383
                        clear hy383
                        by_cases c70 : 0 ≤ ((rd_T98 l0_1 x26_1).f1)
                        ·rw [if_pos c70] at H
                         have c70b0 : decide (0 ≤ ((rd_T98 l0_1 x26_1).f1)) = true := decide_eq_true c70
                         clear c70
                         by_cases c71 : ((rd_T98 l0_1 x26_1).f1) < (x5_1.length : Int)
                         ·rw [if_pos c71] at H
                          have c71b0 : decide (((rd_T98 l0_1 x26_1).f1) < (x5_1.length : Int)) = true := decide_eq_true c71
                          clear c71
                          obtain ⟨y384, hy384⟩ : ∃ y_ : List Bool, y_ = (y383.set (((rd_T98 l0_1 x26_1).f1) : Int).toNat true) := ⟨_, rfl⟩
                          replace H : (spec_MostInPairs.l0 k3 t357 y384 y380 (wrap64 (x7_1 - 1)) l0_1 (l0_1.length : Int) (wrap64 (x26_1 + 1))) = some (r1, r2) := by first | (rw [hy384]; with_reducible exact H) | (have H2_ := (Option.bind_some _ _).symm.trans H; rw [hy384]; with_reducible exact H2_) | (have H2_ := (Option.bind_some _ _).symm.trans H; with_reducible exact H2_) | with_reducible exact H | (rw [hy384]; exact H) | exact H
                          have Ny384 := Aside0.mk hy384
                          clear hy384
                          have H' := Aside0.mk H
                          clear H
                          have hnb73 := NB366_355.out
                          have hnc73 := NB355_366.out
                          have hcz74_0 : wr.cell? ⟨gb366, 0, none⟩ = some (.int .i64 ((rd_T98 l0_1 x26_1).f0)) := (blk_cell BK366.out 0).trans rfl
                          have hcz74_1 : wr.cell? ⟨gb366, 1, none⟩ = some (.int .i64 ((rd_T98 l0_1 x26_1).f1)) := (blk_cell BK366.out 1).trans rfl
                          have hfz74_0 := blk_frozen BK366.out 0
                          have hfz74_1 := blk_frozen BK366.out 1
                          go_wp2_with (first | ((with_reducible refine gate_callee (f := 80) rfl ?_); refine goesL_ (some 68) rfl rfl Tryd.func80 (by kernel_rfl) rfl #[.slice Ao16 t357.length co16, .slice (some ⟨go42, 0, none⟩) x10_3.length co42, .int .i64 0] rfl (by (try simp only [List.map_toArray, List.map_cons, List.map_nil]); first | done | rfl | (simp only [List.length_drop, List.length_take]; rfl)) ?_; (with_reducible refine (spec_taMost.calls k3 _ _ t357 (fun k_ => some k_ = (.slice (some ⟨go42, 0, none⟩) x10_3.length co42 : Value).ownBlock) (.slice (some ⟨go42, 0, none⟩) x10_3.length co42) x10_3 0 t378 t379 w _ ?side1 ?side2 ?side3 ?side4 A64.out).mono ?_); (case side1 => repeat (first | (with_reducible first | exact HB.out | apply below_alloc | apply pw_below_drewN | apply below_drew1 | refine below_set ?_ GE355.out | refine below_set ?_ GE366.out) | exact HB.out)); (case side2 => exact Kd.C_kept_own ((Kd.S_R HO_4.out)) (fun k_ hk_ hs_ => (hk_.2) hs_)); (case side3 => exact (Kd.S_reads' HO_4.out).2.1); (case side4 => exact Kd.R_tight rfl HO_10.out); rintro e w75 ⟨rfl, hy0, hb, hkp⟩; refine ⟨_, rfl, ?_⟩; have n0_ := Aside0.mk (Kd.S_mono (ok' := fun k_ => some k_ ≠ (.slice Ao17 x5_1.length co17 : Value).ownBlock ∧ some k_ ≠ (.slice (some ⟨go42, 0, none⟩) x10_3.length co42 : Value).ownBlock) (Kd.S_keptB (HO_4.out) hkp (fun k_ hk_ hs_ => (hk_.2) hs_)) (fun k_ hk_ => ⟨hk_.1.1, hk_.1.2⟩)); have n1_ := Aside0.mk (Kd.R_mono (ok' := fun k_ => some k_ ≠ (.slice (some ⟨go42, 0, none⟩) x10_3.length co42 : Value).ownBlock) (Kd.R_keptB (HO_5.out) hkp (fun k_ hk_ hs_ => (hk_) hs_)) (fun k_ hk_ => hk_.1)); have n2_ := Aside0.mk (Kd.R_mono (ok' := fun k_ => k_ ≠ gb366) (Kd.R_keptB ((Kd.R_apart' HO_6.out (Kd.R_typed HO_10.out) (by decide))) hkp (fun k_ hk_ hs_ => (hk_.2) hs_)) (fun k_ hk_ => hk_.1.1)); have n3_ := Aside0.mk (Kd.R_reok rfl hy0 (fun k_ e_ => HO_10.out.1 k_ e_)); have n4_ := Aside0.mk (blk_kept (by (with_reducible repeat (first | refine blk_drewN ?_ _ | refine blk_drew ?_ | refine blk_alloc ?_ _)); exact BK355.out) hkp (fun hs_ => (fun e_ => (Kd.R_ne HO_10.out BK355.out (by decide)) e_) hs_)); have n5_ := Aside0.mk (blk_kept (by (with_reducible repeat (first | refine blk_drewN ?_ _ | refine blk_drew ?_ | refine blk_alloc ?_ _)); exact BK366.out) hkp (fun hs_ => (fun e_ => (Kd.R_ne HO_10.out BK366.out (by decide)) e_) hs_)); have n6_ := Aside0.mk (hb); clear HO_4; clear HO_5; clear HO_6; clear HO_10; clear BK355; clear BK366; clear HB; have HO_4 := n0_; have HO_5 := n1_; have HO_6 := n2_; have HO_10 := n3_; have BK355 := n4_; have BK366 := n5_; have HB := n6_; clear n0_ n1_ n2_ n3_ n4_ n5_ n6_; (try clear hb); (try clear hkp); (try clear hy0); have hcz76_0 : w75.cell? ⟨gb366, 0, none⟩ = some (.int .i64 ((rd_T98 l0_1 x26_1).f0)) := (blk_cell BK366.out 0).trans rfl; have hcz76_1 : w75.cell? ⟨gb366, 1, none⟩ = some (.int .i64 ((rd_T98 l0_1 x26_1).f1)) := (blk_cell BK366.out 1).trans rfl; have hfz76_0 := blk_frozen BK366.out 0; have hfz76_1 := blk_frozen BK366.out 1) | ((with_reducible refine gate_builtin (b := .append) (xs := #[.tmp 72, .tmp 74]) rfl ?_); at_builtin; refine Kd.R_append k98 (w0 := w) w.heap.size rfl (.tmp 72) (.tmp 74) 28 98 (.agg #[(.int .i64 0), (.int .i64 0)]) 16 rfl Tryd.underlying28 info98 rfl (by decide) (by omega) u6 x6_1 (⟨((rd_T98 l0_1 x26_1).f0), ((rd_T98 l0_1 x26_1).f1)⟩ : S98) [.int .i64 ((rd_T98 l0_1 x26_1).f0), .int .i64 ((rd_T98 l0_1 x26_1).f1)] (fun k_ => k_ ≠ gb366) (fun _ => False) rfl rfl ?aP (fun _ hk => hk.elim) ?aF ?aO ?aB ?aS ?aL ?_; (case aP => exact k98_mkM _ _ _ (⟨((rd_T98 l0_1 x26_1).f0), ((rd_T98 l0_1 x26_1).f1)⟩ : S98)); (case aB => exact (by repeat (first | (with_reducible first | exact HB.out | apply below_alloc | apply pw_below_drewN | apply below_drew1 | refine below_set ?_ GE355.out | refine below_set ?_ GE366.out) | exact HB.out))); (case aF => exact (fun k_ hk => Kd.freshB (g := gb366) (o := .cells #[.int .i64 ((rd_T98 l0_1 x26_1).f0), .int .i64 ((rd_T98 l0_1 x26_1).f1)] 98 (0, 0)) (by (with_reducible repeat (first | refine blk_drewN ?_ _ | refine blk_drew ?_ | refine blk_alloc ?_ _)); exact BK366.out) k_ hk)); (case aO => exact (by (with_reducible repeat (first | apply Kd.R_alloc | apply Kd.R_drewN | apply Kd.R_drew)); exact HO_6.out)); (case aS => exact (below_size (by repeat (first | (with_reducible first | exact HB.out | apply below_alloc | apply pw_below_drewN | apply below_drew1 | refine below_set ?_ GE355.out | refine below_set ?_ GE366.out) | exact HB.out)))); (case aL => have := LMc66.out; omega); intro v381 w77 ho hb hg hat; rw [← Ny380.out] at ho; have n0_ := Aside0.mk (Kd.S_over' (by (with_reducible repeat (first | apply Kd.S_alloc | apply Kd.S_drewN | apply Kd.S_drew)); exact HO_4.out) (Kd.R_typed (by (with_reducible repeat (first | apply Kd.R_alloc | apply Kd.R_drewN | apply Kd.R_drew)); exact HO_6.out)) (by decide) hg); have n1_ := Aside0.mk (Kd.R_over' (by (with_reducible repeat (first | apply Kd.R_alloc | apply Kd.R_drewN | apply Kd.R_drew)); exact HO_5.out) (Kd.R_typed (by (with_reducible repeat (first | apply Kd.R_alloc | apply Kd.R_drewN | apply Kd.R_drew)); exact HO_6.out)) (by decide) hg); have n2_ := Aside0.mk (Kd.R_over' (by (with_reducible repeat (first | apply Kd.R_alloc | apply Kd.R_drewN | apply Kd.R_drew)); exact HO_10.out) (Kd.R_typed (by (with_reducible repeat (first | apply Kd.R_alloc | apply Kd.R_drewN | apply Kd.R_drew)); exact HO_6.out)) (by decide) hg); have n3_ := Aside0.mk (blk_grown (g := gb355) (o := .cells #[.int .i64 a0_0, .slice (some ad365) l0_1.length c0_1] 30 (0, 0)) (by (with_reducible repeat (first | refine blk_drewN ?_ _ | refine blk_drew ?_ | refine blk_alloc ?_ _)); exact BK355.out) hg (Kd.R_ne HO_6.out BK355.out (by decide))); have n4_ := Aside0.mk (blk_grown (g := gb366) (o := .cells #[.int .i64 ((rd_T98 l0_1 x26_1).f0), .int .i64 ((rd_T98 l0_1 x26_1).f1)] 98 (0, 0)) (by (with_reducible repeat (first | refine blk_drewN ?_ _ | refine blk_drew ?_ | refine blk_alloc ?_ _)); exact BK366.out) hg (Kd.R_away HO_6.out (fun _ hk => hk))); have n5_ := Aside0.mk (hb); have n6_ := Aside0.mk (ho); clear HO_4; clear HO_5; clear HO_10; clear BK355; clear BK366; clear HB; clear HO_6; have HO_4 := n0_; have HO_5 := n1_; have HO_10 := n2_; have BK355 := n3_; have BK366 := n4_; have HB := n5_; have HO382 := n6_; clear n0_ n1_ n2_ n3_ n4_ n5_ n6_; clear ho hb hg hat; have hcz78_0 : w77.cell? ⟨gb366, 0, none⟩ = some (.int .i64 ((rd_T98 l0_1 x26_1).f0)) := (blk_cell BK366.out 0).trans rfl; have hcz78_1 : w77.cell? ⟨gb366, 1, none⟩ = some (.int .i64 ((rd_T98 l0_1 x26_1).f1)) := (blk_cell BK366.out 1).trans rfl; have hfz78_0 := blk_frozen BK366.out 0; have hfz78_1 := blk_frozen BK366.out 1; have p69 : 0 ≤ (((rd_T98 l0_1 x26_1).f0) : Int) := of_decide_eq_true (by first | (with_reducible assumption) | assumption); have q69 : (((rd_T98 l0_1 x26_1).f0) : Int) < ((x5_1.length : Int) : Int) := of_decide_eq_true (by first | (with_reducible assumption) | assumption); obtain ⟨go69, co69, eo69, gb69, gl69, cl69, HG69⟩ := Kd.R_form HO_5.out (by omega); (first | cases eo69 | (injection eo69 with ea_ en_ ec_; (first | subst ea_ | (injection ea_ with ea_; subst ea_)); subst ec_; clear en_)); have GB69 := Aside0.mk gb69; have GG69 := Aside0.mk HG69; clear gb69 gl69 HG69; obtain ⟨hx69_0, hf69_0⟩ := Kd.R_celln false HO_5.out (((rd_T98 l0_1 x26_1).f0) : Int) p69 q69; replace p69 := eq_true p69; replace q69 := eq_true q69; obtain ⟨hy79_, hz79_⟩ := Kd.R_celln false HO_5.out (((rd_T98 l0_1 x26_1).f0) : Int) (of_decide_eq_true (by first | (with_reducible assumption) | assumption)) (of_decide_eq_true (by first | (with_reducible assumption) | assumption)); have HP79 := Kd.R_putg HO_5.out (((rd_T98 l0_1 x26_1).f0) : Int) true) | ((with_reducible refine gate_store (t := 4) (p := 79) rfl ?_); refine store_event (t := 4) (p := 79) (v := ?vo_w80) (w1 := (w77.setCell ⟨go69, (((rd_T98 l0_1 x26_1).f0) : Int).toNat, none⟩ (.bool true))) ?hg ?ho ?hn ?hr ?_; (case ho => rfl); (case hg => rfl); (case hn => rfl); (case hr => first | (go_simp; done) | (go_simp; rfl)); intro w80 hw; have hg : w77.grownBy w80 (some go69) := (by rw [hw]; exact HP79.2); have hp_ : Kd.R Kd.bool 4 w80 w.heap.size (fun k_ => some k_ ≠ (.slice (some ⟨go42, 0, none⟩) x10_3.length co42 : Value).ownBlock) (.slice (some ⟨go69, 0, none⟩) x5_1.length co17) y383 := (by rw [hw, Ny383.out]; exact HP79.1); clear HP79; have n0_ := Aside0.mk (Kd.S_after (v := (.slice (some ⟨go69, 0, none⟩) x5_1.length co17)) (v1 := (.slice (some ⟨go69, 0, none⟩) x5_1.length co17)) (ok := (fun k_ => some k_ ≠ (.slice (some ⟨go42, 0, none⟩) x10_3.length co42 : Value).ownBlock)) (by (with_reducible repeat (first | apply Kd.S_alloc | apply Kd.S_drewN | apply Kd.S_drew)); exact Kd.S_mono HO_4.out (fun _ hk => ⟨hk.2, hk.1⟩)) hg (.inl rfl)); have n1_ := Aside0.mk (hp_); have n2_ := Aside0.mk (Kd.R_after (v := (.slice (some ⟨go69, 0, none⟩) x5_1.length co17)) (v1 := (.slice (some ⟨go69, 0, none⟩) x5_1.length co17)) (ok := (fun _ => True)) (by (with_reducible repeat (first | apply Kd.R_alloc | apply Kd.R_drewN | apply Kd.R_drew)); exact Kd.R_mono HO_10.out (fun _ hk => ⟨trivial, hk⟩)) hg (.inl rfl)); have n3_ := Aside0.mk (blk_grown (g := gb355) (o := .cells #[.int .i64 a0_0, .slice (some ad365) l0_1.length c0_1] 30 (0, 0)) (by (with_reducible repeat (first | refine blk_drewN ?_ _ | refine blk_drew ?_ | refine blk_alloc ?_ _)); exact BK355.out) hg (Kd.R_ne HO_5.out BK355.out (by decide))); have n4_ := Aside0.mk (blk_grown (g := gb366) (o := .cells #[.int .i64 ((rd_T98 l0_1 x26_1).f0), .int .i64 ((rd_T98 l0_1 x26_1).f1)] 98 (0, 0)) (by (with_reducible repeat (first | refine blk_drewN ?_ _ | refine blk_drew ?_ | refine blk_alloc ?_ _)); exact BK366.out) hg (Kd.R_ne HO_5.out BK366.out (by decide))); have n5_ := Aside0.mk (Kd.R_over' (v := (.slice (some ⟨go69, 0, none⟩) x5_1.length co17)) (by (with_reducible repeat (first | apply Kd.R_alloc | apply Kd.R_drewN | apply Kd.R_drew)); exact HO382.out) (Kd.R_typed HO_5.out) (by decide) hg); have n6_ := Aside0.mk ((by rw [hw]; exact below_set (HB.out) GB69.out : Below w.heap.size w w80)); clear HO_4; clear HO_5; clear HO_10; clear BK355; clear BK366; clear HO382; clear HB; have HO_4 := n0_; have HO_5 := n1_; have HO_10 := n2_; have BK355 := n3_; have BK366 := n4_; have HO382 := n5_; have HB := n6_; clear n0_ n1_ n2_ n3_ n4_ n5_ n6_; clear hg hw hp_; have hcz81_0 : w80.cell? ⟨gb366, 0, none⟩ = some (.int .i64 ((rd_T98 l0_1 x26_1).f0)) := (blk_cell BK366.out 0).trans rfl; have hcz81_1 : w80.cell? ⟨gb366, 1, none⟩ = some (.int .i64 ((rd_T98 l0_1 x26_1).f1)) := (blk_cell BK366.out 1).trans rfl; have hfz81_0 := blk_frozen BK366.out 0; have hfz81_1 := blk_frozen BK366.out 1; have p72 : 0 ≤ (((rd_T98 l0_1 x26_1).f1) : Int) := of_decide_eq_true (by first | (with_reducible assumption) | assumption); have q72 : (((rd_T98 l0_1 x26_1).f1) : Int) < ((x5_1.length : Int) : Int) := of_decide_eq_true (by first | (with_reducible assumption) | assumption); obtain ⟨hx72_0, hf72_0⟩ := Kd.R_celln false HO_5.out (((rd_T98 l0_1 x26_1).f1) : Int) p72 q72; replace p72 := eq_true p72; replace q72 := eq_true q72; obtain ⟨hy82_, hz82_⟩ := Kd.R_celln false HO_5.out (((rd_T98 l0_1 x26_1).f1) : Int) (of_decide_eq_true (by first | (with_reducible assumption) | assumption)) (of_decide_eq_true (by first | (with_reducible assumption) | assumption)); have HP82 := Kd.R_putg HO_5.out (((rd_T98 l0_1 x26_1).f1) : Int) true) | ((with_reducible refine gate_store (t := 4) (p := 83) rfl ?_); refine store_event (t := 4) (p := 83) (v := ?vo_w83) (w1 := (w80.setCell ⟨go69, (((rd_T98 l0_1 x26_1).f1) : Int).toNat, none⟩ (.bool true))) ?hg ?ho ?hn ?hr ?_; (case ho => rfl); (case hg => rfl); (case hn => rfl); (case hr => first | (go_simp; done) | (go_simp; rfl)); intro w83 hw; have hg : w80.grownBy w83 (some go69) := (by rw [hw]; exact HP82.2); have hp_ : Kd.R Kd.bool 4 w83 w.heap.size (fun k_ => some k_ ≠ (.slice (some ⟨go42, 0, none⟩) x10_3.length co42 : Value).ownBlock) (.slice (some ⟨go69, 0, none⟩) x5_1.length co17) y384 := (by rw [hw, Ny384.out]; exact HP82.1); clear HP82; have n0_ := Aside0.mk (Kd.S_after (v := (.slice (some ⟨go69, 0, none⟩) x5_1.length co17)) (v1 := (.slice (some ⟨go69, 0, none⟩) x5_1.length co17)) (ok := (fun k_ => some k_ ≠ (.slice (some ⟨go42, 0, none⟩) x10_3.length co42 : Value).ownBlock)) (by (with_reducible repeat (first | apply Kd.S_alloc | apply Kd.S_drewN | apply Kd.S_drew)); exact HO_4.out) hg (.inl rfl)); have n1_ := Aside0.mk (hp_); have n2_ := Aside0.mk (Kd.R_after (v := (.slice (some ⟨go69, 0, none⟩) x5_1.length co17)) (v1 := (.slice (some ⟨go69, 0, none⟩) x5_1.length co17)) (ok := (fun _ => True)) (by (with_reducible repeat (first | apply Kd.R_alloc | apply Kd.R_drewN | apply Kd.R_drew)); exact HO_10.out) hg (.inl rfl)); have n3_ := Aside0.mk (blk_grown (g := gb355) (o := .cells #[.int .i64 a0_0, .slice (some ad365) l0_1.length c0_1] 30 (0, 0)) (by (with_reducible repeat (first | refine blk_drewN ?_ _ | refine blk_drew ?_ | refine blk_alloc ?_ _)); exact BK355.out) hg (Kd.R_ne HO_5.out BK355.out (by decide))); have n4_ := Aside0.mk (blk_grown (g := gb366) (o := .cells #[.int .i64 ((rd_T98 l0_1 x26_1).f0), .int .i64 ((rd_T98 l0_1 x26_1).f1)] 98 (0, 0)) (by (with_reducible repeat (first | refine blk_drewN ?_ _ | refine blk_drew ?_ | refine blk_alloc ?_ _)); exact BK366.out) hg (Kd.R_ne HO_5.out BK366.out (by decide))); have n5_ := Aside0.mk (Kd.R_over' (v := (.slice (some ⟨go69, 0, none⟩) x5_1.length co17)) (by (with_reducible repeat (first | apply Kd.R_alloc | apply Kd.R_drewN | apply Kd.R_drew)); exact HO382.out) (Kd.R_typed HO_5.out) (by decide) hg); have n6_ := Aside0.mk ((by rw [hw]; exact below_set (HB.out) GB69.out : Below w.heap.size w w83)); clear HO_4; clear HO_5; clear HO_10; clear BK355; clear BK366; clear HO382; clear HB; have HO_4 := n0_; have HO_5 := n1_; have HO_10 := n2_; have BK355 := n3_; have BK366 := n4_; have HO382 := n5_; have HB := n6_; clear n0_ n1_ n2_ n3_ n4_ n5_ n6_; clear hg hw hp_))
                          (try simp only [← hl5_1, ← hl10_3])
                          go_roundg k3
                          case measure => have := HK1.out; have := HJ22.out; have := HK3.out; omega
                          case rel => exact ⟨(y384), (y380), (wrap64 (x7_1 - 1)), (wrap64 (x26_1 + 1)), (by first | rfl | (simp; done) | (simp [*]; done)), (by first | rfl | (simp; done) | (simp [*]; done)), H', ⟨by have := HK1.out; have := HJ22.out; have := HK3.out; omega⟩, ⟨by (try simp only [hl5_1]); (try simp only [hl10_3]); (with_reducible repeat (first | apply Kd.S_alloc | apply Kd.S_drewN | apply Kd.S_drew)); exact Kd.S_mono HO_4.out (fun _ hk => hk.2)⟩, ⟨by (try simp only [hl5_1]); (try simp only [hl10_3]); (with_reducible repeat (first | apply Kd.R_alloc | apply Kd.R_drewN | apply Kd.R_drew)); exact Kd.R_mono HO_5.out (fun _ hk => trivial)⟩, ⟨by (try simp only [hl5_1]); (try simp only [hl10_3]); (with_reducible repeat (first | apply Kd.R_alloc | apply Kd.R_drewN | apply Kd.R_drew)); exact Kd.R_mono HO382.out (fun _ hk => trivial)⟩, ⟨by (try simp only [hl5_1]); (try simp only [hl10_3]); (with_reducible repeat (first | refine blk_drewN ?_ _ | refine blk_drew ?_ | refine blk_alloc ?_ _)); exact BK355.out⟩, ⟨by repeat (first | (with_reducible first | exact HB.out | apply below_alloc | apply pw_below_drewN | apply below_drew1 | refine below_set ?_ GE355.out | refine below_set ?_ GE366.out) | exact HB.out)⟩⟩
                         ·rw [if_neg c71] at H
                          exact absurd H (by simp)
                        ·rw [if_neg c70] at H
                         exact absurd H (by simp)
                       ·rw [if_neg c68] at H
                        exact absurd H (by simp)
                      ·rw [if_neg c67] at H
                       exact absurd H (by simp)
                     ·rw [if_neg c66] at H
                      exact absurd H (by simp)
                    ·rw [if_neg c65] at H
                     have c65b0 : ((wrap64 (1 + t378)) == x7_1) = false := beq_eq_false_iff_ne.mpr c65
                     have c65b1 : ((wrap64 (1 + t378)) != x7_1) = true := bne_iff_ne.mpr c65
                     have H' := Aside0.mk H
                     clear H
                     have hnb84 := NB366_355.out
                     have hnc84 := NB355_366.out
                     have hcz85_0 : wr.cell? ⟨gb366, 0, none⟩ = some (.int .i64 ((rd_T98 l0_1 x26_1).f0)) := (blk_cell BK366.out 0).trans rfl
                     have hcz85_1 : wr.cell? ⟨gb366, 1, none⟩ = some (.int .i64 ((rd_T98 l0_1 x26_1).f1)) := (blk_cell BK366.out 1).trans rfl
                     have hfz85_0 := blk_frozen BK366.out 0
                     have hfz85_1 := blk_frozen BK366.out 1
                     go_wp2_with (first | ((with_reducible refine gate_callee (f := 80) rfl ?_); refine goesL_ (some 68) rfl rfl Tryd.func80 (by kernel_rfl) rfl #[.slice Ao16 t357.length co16, .slice (some ⟨go42, 0, none⟩) x10_3.length co42, .int .i64 0] rfl (by (try simp only [List.map_toArray, List.map_cons, List.map_nil]); first | done | rfl | (simp only [List.length_drop, List.length_take]; rfl)) ?_; (with_reducible refine (spec_taMost.calls k3 _ _ t357 (fun k_ => some k_ = (.slice (some ⟨go42, 0, none⟩) x10_3.length co42 : Value).ownBlock) (.slice (some ⟨go42, 0, none⟩) x10_3.length co42) x10_3 0 t378 t379 w _ ?side1 ?side2 ?side3 ?side4 A64.out).mono ?_); (case side1 => repeat (first | (with_reducible first | exact HB.out | apply below_alloc | apply pw_below_drewN | apply below_drew1 | refine below_set ?_ GE355.out | refine below_set ?_ GE366.out) | exact HB.out)); (case side2 => exact Kd.C_kept_own ((Kd.S_R HO_4.out)) (fun k_ hk_ hs_ => (hk_.2) hs_)); (case side3 => exact (Kd.S_reads' HO_4.out).2.1); (case side4 => exact Kd.R_tight rfl HO_10.out); rintro e w86 ⟨rfl, hy0, hb, hkp⟩; refine ⟨_, rfl, ?_⟩; have n0_ := Aside0.mk (Kd.S_mono (ok' := fun k_ => some k_ ≠ (.slice Ao17 x5_1.length co17 : Value).ownBlock ∧ some k_ ≠ (.slice (some ⟨go42, 0, none⟩) x10_3.length co42 : Value).ownBlock) (Kd.S_keptB (HO_4.out) hkp (fun k_ hk_ hs_ => (hk_.2) hs_)) (fun k_ hk_ => ⟨hk_.1.1, hk_.1.2⟩)); have n1_ := Aside0.mk (Kd.R_mono (ok' := fun k_ => some k_ ≠ (.slice (some ⟨go42, 0, none⟩) x10_3.length co42 : Value).ownBlock) (Kd.R_keptB (HO_5.out) hkp (fun k_ hk_ hs_ => (hk_) hs_)) (fun k_ hk_ => hk_.1)); have n2_ := Aside0.mk (Kd.R_mono (ok' := fun k_ => k_ ≠ gb366) (Kd.R_keptB ((Kd.R_apart' HO_6.out (Kd.R_typed HO_10.out) (by decide))) hkp (fun k_ hk_ hs_ => (hk_.2) hs_)) (fun k_ hk_ => hk_.1.1)); have n3_ := Aside0.mk (Kd.R_reok rfl hy0 (fun k_ e_ => HO_10.out.1 k_ e_)); have n4_ := Aside0.mk (blk_kept (by (with_reducible repeat (first | refine blk_drewN ?_ _ | refine blk_drew ?_ | refine blk_alloc ?_ _)); exact BK355.out) hkp (fun hs_ => (fun e_ => (Kd.R_ne HO_10.out BK355.out (by decide)) e_) hs_)); have n5_ := Aside0.mk (blk_kept (by (with_reducible repeat (first | refine blk_drewN ?_ _ | refine blk_drew ?_ | refine blk_alloc ?_ _)); exact BK366.out) hkp (fun hs_ => (fun e_ => (Kd.R_ne HO_10.out BK366.out (by decide)) e_) hs_)); have n6_ := Aside0.mk (hb); clear HO_4; clear HO_5; clear HO_6; clear HO_10; clear BK355; clear BK366; clear HB; have HO_4 := n0_; have HO_5 := n1_; have HO_6 := n2_; have HO_10 := n3_; have BK355 := n4_; have BK366 := n5_; have HB := n6_; clear n0_ n1_ n2_ n3_ n4_ n5_ n6_; (try clear hb); (try clear hkp); (try clear hy0)))
                     (try simp only [← hl5_1, ← hl10_3])
                     go_roundg k3
                     case measure => have := HK1.out; have := HJ22.out; have := HK3.out; omega
                     case rel => exact ⟨(x5_1), (x6_1), (x7_1), (wrap64 (x26_1 + 1)), (by first | rfl | (simp; done) | (simp [*]; done)), (by first | rfl | (simp; done) | (simp [*]; done)), H', ⟨by have := HK1.out; have := HJ22.out; have := HK3.out; omega⟩, ⟨by (try simp only [hl5_1]); (try simp only [hl10_3]); (with_reducible repeat (first | apply Kd.S_alloc | apply Kd.S_drewN | apply Kd.S_drew)); exact Kd.S_mono HO_4.out (fun _ hk => hk.1)⟩, ⟨by (try simp only [hl5_1]); (try simp only [hl10_3]); (with_reducible repeat (first | apply Kd.R_alloc | apply Kd.R_drewN | apply Kd.R_drew)); exact Kd.R_mono HO_5.out (fun _ hk => trivial)⟩, ⟨by (try simp only [hl5_1]); (try simp only [hl10_3]); (with_reducible repeat (first | apply Kd.R_alloc | apply Kd.R_drewN | apply Kd.R_drew)); exact Kd.R_mono HO_6.out (fun _ hk => trivial)⟩, ⟨by (try simp only [hl5_1]); (try simp only [hl10_3]); (with_reducible repeat (first | refine blk_drewN ?_ _ | refine blk_drew ?_ | refine blk_alloc ?_ _)); exact BK355.out⟩, ⟨by repeat (first | (with_reducible first | exact HB.out | apply below_alloc | apply pw_below_drewN | apply below_drew1 | refine below_set ?_ GE355.out | refine below_set ?_ GE366.out) | exact HB.out)⟩⟩
                ·rw [if_neg c44] at H
                 exact absurd H (by simp)
               ·rw [if_neg c43] at H
                exact absurd H (by simp)
              ·rw [if_neg c41] at H
               exact absurd H (by simp)
             ·rw [if_neg c40] at H
              exact absurd H (by simp)
            ·rw [if_neg c39] at H
             exact absurd H (by simp)
        ·rw [if_neg c22] at H
         exact absurd H (by simp)
       ·rw [if_neg c21] at H
        exact absurd H (by simp)
      ·rw [if_neg c20] at H
       have c20b0 : decide (x26_1 < (l0_1.length : Int)) = false := decide_eq_false c20
       clear c20
       simp only [Option.some.injEq, Prod.mk.injEq] at H
       obtain ⟨rfl, rfl⟩ := H
       go_wp2
       go_ret2
       exact ⟨_, by first | rfl | (simp [errW_none, errW_some] <;> rfl) | (simp [*, errW_none, errW_some] <;> rfl), by (with_reducible repeat (first | apply Kd.R_alloc | apply Kd.R_drewN | apply Kd.R_drew)); exact HO_6.out, by repeat (first | (with_reducible first | exact HB.out | apply below_alloc | apply pw_below_drewN | apply below_drew1 | refine below_set ?_ GE355.out) | exact HB.out)⟩
   ·rw [if_neg c6] at H
    exact absurd H (by simp)
  ·rw [if_neg c5] at H
   exact absurd H (by simp)
 ·replace c3 := Bool.eq_false_iff.mpr c3
  subst c3
  have H1 : (some (([] : List (S98)), false)) = some (r1, r2) := by rw [if_neg (show ¬ (false = true) by decide)] at H; exact H
  clear H
  have H := H1
  clear H1
  simp only [Option.some.injEq, Prod.mk.injEq] at H
  obtain ⟨rfl, rfl⟩ := H
  go_enter Tryd.func26, Tryd.ntmps26
  go_wp2_with (first | ((with_reducible refine gate_dst (N := 1) rfl ?_); refine box_event ?hg (N := 1) ?hd (cs := #[.int .i64 a0_0, .slice A0_1 l0_1.length c0_1]) (t := 30) ?hr ?_; (case hd => rfl); (case hg => rfl); (case hr => first | (go_simp; done) | (go_simp; rfl)); intro gb355 hg w87 hbox hb; have n0_ := Aside0.mk (below_step (by repeat (first | (with_reducible first | exact HB.out | apply below_alloc | apply pw_below_drewN | apply below_drew1) | exact HB.out)) hb); have n1_ := Aside0.mk (hbox); have n2_ := Aside0.mk ((by rw [hg]; exact (below_size (by repeat (first | (with_reducible first | exact HB.out | apply below_alloc | apply pw_below_drewN | apply below_drew1) | exact HB.out))) : w.heap.size ≤ gb355)); have n3_ := Aside0.mk ((by rw [hg]; exact (below_size (by repeat (first | (with_reducible first | exact HB.out | apply below_alloc | apply pw_below_drewN | apply below_drew1) | exact HB.out))) : w.heap.size ≤ gb355)); clear HB; have HB := n0_; have BK355 := n1_; have GW355 := n2_; have GE355 := n3_; clear n0_ n1_ n2_ n3_; clear hb hbox hg; have hcz88_0 : w87.cell? ⟨gb355, 0, none⟩ = some (.int .i64 a0_0) := (blk_cell BK355.out 0).trans rfl; have hcz88_1 : w87.cell? ⟨gb355, 1, none⟩ = some (.slice A0_1 l0_1.length c0_1) := (blk_cell BK355.out 1).trans rfl; have hfz88_0 := blk_frozen BK355.out 0; have hfz88_1 := blk_frozen BK355.out 1) | ((with_reducible refine gate_callee (f := 66) rfl ?_); refine goesL_ (some 13) rfl rfl Tryd.func66 (by kernel_rfl) rfl #[.agg #[.int .i64 a0_0, .slice A0_1 l0_1.length c0_1]] rfl (by (try simp only [List.map_toArray, List.map_cons, List.map_nil]); first | done | rfl | (simp only [List.length_drop, List.length_take]; rfl)) ?_; (with_reducible refine (spec_paGood.calls k a0_0 _ _ l0_1 false _ ?side1 ?side2 A2.out).mono ?_); (case side1 => repeat (first | exact (Kd.C_below HR0_1.out HB.out) | (with_reducible refine Kd.C_alloc ?_ _) | (with_reducible refine Kd.C_drewN ?_ _) | (with_reducible refine Kd.C_drew ?_))); (case side2 => exact HC0_1.out); rintro e w89 ⟨rfl, hb⟩; refine ⟨_, rfl, ?_⟩; have n0_ := Aside0.mk (blk_below (g := gb355) (o := .cells #[.int .i64 a0_0, .slice A0_1 l0_1.length c0_1] 30 (0, 0)) (by (with_reducible repeat (first | refine blk_drewN ?_ _ | refine blk_drew ?_ | refine blk_alloc ?_ _)); exact BK355.out) hb); have n1_ := Aside0.mk (below_step (by repeat (first | (with_reducible first | exact HB.out | apply below_alloc | apply pw_below_drewN | apply below_drew1 | refine below_set ?_ GE355.out) | exact HB.out)) hb); clear BK355; clear HB; have BK355 := n0_; have HB := n1_; clear n0_ n1_; (try clear hb); (try clear hb2); (try clear hk); (try clear hi)))
  go_ret2
  exact ⟨_, by first | rfl | (simp [errW_none, errW_some] <;> rfl) | (simp [*, errW_none, errW_some] <;> rfl), by first | exact Kd.R_nil _ _ _ _ _ | exact Kd.N_nil _ _ _ _ _ | exact Kd.V_nil _ _ _ _ _ | exact Kd.Q_nil _ _ _ _ _ | exact Kd.S_nil _ _ _ _ _, by repeat (first | (with_reducible first | exact HB.out | apply below_alloc | apply pw_below_drewN | apply below_drew1 | refine below_set ?_ GE355.out) | exact HB.out)⟩
end Go.Proofs.YtopahhcojncgaaaDoor.G
namespace Go.Proofs.YtopahhcojncgaaaDoor.G
open Go.RowKit Go.Proofs.YtopahhcojncgaaaDoorW.PrintWords Go.Proofs.YtopahhcojncgaaaDoorW.PrintLast Go.Proofs.YtopahhcojncgaaaDoorW.PrintMore
attribute [local go_sem] max2_int min2_int max_two min_two max_three min_three max_four min_four
set_option linter.unusedVariables false
set_option linter.unusedSimpArgs false
def impl_MostInPairs.f (k : Nat) (a0_0 : Int) (l0_1 : List (S98)) : Option ((List (S98)) × Bool) := (impl_IsParty.f k a0_0 l0_1).bind fun t287 => (if t287 = true then ((impl_mostInPairs.f k a0_0 l0_1).bind fun t288 => (some (t288, true))) else (some (([] : List (S98)), false)))
theorem impl_MostInPairs.mono : ∀ a0 a1 k, LeO (impl_MostInPairs.f k a0 a1) (impl_MostInPairs.f (k + 1) a0 a1) := by
 intro a0 a1 k
 unfold impl_MostInPairs.f
 repeat' first
   | (with_reducible exact impl_IsParty.mono _ _ _)
   | (with_reducible exact impl_mostInPairs.mono _ _ _)
   | (with_reducible exact LeO.refl _)
   | (with_reducible exact LeO.none _)
   | (with_reducible refine LeO.ite ?_ ?_)
   | (with_reducible refine LeO.bind ?_ (fun _ => ?_))
   | exact impl_IsParty.mono _ _ _
   | exact impl_mostInPairs.mono _ _ _
   | exact LeO.none _
   | refine LeO.ite ?_ ?_
   | refine LeO.bind ?_ (fun _ => ?_)
set_option maxHeartbeats 8000000 in
set_option maxRecDepth 100000 in
theorem impl_MostInPairs.calls (k : Nat) (a0_0 : Int) (A0_1 : Option Addr) (c0_1 : Nat) (l0_1 : List (S98)) (r1 : List (S98)) (r2 : Bool) (w : World) (hG : Laid32 w) (hr0_1 : Kd.C k98 w A0_1 l0_1.length l0_1) (hc0_1 : l0_1.length ≤ c0_1) (h : impl_MostInPairs.f k a0_0 l0_1 = some (r1, r2)) :
  Calls Tryd.prog 27 #[.agg #[.int .i64 a0_0, .slice A0_1 l0_1.length c0_1]] w fun e w' => ∃ v0_ : Value, e = .returned (.tuple #[v0_, .bool r2]) ∧ Kd.R k98 98 w' w.heap.size (fun _ => True) v0_ r1 ∧ Below w.heap.size w w' := by
 have hu30 := Tryd.underlying30
 have HG := Aside0.mk hG
 clear hG
 have HR0_1 := Aside0.mk hr0_1
 have HC0_1 := Aside0.mk hc0_1
 clear hr0_1 hc0_1
 have HB := Aside0.mk (Below.refl w.heap.size w)
 have H : ((impl_IsParty.f k a0_0 l0_1).bind fun t287 => (if t287 = true then ((impl_mostInPairs.f k a0_0 l0_1).bind fun t288 => (some (t288, true))) else (some (([] : List (S98)), false)))) = some (r1, r2) := h
 clear h
 replace H := Option.bind_eq_some_iff.mp H
 obtain ⟨t287, A20, H⟩ := H
 replace H : (if t287 = true then ((impl_mostInPairs.f k a0_0 l0_1).bind fun t288 => (some (t288, true))) else (some (([] : List (S98)), false))) = some (r1, r2) := H
 have A2 := Aside0.mk A20
 clear A20
 by_cases c3 : t287 = true
 ·subst c3
  have H1 : ((impl_mostInPairs.f k a0_0 l0_1).bind fun t288 => (some (t288, true))) = some (r1, r2) := by rw [if_pos rfl] at H; exact H
  clear H
  have H := H1
  clear H1
  replace H := Option.bind_eq_some_iff.mp H
  obtain ⟨t288, A40, H⟩ := H
  replace H : (some (t288, true)) = some (r1, r2) := H
  have A4 := Aside0.mk A40
  clear A40
  simp only [Option.some.injEq, Prod.mk.injEq] at H
  obtain ⟨rfl, rfl⟩ := H
  go_enter Tryd.func27, Tryd.ntmps27
  go_wp2_with (first | ((with_reducible refine gate_dst (N := 1) rfl ?_); refine box_event ?hg (N := 1) ?hd (cs := #[.int .i64 a0_0, .slice A0_1 l0_1.length c0_1]) (t := 30) ?hr ?_; (case hd => rfl); (case hg => rfl); (case hr => first | (go_simp; done) | (go_simp; rfl)); intro gb286 hg w5 hbox hb; have n0_ := Aside0.mk (below_step (by repeat (first | (with_reducible first | exact HB.out | apply below_alloc | apply pw_below_drewN | apply below_drew1) | exact HB.out)) hb); have n1_ := Aside0.mk (hbox); have n2_ := Aside0.mk ((by rw [hg]; exact (below_size (by repeat (first | (with_reducible first | exact HB.out | apply below_alloc | apply pw_below_drewN | apply below_drew1) | exact HB.out))) : w.heap.size ≤ gb286)); have n3_ := Aside0.mk ((by rw [hg]; exact (below_size (by repeat (first | (with_reducible first | exact HB.out | apply below_alloc | apply pw_below_drewN | apply below_drew1) | exact HB.out))) : w.heap.size ≤ gb286)); clear HB; have HB := n0_; have BK286 := n1_; have GW286 := n2_; have GE286 := n3_; clear n0_ n1_ n2_ n3_; clear hb hbox hg; have hcz6_0 : w5.cell? ⟨gb286, 0, none⟩ = some (.int .i64 a0_0) := (blk_cell BK286.out 0).trans rfl; have hcz6_1 : w5.cell? ⟨gb286, 1, none⟩ = some (.slice A0_1 l0_1.length c0_1) := (blk_cell BK286.out 1).trans rfl; have hfz6_0 := blk_frozen BK286.out 0; have hfz6_1 := blk_frozen BK286.out 1) | ((with_reducible refine gate_callee (f := 47) rfl ?_); refine goesL_ (some 5) rfl rfl Tryd.func47 (by kernel_rfl) rfl #[.agg #[.int .i64 a0_0, .slice A0_1 l0_1.length c0_1]] rfl (by (try simp only [List.map_toArray, List.map_cons, List.map_nil]); first | done | rfl | (simp only [List.length_drop, List.length_take]; rfl)) ?_; (with_reducible refine (impl_IsParty.calls k a0_0 _ _ l0_1 true _ ?side1 ?side2 A2.out).mono ?_); (case side1 => repeat (first | exact (Kd.C_below HR0_1.out HB.out) | (with_reducible refine Kd.C_alloc ?_ _) | (with_reducible refine Kd.C_drewN ?_ _) | (with_reducible refine Kd.C_drew ?_))); (case side2 => exact HC0_1.out); rintro e w7 ⟨rfl, hb⟩; refine ⟨_, rfl, ?_⟩; have n0_ := Aside0.mk (blk_below (g := gb286) (o := .cells #[.int .i64 a0_0, .slice A0_1 l0_1.length c0_1] 30 (0, 0)) (by (with_reducible repeat (first | refine blk_drewN ?_ _ | refine blk_drew ?_ | refine blk_alloc ?_ _)); exact BK286.out) hb); have n1_ := Aside0.mk (below_step (by repeat (first | (with_reducible first | exact HB.out | apply below_alloc | apply pw_below_drewN | apply below_drew1 | refine below_set ?_ GE286.out) | exact HB.out)) hb); clear BK286; clear HB; have BK286 := n0_; have HB := n1_; clear n0_ n1_; (try clear hb); (try clear hb2); (try clear hk); (try clear hi); have hcz8_0 : w7.cell? ⟨gb286, 0, none⟩ = some (.int .i64 a0_0) := (blk_cell BK286.out 0).trans rfl; have hcz8_1 : w7.cell? ⟨gb286, 1, none⟩ = some (.slice A0_1 l0_1.length c0_1) := (blk_cell BK286.out 1).trans rfl; have hfz8_0 := blk_frozen BK286.out 0; have hfz8_1 := blk_frozen BK286.out 1) | ((with_reducible refine gate_callee (f := 81) rfl ?_); refine goesL_ (some 8) rfl rfl Tryd.func81 (by kernel_rfl) rfl #[.agg #[.int .i64 a0_0, .slice A0_1 l0_1.length c0_1]] rfl (by (try simp only [List.map_toArray, List.map_cons, List.map_nil]); first | done | rfl | (simp only [List.length_drop, List.length_take]; rfl)) ?_; (with_reducible refine (impl_mostInPairs.calls k a0_0 _ _ l0_1 t288 _ ?side1 ?side2 ?side3 A4.out).mono ?_); (case side1 => first | exact HG.out | exact Laid32.drewN HG.out _ | exact Laid32.drew HG.out | exact (Laid32.drewN HG.out _).drewN _ | exact Laid32.below HG.out (by repeat (first | (with_reducible first | exact HB.out | apply below_alloc | apply pw_below_drewN | apply below_drew1 | refine below_set ?_ GE286.out) | exact HB.out))); (case side2 => repeat (first | exact (Kd.C_below HR0_1.out HB.out) | (with_reducible refine Kd.C_alloc ?_ _) | (with_reducible refine Kd.C_drewN ?_ _) | (with_reducible refine Kd.C_drew ?_))); (case side3 => exact HC0_1.out); rintro e w9 ⟨v289, rfl, ho0, hb⟩; refine ⟨_, rfl, ?_⟩; have n0_ := Aside0.mk (Kd.R_lower ho0 (below_size (by repeat (first | (with_reducible first | exact HB.out | apply below_alloc | apply pw_below_drewN | apply below_drew1 | refine below_set ?_ GE286.out) | exact HB.out)))); have n1_ := Aside0.mk (blk_below (g := gb286) (o := .cells #[.int .i64 a0_0, .slice A0_1 l0_1.length c0_1] 30 (0, 0)) (by (with_reducible repeat (first | refine blk_drewN ?_ _ | refine blk_drew ?_ | refine blk_alloc ?_ _)); exact BK286.out) hb); have n2_ := Aside0.mk (below_step (by repeat (first | (with_reducible first | exact HB.out | apply below_alloc | apply pw_below_drewN | apply below_drew1 | refine below_set ?_ GE286.out) | exact HB.out)) hb); clear BK286; clear HB; have HO290 := n0_; have BK286 := n1_; have HB := n2_; clear n0_ n1_ n2_; (try clear hb); (try clear hb2); (try clear hk); (try clear hi); (try clear ho0)))
  go_ret2
  exact ⟨_, by first | rfl | (simp [errW_none, errW_some] <;> rfl) | (simp [*, errW_none, errW_some] <;> rfl), by (with_reducible repeat (first | apply Kd.R_alloc | apply Kd.R_drewN | apply Kd.R_drew)); exact HO290.out, by repeat (first | (with_reducible first | exact HB.out | apply below_alloc | apply pw_below_drewN | apply below_drew1 | refine below_set ?_ GE286.out) | exact HB.out)⟩
 ·replace c3 := Bool.eq_false_iff.mpr c3
  subst c3
  have H1 : (some (([] : List (S98)), false)) = some (r1, r2) := by rw [if_neg (show ¬ (false = true) by decide)] at H; exact H
  clear H
  have H := H1
  clear H1
  simp only [Option.some.injEq, Prod.mk.injEq] at H
  obtain ⟨rfl, rfl⟩ := H
  go_enter Tryd.func27, Tryd.ntmps27
  go_wp2_with (first | ((with_reducible refine gate_dst (N := 1) rfl ?_); refine box_event ?hg (N := 1) ?hd (cs := #[.int .i64 a0_0, .slice A0_1 l0_1.length c0_1]) (t := 30) ?hr ?_; (case hd => rfl); (case hg => rfl); (case hr => first | (go_simp; done) | (go_simp; rfl)); intro gb286 hg w10 hbox hb; have n0_ := Aside0.mk (below_step (by repeat (first | (with_reducible first | exact HB.out | apply below_alloc | apply pw_below_drewN | apply below_drew1) | exact HB.out)) hb); have n1_ := Aside0.mk (hbox); have n2_ := Aside0.mk ((by rw [hg]; exact (below_size (by repeat (first | (with_reducible first | exact HB.out | apply below_alloc | apply pw_below_drewN | apply below_drew1) | exact HB.out))) : w.heap.size ≤ gb286)); have n3_ := Aside0.mk ((by rw [hg]; exact (below_size (by repeat (first | (with_reducible first | exact HB.out | apply below_alloc | apply pw_below_drewN | apply below_drew1) | exact HB.out))) : w.heap.size ≤ gb286)); clear HB; have HB := n0_; have BK286 := n1_; have GW286 := n2_; have GE286 := n3_; clear n0_ n1_ n2_ n3_; clear hb hbox hg; have hcz11_0 : w10.cell? ⟨gb286, 0, none⟩ = some (.int .i64 a0_0) := (blk_cell BK286.out 0).trans rfl; have hcz11_1 : w10.cell? ⟨gb286, 1, none⟩ = some (.slice A0_1 l0_1.length c0_1) := (blk_cell BK286.out 1).trans rfl; have hfz11_0 := blk_frozen BK286.out 0; have hfz11_1 := blk_frozen BK286.out 1) | ((with_reducible refine gate_callee (f := 47) rfl ?_); refine goesL_ (some 5) rfl rfl Tryd.func47 (by kernel_rfl) rfl #[.agg #[.int .i64 a0_0, .slice A0_1 l0_1.length c0_1]] rfl (by (try simp only [List.map_toArray, List.map_cons, List.map_nil]); first | done | rfl | (simp only [List.length_drop, List.length_take]; rfl)) ?_; (with_reducible refine (impl_IsParty.calls k a0_0 _ _ l0_1 false _ ?side1 ?side2 A2.out).mono ?_); (case side1 => repeat (first | exact (Kd.C_below HR0_1.out HB.out) | (with_reducible refine Kd.C_alloc ?_ _) | (with_reducible refine Kd.C_drewN ?_ _) | (with_reducible refine Kd.C_drew ?_))); (case side2 => exact HC0_1.out); rintro e w12 ⟨rfl, hb⟩; refine ⟨_, rfl, ?_⟩; have n0_ := Aside0.mk (blk_below (g := gb286) (o := .cells #[.int .i64 a0_0, .slice A0_1 l0_1.length c0_1] 30 (0, 0)) (by (with_reducible repeat (first | refine blk_drewN ?_ _ | refine blk_drew ?_ | refine blk_alloc ?_ _)); exact BK286.out) hb); have n1_ := Aside0.mk (below_step (by repeat (first | (with_reducible first | exact HB.out | apply below_alloc | apply pw_below_drewN | apply below_drew1 | refine below_set ?_ GE286.out) | exact HB.out)) hb); clear BK286; clear HB; have BK286 := n0_; have HB := n1_; clear n0_ n1_; (try clear hb); (try clear hb2); (try clear hk); (try clear hi)))
  go_ret2
  exact ⟨_, by first | rfl | (simp [errW_none, errW_some] <;> rfl) | (simp [*, errW_none, errW_some] <;> rfl), by first | exact Kd.R_nil _ _ _ _ _ | exact Kd.N_nil _ _ _ _ _ | exact Kd.V_nil _ _ _ _ _ | exact Kd.Q_nil _ _ _ _ _ | exact Kd.S_nil _ _ _ _ _, by repeat (first | (with_reducible first | exact HB.out | apply below_alloc | apply pw_below_drewN | apply below_drew1 | refine below_set ?_ GE286.out) | exact HB.out)⟩
end Go.Proofs.YtopahhcojncgaaaDoor.G
namespace Go.Proofs.YtopahhcojncgaaaDoor.G
open Go.RowKit Go.Proofs.YtopahhcojncgaaaDoorW.PrintWords Go.Proofs.YtopahhcojncgaaaDoorW.PrintLast Go.Proofs.YtopahhcojncgaaaDoorW.PrintMore
set_option linter.unusedVariables false
set_option linter.unusedSimpArgs false
def but2 (S : Nat → Prop) (p q : Nat) : Nat → Prop := fun i => S i ∧ i ≠ p ∧ i ≠ q
def Lost (e : Nat → Nat → Prop) (S : Nat → Prop) (v : Nat) (p q : Nat) : Prop := ∀ k, k + 1 = v → ¬ Has e k (but2 S p q)
theorem greedy_cut {e : Nat → Nat → Prop} (he : ∀ p q, e p q → e q p) {S : Nat → Prop} {A B v v1 v2 : Nat} (hAB : A < B) (heAB : e A B) (hA : S A) (hB : S B)
    (hv : ∀ k, Has e k S ↔ k ≤ v) (h1 : ∀ k, Has e k (but2 S A B) ↔ k ≤ v1) (h2 : ∀ k, Has e k (fun i => but2 S A B i ∧ A ≤ i) ↔ k ≤ v2)
    (hJ : ∀ c b, c ≠ b → e c b → S c → S b → c < A → Lost e S v c b) : (v2 + 1 = v ↔ v1 + 1 = v) ∧ v1 + 1 ≤ v := by
  have hle : v1 + 1 ≤ v := (hv _).1 ⟨A, B, by omega, heAB, hA, hB, (h1 v1).2 (Nat.le_refl _)⟩
  have h21 : v2 ≤ v1 := (h1 _).1 (((h2 v2).2 (Nat.le_refl _)).mono (fun i hi => hi.1))
  refine ⟨⟨fun h => by omega, fun h => ?_⟩, hle⟩
  have step : ∀ c, c ≤ A → Has e v1 (fun i => but2 S A B i ∧ c ≤ i) := by
    intro c
    induction c with
    | zero => intro _; exact ((h1 v1).2 (Nat.le_refl _)).mono (fun i hi => ⟨hi, Nat.zero_le _⟩)
    | succ c ih =>
      intro hc
      rcases (ih (by omega)).split he c with h3 | ⟨b, k', hk, c1, c2, c3, c4, c5⟩
      · exact h3.mono (fun i hi => ⟨hi.1.1, by have := hi.1.2; have := hi.2; omega⟩)
      · exfalso
        refine hJ c b c1 c2 c3.1.1 c4.1.1 (by omega) v1 h ?_
        rw [hk]
        exact ⟨A, B, by omega, heAB, ⟨hA, fun e9 => c3.1.2.1 e9.symm, fun e9 => c4.1.2.1 e9.symm⟩, ⟨hB, fun e9 => c3.1.2.2 e9.symm, fun e9 => c4.1.2.2 e9.symm⟩, c5.mono (fun i hi => ⟨⟨hi.1.1.1, hi.2.1, hi.2.2⟩, hi.1.1.2.1, hi.1.1.2.2⟩)⟩
  have := (h2 v1).1 (step A (Nat.le_refl _))
  omega
theorem good_f0 {n : Int} {ps : List S98} (h : Good n ps) : ∀ (d i : Nat), i + d < ps.length → (rd_T98 ps (i : Int)).f0 ≤ (rd_T98 ps ((i + d : Nat) : Int)).f0 := by
  intro d
  induction d with
  | zero => intro i _; exact Int.le_refl _
  | succ d ih =>
    intro i hi
    have h1 := ih i (by omega)
    have h2 := (h.2.2 (i + (d + 1)) hi).2.2.2 (by omega)
    rw [show i + (d + 1) - 1 = i + d by omega] at h2
    rcases h2 with h3 | ⟨h3, _⟩
    · omega
    · omega
theorem adj_at {n : Int} {ps : List S98} {c b : Nat} (h : adj ps c b = true) : ∃ j, j < ps.length ∧ (((rd_T98 ps (j : Int)).f0 = (c : Int) ∧ (rd_T98 ps (j : Int)).f1 = (b : Int)) ∨ ((rd_T98 ps (j : Int)).f0 = (b : Int) ∧ (rd_T98 ps (j : Int)).f1 = (c : Int))) := by
  unfold adj at h
  obtain ⟨p, hp, h2⟩ := List.any_eq_true.1 h
  obtain ⟨j, hj, rfl⟩ := List.getElem_of_mem hp
  refine ⟨j, hj, ?_⟩
  rw [rd98 ps j hj]
  simpa [pAdj] using h2
theorem at_adj {ps : List S98} {j A B : Nat} (hj : j < ps.length) (hA : (rd_T98 ps (j : Int)).f0 = (A : Int)) (hB : (rd_T98 ps (j : Int)).f1 = (B : Int)) : adj ps A B = true := by
  unfold adj
  rw [List.any_eq_true]
  rw [rd98 ps j hj] at hA hB
  exact ⟨_, List.getElem_mem hj, by simp [pAdj, hA, hB]⟩
def JI (ps : List S98) (S : Nat → Prop) (v i : Nat) : Prop := ∀ j A B, j < i → j < ps.length → (rd_T98 ps (j : Int)).f0 = ((A : Nat) : Int) → (rd_T98 ps (j : Int)).f1 = ((B : Nat) : Int) → S A → S B → Lost (eA ps) S v A B
theorem lost_comm {e : Nat → Nat → Prop} {S : Nat → Prop} {v p q : Nat} (h : Lost e S v p q) : Lost e S v q p := fun k hk h2 => h k hk (h2.mono (fun i hi => ⟨hi.1, hi.2.2, hi.2.1⟩))
theorem JI.before {n : Int} {ps : List S98} (hg : Good n ps) {S : Nat → Prop} {v i A : Nat} (hi : i < ps.length) (hA : (rd_T98 ps (i : Int)).f0 = (A : Int)) (hJ : JI ps S v i) : ∀ c b, c ≠ b → eA ps c b → S c → S b → c < A → Lost (eA ps) S v c b := by
  intro c b _ hcb hc hb hcA
  obtain ⟨j, hj, h⟩ := adj_at (n := n) hcb
  have hji : ∀ x : Nat, (rd_T98 ps (j : Int)).f0 = (x : Int) → x ≤ c → j < i := by
    intro x hx hxc
    rcases Nat.lt_or_ge j i with h1 | h1
    · exact h1
    · have := good_f0 hg (j - i) i (by omega)
      rw [show i + (j - i) = j by omega] at this
      omega
  have hlt := (hg.2.2 j hj).2.1
  rcases h with ⟨h1, h2⟩ | ⟨h1, h2⟩
  · exact hJ j c b (hji c h1 (Nat.le_refl _)) hj h1 h2 hc hb
  · exact lost_comm (hJ j b c (hji b h1 (by omega)) hj h1 h2 hb hc)
theorem JI.no {ps : List S98} {S : Nat → Prop} {v i : Nat} (hJ : JI ps S v i) (h : ∀ A B : Nat, (rd_T98 ps (i : Int)).f0 = (A : Int) → (rd_T98 ps (i : Int)).f1 = (B : Int) → S A → S B → Lost (eA ps) S v A B) : JI ps S v (i + 1) := by
  intro j A B hj hjl h0 h1 hA hB
  rcases Nat.eq_or_lt_of_le (Nat.le_of_lt_succ hj) with e | e
  · subst e; exact h A B h0 h1 hA hB
  · exact hJ j A B e hjl h0 h1 hA hB
theorem JI.yes {ps : List S98} {S : Nat → Prop} {v v' i A B : Nat} (hJ : JI ps S v i) (hi : i < ps.length) (hA : (rd_T98 ps (i : Int)).f0 = (A : Int)) (hB : (rd_T98 ps (i : Int)).f1 = (B : Int)) (hAB : A ≠ B) (sA : S A) (sB : S B) (hv : v' + 1 = v) {S' : Nat → Prop} (hS : ∀ i, S' i ↔ but2 S A B i) : JI ps S' v' (i + 1) := by
  intro j C D hj hjl h0 h1 hC hD k hk h2
  have hC' := (hS C).1 hC
  have hD' := (hS D).1 hD
  rcases Nat.eq_or_lt_of_le (Nat.le_of_lt_succ hj) with e | e
  · subst e
    have : C = A := by omega
    exact hC'.2.1 this
  · refine hJ j C D e hjl h0 h1 hC'.1 hD'.1 (k + 1) (by omega) ⟨A, B, hAB, at_adj hi hA hB, ⟨sA, fun e9 => hC'.2.1 e9.symm, fun e9 => hD'.2.1 e9.symm⟩, ⟨sB, fun e9 => hC'.2.2 e9.symm, fun e9 => hD'.2.2 e9.symm⟩, h2.mono (fun i hi => ?_)⟩
    have h3 := (hS i).1 hi.1
    exact ⟨⟨h3.1, hi.2.1, hi.2.2⟩, h3.2.1, h3.2.2⟩
theorem but2_clr {s A B : Nat} (hs : s < 65536) (i : Nat) : inS (clr s (2 ^ A ||| 2 ^ B)) i ↔ but2 (inS s) A B i := inS_clr2 s A B hs i
theorem sub_own (s A B : Nat) : s &&& (2 ^ A ||| 2 ^ B) = (2 ^ A ||| 2 ^ B) ↔ inS s A ∧ inS s B := by
  constructor
  · intro h
    have h1 := congrArg (fun x => x.testBit A) h
    have h2 := congrArg (fun x => x.testBit B) h
    simp only [Nat.testBit_and, Nat.testBit_or, Nat.testBit_two_pow_self, Bool.true_or, Bool.or_true, Bool.and_true] at h1 h2
    exact ⟨h1, h2⟩
  · rintro ⟨h1, h2⟩
    apply Nat.eq_of_testBit_eq
    intro i
    rw [Nat.testBit_and, Nat.testBit_or, Nat.testBit_two_pow, Nat.testBit_two_pow]
    by_cases ha : A = i
    · subst ha; unfold inS at h1; rw [h1]; simp
    · by_cases hb : B = i
      · subst hb; unfold inS at h2; rw [h2]; simp
      · simp [ha, hb]
end Go.Proofs.YtopahhcojncgaaaDoor.G
namespace Go.Proofs.YtopahhcojncgaaaDoor.G
open Go.RowKit Go.Proofs.YtopahhcojncgaaaDoorW.PrintWords Go.Proofs.YtopahhcojncgaaaDoorW.PrintLast Go.Proofs.YtopahhcojncgaaaDoorW.PrintMore
attribute [local go_sem] max2_int min2_int max_two min_two max_three min_three max_four min_four
set_option linter.unusedVariables false
set_option linter.unusedSimpArgs false
mutual
def laws_FnExactMostInPairs.j0 : Nat → List (S98) → Bool → List (S98) → Bool → Bool → Int → List (S144) → Int → List (S98) → Option (Bool)
 | 0, _, _, _, _, _, _, _, _, _ => none
 | k + 1, x4, x5, x7, x8, x40, x386000, x386001, x400000, x400001 => if x40 = true then (some false) else ((laws_toParty.f k x386000 x386001).bind fun bt405 => ((laws_eqParty.f k x400000 x400001 bt405.1 bt405.2).bind fun t409 => (if t409 = true then ((laws_markParty.f k x400000 x400001 1).bind fun bt410 => (if bt410.1 < 0 then (laws_FnExactMostInPairs.j1 k x4 x5 x7 true x386000 x386001) else ((laws_eqPairS.f k x7 x4).bind fun t412 => (if t412 = true then (laws_FnExactMostInPairs.j1 k x4 x5 x7 (x8 != x5) x386000 x386001) else (laws_FnExactMostInPairs.j1 k x4 x5 x7 true x386000 x386001))))) else (some false))))
def laws_FnExactMostInPairs.j1 : Nat → List (S98) → Bool → List (S98) → Bool → Int → List (S144) → Option (Bool)
 | 0, _, _, _, _, _, _ => none
 | k + 1, x4, x5, x7, x61, x386000, x386001 => if x61 = true then (some false) else ((laws_markPairS.f k x7 1).bind fun bt413 => ((laws_heldPairS.f k bt413.2 1).bind fun t415 => (if t415 < 0 then (some false) else (if t415 = bt413.1 then ((laws_toParty.f k x386000 x386001).bind fun bt416 => ((impl_MostInPairs.f k bt416.1 bt416.2).bind fun bt420 => ((laws_eqPairS.f k bt420.1 x4).bind fun t424 => (if t424 = true then (laws_FnExactMostInPairs.j2 k bt413.2 bt413.1 (bt420.2 != x5)) else (laws_FnExactMostInPairs.j2 k bt413.2 bt413.1 true))))) else (some false)))))
def laws_FnExactMostInPairs.j2 : Nat → List (S98) → Int → Bool → Option (Bool)
 | 0, _, _, _ => none
 | k + 1, x7, x10, x87 => if x87 = true then (some false) else ((laws_heldPairS.f k x7 1).bind fun t425 => (if t425 < 0 then (some false) else (if t425 = x10 then (some true) else (some false))))
end
def laws_FnExactMostInPairs.f (k : Nat) (a0_0 : Int) (l0_1 : List (S144)) : Option (Bool) := (laws_szParty.f a0_0 l0_1 1048576).bind fun t386 => (if t386 < 0 then (some true) else ((laws_toParty.f k a0_0 l0_1).bind fun bt387 => ((spec_MostInPairs.f k bt387.1 bt387.2).bind fun bt391 => ((laws_toParty.f k a0_0 l0_1).bind fun bt395 => ((impl_MostInPairs.f k bt395.1 bt395.2).bind fun bt400 => ((laws_eqPairS.f k bt400.1 bt391.1).bind fun t404 => (if t404 = true then (laws_FnExactMostInPairs.j0 k bt391.1 bt391.2 bt400.1 bt400.2 (bt400.2 != bt391.2) a0_0 l0_1 bt395.1 bt395.2) else (laws_FnExactMostInPairs.j0 k bt391.1 bt391.2 bt400.1 bt400.2 true a0_0 l0_1 bt395.1 bt395.2))))))))
theorem laws_FnExactMostInPairs.mono_l : ∀ k, (∀ y0 y1 y2 y3 y4 y5 y6 y7 y8, LeO (laws_FnExactMostInPairs.j0 k y0 y1 y2 y3 y4 y5 y6 y7 y8) (laws_FnExactMostInPairs.j0 (k + 1) y0 y1 y2 y3 y4 y5 y6 y7 y8)) ∧ (∀ y0 y1 y2 y3 y4 y5, LeO (laws_FnExactMostInPairs.j1 k y0 y1 y2 y3 y4 y5) (laws_FnExactMostInPairs.j1 (k + 1) y0 y1 y2 y3 y4 y5)) ∧ (∀ y0 y1 y2, LeO (laws_FnExactMostInPairs.j2 k y0 y1 y2) (laws_FnExactMostInPairs.j2 (k + 1) y0 y1 y2))
 | 0 => ⟨fun _ _ _ _ _ _ _ _ _ r h => by simp [laws_FnExactMostInPairs.j0] at h, fun _ _ _ _ _ _ r h => by simp [laws_FnExactMostInPairs.j1] at h, fun _ _ _ r h => by simp [laws_FnExactMostInPairs.j2] at h⟩
 | k + 1 => by
  obtain ⟨ih0, ih1, ih2⟩ := laws_FnExactMostInPairs.mono_l k
  refine ⟨?_, ?_, ?_⟩
  ·intro y0 y1 y2 y3 y4 y5 y6 y7 y8
   unfold laws_FnExactMostInPairs.j0
   repeat' first
   | (with_reducible exact ih0 _ _ _ _ _ _ _ _ _)
   | (with_reducible exact ih1 _ _ _ _ _ _)
   | (with_reducible exact ih2 _ _ _)
   | (with_reducible exact impl_MostInPairs.mono _ _ _)
   | (with_reducible exact laws_eqPairS.mono _ _ _)
   | (with_reducible exact laws_eqParty.mono _ _ _ _ _)
   | (with_reducible exact laws_heldPairS.mono _ _ _)
   | (with_reducible exact laws_markPairS.mono _ _ _)
   | (with_reducible exact laws_markParty.mono _ _ _ _)
   | (with_reducible exact laws_toParty.mono _ _ _)
   | (with_reducible exact spec_MostInPairs.mono _ _ _)
   | (with_reducible exact LeO.refl _)
   | (with_reducible exact LeO.none _)
   | (with_reducible refine LeO.ite ?_ ?_)
   | (with_reducible refine LeO.bind ?_ (fun _ => ?_))
   | exact ih0 _ _ _ _ _ _ _ _ _
   | exact ih1 _ _ _ _ _ _
   | exact ih2 _ _ _
   | exact impl_MostInPairs.mono _ _ _
   | exact laws_eqPairS.mono _ _ _
   | exact laws_eqParty.mono _ _ _ _ _
   | exact laws_heldPairS.mono _ _ _
   | exact laws_markPairS.mono _ _ _
   | exact laws_markParty.mono _ _ _ _
   | exact laws_toParty.mono _ _ _
   | exact spec_MostInPairs.mono _ _ _
   | exact LeO.none _
   | refine LeO.ite ?_ ?_
   | refine LeO.bind ?_ (fun _ => ?_)
  ·intro y0 y1 y2 y3 y4 y5
   unfold laws_FnExactMostInPairs.j1
   repeat' first
   | (with_reducible exact ih0 _ _ _ _ _ _ _ _ _)
   | (with_reducible exact ih1 _ _ _ _ _ _)
   | (with_reducible exact ih2 _ _ _)
   | (with_reducible exact impl_MostInPairs.mono _ _ _)
   | (with_reducible exact laws_eqPairS.mono _ _ _)
   | (with_reducible exact laws_eqParty.mono _ _ _ _ _)
   | (with_reducible exact laws_heldPairS.mono _ _ _)
   | (with_reducible exact laws_markPairS.mono _ _ _)
   | (with_reducible exact laws_markParty.mono _ _ _ _)
   | (with_reducible exact laws_toParty.mono _ _ _)
   | (with_reducible exact spec_MostInPairs.mono _ _ _)
   | (with_reducible exact LeO.refl _)
   | (with_reducible exact LeO.none _)
   | (with_reducible refine LeO.ite ?_ ?_)
   | (with_reducible refine LeO.bind ?_ (fun _ => ?_))
   | exact ih0 _ _ _ _ _ _ _ _ _
   | exact ih1 _ _ _ _ _ _
   | exact ih2 _ _ _
   | exact impl_MostInPairs.mono _ _ _
   | exact laws_eqPairS.mono _ _ _
   | exact laws_eqParty.mono _ _ _ _ _
   | exact laws_heldPairS.mono _ _ _
   | exact laws_markPairS.mono _ _ _
   | exact laws_markParty.mono _ _ _ _
   | exact laws_toParty.mono _ _ _
   | exact spec_MostInPairs.mono _ _ _
   | exact LeO.none _
   | refine LeO.ite ?_ ?_
   | refine LeO.bind ?_ (fun _ => ?_)
  ·intro y0 y1 y2
   unfold laws_FnExactMostInPairs.j2
   repeat' first
   | (with_reducible exact ih0 _ _ _ _ _ _ _ _ _)
   | (with_reducible exact ih1 _ _ _ _ _ _)
   | (with_reducible exact ih2 _ _ _)
   | (with_reducible exact impl_MostInPairs.mono _ _ _)
   | (with_reducible exact laws_eqPairS.mono _ _ _)
   | (with_reducible exact laws_eqParty.mono _ _ _ _ _)
   | (with_reducible exact laws_heldPairS.mono _ _ _)
   | (with_reducible exact laws_markPairS.mono _ _ _)
   | (with_reducible exact laws_markParty.mono _ _ _ _)
   | (with_reducible exact laws_toParty.mono _ _ _)
   | (with_reducible exact spec_MostInPairs.mono _ _ _)
   | (with_reducible exact LeO.refl _)
   | (with_reducible exact LeO.none _)
   | (with_reducible refine LeO.ite ?_ ?_)
   | (with_reducible refine LeO.bind ?_ (fun _ => ?_))
   | exact ih0 _ _ _ _ _ _ _ _ _
   | exact ih1 _ _ _ _ _ _
   | exact ih2 _ _ _
   | exact impl_MostInPairs.mono _ _ _
   | exact laws_eqPairS.mono _ _ _
   | exact laws_eqParty.mono _ _ _ _ _
   | exact laws_heldPairS.mono _ _ _
   | exact laws_markPairS.mono _ _ _
   | exact laws_markParty.mono _ _ _ _
   | exact laws_toParty.mono _ _ _
   | exact spec_MostInPairs.mono _ _ _
   | exact LeO.none _
   | refine LeO.ite ?_ ?_
   | refine LeO.bind ?_ (fun _ => ?_)
theorem laws_FnExactMostInPairs.mono : ∀ a0 a1 k, LeO (laws_FnExactMostInPairs.f k a0 a1) (laws_FnExactMostInPairs.f (k + 1) a0 a1) := by
 intro a0 a1 k
 obtain ⟨ih0, ih1, ih2⟩ := laws_FnExactMostInPairs.mono_l k
 unfold laws_FnExactMostInPairs.f
 repeat' first
   | (with_reducible exact ih0 _ _ _ _ _ _ _ _ _)
   | (with_reducible exact ih1 _ _ _ _ _ _)
   | (with_reducible exact ih2 _ _ _)
   | (with_reducible exact impl_MostInPairs.mono _ _ _)
   | (with_reducible exact laws_eqPairS.mono _ _ _)
   | (with_reducible exact laws_eqParty.mono _ _ _ _ _)
   | (with_reducible exact laws_heldPairS.mono _ _ _)
   | (with_reducible exact laws_markPairS.mono _ _ _)
   | (with_reducible exact laws_markParty.mono _ _ _ _)
   | (with_reducible exact laws_toParty.mono _ _ _)
   | (with_reducible exact spec_MostInPairs.mono _ _ _)
   | (with_reducible exact LeO.refl _)
   | (with_reducible exact LeO.none _)
   | (with_reducible refine LeO.ite ?_ ?_)
   | (with_reducible refine LeO.bind ?_ (fun _ => ?_))
   | exact ih0 _ _ _ _ _ _ _ _ _
   | exact ih1 _ _ _ _ _ _
   | exact ih2 _ _ _
   | exact impl_MostInPairs.mono _ _ _
   | exact laws_eqPairS.mono _ _ _
   | exact laws_eqParty.mono _ _ _ _ _
   | exact laws_heldPairS.mono _ _ _
   | exact laws_markPairS.mono _ _ _
   | exact laws_markParty.mono _ _ _ _
   | exact laws_toParty.mono _ _ _
   | exact spec_MostInPairs.mono _ _ _
   | exact LeO.none _
   | refine LeO.ite ?_ ?_
   | refine LeO.bind ?_ (fun _ => ?_)
set_option maxHeartbeats 8000000 in
set_option maxRecDepth 100000 in
theorem laws_FnExactMostInPairs.calls (k : Nat) (a0_0 : Int) (A0_1 : Option Addr) (c0_1 : Nat) (l0_1 : List (S144)) (r : Bool) (w : World) (hG : Laid32 w) (hr0_1 : Kd.C k144 w A0_1 l0_1.length l0_1) (hc0_1 : l0_1.length ≤ c0_1) (h : laws_FnExactMostInPairs.f k a0_0 l0_1 = some r) :
  Calls Tryd.prog 6 #[.agg #[.int .i64 a0_0, .slice A0_1 l0_1.length c0_1]] w fun e w' => e = .returned (.bool r) ∧ Below w.heap.size w w' := by
 have hu24 := Tryd.underlying24
 have hu30 := Tryd.underlying30
 have HG := Aside0.mk hG
 clear hG
 have HR0_1 := Aside0.mk hr0_1
 have HC0_1 := Aside0.mk hc0_1
 clear hr0_1 hc0_1
 have HB := Aside0.mk (Below.refl w.heap.size w)
 have H : ((laws_szParty.f a0_0 l0_1 1048576).bind fun t386 => (if t386 < 0 then (some true) else ((laws_toParty.f k a0_0 l0_1).bind fun bt387 => ((spec_MostInPairs.f k bt387.1 bt387.2).bind fun bt391 => ((laws_toParty.f k a0_0 l0_1).bind fun bt395 => ((impl_MostInPairs.f k bt395.1 bt395.2).bind fun bt400 => ((laws_eqPairS.f k bt400.1 bt391.1).bind fun t404 => (if t404 = true then (laws_FnExactMostInPairs.j0 k bt391.1 bt391.2 bt400.1 bt400.2 (bt400.2 != bt391.2) a0_0 l0_1 bt395.1 bt395.2) else (laws_FnExactMostInPairs.j0 k bt391.1 bt391.2 bt400.1 bt400.2 true a0_0 l0_1 bt395.1 bt395.2))))))))) = some r := h
 clear h
 replace H := Option.bind_eq_some_iff.mp H
 obtain ⟨t386, A20, H⟩ := H
 replace H : (if t386 < 0 then (some true) else ((laws_toParty.f k a0_0 l0_1).bind fun bt387 => ((spec_MostInPairs.f k bt387.1 bt387.2).bind fun bt391 => ((laws_toParty.f k a0_0 l0_1).bind fun bt395 => ((impl_MostInPairs.f k bt395.1 bt395.2).bind fun bt400 => ((laws_eqPairS.f k bt400.1 bt391.1).bind fun t404 => (if t404 = true then (laws_FnExactMostInPairs.j0 k bt391.1 bt391.2 bt400.1 bt400.2 (bt400.2 != bt391.2) a0_0 l0_1 bt395.1 bt395.2) else (laws_FnExactMostInPairs.j0 k bt391.1 bt391.2 bt400.1 bt400.2 true a0_0 l0_1 bt395.1 bt395.2)))))))) = some r := H
 have A2 := Aside0.mk A20
 clear A20
 by_cases c3 : t386 < 0
 ·rw [if_pos c3] at H
  have c3b0 : decide (t386 < 0) = true := decide_eq_true c3
  clear c3
  obtain rfl := Option.some.inj H
  go_enter Tryd.func6, Tryd.ntmps6
  go_wp2_with (first | ((with_reducible refine gate_dst (N := 1) rfl ?_); refine box_event ?hg (N := 1) ?hd (cs := #[.int .i64 a0_0, .slice A0_1 l0_1.length c0_1]) (t := 24) ?hr ?_; (case hd => rfl); (case hg => rfl); (case hr => first | (go_simp; done) | (go_simp; rfl)); intro gb385 hg w4 hbox hb; have n0_ := Aside0.mk (below_step (by repeat (first | (with_reducible first | exact HB.out | apply below_alloc | apply pw_below_drewN | apply below_drew1) | exact HB.out)) hb); have n1_ := Aside0.mk (hbox); have n2_ := Aside0.mk ((by rw [hg]; exact (below_size (by repeat (first | (with_reducible first | exact HB.out | apply below_alloc | apply pw_below_drewN | apply below_drew1) | exact HB.out))) : w.heap.size ≤ gb385)); have n3_ := Aside0.mk ((by rw [hg]; exact (below_size (by repeat (first | (with_reducible first | exact HB.out | apply below_alloc | apply pw_below_drewN | apply below_drew1) | exact HB.out))) : w.heap.size ≤ gb385)); clear HB; have HB := n0_; have BK385 := n1_; have GW385 := n2_; have GE385 := n3_; clear n0_ n1_ n2_ n3_; clear hb hbox hg; have hcz5_0 : w4.cell? ⟨gb385, 0, none⟩ = some (.int .i64 a0_0) := (blk_cell BK385.out 0).trans rfl; have hcz5_1 : w4.cell? ⟨gb385, 1, none⟩ = some (.slice A0_1 l0_1.length c0_1) := (blk_cell BK385.out 1).trans rfl; have hfz5_0 := blk_frozen BK385.out 0; have hfz5_1 := blk_frozen BK385.out 1) | ((with_reducible refine gate_callee (f := 13) rfl ?_); refine goesL_ (some 16) rfl rfl Tryd.func13 (by kernel_rfl) rfl #[.agg #[.int .i64 a0_0, .slice A0_1 l0_1.length c0_1], .int .i64 1048576] rfl (by (try simp only [List.map_toArray, List.map_cons, List.map_nil]); first | done | rfl | (simp only [List.length_drop, List.length_take]; rfl)) ?_; (with_reducible refine (laws_szParty.calls a0_0 _ _ l0_1 1048576 t386 _ ?side1 ?side2 A2.out).mono ?_); (case side1 => repeat (first | exact (Kd.C_below HR0_1.out HB.out) | (with_reducible refine Kd.C_alloc ?_ _) | (with_reducible refine Kd.C_drewN ?_ _) | (with_reducible refine Kd.C_drew ?_))); (case side2 => exact HC0_1.out); rintro e w6 ⟨rfl, hb⟩; refine ⟨_, rfl, ?_⟩; have n0_ := Aside0.mk (blk_below (g := gb385) (o := .cells #[.int .i64 a0_0, .slice A0_1 l0_1.length c0_1] 24 (0, 0)) (by (with_reducible repeat (first | refine blk_drewN ?_ _ | refine blk_drew ?_ | refine blk_alloc ?_ _)); exact BK385.out) hb); have n1_ := Aside0.mk (below_step (by repeat (first | (with_reducible first | exact HB.out | apply below_alloc | apply pw_below_drewN | apply below_drew1 | refine below_set ?_ GE385.out) | exact HB.out)) hb); clear BK385; clear HB; have BK385 := n0_; have HB := n1_; clear n0_ n1_; (try clear hb); (try clear hb2); (try clear hk); (try clear hi)))
  go_ret
  exact ⟨by first | rfl | (simp [errW_none, errW_some] <;> rfl) | (simp [*, errW_none, errW_some] <;> rfl), by repeat (first | (with_reducible first | exact HB.out | apply below_alloc | apply pw_below_drewN | apply below_drew1 | refine below_set ?_ GE385.out) | exact HB.out)⟩
 ·rw [if_neg c3] at H
  have c3b0 : decide (t386 < 0) = false := decide_eq_false c3
  clear c3
  replace H := Option.bind_eq_some_iff.mp H
  obtain ⟨⟨t387, t388⟩, A70, H⟩ := H
  replace H : ((spec_MostInPairs.f k t387 t388).bind fun bt391 => ((laws_toParty.f k a0_0 l0_1).bind fun bt395 => ((impl_MostInPairs.f k bt395.1 bt395.2).bind fun bt400 => ((laws_eqPairS.f k bt400.1 bt391.1).bind fun t404 => (if t404 = true then (laws_FnExactMostInPairs.j0 k bt391.1 bt391.2 bt400.1 bt400.2 (bt400.2 != bt391.2) a0_0 l0_1 bt395.1 bt395.2) else (laws_FnExactMostInPairs.j0 k bt391.1 bt391.2 bt400.1 bt400.2 true a0_0 l0_1 bt395.1 bt395.2)))))) = some r := H
  have A7 := Aside0.mk A70
  clear A70
  replace H := Option.bind_eq_some_iff.mp H
  obtain ⟨⟨t391, t394⟩, A80, H⟩ := H
  replace H : ((laws_toParty.f k a0_0 l0_1).bind fun bt395 => ((impl_MostInPairs.f k bt395.1 bt395.2).bind fun bt400 => ((laws_eqPairS.f k bt400.1 t391).bind fun t404 => (if t404 = true then (laws_FnExactMostInPairs.j0 k t391 t394 bt400.1 bt400.2 (bt400.2 != t394) a0_0 l0_1 bt395.1 bt395.2) else (laws_FnExactMostInPairs.j0 k t391 t394 bt400.1 bt400.2 true a0_0 l0_1 bt395.1 bt395.2))))) = some r := H
  have A8 := Aside0.mk A80
  clear A80
  replace H := Option.bind_eq_some_iff.mp H
  obtain ⟨⟨t395, t396⟩, A90, H⟩ := H
  replace H : ((impl_MostInPairs.f k t395 t396).bind fun bt400 => ((laws_eqPairS.f k bt400.1 t391).bind fun t404 => (if t404 = true then (laws_FnExactMostInPairs.j0 k t391 t394 bt400.1 bt400.2 (bt400.2 != t394) a0_0 l0_1 t395 t396) else (laws_FnExactMostInPairs.j0 k t391 t394 bt400.1 bt400.2 true a0_0 l0_1 t395 t396)))) = some r := H
  have A9 := Aside0.mk A90
  clear A90
  replace H := Option.bind_eq_some_iff.mp H
  obtain ⟨⟨t400, t403⟩, A100, H⟩ := H
  replace H : ((laws_eqPairS.f k t400 t391).bind fun t404 => (if t404 = true then (laws_FnExactMostInPairs.j0 k t391 t394 t400 t403 (t403 != t394) a0_0 l0_1 t395 t396) else (laws_FnExactMostInPairs.j0 k t391 t394 t400 t403 true a0_0 l0_1 t395 t396))) = some r := H
  have A10 := Aside0.mk A100
  clear A100
  have HC11 := Aside0.mk H
  clear H
  go_enter Tryd.func6, Tryd.ntmps6
  go_upto_region 8 with (first | ((with_reducible refine gate_dst (N := 1) rfl ?_); refine box_event ?hg (N := 1) ?hd (cs := #[.int .i64 a0_0, .slice A0_1 l0_1.length c0_1]) (t := 24) ?hr ?_; (case hd => rfl); (case hg => rfl); (case hr => first | (go_simp; done) | (go_simp; rfl)); intro gb385 hg w12 hbox hb; have n0_ := Aside0.mk (below_step (by repeat (first | (with_reducible first | exact HB.out | apply below_alloc | apply pw_below_drewN | apply below_drew1) | exact HB.out)) hb); have n1_ := Aside0.mk (hbox); have n2_ := Aside0.mk ((by rw [hg]; exact (below_size (by repeat (first | (with_reducible first | exact HB.out | apply below_alloc | apply pw_below_drewN | apply below_drew1) | exact HB.out))) : w.heap.size ≤ gb385)); have n3_ := Aside0.mk ((by rw [hg]; exact (below_size (by repeat (first | (with_reducible first | exact HB.out | apply below_alloc | apply pw_below_drewN | apply below_drew1) | exact HB.out))) : w.heap.size ≤ gb385)); clear HB; have HB := n0_; have BK385 := n1_; have GW385 := n2_; have GE385 := n3_; clear n0_ n1_ n2_ n3_; clear hb hbox hg; have hcz13_0 : w12.cell? ⟨gb385, 0, none⟩ = some (.int .i64 a0_0) := (blk_cell BK385.out 0).trans rfl; have hcz13_1 : w12.cell? ⟨gb385, 1, none⟩ = some (.slice A0_1 l0_1.length c0_1) := (blk_cell BK385.out 1).trans rfl; have hfz13_0 := blk_frozen BK385.out 0; have hfz13_1 := blk_frozen BK385.out 1) | ((with_reducible refine gate_callee (f := 13) rfl ?_); refine goesL_ (some 16) rfl rfl Tryd.func13 (by kernel_rfl) rfl #[.agg #[.int .i64 a0_0, .slice A0_1 l0_1.length c0_1], .int .i64 1048576] rfl (by (try simp only [List.map_toArray, List.map_cons, List.map_nil]); first | done | rfl | (simp only [List.length_drop, List.length_take]; rfl)) ?_; (with_reducible refine (laws_szParty.calls a0_0 _ _ l0_1 1048576 t386 _ ?side1 ?side2 A2.out).mono ?_); (case side1 => repeat (first | exact (Kd.C_below HR0_1.out HB.out) | (with_reducible refine Kd.C_alloc ?_ _) | (with_reducible refine Kd.C_drewN ?_ _) | (with_reducible refine Kd.C_drew ?_))); (case side2 => exact HC0_1.out); rintro e w14 ⟨rfl, hb⟩; refine ⟨_, rfl, ?_⟩; have n0_ := Aside0.mk (blk_below (g := gb385) (o := .cells #[.int .i64 a0_0, .slice A0_1 l0_1.length c0_1] 24 (0, 0)) (by (with_reducible repeat (first | refine blk_drewN ?_ _ | refine blk_drew ?_ | refine blk_alloc ?_ _)); exact BK385.out) hb); have n1_ := Aside0.mk (below_step (by repeat (first | (with_reducible first | exact HB.out | apply below_alloc | apply pw_below_drewN | apply below_drew1 | refine below_set ?_ GE385.out) | exact HB.out)) hb); clear BK385; clear HB; have BK385 := n0_; have HB := n1_; clear n0_ n1_; (try clear hb); (try clear hb2); (try clear hk); (try clear hi); have hcz15_0 : w14.cell? ⟨gb385, 0, none⟩ = some (.int .i64 a0_0) := (blk_cell BK385.out 0).trans rfl; have hcz15_1 : w14.cell? ⟨gb385, 1, none⟩ = some (.slice A0_1 l0_1.length c0_1) := (blk_cell BK385.out 1).trans rfl; have hfz15_0 := blk_frozen BK385.out 0; have hfz15_1 := blk_frozen BK385.out 1) | ((with_reducible refine gate_callee (f := 15) rfl ?_); refine goesL_ (some 21) rfl rfl Tryd.func15 (by kernel_rfl) rfl #[.agg #[.int .i64 a0_0, .slice A0_1 l0_1.length c0_1]] rfl (by (try simp only [List.map_toArray, List.map_cons, List.map_nil]); first | done | rfl | (simp only [List.length_drop, List.length_take]; rfl)) ?_; (with_reducible refine (laws_toParty.calls k a0_0 _ _ l0_1 t387 t388 _ ?side1 ?side2 A7.out).mono ?_); (case side1 => repeat (first | exact (Kd.C_below HR0_1.out HB.out) | (with_reducible refine Kd.C_alloc ?_ _) | (with_reducible refine Kd.C_drewN ?_ _) | (with_reducible refine Kd.C_drew ?_))); (case side2 => exact HC0_1.out); rintro e w16 ⟨v389, rfl, ho0, hb⟩; refine ⟨_, rfl, ?_⟩; have n0_ := Aside0.mk (Kd.R_lower ho0 (below_size (by repeat (first | (with_reducible first | exact HB.out | apply below_alloc | apply pw_below_drewN | apply below_drew1 | refine below_set ?_ GE385.out) | exact HB.out)))); have n1_ := Aside0.mk (blk_below (g := gb385) (o := .cells #[.int .i64 a0_0, .slice A0_1 l0_1.length c0_1] 24 (0, 0)) (by (with_reducible repeat (first | refine blk_drewN ?_ _ | refine blk_drew ?_ | refine blk_alloc ?_ _)); exact BK385.out) hb); have n2_ := Aside0.mk (below_step (by repeat (first | (with_reducible first | exact HB.out | apply below_alloc | apply pw_below_drewN | apply below_drew1 | refine below_set ?_ GE385.out) | exact HB.out)) hb); clear BK385; clear HB; have HO390 := n0_; have BK385 := n1_; have HB := n2_; clear n0_ n1_ n2_; (try clear hb); (try clear hb2); (try clear hk); (try clear hi); (try clear ho0); obtain ⟨Ao17, co17, eo17⟩ := Kd.R_slice HO390.out; subst eo17) | ((with_reducible refine gate_callee (f := 26) rfl ?_); refine goesL_ (some 22) rfl rfl Tryd.func26 (by kernel_rfl) rfl #[.agg #[.int .i64 t387, .slice Ao17 t388.length co17]] rfl (by (try simp only [List.map_toArray, List.map_cons, List.map_nil]); first | done | rfl | (simp only [List.length_drop, List.length_take]; rfl)) ?_; (with_reducible refine (spec_MostInPairs.calls k t387 _ _ t388 t391 t394 _ ?side1 ?side2 A8.out).mono ?_); (case side1 => repeat (first | exact (Kd.R_reads' HO390.out).2.2 | (with_reducible refine Kd.C_alloc ?_ _) | (with_reducible refine Kd.C_drewN ?_ _) | (with_reducible refine Kd.C_drew ?_))); (case side2 => exact (Kd.R_reads' HO390.out).2.1); rintro e w18 ⟨v392, rfl, ho0, hb⟩; refine ⟨_, rfl, ?_⟩; have n0_ := Aside0.mk (Kd.R_elder' (by (with_reducible repeat (first | apply Kd.R_alloc | apply Kd.R_drewN | apply Kd.R_drew)); exact HO390.out) (Kd.R_base ho0) hb); have n1_ := Aside0.mk (Kd.R_lower (Kd.R_new' ho0 (Kd.R_lt (by (with_reducible repeat (first | apply Kd.R_alloc | apply Kd.R_drewN | apply Kd.R_drew)); exact HO390.out))) (below_size (by repeat (first | (with_reducible first | exact HB.out | apply below_alloc | apply pw_below_drewN | apply below_drew1 | refine below_set ?_ GE385.out) | exact HB.out)))); have n2_ := Aside0.mk (blk_below (g := gb385) (o := .cells #[.int .i64 a0_0, .slice A0_1 l0_1.length c0_1] 24 (0, 0)) (by (with_reducible repeat (first | refine blk_drewN ?_ _ | refine blk_drew ?_ | refine blk_alloc ?_ _)); exact BK385.out) hb); have n3_ := Aside0.mk (below_step (by repeat (first | (with_reducible first | exact HB.out | apply below_alloc | apply pw_below_drewN | apply below_drew1 | refine below_set ?_ GE385.out) | exact HB.out)) hb); clear HO390; clear BK385; clear HB; have HO390 := n0_; have HO393 := n1_; have BK385 := n2_; have HB := n3_; clear n0_ n1_ n2_ n3_; (try clear hb); (try clear hb2); (try clear hk); (try clear hi); (try clear ho0); have hcz19_0 : w18.cell? ⟨gb385, 0, none⟩ = some (.int .i64 a0_0) := (blk_cell BK385.out 0).trans rfl; have hcz19_1 : w18.cell? ⟨gb385, 1, none⟩ = some (.slice A0_1 l0_1.length c0_1) := (blk_cell BK385.out 1).trans rfl; have hfz19_0 := blk_frozen BK385.out 0; have hfz19_1 := blk_frozen BK385.out 1) | ((with_reducible refine gate_callee (f := 15) rfl ?_); refine goesL_ (some 26) rfl rfl Tryd.func15 (by kernel_rfl) rfl #[.agg #[.int .i64 a0_0, .slice A0_1 l0_1.length c0_1]] rfl (by (try simp only [List.map_toArray, List.map_cons, List.map_nil]); first | done | rfl | (simp only [List.length_drop, List.length_take]; rfl)) ?_; (with_reducible refine (laws_toParty.calls k a0_0 _ _ l0_1 t395 t396 _ ?side1 ?side2 A9.out).mono ?_); (case side1 => repeat (first | exact (Kd.C_below HR0_1.out HB.out) | (with_reducible refine Kd.C_alloc ?_ _) | (with_reducible refine Kd.C_drewN ?_ _) | (with_reducible refine Kd.C_drew ?_))); (case side2 => exact HC0_1.out); rintro e w20 ⟨v397, rfl, ho0, hb⟩; refine ⟨_, rfl, ?_⟩; have n0_ := Aside0.mk (Kd.R_elder' (by (with_reducible repeat (first | apply Kd.R_alloc | apply Kd.R_drewN | apply Kd.R_drew)); exact HO390.out) (Kd.R_base ho0) hb); have n1_ := Aside0.mk (Kd.R_elder' (by (with_reducible repeat (first | apply Kd.R_alloc | apply Kd.R_drewN | apply Kd.R_drew)); exact HO393.out) (Kd.R_base ho0) hb); have n2_ := Aside0.mk (Kd.R_lower (Kd.R_new' (Kd.R_new' ho0 (Kd.R_lt (by (with_reducible repeat (first | apply Kd.R_alloc | apply Kd.R_drewN | apply Kd.R_drew)); exact HO390.out))) (Kd.R_lt (by (with_reducible repeat (first | apply Kd.R_alloc | apply Kd.R_drewN | apply Kd.R_drew)); exact HO393.out))) (below_size (by repeat (first | (with_reducible first | exact HB.out | apply below_alloc | apply pw_below_drewN | apply below_drew1 | refine below_set ?_ GE385.out) | exact HB.out)))); have n3_ := Aside0.mk (blk_below (g := gb385) (o := .cells #[.int .i64 a0_0, .slice A0_1 l0_1.length c0_1] 24 (0, 0)) (by (with_reducible repeat (first | refine blk_drewN ?_ _ | refine blk_drew ?_ | refine blk_alloc ?_ _)); exact BK385.out) hb); have n4_ := Aside0.mk (below_step (by repeat (first | (with_reducible first | exact HB.out | apply below_alloc | apply pw_below_drewN | apply below_drew1 | refine below_set ?_ GE385.out) | exact HB.out)) hb); clear HO390; clear HO393; clear BK385; clear HB; have HO390 := n0_; have HO393 := n1_; have HO398 := n2_; have BK385 := n3_; have HB := n4_; clear n0_ n1_ n2_ n3_ n4_; (try clear hb); (try clear hb2); (try clear hk); (try clear hi); (try clear ho0)) | ((with_reducible refine gate_dst (N := 6) rfl ?_); refine box_event ?hg (N := 6) ?hd (cs := #[.int .i64 0, .slice none 0 0]) (t := 30) ?hr ?_; (case hd => rfl); (case hg => rfl); (case hr => first | (go_simp; done) | (go_simp; rfl)); intro gb399 hg w21 hbox hb; have n0_ := Aside0.mk (Kd.R_below (by (with_reducible repeat (first | apply Kd.R_alloc | apply Kd.R_drewN | apply Kd.R_drew)); exact HO390.out) hb); have n1_ := Aside0.mk (Kd.R_below (by (with_reducible repeat (first | apply Kd.R_alloc | apply Kd.R_drewN | apply Kd.R_drew)); exact HO393.out) hb); have n2_ := Aside0.mk (Kd.R_below (by (with_reducible repeat (first | apply Kd.R_alloc | apply Kd.R_drewN | apply Kd.R_drew)); exact HO398.out) hb); have n3_ := Aside0.mk (blk_below (g := gb385) (o := .cells #[.int .i64 a0_0, .slice A0_1 l0_1.length c0_1] 24 (0, 0)) (by (with_reducible repeat (first | refine blk_drewN ?_ _ | refine blk_drew ?_ | refine blk_alloc ?_ _)); exact BK385.out) hb); have n4_ := Aside0.mk (below_step (by repeat (first | (with_reducible first | exact HB.out | apply below_alloc | apply pw_below_drewN | apply below_drew1 | refine below_set ?_ GE385.out) | exact HB.out)) hb); have n5_ := Aside0.mk (hbox); have n6_ := Aside0.mk ((by rw [hg]; exact (below_size (by repeat (first | (with_reducible first | exact HB.out | apply below_alloc | apply pw_below_drewN | apply below_drew1 | refine below_set ?_ GE385.out) | exact HB.out))) : w.heap.size ≤ gb399)); have n7_ := Aside0.mk ((by rw [hg]; exact (below_size (by repeat (first | (with_reducible first | exact HB.out | apply below_alloc | apply pw_below_drewN | apply below_drew1 | refine below_set ?_ GE385.out) | exact HB.out))) : w.heap.size ≤ gb399)); have n8_ := Aside0.mk ((by rw [hg]; exact Nat.ne_of_lt (blk_lt (g := gb385) (o := .cells #[.int .i64 a0_0, .slice A0_1 l0_1.length c0_1] 24 (0, 0)) (by (with_reducible repeat (first | refine blk_drewN ?_ _ | refine blk_drew ?_ | refine blk_alloc ?_ _)); exact BK385.out)) : gb385 ≠ gb399)); have n9_ := Aside0.mk ((by rw [hg]; exact Nat.ne_of_gt (blk_lt (g := gb385) (o := .cells #[.int .i64 a0_0, .slice A0_1 l0_1.length c0_1] 24 (0, 0)) (by (with_reducible repeat (first | refine blk_drewN ?_ _ | refine blk_drew ?_ | refine blk_alloc ?_ _)); exact BK385.out)) : gb399 ≠ gb385)); clear HO390; clear HO393; clear HO398; clear BK385; clear HB; have HO390 := n0_; have HO393 := n1_; have HO398 := n2_; have BK385 := n3_; have HB := n4_; have BK399 := n5_; have GW399 := n6_; have GE399 := n7_; have NB385_399 := n8_; have NB399_385 := n9_; clear n0_ n1_ n2_ n3_ n4_ n5_ n6_ n7_ n8_ n9_; clear hb hbox hg; have hnb22 := NB399_385.out; have hnc22 := NB385_399.out; have hcz23_0 : w21.cell? ⟨gb399, 0, none⟩ = some (.int .i64 0) := (blk_cell BK399.out 0).trans rfl; have hcz23_1 : w21.cell? ⟨gb399, 1, none⟩ = some (.slice none 0 0) := (blk_cell BK399.out 1).trans rfl; have hfz23_0 := blk_frozen BK399.out 0; have hfz23_1 := blk_frozen BK399.out 1; obtain ⟨Ao24, co24, eo24⟩ := Kd.R_slice HO398.out; subst eo24) | ((with_reducible refine gate_callee (f := 27) rfl ?_); refine goesL_ (some 29) rfl rfl Tryd.func27 (by kernel_rfl) rfl #[.agg #[.int .i64 t395, .slice Ao24 t396.length co24]] rfl (by (try simp only [List.map_toArray, List.map_cons, List.map_nil]); first | done | rfl | (simp only [List.length_drop, List.length_take]; rfl)) ?_; (with_reducible refine (impl_MostInPairs.calls k t395 _ _ t396 t400 t403 _ ?side1 ?side2 ?side3 A10.out).mono ?_); (case side1 => first | exact HG.out | exact Laid32.drewN HG.out _ | exact Laid32.drew HG.out | exact (Laid32.drewN HG.out _).drewN _ | exact Laid32.below HG.out (by repeat (first | (with_reducible first | exact HB.out | apply below_alloc | apply pw_below_drewN | apply below_drew1 | refine below_set ?_ GE385.out | refine below_set ?_ GE399.out) | exact HB.out))); (case side2 => refine (Kd.R_reads' (e := 98) (base := w.heap.size) (ok := fun k_ => ((True ∧ some k_ ≠ (.slice Ao17 t388.length co17 : Value).ownBlock) ∧ some k_ ≠ (v392 : Value).ownBlock)) (n := t396.length) (c := co24) ?_).2.2; exact (by (with_reducible repeat (first | apply Kd.R_alloc | apply Kd.R_drewN | apply Kd.R_drew)); exact (Kd.R_mono (Kd.R_far (p := ⟨gb399, 1, none⟩) (Kd.R_far (p := ⟨gb399, 0, none⟩) (Kd.R_types HO398.out BK399.out (by decide)) (fun _ hk => hk.2) (.int .i64 t395)) (fun _ hk => hk.2) (.slice Ao24 t396.length co24)) (fun _ h_ => h_.1)))); (case side3 => exact (Kd.R_reads' HO398.out).2.1); rintro e w25 ⟨v401, rfl, ho0, hb⟩; refine ⟨_, rfl, ?_⟩; have n0_ := Aside0.mk (Kd.R_elder' (by (with_reducible repeat (first | apply Kd.R_alloc | apply Kd.R_drewN | apply Kd.R_drew)); exact (Kd.R_mono (Kd.R_far (p := ⟨gb399, 1, none⟩) (Kd.R_far (p := ⟨gb399, 0, none⟩) (Kd.R_types HO390.out BK399.out (by decide)) (fun _ hk => hk.2) (.int .i64 t395)) (fun _ hk => hk.2) (.slice Ao24 t396.length co24)) (fun _ h_ => h_.1))) (Kd.R_base ho0) hb); have n1_ := Aside0.mk (Kd.R_elder' (by (with_reducible repeat (first | apply Kd.R_alloc | apply Kd.R_drewN | apply Kd.R_drew)); exact (Kd.R_mono (Kd.R_far (p := ⟨gb399, 1, none⟩) (Kd.R_far (p := ⟨gb399, 0, none⟩) (Kd.R_types HO393.out BK399.out (by decide)) (fun _ hk => hk.2) (.int .i64 t395)) (fun _ hk => hk.2) (.slice Ao24 t396.length co24)) (fun _ h_ => h_.1))) (Kd.R_base ho0) hb); have n2_ := Aside0.mk (Kd.R_elder' (by (with_reducible repeat (first | apply Kd.R_alloc | apply Kd.R_drewN | apply Kd.R_drew)); exact (Kd.R_mono (Kd.R_far (p := ⟨gb399, 1, none⟩) (Kd.R_far (p := ⟨gb399, 0, none⟩) (Kd.R_types HO398.out BK399.out (by decide)) (fun _ hk => hk.2) (.int .i64 t395)) (fun _ hk => hk.2) (.slice Ao24 t396.length co24)) (fun _ h_ => h_.1))) (Kd.R_base ho0) hb); have n3_ := Aside0.mk (Kd.R_lower (Kd.R_new' (Kd.R_new' (Kd.R_new' ho0 (Kd.R_lt (by (with_reducible repeat (first | apply Kd.R_alloc | apply Kd.R_drewN | apply Kd.R_drew)); exact (Kd.R_mono (Kd.R_far (p := ⟨gb399, 1, none⟩) (Kd.R_far (p := ⟨gb399, 0, none⟩) (Kd.R_types HO390.out BK399.out (by decide)) (fun _ hk => hk.2) (.int .i64 t395)) (fun _ hk => hk.2) (.slice Ao24 t396.length co24)) (fun _ h_ => h_.1))))) (Kd.R_lt (by (with_reducible repeat (first | apply Kd.R_alloc | apply Kd.R_drewN | apply Kd.R_drew)); exact (Kd.R_mono (Kd.R_far (p := ⟨gb399, 1, none⟩) (Kd.R_far (p := ⟨gb399, 0, none⟩) (Kd.R_types HO393.out BK399.out (by decide)) (fun _ hk => hk.2) (.int .i64 t395)) (fun _ hk => hk.2) (.slice Ao24 t396.length co24)) (fun _ h_ => h_.1))))) (Kd.R_lt (by (with_reducible repeat (first | apply Kd.R_alloc | apply Kd.R_drewN | apply Kd.R_drew)); exact (Kd.R_mono (Kd.R_far (p := ⟨gb399, 1, none⟩) (Kd.R_far (p := ⟨gb399, 0, none⟩) (Kd.R_types HO398.out BK399.out (by decide)) (fun _ hk => hk.2) (.int .i64 t395)) (fun _ hk => hk.2) (.slice Ao24 t396.length co24)) (fun _ h_ => h_.1))))) (below_size (by repeat (first | (with_reducible first | exact HB.out | apply below_alloc | apply pw_below_drewN | apply below_drew1 | refine below_set ?_ GE385.out | refine below_set ?_ GE399.out) | exact HB.out)))); have n4_ := Aside0.mk (blk_below (g := gb385) (o := .cells #[.int .i64 a0_0, .slice A0_1 l0_1.length c0_1] 24 (0, 0)) (by (with_reducible repeat (first | refine blk_drewN ?_ _ | refine blk_drew ?_ | refine blk_alloc ?_ _)); refine blk_far ?_ NB385_399.out _; (with_reducible repeat (first | refine blk_drewN ?_ _ | refine blk_drew ?_ | refine blk_alloc ?_ _)); refine blk_far ?_ NB385_399.out _; (with_reducible repeat (first | refine blk_drewN ?_ _ | refine blk_drew ?_ | refine blk_alloc ?_ _)); exact BK385.out) hb); have n5_ := Aside0.mk (blk_below (g := gb399) (o := .cells #[.int .i64 t395, .slice Ao24 t396.length co24] 30 (0, 0)) (by (with_reducible repeat (first | refine blk_drewN ?_ _ | refine blk_drew ?_ | refine blk_alloc ?_ _)); refine blk_put (cs := #[.int .i64 t395, .slice none 0 0]) ?_ 1 _ rfl; (with_reducible repeat (first | refine blk_drewN ?_ _ | refine blk_drew ?_ | refine blk_alloc ?_ _)); refine blk_put (cs := #[.int .i64 0, .slice none 0 0]) ?_ 0 _ rfl; (with_reducible repeat (first | refine blk_drewN ?_ _ | refine blk_drew ?_ | refine blk_alloc ?_ _)); exact BK399.out) hb); have n6_ := Aside0.mk (below_step (by repeat (first | (with_reducible first | exact HB.out | apply below_alloc | apply pw_below_drewN | apply below_drew1 | refine below_set ?_ GE385.out | refine below_set ?_ GE399.out) | exact HB.out)) hb); clear HO390; clear HO393; clear HO398; clear BK385; clear BK399; clear HB; have HO390 := n0_; have HO393 := n1_; have HO398 := n2_; have HO402 := n3_; have BK385 := n4_; have BK399 := n5_; have HB := n6_; clear n0_ n1_ n2_ n3_ n4_ n5_ n6_; (try clear hb); (try clear hb2); (try clear hk); (try clear hi); (try clear ho0)))
  (try simp only [Act.put, List.setIfInBounds_toArray, List.set_cons_zero, List.set_cons_succ])
  go_cut [40] (fun v40 wc => ∃ (kq : Nat) (x40_10 : Bool), v40 = .bool x40_10 ∧ Aside0 (laws_FnExactMostInPairs.j0 kq t391 t394 t400 t403 x40_10 a0_0 l0_1 t395 t396 = some r) ∧ Aside0 (kq ≤ k) ∧ Aside0 (Kd.R k98 98 wc w.heap.size (fun k_ => some k_ ≠ (v401 : Value).ownBlock ∧ some k_ ≠ ((.slice Ao24 t396.length co24) : Value).ownBlock) v392 t391) ∧ Aside0 (Kd.R k98 98 wc w.heap.size (fun k_ => some k_ ≠ (v392 : Value).ownBlock ∧ some k_ ≠ ((.slice Ao24 t396.length co24) : Value).ownBlock) v401 t400) ∧ Aside0 (Kd.R k98 98 wc w.heap.size (fun k_ => some k_ ≠ (v392 : Value).ownBlock ∧ some k_ ≠ (v401 : Value).ownBlock) (.slice Ao24 t396.length co24) t396) ∧ Aside0 (wc.heap[gb385]? = some (.cells #[.int .i64 a0_0, (.slice A0_1 l0_1.length c0_1)] 24 (0, 0))) ∧ Aside0 (wc.heap[gb399]? = some (.cells #[.int .i64 t395, (.slice Ao24 t396.length co24)] 30 (0, 0))) ∧ Aside0 (Below w.heap.size w wc))
  case first =>
   have H := HC11.out
   clear HC11
   replace H := Option.bind_eq_some_iff.mp H
   obtain ⟨t404, A260, H⟩ := H
   replace H : (if t404 = true then (laws_FnExactMostInPairs.j0 k t391 t394 t400 t403 (t403 != t394) a0_0 l0_1 t395 t396) else (laws_FnExactMostInPairs.j0 k t391 t394 t400 t403 true a0_0 l0_1 t395 t396)) = some r := H
   have A26 := Aside0.mk A260
   clear A260
   by_cases c27 : t404 = true
   ·subst c27
    have H1 : (laws_FnExactMostInPairs.j0 k t391 t394 t400 t403 (t403 != t394) a0_0 l0_1 t395 t396) = some r := by rw [if_pos rfl] at H; exact H
    clear H
    have H := H1
    clear H1
    have H' := Aside0.mk H
    clear H
    obtain ⟨Ao28, co28, eo28⟩ := Kd.R_slice HO402.out
    subst eo28
    obtain ⟨Ao29, co29, eo29⟩ := Kd.R_slice HO393.out
    subst eo29
    go_wp2_with (first | ((with_reducible refine gate_callee (f := 22) rfl ?_); refine goesL_ (some 34) rfl rfl Tryd.func22 (by kernel_rfl) rfl #[.slice Ao28 t400.length co28, .slice Ao29 t391.length co29] rfl (by (try simp only [List.map_toArray, List.map_cons, List.map_nil]); first | done | rfl | (simp only [List.length_drop, List.length_take]; rfl)) ?_; (with_reducible refine (laws_eqPairS.calls k _ _ t400 _ _ t391 true _ ?side1 ?side2 ?side3 ?side4 A26.out).mono ?_); (case side1 => repeat (first | exact (Kd.R_reads' HO402.out).2.2 | (with_reducible refine Kd.C_alloc ?_ _) | (with_reducible refine Kd.C_drewN ?_ _) | (with_reducible refine Kd.C_drew ?_))); (case side2 => exact (Kd.R_reads' HO402.out).2.1); (case side3 => repeat (first | exact (Kd.R_reads' HO393.out).2.2 | (with_reducible refine Kd.C_alloc ?_ _) | (with_reducible refine Kd.C_drewN ?_ _) | (with_reducible refine Kd.C_drew ?_))); (case side4 => exact (Kd.R_reads' HO393.out).2.1); rintro e w30 ⟨rfl, hb⟩; refine ⟨_, rfl, ?_⟩; have n0_ := Aside0.mk (Kd.R_below (by (with_reducible repeat (first | apply Kd.R_alloc | apply Kd.R_drewN | apply Kd.R_drew)); exact HO390.out) hb); have n1_ := Aside0.mk (Kd.R_below (by (with_reducible repeat (first | apply Kd.R_alloc | apply Kd.R_drewN | apply Kd.R_drew)); exact HO393.out) hb); have n2_ := Aside0.mk (Kd.R_below (by (with_reducible repeat (first | apply Kd.R_alloc | apply Kd.R_drewN | apply Kd.R_drew)); exact HO398.out) hb); have n3_ := Aside0.mk (Kd.R_below (by (with_reducible repeat (first | apply Kd.R_alloc | apply Kd.R_drewN | apply Kd.R_drew)); exact HO402.out) hb); have n4_ := Aside0.mk (blk_below (g := gb385) (o := .cells #[.int .i64 a0_0, .slice A0_1 l0_1.length c0_1] 24 (0, 0)) (by (with_reducible repeat (first | refine blk_drewN ?_ _ | refine blk_drew ?_ | refine blk_alloc ?_ _)); exact BK385.out) hb); have n5_ := Aside0.mk (blk_below (g := gb399) (o := .cells #[.int .i64 t395, .slice Ao24 t396.length co24] 30 (0, 0)) (by (with_reducible repeat (first | refine blk_drewN ?_ _ | refine blk_drew ?_ | refine blk_alloc ?_ _)); exact BK399.out) hb); have n6_ := Aside0.mk (below_step (by repeat (first | (with_reducible first | exact HB.out | apply below_alloc | apply pw_below_drewN | apply below_drew1 | refine below_set ?_ GE385.out | refine below_set ?_ GE399.out) | exact HB.out)) hb); clear HO390; clear HO393; clear HO398; clear HO402; clear BK385; clear BK399; clear HB; have HO390 := n0_; have HO393 := n1_; have HO398 := n2_; have HO402 := n3_; have BK385 := n4_; have BK399 := n5_; have HB := n6_; clear n0_ n1_ n2_ n3_ n4_ n5_ n6_; (try clear hb); (try clear hb2); (try clear hk); (try clear hi)))
    go_meet
    case rel => exact ⟨_, ((t403 != t394)), (by first | rfl | (simp; done) | (simp [*]; done)), H', ⟨by first | omega | exact Nat.le_refl _⟩, ⟨by (with_reducible repeat (first | apply Kd.R_alloc | apply Kd.R_drewN | apply Kd.R_drew)); exact Kd.R_mono HO393.out (fun _ hk => ⟨hk.2, hk.1.2⟩)⟩, ⟨by (with_reducible repeat (first | apply Kd.R_alloc | apply Kd.R_drewN | apply Kd.R_drew)); exact Kd.R_mono HO402.out (fun _ hk => ⟨hk.1.2, hk.2⟩)⟩, ⟨by (with_reducible repeat (first | apply Kd.R_alloc | apply Kd.R_drewN | apply Kd.R_drew)); exact Kd.R_mono HO398.out (fun _ hk => ⟨hk.1.2, hk.2⟩)⟩, ⟨by (with_reducible repeat (first | refine blk_drewN ?_ _ | refine blk_drew ?_ | refine blk_alloc ?_ _)); exact BK385.out⟩, ⟨by (with_reducible repeat (first | refine blk_drewN ?_ _ | refine blk_drew ?_ | refine blk_alloc ?_ _)); exact BK399.out⟩, ⟨by repeat (first | (with_reducible first | exact HB.out | apply below_alloc | apply pw_below_drewN | apply below_drew1 | refine below_set ?_ GE385.out | refine below_set ?_ GE399.out) | exact HB.out)⟩⟩
   ·replace c27 := Bool.eq_false_iff.mpr c27
    subst c27
    have H1 : (laws_FnExactMostInPairs.j0 k t391 t394 t400 t403 true a0_0 l0_1 t395 t396) = some r := by rw [if_neg (show ¬ (false = true) by decide)] at H; exact H
    clear H
    have H := H1
    clear H1
    have H' := Aside0.mk H
    clear H
    obtain ⟨Ao31, co31, eo31⟩ := Kd.R_slice HO402.out
    subst eo31
    obtain ⟨Ao32, co32, eo32⟩ := Kd.R_slice HO393.out
    subst eo32
    go_wp2_with (first | ((with_reducible refine gate_callee (f := 22) rfl ?_); refine goesL_ (some 34) rfl rfl Tryd.func22 (by kernel_rfl) rfl #[.slice Ao31 t400.length co31, .slice Ao32 t391.length co32] rfl (by (try simp only [List.map_toArray, List.map_cons, List.map_nil]); first | done | rfl | (simp only [List.length_drop, List.length_take]; rfl)) ?_; (with_reducible refine (laws_eqPairS.calls k _ _ t400 _ _ t391 false _ ?side1 ?side2 ?side3 ?side4 A26.out).mono ?_); (case side1 => repeat (first | exact (Kd.R_reads' HO402.out).2.2 | (with_reducible refine Kd.C_alloc ?_ _) | (with_reducible refine Kd.C_drewN ?_ _) | (with_reducible refine Kd.C_drew ?_))); (case side2 => exact (Kd.R_reads' HO402.out).2.1); (case side3 => repeat (first | exact (Kd.R_reads' HO393.out).2.2 | (with_reducible refine Kd.C_alloc ?_ _) | (with_reducible refine Kd.C_drewN ?_ _) | (with_reducible refine Kd.C_drew ?_))); (case side4 => exact (Kd.R_reads' HO393.out).2.1); rintro e w33 ⟨rfl, hb⟩; refine ⟨_, rfl, ?_⟩; have n0_ := Aside0.mk (Kd.R_below (by (with_reducible repeat (first | apply Kd.R_alloc | apply Kd.R_drewN | apply Kd.R_drew)); exact HO390.out) hb); have n1_ := Aside0.mk (Kd.R_below (by (with_reducible repeat (first | apply Kd.R_alloc | apply Kd.R_drewN | apply Kd.R_drew)); exact HO393.out) hb); have n2_ := Aside0.mk (Kd.R_below (by (with_reducible repeat (first | apply Kd.R_alloc | apply Kd.R_drewN | apply Kd.R_drew)); exact HO398.out) hb); have n3_ := Aside0.mk (Kd.R_below (by (with_reducible repeat (first | apply Kd.R_alloc | apply Kd.R_drewN | apply Kd.R_drew)); exact HO402.out) hb); have n4_ := Aside0.mk (blk_below (g := gb385) (o := .cells #[.int .i64 a0_0, .slice A0_1 l0_1.length c0_1] 24 (0, 0)) (by (with_reducible repeat (first | refine blk_drewN ?_ _ | refine blk_drew ?_ | refine blk_alloc ?_ _)); exact BK385.out) hb); have n5_ := Aside0.mk (blk_below (g := gb399) (o := .cells #[.int .i64 t395, .slice Ao24 t396.length co24] 30 (0, 0)) (by (with_reducible repeat (first | refine blk_drewN ?_ _ | refine blk_drew ?_ | refine blk_alloc ?_ _)); exact BK399.out) hb); have n6_ := Aside0.mk (below_step (by repeat (first | (with_reducible first | exact HB.out | apply below_alloc | apply pw_below_drewN | apply below_drew1 | refine below_set ?_ GE385.out | refine below_set ?_ GE399.out) | exact HB.out)) hb); clear HO390; clear HO393; clear HO398; clear HO402; clear BK385; clear BK399; clear HB; have HO390 := n0_; have HO393 := n1_; have HO398 := n2_; have HO402 := n3_; have BK385 := n4_; have BK399 := n5_; have HB := n6_; clear n0_ n1_ n2_ n3_ n4_ n5_ n6_; (try clear hb); (try clear hb2); (try clear hk); (try clear hi)))
    go_meet
    case rel => exact ⟨_, (true), (by first | rfl | (simp; done) | (simp [*]; done)), H', ⟨by first | omega | exact Nat.le_refl _⟩, ⟨by (with_reducible repeat (first | apply Kd.R_alloc | apply Kd.R_drewN | apply Kd.R_drew)); exact Kd.R_mono HO393.out (fun _ hk => ⟨hk.2, hk.1.2⟩)⟩, ⟨by (with_reducible repeat (first | apply Kd.R_alloc | apply Kd.R_drewN | apply Kd.R_drew)); exact Kd.R_mono HO402.out (fun _ hk => ⟨hk.1.2, hk.2⟩)⟩, ⟨by (with_reducible repeat (first | apply Kd.R_alloc | apply Kd.R_drewN | apply Kd.R_drew)); exact Kd.R_mono HO398.out (fun _ hk => ⟨hk.1.2, hk.2⟩)⟩, ⟨by (with_reducible repeat (first | refine blk_drewN ?_ _ | refine blk_drew ?_ | refine blk_alloc ?_ _)); exact BK385.out⟩, ⟨by (with_reducible repeat (first | refine blk_drewN ?_ _ | refine blk_drew ?_ | refine blk_alloc ?_ _)); exact BK399.out⟩, ⟨by repeat (first | (with_reducible first | exact HB.out | apply below_alloc | apply pw_below_drewN | apply below_drew1 | refine below_set ?_ GE385.out | refine below_set ?_ GE399.out) | exact HB.out)⟩⟩
  case rest =>
   clear HC11
   try clear c1
   try clear c2
   try clear p2
   try clear c3
   try clear c3b0
   try clear c6
   try clear c13
   try clear c15
   try clear c22
   try clear c26
   try clear c27
   try clear hcz13_0
   try clear hcz13_1
   try clear hcz15_0
   try clear hcz15_1
   try clear hcz19_0
   try clear hcz19_1
   try clear hcz23_0
   try clear hcz23_1
   try clear hcz5_0
   try clear hcz5_1
   try clear hfz13_0
   try clear hfz13_1
   try clear hfz15_0
   try clear hfz15_1
   try clear hfz19_0
   try clear hfz19_1
   try clear hfz23_0
   try clear hfz23_1
   try clear hfz5_0
   try clear hfz5_1
   obtain ⟨kq, x40_10, rfl, HA, HJ10, HO_4, HO_7, HO_400001, BK385, BK399, HB⟩ := hcut
   cases kq with
   | zero => exact absurd HA.out (by simp [laws_FnExactMostInPairs.j0])
   | succ kj10 =>
    have H := HA.out
    clear HA
    simp only [laws_FnExactMostInPairs.j0] at H
    by_cases c34 : x40_10 = true
    ·subst c34
     have H1 : (some false) = some r := by rw [if_pos rfl] at H; exact H
     clear H
     have H := H1
     clear H1
     obtain rfl := Option.some.inj H
     go_wp2
     go_ret
     exact ⟨by first | rfl | (simp [errW_none, errW_some] <;> rfl) | (simp [*, errW_none, errW_some] <;> rfl), by repeat (first | (with_reducible first | exact HB.out | apply below_alloc | apply pw_below_drewN | apply below_drew1 | refine below_set ?_ GE385.out | refine below_set ?_ GE399.out) | exact HB.out)⟩
    ·replace c34 := Bool.eq_false_iff.mpr c34
     subst c34
     have H1 : ((laws_toParty.f kj10 a0_0 l0_1).bind fun bt405 => ((laws_eqParty.f kj10 t395 t396 bt405.1 bt405.2).bind fun t409 => (if t409 = true then ((laws_markParty.f kj10 t395 t396 1).bind fun bt410 => (if bt410.1 < 0 then (laws_FnExactMostInPairs.j1 kj10 t391 t394 t400 true a0_0 l0_1) else ((laws_eqPairS.f kj10 t400 t391).bind fun t412 => (if t412 = true then (laws_FnExactMostInPairs.j1 kj10 t391 t394 t400 (t403 != t394) a0_0 l0_1) else (laws_FnExactMostInPairs.j1 kj10 t391 t394 t400 true a0_0 l0_1))))) else (some false)))) = some r := by rw [if_neg (show ¬ (false = true) by decide)] at H; exact H
     clear H
     have H := H1
     clear H1
     replace H := Option.bind_eq_some_iff.mp H
     obtain ⟨⟨t405, t406⟩, A350, H⟩ := H
     replace H : ((laws_eqParty.f kj10 t395 t396 t405 t406).bind fun t409 => (if t409 = true then ((laws_markParty.f kj10 t395 t396 1).bind fun bt410 => (if bt410.1 < 0 then (laws_FnExactMostInPairs.j1 kj10 t391 t394 t400 true a0_0 l0_1) else ((laws_eqPairS.f kj10 t400 t391).bind fun t412 => (if t412 = true then (laws_FnExactMostInPairs.j1 kj10 t391 t394 t400 (t403 != t394) a0_0 l0_1) else (laws_FnExactMostInPairs.j1 kj10 t391 t394 t400 true a0_0 l0_1))))) else (some false))) = some r := H
     have A35 := Aside0.mk A350
     clear A350
     replace H := Option.bind_eq_some_iff.mp H
     obtain ⟨t409, A360, H⟩ := H
     replace H : (if t409 = true then ((laws_markParty.f kj10 t395 t396 1).bind fun bt410 => (if bt410.1 < 0 then (laws_FnExactMostInPairs.j1 kj10 t391 t394 t400 true a0_0 l0_1) else ((laws_eqPairS.f kj10 t400 t391).bind fun t412 => (if t412 = true then (laws_FnExactMostInPairs.j1 kj10 t391 t394 t400 (t403 != t394) a0_0 l0_1) else (laws_FnExactMostInPairs.j1 kj10 t391 t394 t400 true a0_0 l0_1))))) else (some false)) = some r := H
     have A36 := Aside0.mk A360
     clear A360
     by_cases c37 : t409 = true
     ·subst c37
      have H1 : ((laws_markParty.f kj10 t395 t396 1).bind fun bt410 => (if bt410.1 < 0 then (laws_FnExactMostInPairs.j1 kj10 t391 t394 t400 true a0_0 l0_1) else ((laws_eqPairS.f kj10 t400 t391).bind fun t412 => (if t412 = true then (laws_FnExactMostInPairs.j1 kj10 t391 t394 t400 (t403 != t394) a0_0 l0_1) else (laws_FnExactMostInPairs.j1 kj10 t391 t394 t400 true a0_0 l0_1))))) = some r := by rw [if_pos rfl] at H; exact H
      clear H
      have H := H1
      clear H1
      replace H := Option.bind_eq_some_iff.mp H
      obtain ⟨⟨t410, t411⟩, A380, H⟩ := H
      replace H : (if t410 < 0 then (laws_FnExactMostInPairs.j1 kj10 t391 t394 t400 true a0_0 l0_1) else ((laws_eqPairS.f kj10 t400 t391).bind fun t412 => (if t412 = true then (laws_FnExactMostInPairs.j1 kj10 t391 t394 t400 (t403 != t394) a0_0 l0_1) else (laws_FnExactMostInPairs.j1 kj10 t391 t394 t400 true a0_0 l0_1)))) = some r := H
      have A38 := Aside0.mk A380
      clear A380
      have HC39 := Aside0.mk H
      clear H
      try go_wp2
      have n0_ := Aside0.mk (Kd.R_drew HO_4.out)
      have n1_ := Aside0.mk (Kd.R_drew HO_7.out)
      have n2_ := Aside0.mk (Kd.R_drew HO_400001.out)
      have n3_ := Aside0.mk (blk_drew BK385.out)
      have n4_ := Aside0.mk (blk_drew BK399.out)
      have n5_ := Aside0.mk (below_drew1 HB.out)
      clear HO_4
      clear HO_7
      clear HO_400001
      clear BK385
      clear BK399
      clear HB
      have HO_4 := n0_
      have HO_7 := n1_
      have HO_400001 := n2_
      have BK385 := n3_
      have BK399 := n4_
      have HB := n5_
      clear n0_ n1_ n2_ n3_ n4_ n5_
      refine start_ (n := 5) (S := fun w' => w'.cell? ⟨gb399, 0, none⟩ = some (.int .i64 t395) ∧ w'.cell? ⟨gb399, 1, none⟩ = some (.slice Ao24 t396.length co24) ∧ w'.cell? ⟨gb385, 0, none⟩ = some (.int .i64 a0_0) ∧ w'.cell? ⟨gb385, 1, none⟩ = some (.slice A0_1 l0_1.length c0_1)) (ds := []) #[false, false, false, false, false] (by kernel_rfl) rfl rfl ⟨(blk_cell BK399.out 0).trans rfl, (blk_cell BK399.out 1).trans rfl, (blk_cell BK385.out 0).trans rfl, (blk_cell BK385.out 1).trans rfl⟩ (fun hHeld => ?_)
      generalize wc.drew = w40 at HO_4 HO_7 HO_400001 BK385 BK399 HB hHeld ⊢
      refine take_ (i := 0) (N := some 41) (v := ?_) (a' := ?_) #[true, false, false, false, false] rfl rfl (by kernel_rfl) (fun _ _ _ h => h) (Or.inl ⟨by rfl, ?_⟩) hHeld ?_ ?_
      rotate_left
      ·rintro w' ⟨s0, s1, s2, s3⟩
       go_simp
       with_reducible rfl
      rotate_left
      ·simp only [Act.put, List.setIfInBounds_toArray, List.set_cons_zero, List.set_cons_succ, i64_w, i32_w]
       rfl
      refine take_ (i := 1) (N := some 42) (v := ?_) (a' := ?_) #[true, true, false, false, false] rfl rfl (by kernel_rfl) (fun _ _ _ h => h) (Or.inl ⟨by rfl, ?_⟩) hHeld ?_ ?_
      rotate_left
      ·rintro w' ⟨s0, s1, s2, s3⟩
       go_simp
       with_reducible rfl
      rotate_left
      ·simp only [Act.put, List.setIfInBounds_toArray, List.set_cons_zero, List.set_cons_succ, i64_w, i32_w]
       rfl
      refine one_ (i := 2) (N := some 43) #[true, true, true, false, false] rfl rfl (by kernel_rfl) (by decide) (fun K hK => ?_)
      refine goes_ Tryd.func15 (by kernel_rfl) rfl #[.agg #[.int .i64 a0_0, .slice A0_1 l0_1.length c0_1]] (by rfl) rfl rfl (by (try simp only [List.map_toArray, List.map_cons, List.map_nil]); first | done | rfl | (simp only [List.length_drop, List.length_take]; rfl)) ?_
      with_reducible refine (laws_toParty.calls kj10 a0_0 _ _ l0_1 t405 t406 _ ?side1 ?side2 A35.out).mono ?_
      (case side1 => repeat (first | exact (Kd.C_below HR0_1.out HB.out) | (with_reducible refine Kd.C_alloc ?_ _) | (with_reducible refine Kd.C_drewN ?_ _) | (with_reducible refine Kd.C_drew ?_)))
      (case side2 => exact HC0_1.out)
      rintro e w41 ⟨v407, rfl, ho0, hb⟩
      refine ⟨_, rfl, ?_⟩
      have n0_ := Aside0.mk (Kd.R_elder' (by (with_reducible repeat (first | apply Kd.R_alloc | apply Kd.R_drewN | apply Kd.R_drew)); exact HO_4.out) (Kd.R_base ho0) hb)
      have n1_ := Aside0.mk (Kd.R_elder' (by (with_reducible repeat (first | apply Kd.R_alloc | apply Kd.R_drewN | apply Kd.R_drew)); exact HO_7.out) (Kd.R_base ho0) hb)
      have n2_ := Aside0.mk (Kd.R_elder' (by (with_reducible repeat (first | apply Kd.R_alloc | apply Kd.R_drewN | apply Kd.R_drew)); exact HO_400001.out) (Kd.R_base ho0) hb)
      have n3_ := Aside0.mk (Kd.R_lower (Kd.R_new' (Kd.R_new' (Kd.R_new' ho0 (Kd.R_lt (by (with_reducible repeat (first | apply Kd.R_alloc | apply Kd.R_drewN | apply Kd.R_drew)); exact HO_4.out))) (Kd.R_lt (by (with_reducible repeat (first | apply Kd.R_alloc | apply Kd.R_drewN | apply Kd.R_drew)); exact HO_7.out))) (Kd.R_lt (by (with_reducible repeat (first | apply Kd.R_alloc | apply Kd.R_drewN | apply Kd.R_drew)); exact HO_400001.out))) (below_size (by repeat (first | (with_reducible first | exact HB.out | apply below_alloc | apply pw_below_drewN | apply below_drew1 | refine below_set ?_ GE385.out | refine below_set ?_ GE399.out) | exact HB.out))))
      have n4_ := Aside0.mk (blk_below (g := gb385) (o := .cells #[.int .i64 a0_0, .slice A0_1 l0_1.length c0_1] 24 (0, 0)) (by (with_reducible repeat (first | refine blk_drewN ?_ _ | refine blk_drew ?_ | refine blk_alloc ?_ _)); exact BK385.out) hb)
      have n5_ := Aside0.mk (blk_below (g := gb399) (o := .cells #[.int .i64 t395, .slice Ao24 t396.length co24] 30 (0, 0)) (by (with_reducible repeat (first | refine blk_drewN ?_ _ | refine blk_drew ?_ | refine blk_alloc ?_ _)); exact BK399.out) hb)
      have n6_ := Aside0.mk (below_step (by repeat (first | (with_reducible first | exact HB.out | apply below_alloc | apply pw_below_drewN | apply below_drew1 | refine below_set ?_ GE385.out | refine below_set ?_ GE399.out) | exact HB.out)) hb)
      clear HO_4
      clear HO_7
      clear HO_400001
      clear BK385
      clear BK399
      clear HB
      have HO_4 := n0_
      have HO_7 := n1_
      have HO_400001 := n2_
      have HO408 := n3_
      have BK385 := n4_
      have BK399 := n5_
      have HB := n6_
      clear n0_ n1_ n2_ n3_ n4_ n5_ n6_
      (try clear hb)
      (try clear hb2)
      (try clear hk)
      (try clear hi)
      (try clear ho0)
      obtain ⟨Ao42, co42, eo42⟩ := Kd.R_slice HO408.out
      (first | subst eo42 | (injection eo42 with f1_ f2_ f3_; have f4_ := f1_.symm; have f5_ := f3_.symm; clear f1_ f2_ f3_; subst f4_; subst f5_))
      refine hK.out _ _ ⟨(blk_cell BK399.out 0).trans rfl, (blk_cell BK399.out 1).trans rfl, (blk_cell BK385.out 0).trans rfl, (blk_cell BK385.out 1).trans rfl⟩ (fun hHeld => ?_)
      clear hK K
      refine norm_ (a' := ?_) ?_ ?_
      rotate_left
      ·show Act.put _ (some 43) _ = _
       simp only [Act.put, List.setIfInBounds_toArray, List.set_cons_zero, List.set_cons_succ, i64_w, i32_w]
       rfl
      refine one_ (i := 3) (N := some 44) #[true, true, true, true, false] rfl rfl (by kernel_rfl) (by decide) (fun K hK => ?_)
      refine goes_ Tryd.func17 (by kernel_rfl) rfl #[.agg #[.int .i64 t395, .slice Ao24 t396.length co24], .agg #[.int .i64 t405, .slice Ao42 t406.length co42]] (by rfl) rfl rfl (by (try simp only [List.map_toArray, List.map_cons, List.map_nil]); first | done | rfl | (simp only [List.length_drop, List.length_take]; rfl)) ?_
      with_reducible refine (laws_eqParty.calls kj10 t395 _ _ t396 t405 _ _ t406 true _ ?side1 ?side2 ?side3 ?side4 A36.out).mono ?_
      (case side1 => repeat (first | exact (Kd.R_reads' HO_400001.out).2.2 | (with_reducible refine Kd.C_alloc ?_ _) | (with_reducible refine Kd.C_drewN ?_ _) | (with_reducible refine Kd.C_drew ?_)))
      (case side2 => exact (Kd.R_reads' HO_400001.out).2.1)
      (case side3 => repeat (first | exact (Kd.R_reads' HO408.out).2.2 | (with_reducible refine Kd.C_alloc ?_ _) | (with_reducible refine Kd.C_drewN ?_ _) | (with_reducible refine Kd.C_drew ?_)))
      (case side4 => exact (Kd.R_reads' HO408.out).2.1)
      rintro e w43 ⟨rfl, hb⟩
      refine ⟨_, rfl, ?_⟩
      have n0_ := Aside0.mk (Kd.R_below (by (with_reducible repeat (first | apply Kd.R_alloc | apply Kd.R_drewN | apply Kd.R_drew)); exact HO_4.out) hb)
      have n1_ := Aside0.mk (Kd.R_below (by (with_reducible repeat (first | apply Kd.R_alloc | apply Kd.R_drewN | apply Kd.R_drew)); exact HO_7.out) hb)
      have n2_ := Aside0.mk (Kd.R_below (by (with_reducible repeat (first | apply Kd.R_alloc | apply Kd.R_drewN | apply Kd.R_drew)); exact HO_400001.out) hb)
      have n3_ := Aside0.mk (Kd.R_below (by (with_reducible repeat (first | apply Kd.R_alloc | apply Kd.R_drewN | apply Kd.R_drew)); exact HO408.out) hb)
      have n4_ := Aside0.mk (blk_below (g := gb385) (o := .cells #[.int .i64 a0_0, .slice A0_1 l0_1.length c0_1] 24 (0, 0)) (by (with_reducible repeat (first | refine blk_drewN ?_ _ | refine blk_drew ?_ | refine blk_alloc ?_ _)); exact BK385.out) hb)
      have n5_ := Aside0.mk (blk_below (g := gb399) (o := .cells #[.int .i64 t395, .slice Ao24 t396.length co24] 30 (0, 0)) (by (with_reducible repeat (first | refine blk_drewN ?_ _ | refine blk_drew ?_ | refine blk_alloc ?_ _)); exact BK399.out) hb)
      have n6_ := Aside0.mk (below_step (by repeat (first | (with_reducible first | exact HB.out | apply below_alloc | apply pw_below_drewN | apply below_drew1 | refine below_set ?_ GE385.out | refine below_set ?_ GE399.out) | exact HB.out)) hb)
      clear HO_4
      clear HO_7
      clear HO_400001
      clear HO408
      clear BK385
      clear BK399
      clear HB
      have HO_4 := n0_
      have HO_7 := n1_
      have HO_400001 := n2_
      have HO408 := n3_
      have BK385 := n4_
      have BK399 := n5_
      have HB := n6_
      clear n0_ n1_ n2_ n3_ n4_ n5_ n6_
      (try clear hb)
      (try clear hb2)
      (try clear hk)
      (try clear hi)
      refine hK.out _ _ ⟨(blk_cell BK399.out 0).trans rfl, (blk_cell BK399.out 1).trans rfl, (blk_cell BK385.out 0).trans rfl, (blk_cell BK385.out 1).trans rfl⟩ (fun hHeld => ?_)
      clear hK K
      refine norm_ (a' := ?_) ?_ ?_
      rotate_left
      ·show Act.put _ (some 44) _ = _
       simp only [Act.put, List.setIfInBounds_toArray, List.set_cons_zero, List.set_cons_succ, i64_w, i32_w]
       rfl
      refine pure_ (i := 4) (N := some 45) (v := ?_) (a' := ?_) #[true, true, true, true, true] rfl rfl (by kernel_rfl) (fun _ _ _ h => h) (Or.inl ⟨by rfl, ?_⟩) ?_ ?_
      rotate_left
      ·intro w'
       go_simp
       with_reducible rfl
      rotate_left
      ·simp only [Act.put, List.setIfInBounds_toArray, List.set_cons_zero, List.set_cons_succ, i64_w, i32_w]
       rfl
      refine done_ (by kernel_rfl) ?_
      have hnb44 := NB399_385.out
      have hnc44 := NB385_399.out
      have hcz45_0 : w43.cell? ⟨gb399, 0, none⟩ = some (.int .i64 t395) := (blk_cell BK399.out 0).trans rfl
      have hcz45_1 : w43.cell? ⟨gb399, 1, none⟩ = some (.slice Ao24 t396.length co24) := (blk_cell BK399.out 1).trans rfl
      have hfz45_0 := blk_frozen BK399.out 0
      have hfz45_1 := blk_frozen BK399.out 1
      go_upto_region 14 with (first | ((with_reducible refine gate_callee (f := 23) rfl ?_); refine goesL_ (some 48) rfl rfl Tryd.func23 (by kernel_rfl) rfl #[.agg #[.int .i64 t395, .slice Ao24 t396.length co24], .int .i64 1] rfl (by (try simp only [List.map_toArray, List.map_cons, List.map_nil]); first | done | rfl | (simp only [List.length_drop, List.length_take]; rfl)) ?_; (with_reducible refine (laws_markParty.calls kj10 t395 (fun k_ => some k_ = (.slice Ao24 t396.length co24 : Value).ownBlock) (.slice Ao24 t396.length co24) t396 1 t410 t411 w _ ?side1 ?side2 A38.out).mono ?_); (case side1 => repeat (first | (with_reducible first | exact HB.out | apply below_alloc | apply pw_below_drewN | apply below_drew1 | refine below_set ?_ GE385.out | refine below_set ?_ GE399.out) | exact HB.out)); (case side2 => exact Kd.R_tight rfl HO_400001.out); rintro e w46 ⟨rfl, hy0, hb, hkp⟩; refine ⟨_, rfl, ?_⟩; have n0_ := Aside0.mk (Kd.R_mono (ok' := fun k_ => some k_ ≠ (v401 : Value).ownBlock ∧ some k_ ≠ (.slice Ao24 t396.length co24 : Value).ownBlock ∧ some k_ ≠ (.slice Ao42 t406.length co42 : Value).ownBlock) (Kd.R_keptB (HO_4.out) hkp (fun k_ hk_ hs_ => (hk_.1.2) hs_)) (fun k_ hk_ => ⟨hk_.1.1.1, hk_.1.1.2, hk_.1.2⟩)); have n1_ := Aside0.mk (Kd.R_mono (ok' := fun k_ => some k_ ≠ (v392 : Value).ownBlock ∧ some k_ ≠ (.slice Ao24 t396.length co24 : Value).ownBlock ∧ some k_ ≠ (.slice Ao42 t406.length co42 : Value).ownBlock) (Kd.R_keptB (HO_7.out) hkp (fun k_ hk_ hs_ => (hk_.1.2) hs_)) (fun k_ hk_ => ⟨hk_.1.1.1, hk_.1.1.2, hk_.1.2⟩)); have n2_ := Aside0.mk (Kd.R_reok rfl hy0 (fun k_ e_ => HO_400001.out.1 k_ e_)); have n3_ := Aside0.mk (blk_kept (by (with_reducible repeat (first | refine blk_drewN ?_ _ | refine blk_drew ?_ | refine blk_alloc ?_ _)); exact BK385.out) hkp (fun hs_ => (fun e_ => (Kd.R_ne HO_400001.out BK385.out (by decide)) e_) hs_)); have n4_ := Aside0.mk (blk_kept (by (with_reducible repeat (first | refine blk_drewN ?_ _ | refine blk_drew ?_ | refine blk_alloc ?_ _)); exact BK399.out) hkp (fun hs_ => (fun e_ => (Kd.R_ne HO_400001.out BK399.out (by decide)) e_) hs_)); have n5_ := Aside0.mk (Kd.R_mono (ok' := fun k_ => some k_ ≠ (v392 : Value).ownBlock ∧ some k_ ≠ (v401 : Value).ownBlock ∧ some k_ ≠ (.slice Ao24 t396.length co24 : Value).ownBlock) (Kd.R_keptB (HO408.out) hkp (fun k_ hk_ hs_ => (hk_.2) hs_)) (fun k_ hk_ => ⟨hk_.1.1.1.2, hk_.1.1.2, hk_.1.2⟩)); have n6_ := Aside0.mk (hb); clear HO_4; clear HO_7; clear HO_400001; clear BK385; clear BK399; clear HO408; clear HB; have HO_4 := n0_; have HO_7 := n1_; have HO_400001 := n2_; have BK385 := n3_; have BK399 := n4_; have HO408 := n5_; have HB := n6_; clear n0_ n1_ n2_ n3_ n4_ n5_ n6_; (try clear hb); (try clear hkp); (try clear hy0)))
      (try simp only [Act.put, List.setIfInBounds_toArray, List.set_cons_zero, List.set_cons_succ])
      go_cut [61] (fun v61 wc => ∃ (kq : Nat) (x61_38 : Bool), v61 = .bool x61_38 ∧ Aside0 (laws_FnExactMostInPairs.j1 kq t391 t394 t400 x61_38 a0_0 l0_1 = some r) ∧ Aside0 (kq ≤ kj10) ∧ Aside0 (Kd.R k98 98 wc w.heap.size (fun k_ => some k_ ≠ (v401 : Value).ownBlock ∧ some k_ ≠ ((.slice Ao24 t396.length co24) : Value).ownBlock) v392 t391) ∧ Aside0 (Kd.R k98 98 wc w.heap.size (fun k_ => some k_ ≠ (v392 : Value).ownBlock ∧ some k_ ≠ ((.slice Ao24 t396.length co24) : Value).ownBlock) v401 t400) ∧ Aside0 (Kd.R k98 98 wc w.heap.size (fun k_ => some k_ ≠ (v392 : Value).ownBlock ∧ some k_ ≠ (v401 : Value).ownBlock) (.slice Ao24 t396.length co24) t411) ∧ Aside0 (wc.heap[gb385]? = some (.cells #[.int .i64 a0_0, (.slice A0_1 l0_1.length c0_1)] 24 (0, 0))) ∧ Aside0 (wc.heap[gb399]? = some (.cells #[.int .i64 t395, (.slice Ao24 t396.length co24)] 30 (0, 0))) ∧ Aside0 (Below w.heap.size w wc))
      case first =>
       have H := HC39.out
       clear HC39
       by_cases c47 : t410 < 0
       ·rw [if_pos c47] at H
        have c47b0 : decide (t410 < 0) = true := decide_eq_true c47
        clear c47
        (first | rw [c47b0] | (simp only [i64_w, i32_w]; rw [c47b0]) | skip)
        have H' := Aside0.mk H
        clear H
        go_wp2
        go_meet
        case rel => exact ⟨_, (true), (by first | rfl | (simp; done) | (simp [*]; done)), H', ⟨by have := HJ10.out; first | omega | exact Nat.le_refl _⟩, ⟨by (with_reducible repeat (first | apply Kd.R_alloc | apply Kd.R_drewN | apply Kd.R_drew)); exact Kd.R_mono HO_4.out (fun _ hk => ⟨hk.1, hk.2.1⟩)⟩, ⟨by (with_reducible repeat (first | apply Kd.R_alloc | apply Kd.R_drewN | apply Kd.R_drew)); exact Kd.R_mono HO_7.out (fun _ hk => ⟨hk.1, hk.2.1⟩)⟩, ⟨by (with_reducible repeat (first | apply Kd.R_alloc | apply Kd.R_drewN | apply Kd.R_drew)); exact Kd.R_mono HO_400001.out (fun _ hk => ⟨hk.1.1, hk.1.2⟩)⟩, ⟨by (with_reducible repeat (first | refine blk_drewN ?_ _ | refine blk_drew ?_ | refine blk_alloc ?_ _)); exact BK385.out⟩, ⟨by (with_reducible repeat (first | refine blk_drewN ?_ _ | refine blk_drew ?_ | refine blk_alloc ?_ _)); exact BK399.out⟩, ⟨by repeat (first | (with_reducible first | exact HB.out | apply below_alloc | apply pw_below_drewN | apply below_drew1 | refine below_set ?_ GE385.out | refine below_set ?_ GE399.out) | exact HB.out)⟩⟩
       ·rw [if_neg c47] at H
        have c47b0 : decide (t410 < 0) = false := decide_eq_false c47
        clear c47
        (first | rw [c47b0] | (simp only [i64_w, i32_w]; rw [c47b0]) | skip)
        replace H := Option.bind_eq_some_iff.mp H
        obtain ⟨t412, A480, H⟩ := H
        replace H : (if t412 = true then (laws_FnExactMostInPairs.j1 kj10 t391 t394 t400 (t403 != t394) a0_0 l0_1) else (laws_FnExactMostInPairs.j1 kj10 t391 t394 t400 true a0_0 l0_1)) = some r := H
        have A48 := Aside0.mk A480
        clear A480
        by_cases c49 : t412 = true
        ·subst c49
         have H1 : (laws_FnExactMostInPairs.j1 kj10 t391 t394 t400 (t403 != t394) a0_0 l0_1) = some r := by rw [if_pos rfl] at H; exact H
         clear H
         have H := H1
         clear H1
         have H' := Aside0.mk H
         clear H
         obtain ⟨Ao50, co50, eo50⟩ := Kd.R_slice HO_7.out
         subst eo50
         obtain ⟨Ao51, co51, eo51⟩ := Kd.R_slice HO_4.out
         subst eo51
         go_wp2_with (first | (go_at_call 22; (with_reducible refine (laws_eqPairS.calls kj10 _ _ t400 _ _ t391 true _ ?side1 ?side2 ?side3 ?side4 A48.out).mono ?_); (case side1 => repeat (first | exact (Kd.R_reads' HO_7.out).2.2 | (with_reducible refine Kd.C_alloc ?_ _) | (with_reducible refine Kd.C_drewN ?_ _) | (with_reducible refine Kd.C_drew ?_))); (case side2 => exact (Kd.R_reads' HO_7.out).2.1); (case side3 => repeat (first | exact (Kd.R_reads' HO_4.out).2.2 | (with_reducible refine Kd.C_alloc ?_ _) | (with_reducible refine Kd.C_drewN ?_ _) | (with_reducible refine Kd.C_drew ?_))); (case side4 => exact (Kd.R_reads' HO_4.out).2.1); rintro e w52 ⟨rfl, hb⟩; have n0_ := Aside0.mk (Kd.R_below (by (with_reducible repeat (first | apply Kd.R_alloc | apply Kd.R_drewN | apply Kd.R_drew)); exact HO_4.out) hb); have n1_ := Aside0.mk (Kd.R_below (by (with_reducible repeat (first | apply Kd.R_alloc | apply Kd.R_drewN | apply Kd.R_drew)); exact HO_7.out) hb); have n2_ := Aside0.mk (Kd.R_below (by (with_reducible repeat (first | apply Kd.R_alloc | apply Kd.R_drewN | apply Kd.R_drew)); exact HO_400001.out) hb); have n3_ := Aside0.mk (Kd.R_below (by (with_reducible repeat (first | apply Kd.R_alloc | apply Kd.R_drewN | apply Kd.R_drew)); exact HO408.out) hb); have n4_ := Aside0.mk (blk_below (g := gb385) (o := .cells #[.int .i64 a0_0, .slice A0_1 l0_1.length c0_1] 24 (0, 0)) (by (with_reducible repeat (first | refine blk_drewN ?_ _ | refine blk_drew ?_ | refine blk_alloc ?_ _)); exact BK385.out) hb); have n5_ := Aside0.mk (blk_below (g := gb399) (o := .cells #[.int .i64 t395, .slice Ao24 t396.length co24] 30 (0, 0)) (by (with_reducible repeat (first | refine blk_drewN ?_ _ | refine blk_drew ?_ | refine blk_alloc ?_ _)); exact BK399.out) hb); have n6_ := Aside0.mk (below_step (by repeat (first | (with_reducible first | exact HB.out | apply below_alloc | apply pw_below_drewN | apply below_drew1 | refine below_set ?_ GE385.out | refine below_set ?_ GE399.out) | exact HB.out)) hb); clear HO_4; clear HO_7; clear HO_400001; clear HO408; clear BK385; clear BK399; clear HB; have HO_4 := n0_; have HO_7 := n1_; have HO_400001 := n2_; have HO408 := n3_; have BK385 := n4_; have BK399 := n5_; have HB := n6_; clear n0_ n1_ n2_ n3_ n4_ n5_ n6_; (try clear hb); (try clear hb2); (try clear hk); (try clear hi)))
         go_meet
         case rel => exact ⟨_, ((t403 != t394)), (by first | rfl | (simp; done) | (simp [*]; done)), H', ⟨by have := HJ10.out; first | omega | exact Nat.le_refl _⟩, ⟨by (with_reducible repeat (first | apply Kd.R_alloc | apply Kd.R_drewN | apply Kd.R_drew)); exact Kd.R_mono HO_4.out (fun _ hk => ⟨hk.1, hk.2.1⟩)⟩, ⟨by (with_reducible repeat (first | apply Kd.R_alloc | apply Kd.R_drewN | apply Kd.R_drew)); exact Kd.R_mono HO_7.out (fun _ hk => ⟨hk.1, hk.2.1⟩)⟩, ⟨by (with_reducible repeat (first | apply Kd.R_alloc | apply Kd.R_drewN | apply Kd.R_drew)); exact Kd.R_mono HO_400001.out (fun _ hk => ⟨hk.1.1, hk.1.2⟩)⟩, ⟨by (with_reducible repeat (first | refine blk_drewN ?_ _ | refine blk_drew ?_ | refine blk_alloc ?_ _)); exact BK385.out⟩, ⟨by (with_reducible repeat (first | refine blk_drewN ?_ _ | refine blk_drew ?_ | refine blk_alloc ?_ _)); exact BK399.out⟩, ⟨by repeat (first | (with_reducible first | exact HB.out | apply below_alloc | apply pw_below_drewN | apply below_drew1 | refine below_set ?_ GE385.out | refine below_set ?_ GE399.out) | exact HB.out)⟩⟩
        ·replace c49 := Bool.eq_false_iff.mpr c49
         subst c49
         have H1 : (laws_FnExactMostInPairs.j1 kj10 t391 t394 t400 true a0_0 l0_1) = some r := by rw [if_neg (show ¬ (false = true) by decide)] at H; exact H
         clear H
         have H := H1
         clear H1
         have H' := Aside0.mk H
         clear H
         obtain ⟨Ao53, co53, eo53⟩ := Kd.R_slice HO_7.out
         subst eo53
         obtain ⟨Ao54, co54, eo54⟩ := Kd.R_slice HO_4.out
         subst eo54
         go_wp2_with (first | (go_at_call 22; (with_reducible refine (laws_eqPairS.calls kj10 _ _ t400 _ _ t391 false _ ?side1 ?side2 ?side3 ?side4 A48.out).mono ?_); (case side1 => repeat (first | exact (Kd.R_reads' HO_7.out).2.2 | (with_reducible refine Kd.C_alloc ?_ _) | (with_reducible refine Kd.C_drewN ?_ _) | (with_reducible refine Kd.C_drew ?_))); (case side2 => exact (Kd.R_reads' HO_7.out).2.1); (case side3 => repeat (first | exact (Kd.R_reads' HO_4.out).2.2 | (with_reducible refine Kd.C_alloc ?_ _) | (with_reducible refine Kd.C_drewN ?_ _) | (with_reducible refine Kd.C_drew ?_))); (case side4 => exact (Kd.R_reads' HO_4.out).2.1); rintro e w55 ⟨rfl, hb⟩; have n0_ := Aside0.mk (Kd.R_below (by (with_reducible repeat (first | apply Kd.R_alloc | apply Kd.R_drewN | apply Kd.R_drew)); exact HO_4.out) hb); have n1_ := Aside0.mk (Kd.R_below (by (with_reducible repeat (first | apply Kd.R_alloc | apply Kd.R_drewN | apply Kd.R_drew)); exact HO_7.out) hb); have n2_ := Aside0.mk (Kd.R_below (by (with_reducible repeat (first | apply Kd.R_alloc | apply Kd.R_drewN | apply Kd.R_drew)); exact HO_400001.out) hb); have n3_ := Aside0.mk (Kd.R_below (by (with_reducible repeat (first | apply Kd.R_alloc | apply Kd.R_drewN | apply Kd.R_drew)); exact HO408.out) hb); have n4_ := Aside0.mk (blk_below (g := gb385) (o := .cells #[.int .i64 a0_0, .slice A0_1 l0_1.length c0_1] 24 (0, 0)) (by (with_reducible repeat (first | refine blk_drewN ?_ _ | refine blk_drew ?_ | refine blk_alloc ?_ _)); exact BK385.out) hb); have n5_ := Aside0.mk (blk_below (g := gb399) (o := .cells #[.int .i64 t395, .slice Ao24 t396.length co24] 30 (0, 0)) (by (with_reducible repeat (first | refine blk_drewN ?_ _ | refine blk_drew ?_ | refine blk_alloc ?_ _)); exact BK399.out) hb); have n6_ := Aside0.mk (below_step (by repeat (first | (with_reducible first | exact HB.out | apply below_alloc | apply pw_below_drewN | apply below_drew1 | refine below_set ?_ GE385.out | refine below_set ?_ GE399.out) | exact HB.out)) hb); clear HO_4; clear HO_7; clear HO_400001; clear HO408; clear BK385; clear BK399; clear HB; have HO_4 := n0_; have HO_7 := n1_; have HO_400001 := n2_; have HO408 := n3_; have BK385 := n4_; have BK399 := n5_; have HB := n6_; clear n0_ n1_ n2_ n3_ n4_ n5_ n6_; (try clear hb); (try clear hb2); (try clear hk); (try clear hi)))
         go_meet
         case rel => exact ⟨_, (true), (by first | rfl | (simp; done) | (simp [*]; done)), H', ⟨by have := HJ10.out; first | omega | exact Nat.le_refl _⟩, ⟨by (with_reducible repeat (first | apply Kd.R_alloc | apply Kd.R_drewN | apply Kd.R_drew)); exact Kd.R_mono HO_4.out (fun _ hk => ⟨hk.1, hk.2.1⟩)⟩, ⟨by (with_reducible repeat (first | apply Kd.R_alloc | apply Kd.R_drewN | apply Kd.R_drew)); exact Kd.R_mono HO_7.out (fun _ hk => ⟨hk.1, hk.2.1⟩)⟩, ⟨by (with_reducible repeat (first | apply Kd.R_alloc | apply Kd.R_drewN | apply Kd.R_drew)); exact Kd.R_mono HO_400001.out (fun _ hk => ⟨hk.1.1, hk.1.2⟩)⟩, ⟨by (with_reducible repeat (first | refine blk_drewN ?_ _ | refine blk_drew ?_ | refine blk_alloc ?_ _)); exact BK385.out⟩, ⟨by (with_reducible repeat (first | refine blk_drewN ?_ _ | refine blk_drew ?_ | refine blk_alloc ?_ _)); exact BK399.out⟩, ⟨by repeat (first | (with_reducible first | exact HB.out | apply below_alloc | apply pw_below_drewN | apply below_drew1 | refine below_set ?_ GE385.out | refine below_set ?_ GE399.out) | exact HB.out)⟩⟩
      case rest =>
       clear HC39
       try clear c1
       try clear c2
       try clear p2
       try clear c3
       try clear c3b0
       try clear c4
       try clear c6
       try clear c13
       try clear c15
       try clear c17
       try clear c22
       try clear c23
       try clear c26
       try clear c27
       try clear c34
       try clear c37
       try clear c44
       try clear c47
       try clear c47b0
       try clear c49
       try clear hcz13_0
       try clear hcz13_1
       try clear hcz15_0
       try clear hcz15_1
       try clear hcz19_0
       try clear hcz19_1
       try clear hcz23_0
       try clear hcz23_1
       try clear hcz45_0
       try clear hcz45_1
       try clear hcz5_0
       try clear hcz5_1
       try clear hfz13_0
       try clear hfz13_1
       try clear hfz15_0
       try clear hfz15_1
       try clear hfz19_0
       try clear hfz19_1
       try clear hfz23_0
       try clear hfz23_1
       try clear hfz45_0
       try clear hfz45_1
       try clear hfz5_0
       try clear hfz5_1
       try clear p2
       obtain ⟨kq, x61_38, rfl, HA, HJ38, HO_4, HO_7, HO_400001, BK385, BK399, HB⟩ := hcut
       have hl400001_38 := (Kd.R_reads' HO_400001.out).1
       rw [hl400001_38] at HO_400001
       (try simp only [hl400001_38])
       (try simp only [hl400001_38] at BK385)
       (try simp only [hl400001_38] at BK399)
       (try simp only [hl400001_38] at HO_4)
       (try simp only [hl400001_38] at HO_7)
       cases kq with
       | zero => exact absurd HA.out (by simp [laws_FnExactMostInPairs.j1])
       | succ kj38 =>
        have H := HA.out
        clear HA
        simp only [laws_FnExactMostInPairs.j1] at H
        by_cases c56 : x61_38 = true
        ·subst c56
         have H1 : (some false) = some r := by rw [if_pos rfl] at H; exact H
         clear H
         have H := H1
         clear H1
         obtain rfl := Option.some.inj H
         go_wp2
         go_ret
         exact ⟨by first | rfl | (simp [errW_none, errW_some] <;> rfl) | (simp [*, errW_none, errW_some] <;> rfl), by repeat (first | (with_reducible first | exact HB.out | apply below_alloc | apply pw_below_drewN | apply below_drew1 | refine below_set ?_ GE385.out | refine below_set ?_ GE399.out) | exact HB.out)⟩
        ·replace c56 := Bool.eq_false_iff.mpr c56
         subst c56
         have H1 : ((laws_markPairS.f kj38 t400 1).bind fun bt413 => ((laws_heldPairS.f kj38 bt413.2 1).bind fun t415 => (if t415 < 0 then (some false) else (if t415 = bt413.1 then ((laws_toParty.f kj38 a0_0 l0_1).bind fun bt416 => ((impl_MostInPairs.f kj38 bt416.1 bt416.2).bind fun bt420 => ((laws_eqPairS.f kj38 bt420.1 t391).bind fun t424 => (if t424 = true then (laws_FnExactMostInPairs.j2 kj38 bt413.2 bt413.1 (bt420.2 != t394)) else (laws_FnExactMostInPairs.j2 kj38 bt413.2 bt413.1 true))))) else (some false))))) = some r := by rw [if_neg (show ¬ (false = true) by decide)] at H; exact H
         clear H
         have H := H1
         clear H1
         replace H := Option.bind_eq_some_iff.mp H
         obtain ⟨⟨t413, t414⟩, A570, H⟩ := H
         replace H : ((laws_heldPairS.f kj38 t414 1).bind fun t415 => (if t415 < 0 then (some false) else (if t415 = t413 then ((laws_toParty.f kj38 a0_0 l0_1).bind fun bt416 => ((impl_MostInPairs.f kj38 bt416.1 bt416.2).bind fun bt420 => ((laws_eqPairS.f kj38 bt420.1 t391).bind fun t424 => (if t424 = true then (laws_FnExactMostInPairs.j2 kj38 t414 t413 (bt420.2 != t394)) else (laws_FnExactMostInPairs.j2 kj38 t414 t413 true))))) else (some false)))) = some r := H
         have A57 := Aside0.mk A570
         clear A570
         replace H := Option.bind_eq_some_iff.mp H
         obtain ⟨t415, A580, H⟩ := H
         replace H : (if t415 < 0 then (some false) else (if t415 = t413 then ((laws_toParty.f kj38 a0_0 l0_1).bind fun bt416 => ((impl_MostInPairs.f kj38 bt416.1 bt416.2).bind fun bt420 => ((laws_eqPairS.f kj38 bt420.1 t391).bind fun t424 => (if t424 = true then (laws_FnExactMostInPairs.j2 kj38 t414 t413 (bt420.2 != t394)) else (laws_FnExactMostInPairs.j2 kj38 t414 t413 true))))) else (some false))) = some r := H
         have A58 := Aside0.mk A580
         clear A580
         by_cases c59 : t415 < 0
         ·rw [if_pos c59] at H
          have c59b0 : decide (t415 < 0) = true := decide_eq_true c59
          clear c59
          obtain rfl := Option.some.inj H
          obtain ⟨Ao60, co60, eo60⟩ := Kd.R_slice HO_7.out
          subst eo60
          go_wp2_with (first | ((with_reducible refine gate_callee (f := 24) rfl ?_); refine goesL_ (some 64) rfl rfl Tryd.func24 (by kernel_rfl) rfl #[.slice Ao60 t400.length co60, .int .i64 1] rfl (by (try simp only [List.map_toArray, List.map_cons, List.map_nil]); first | done | rfl | (simp only [List.length_drop, List.length_take]; rfl)) ?_; (with_reducible refine (laws_markPairS.calls kj38 (fun k_ => some k_ = (.slice Ao60 t400.length co60 : Value).ownBlock) (.slice Ao60 t400.length co60) t400 1 t413 t414 w _ ?side1 ?side2 A57.out).mono ?_); (case side1 => repeat (first | (with_reducible first | exact HB.out | apply below_alloc | apply pw_below_drewN | apply below_drew1 | refine below_set ?_ GE385.out | refine below_set ?_ GE399.out) | exact HB.out)); (case side2 => exact Kd.R_tight rfl HO_7.out); rintro e w61 ⟨rfl, hy0, hb, hkp⟩; refine ⟨_, rfl, ?_⟩; have n0_ := Aside0.mk (Kd.R_mono (ok' := fun k_ => some k_ ≠ (.slice Ao60 t400.length co60 : Value).ownBlock ∧ some k_ ≠ (.slice Ao24 t411.length co24 : Value).ownBlock) (Kd.R_keptB (HO_4.out) hkp (fun k_ hk_ hs_ => (hk_.1) hs_)) (fun k_ hk_ => ⟨hk_.1.1, hk_.1.2⟩)); have n1_ := Aside0.mk (Kd.R_reok rfl hy0 (fun k_ e_ => HO_7.out.1 k_ e_)); have n2_ := Aside0.mk (Kd.R_mono (ok' := fun k_ => some k_ ≠ (v392 : Value).ownBlock ∧ some k_ ≠ (.slice Ao60 t400.length co60 : Value).ownBlock) (Kd.R_keptB (HO_400001.out) hkp (fun k_ hk_ hs_ => (hk_.2) hs_)) (fun k_ hk_ => ⟨hk_.1.1, hk_.1.2⟩)); have n3_ := Aside0.mk (blk_kept (by (with_reducible repeat (first | refine blk_drewN ?_ _ | refine blk_drew ?_ | refine blk_alloc ?_ _)); exact BK385.out) hkp (fun hs_ => (fun e_ => (Kd.R_ne HO_7.out BK385.out (by decide)) e_) hs_)); have n4_ := Aside0.mk (blk_kept (by (with_reducible repeat (first | refine blk_drewN ?_ _ | refine blk_drew ?_ | refine blk_alloc ?_ _)); exact BK399.out) hkp (fun hs_ => (fun e_ => (Kd.R_ne HO_7.out BK399.out (by decide)) e_) hs_)); have n5_ := Aside0.mk (hb); clear HO_4; clear HO_7; clear HO_400001; clear BK385; clear BK399; clear HB; have HO_4 := n0_; have HO_7 := n1_; have HO_400001 := n2_; have BK385 := n3_; have BK399 := n4_; have HB := n5_; clear n0_ n1_ n2_ n3_ n4_ n5_; (try clear hb); (try clear hkp); (try clear hy0)) | ((with_reducible refine gate_callee (f := 25) rfl ?_); refine goesL_ (some 67) rfl rfl Tryd.func25 (by kernel_rfl) rfl #[.slice Ao60 t414.length co60, .int .i64 1] rfl (by (try simp only [List.map_toArray, List.map_cons, List.map_nil]); first | done | (rw [show t414.length = t400.length from (Kd.R_reads' HO_7.out).1.symm] <;> rfl) | rfl | (simp only [List.length_drop, List.length_take]; rfl)) ?_; (with_reducible refine (laws_heldPairS.calls kj38 _ _ t414 1 t415 _ ?side1 ?side2 A58.out).mono ?_); (case side1 => repeat (first | exact (Kd.R_reads' HO_7.out).2.2 | (with_reducible refine Kd.C_alloc ?_ _) | (with_reducible refine Kd.C_drewN ?_ _) | (with_reducible refine Kd.C_drew ?_))); (case side2 => rw [show t414.length = t400.length from (Kd.R_reads' HO_7.out).1.symm]; exact (Kd.R_reads' HO_7.out).2.1); rintro e w' ⟨rfl, ⟨nd, rfl⟩⟩; refine ⟨_, rfl, ?_⟩))
          go_ret
          exact ⟨by first | rfl | (simp [errW_none, errW_some] <;> rfl) | (simp [*, errW_none, errW_some] <;> rfl), by repeat (first | (with_reducible first | exact HB.out | apply below_alloc | apply pw_below_drewN | apply below_drew1 | refine below_set ?_ GE385.out | refine below_set ?_ GE399.out) | exact HB.out)⟩
         ·rw [if_neg c59] at H
          have c59b0 : decide (t415 < 0) = false := decide_eq_false c59
          clear c59
          by_cases c62 : t415 = t413
          ·rw [if_pos c62] at H
           have c62b0 : (t415 == t413) = true := beq_iff_eq.mpr c62
           have c62b1 : (t415 != t413) = false := bne_eq_false_iff_eq.mpr c62
           clear c62
           replace H := Option.bind_eq_some_iff.mp H
           obtain ⟨⟨t416, t417⟩, A630, H⟩ := H
           replace H : ((impl_MostInPairs.f kj38 t416 t417).bind fun bt420 => ((laws_eqPairS.f kj38 bt420.1 t391).bind fun t424 => (if t424 = true then (laws_FnExactMostInPairs.j2 kj38 t414 t413 (bt420.2 != t394)) else (laws_FnExactMostInPairs.j2 kj38 t414 t413 true)))) = some r := H
           have A63 := Aside0.mk A630
           clear A630
           replace H := Option.bind_eq_some_iff.mp H
           obtain ⟨⟨t420, t423⟩, A640, H⟩ := H
           replace H : ((laws_eqPairS.f kj38 t420 t391).bind fun t424 => (if t424 = true then (laws_FnExactMostInPairs.j2 kj38 t414 t413 (t423 != t394)) else (laws_FnExactMostInPairs.j2 kj38 t414 t413 true))) = some r := H
           have A64 := Aside0.mk A640
           clear A640
           have HC65 := Aside0.mk H
           clear H
           obtain ⟨Ao66, co66, eo66⟩ := Kd.R_slice HO_7.out
           subst eo66
           go_upto_region 25 with (first | ((with_reducible refine gate_callee (f := 24) rfl ?_); refine goesL_ (some 64) rfl rfl Tryd.func24 (by kernel_rfl) rfl #[.slice Ao66 t400.length co66, .int .i64 1] rfl (by (try simp only [List.map_toArray, List.map_cons, List.map_nil]); first | done | rfl | (simp only [List.length_drop, List.length_take]; rfl)) ?_; (with_reducible refine (laws_markPairS.calls kj38 (fun k_ => some k_ = (.slice Ao66 t400.length co66 : Value).ownBlock) (.slice Ao66 t400.length co66) t400 1 t413 t414 w _ ?side1 ?side2 A57.out).mono ?_); (case side1 => repeat (first | (with_reducible first | exact HB.out | apply below_alloc | apply pw_below_drewN | apply below_drew1 | refine below_set ?_ GE385.out | refine below_set ?_ GE399.out) | exact HB.out)); (case side2 => exact Kd.R_tight rfl HO_7.out); rintro e w67 ⟨rfl, hy0, hb, hkp⟩; refine ⟨_, rfl, ?_⟩; have n0_ := Aside0.mk (Kd.R_mono (ok' := fun k_ => some k_ ≠ (.slice Ao66 t400.length co66 : Value).ownBlock ∧ some k_ ≠ (.slice Ao24 t411.length co24 : Value).ownBlock) (Kd.R_keptB (HO_4.out) hkp (fun k_ hk_ hs_ => (hk_.1) hs_)) (fun k_ hk_ => ⟨hk_.1.1, hk_.1.2⟩)); have n1_ := Aside0.mk (Kd.R_reok rfl hy0 (fun k_ e_ => HO_7.out.1 k_ e_)); have n2_ := Aside0.mk (Kd.R_mono (ok' := fun k_ => some k_ ≠ (v392 : Value).ownBlock ∧ some k_ ≠ (.slice Ao66 t400.length co66 : Value).ownBlock) (Kd.R_keptB (HO_400001.out) hkp (fun k_ hk_ hs_ => (hk_.2) hs_)) (fun k_ hk_ => ⟨hk_.1.1, hk_.1.2⟩)); have n3_ := Aside0.mk (blk_kept (by (with_reducible repeat (first | refine blk_drewN ?_ _ | refine blk_drew ?_ | refine blk_alloc ?_ _)); exact BK385.out) hkp (fun hs_ => (fun e_ => (Kd.R_ne HO_7.out BK385.out (by decide)) e_) hs_)); have n4_ := Aside0.mk (blk_kept (by (with_reducible repeat (first | refine blk_drewN ?_ _ | refine blk_drew ?_ | refine blk_alloc ?_ _)); exact BK399.out) hkp (fun hs_ => (fun e_ => (Kd.R_ne HO_7.out BK399.out (by decide)) e_) hs_)); have n5_ := Aside0.mk (hb); clear HO_4; clear HO_7; clear HO_400001; clear BK385; clear BK399; clear HB; have HO_4 := n0_; have HO_7 := n1_; have HO_400001 := n2_; have BK385 := n3_; have BK399 := n4_; have HB := n5_; clear n0_ n1_ n2_ n3_ n4_ n5_; (try clear hb); (try clear hkp); (try clear hy0)) | ((with_reducible refine gate_callee (f := 25) rfl ?_); refine goesL_ (some 67) rfl rfl Tryd.func25 (by kernel_rfl) rfl #[.slice Ao66 t414.length co66, .int .i64 1] rfl (by (try simp only [List.map_toArray, List.map_cons, List.map_nil]); first | done | (rw [show t414.length = t400.length from (Kd.R_reads' HO_7.out).1.symm] <;> rfl) | rfl | (simp only [List.length_drop, List.length_take]; rfl)) ?_; (with_reducible refine (laws_heldPairS.calls kj38 _ _ t414 1 t415 _ ?side1 ?side2 A58.out).mono ?_); (case side1 => repeat (first | exact (Kd.R_reads' HO_7.out).2.2 | (with_reducible refine Kd.C_alloc ?_ _) | (with_reducible refine Kd.C_drewN ?_ _) | (with_reducible refine Kd.C_drew ?_))); (case side2 => rw [show t414.length = t400.length from (Kd.R_reads' HO_7.out).1.symm]; exact (Kd.R_reads' HO_7.out).2.1); rintro e w' ⟨rfl, ⟨nd, rfl⟩⟩; refine ⟨_, rfl, ?_⟩; have hnb68 := NB385_399.out; have hnc68 := NB399_385.out; have hcz69_0 : w67.cell? ⟨gb385, 0, none⟩ = some (.int .i64 a0_0) := (blk_cell BK385.out 0).trans rfl; have hcz69_1 : w67.cell? ⟨gb385, 1, none⟩ = some (.slice A0_1 l0_1.length c0_1) := (blk_cell BK385.out 1).trans rfl; have hfz69_0 := blk_frozen BK385.out 0; have hfz69_1 := blk_frozen BK385.out 1) | ((with_reducible refine gate_callee (f := 15) rfl ?_); refine goesL_ (some 75) rfl rfl Tryd.func15 (by kernel_rfl) rfl #[.agg #[.int .i64 a0_0, .slice A0_1 l0_1.length c0_1]] rfl (by (try simp only [List.map_toArray, List.map_cons, List.map_nil]); first | done | rfl | (simp only [List.length_drop, List.length_take]; rfl)) ?_; (with_reducible refine (laws_toParty.calls kj38 a0_0 _ _ l0_1 t416 t417 _ ?side1 ?side2 A63.out).mono ?_); (case side1 => repeat (first | exact (Kd.C_below HR0_1.out (by repeat (first | (with_reducible first | exact HB.out | apply below_alloc | apply pw_below_drewN | apply below_drew1 | refine below_set ?_ GE385.out | refine below_set ?_ GE399.out) | exact HB.out))) | (with_reducible refine Kd.C_alloc ?_ _) | (with_reducible refine Kd.C_drewN ?_ _) | (with_reducible refine Kd.C_drew ?_))); (case side2 => exact HC0_1.out); rintro e w70 ⟨v418, rfl, ho0, hb⟩; refine ⟨_, rfl, ?_⟩; have n0_ := Aside0.mk (Kd.R_elder' (by (with_reducible repeat (first | apply Kd.R_alloc | apply Kd.R_drewN | apply Kd.R_drew)); exact HO_4.out) (Kd.R_base ho0) hb); have n1_ := Aside0.mk (Kd.R_elder' (by (with_reducible repeat (first | apply Kd.R_alloc | apply Kd.R_drewN | apply Kd.R_drew)); exact HO_7.out) (Kd.R_base ho0) hb); have n2_ := Aside0.mk (Kd.R_elder' (by (with_reducible repeat (first | apply Kd.R_alloc | apply Kd.R_drewN | apply Kd.R_drew)); exact HO_400001.out) (Kd.R_base ho0) hb); have n3_ := Aside0.mk (Kd.R_lower (Kd.R_new' (Kd.R_new' (Kd.R_new' ho0 (Kd.R_lt (by (with_reducible repeat (first | apply Kd.R_alloc | apply Kd.R_drewN | apply Kd.R_drew)); exact HO_4.out))) (Kd.R_lt (by (with_reducible repeat (first | apply Kd.R_alloc | apply Kd.R_drewN | apply Kd.R_drew)); exact HO_7.out))) (Kd.R_lt (by (with_reducible repeat (first | apply Kd.R_alloc | apply Kd.R_drewN | apply Kd.R_drew)); exact HO_400001.out))) (below_size (by repeat (first | (with_reducible first | exact HB.out | apply below_alloc | apply pw_below_drewN | apply below_drew1 | refine below_set ?_ GE385.out | refine below_set ?_ GE399.out) | exact HB.out)))); have n4_ := Aside0.mk (blk_below (g := gb385) (o := .cells #[.int .i64 a0_0, .slice A0_1 l0_1.length c0_1] 24 (0, 0)) (by (with_reducible repeat (first | refine blk_drewN ?_ _ | refine blk_drew ?_ | refine blk_alloc ?_ _)); exact BK385.out) hb); have n5_ := Aside0.mk (blk_below (g := gb399) (o := .cells #[.int .i64 t395, .slice Ao24 t411.length co24] 30 (0, 0)) (by (with_reducible repeat (first | refine blk_drewN ?_ _ | refine blk_drew ?_ | refine blk_alloc ?_ _)); exact BK399.out) hb); have n6_ := Aside0.mk (below_step (by repeat (first | (with_reducible first | exact HB.out | apply below_alloc | apply pw_below_drewN | apply below_drew1 | refine below_set ?_ GE385.out | refine below_set ?_ GE399.out) | exact HB.out)) hb); clear HO_4; clear HO_7; clear HO_400001; clear BK385; clear BK399; clear HB; have HO_4 := n0_; have HO_7 := n1_; have HO_400001 := n2_; have HO419 := n3_; have BK385 := n4_; have BK399 := n5_; have HB := n6_; clear n0_ n1_ n2_ n3_ n4_ n5_ n6_; (try clear hb); (try clear hb2); (try clear hk); (try clear hi); (try clear ho0); obtain ⟨Ao71, co71, eo71⟩ := Kd.R_slice HO419.out; subst eo71) | ((with_reducible refine gate_callee (f := 27) rfl ?_); refine goesL_ (some 76) rfl rfl Tryd.func27 (by kernel_rfl) rfl #[.agg #[.int .i64 t416, .slice Ao71 t417.length co71]] rfl (by (try simp only [List.map_toArray, List.map_cons, List.map_nil]); first | done | rfl | (simp only [List.length_drop, List.length_take]; rfl)) ?_; (with_reducible refine (impl_MostInPairs.calls kj38 t416 _ _ t417 t420 t423 _ ?side1 ?side2 ?side3 A64.out).mono ?_); (case side1 => first | exact HG.out | exact Laid32.drewN HG.out _ | exact Laid32.drew HG.out | exact (Laid32.drewN HG.out _).drewN _ | exact Laid32.below HG.out (by repeat (first | (with_reducible first | exact HB.out | apply below_alloc | apply pw_below_drewN | apply below_drew1 | refine below_set ?_ GE385.out | refine below_set ?_ GE399.out) | exact HB.out))); (case side2 => repeat (first | exact (Kd.R_reads' HO419.out).2.2 | (with_reducible refine Kd.C_alloc ?_ _) | (with_reducible refine Kd.C_drewN ?_ _) | (with_reducible refine Kd.C_drew ?_))); (case side3 => exact (Kd.R_reads' HO419.out).2.1); rintro e w72 ⟨v421, rfl, ho0, hb⟩; refine ⟨_, rfl, ?_⟩; have n0_ := Aside0.mk (Kd.R_elder' (by (with_reducible repeat (first | apply Kd.R_alloc | apply Kd.R_drewN | apply Kd.R_drew)); exact HO_4.out) (Kd.R_base ho0) hb); have n1_ := Aside0.mk (Kd.R_elder' (by (with_reducible repeat (first | apply Kd.R_alloc | apply Kd.R_drewN | apply Kd.R_drew)); exact HO_7.out) (Kd.R_base ho0) hb); have n2_ := Aside0.mk (Kd.R_elder' (by (with_reducible repeat (first | apply Kd.R_alloc | apply Kd.R_drewN | apply Kd.R_drew)); exact HO_400001.out) (Kd.R_base ho0) hb); have n3_ := Aside0.mk (Kd.R_elder' (by (with_reducible repeat (first | apply Kd.R_alloc | apply Kd.R_drewN | apply Kd.R_drew)); exact HO419.out) (Kd.R_base ho0) hb); have n4_ := Aside0.mk (Kd.R_lower (Kd.R_new' (Kd.R_new' (Kd.R_new' (Kd.R_new' ho0 (Kd.R_lt (by (with_reducible repeat (first | apply Kd.R_alloc | apply Kd.R_drewN | apply Kd.R_drew)); exact HO_4.out))) (Kd.R_lt (by (with_reducible repeat (first | apply Kd.R_alloc | apply Kd.R_drewN | apply Kd.R_drew)); exact HO_7.out))) (Kd.R_lt (by (with_reducible repeat (first | apply Kd.R_alloc | apply Kd.R_drewN | apply Kd.R_drew)); exact HO_400001.out))) (Kd.R_lt (by (with_reducible repeat (first | apply Kd.R_alloc | apply Kd.R_drewN | apply Kd.R_drew)); exact HO419.out))) (below_size (by repeat (first | (with_reducible first | exact HB.out | apply below_alloc | apply pw_below_drewN | apply below_drew1 | refine below_set ?_ GE385.out | refine below_set ?_ GE399.out) | exact HB.out)))); have n5_ := Aside0.mk (blk_below (g := gb385) (o := .cells #[.int .i64 a0_0, .slice A0_1 l0_1.length c0_1] 24 (0, 0)) (by (with_reducible repeat (first | refine blk_drewN ?_ _ | refine blk_drew ?_ | refine blk_alloc ?_ _)); exact BK385.out) hb); have n6_ := Aside0.mk (blk_below (g := gb399) (o := .cells #[.int .i64 t395, .slice Ao24 t411.length co24] 30 (0, 0)) (by (with_reducible repeat (first | refine blk_drewN ?_ _ | refine blk_drew ?_ | refine blk_alloc ?_ _)); exact BK399.out) hb); have n7_ := Aside0.mk (below_step (by repeat (first | (with_reducible first | exact HB.out | apply below_alloc | apply pw_below_drewN | apply below_drew1 | refine below_set ?_ GE385.out | refine below_set ?_ GE399.out) | exact HB.out)) hb); clear HO_4; clear HO_7; clear HO_400001; clear HO419; clear BK385; clear BK399; clear HB; have HO_4 := n0_; have HO_7 := n1_; have HO_400001 := n2_; have HO419 := n3_; have HO422 := n4_; have BK385 := n5_; have BK399 := n6_; have HB := n7_; clear n0_ n1_ n2_ n3_ n4_ n5_ n6_ n7_; (try clear hb); (try clear hb2); (try clear hk); (try clear hi); (try clear ho0)))
           (try simp only [Act.put, List.setIfInBounds_toArray, List.set_cons_zero, List.set_cons_succ])
           go_cut [87] (fun v87 wc => ∃ (kq : Nat) (x87_64 : Bool), v87 = .bool x87_64 ∧ Aside0 (laws_FnExactMostInPairs.j2 kq t414 t413 x87_64 = some r) ∧ Aside0 (kq ≤ kj38) ∧ Aside0 (Kd.R k98 98 wc w.heap.size (fun k_ => some k_ ≠ ((.slice Ao24 t411.length co24) : Value).ownBlock) (.slice Ao66 t400.length co66) t414) ∧ Aside0 (Kd.R k98 98 wc w.heap.size (fun k_ => some k_ ≠ ((.slice Ao66 t400.length co66) : Value).ownBlock) (.slice Ao24 t411.length co24) t411) ∧ Aside0 (wc.heap[gb385]? = some (.cells #[.int .i64 a0_0, (.slice A0_1 l0_1.length c0_1)] 24 (0, 0))) ∧ Aside0 (wc.heap[gb399]? = some (.cells #[.int .i64 t395, (.slice Ao24 t411.length co24)] 30 (0, 0))) ∧ Aside0 (Below w.heap.size w wc))
           case first =>
            have H := HC65.out
            clear HC65
            replace H := Option.bind_eq_some_iff.mp H
            obtain ⟨t424, A730, H⟩ := H
            replace H : (if t424 = true then (laws_FnExactMostInPairs.j2 kj38 t414 t413 (t423 != t394)) else (laws_FnExactMostInPairs.j2 kj38 t414 t413 true)) = some r := H
            have A73 := Aside0.mk A730
            clear A730
            by_cases c74 : t424 = true
            ·subst c74
             have H1 : (laws_FnExactMostInPairs.j2 kj38 t414 t413 (t423 != t394)) = some r := by rw [if_pos rfl] at H; exact H
             clear H
             have H := H1
             clear H1
             have H' := Aside0.mk H
             clear H
             obtain ⟨Ao75, co75, eo75⟩ := Kd.R_slice HO422.out
             subst eo75
             obtain ⟨Ao76, co76, eo76⟩ := Kd.R_slice HO_4.out
             subst eo76
             go_wp2_with (first | ((with_reducible refine gate_callee (f := 22) rfl ?_); refine goesL_ (some 81) rfl rfl Tryd.func22 (by kernel_rfl) rfl #[.slice Ao75 t420.length co75, .slice Ao76 t391.length co76] rfl (by (try simp only [List.map_toArray, List.map_cons, List.map_nil]); first | done | rfl | (simp only [List.length_drop, List.length_take]; rfl)) ?_; (with_reducible refine (laws_eqPairS.calls kj38 _ _ t420 _ _ t391 true _ ?side1 ?side2 ?side3 ?side4 A73.out).mono ?_); (case side1 => repeat (first | exact (Kd.R_reads' HO422.out).2.2 | (with_reducible refine Kd.C_alloc ?_ _) | (with_reducible refine Kd.C_drewN ?_ _) | (with_reducible refine Kd.C_drew ?_))); (case side2 => exact (Kd.R_reads' HO422.out).2.1); (case side3 => repeat (first | exact (Kd.R_reads' HO_4.out).2.2 | (with_reducible refine Kd.C_alloc ?_ _) | (with_reducible refine Kd.C_drewN ?_ _) | (with_reducible refine Kd.C_drew ?_))); (case side4 => exact (Kd.R_reads' HO_4.out).2.1); rintro e w77 ⟨rfl, hb⟩; refine ⟨_, rfl, ?_⟩; have n0_ := Aside0.mk (Kd.R_below (by (with_reducible repeat (first | apply Kd.R_alloc | apply Kd.R_drewN | apply Kd.R_drew)); exact HO_4.out) hb); have n1_ := Aside0.mk (Kd.R_below (by (with_reducible repeat (first | apply Kd.R_alloc | apply Kd.R_drewN | apply Kd.R_drew)); exact HO_7.out) hb); have n2_ := Aside0.mk (Kd.R_below (by (with_reducible repeat (first | apply Kd.R_alloc | apply Kd.R_drewN | apply Kd.R_drew)); exact HO_400001.out) hb); have n3_ := Aside0.mk (Kd.R_below (by (with_reducible repeat (first | apply Kd.R_alloc | apply Kd.R_drewN | apply Kd.R_drew)); exact HO419.out) hb); have n4_ := Aside0.mk (Kd.R_below (by (with_reducible repeat (first | apply Kd.R_alloc | apply Kd.R_drewN | apply Kd.R_drew)); exact HO422.out) hb); have n5_ := Aside0.mk (blk_below (g := gb385) (o := .cells #[.int .i64 a0_0, .slice A0_1 l0_1.length c0_1] 24 (0, 0)) (by (with_reducible repeat (first | refine blk_drewN ?_ _ | refine blk_drew ?_ | refine blk_alloc ?_ _)); exact BK385.out) hb); have n6_ := Aside0.mk (blk_below (g := gb399) (o := .cells #[.int .i64 t395, .slice Ao24 t411.length co24] 30 (0, 0)) (by (with_reducible repeat (first | refine blk_drewN ?_ _ | refine blk_drew ?_ | refine blk_alloc ?_ _)); exact BK399.out) hb); have n7_ := Aside0.mk (below_step (by repeat (first | (with_reducible first | exact HB.out | apply below_alloc | apply pw_below_drewN | apply below_drew1 | refine below_set ?_ GE385.out | refine below_set ?_ GE399.out) | exact HB.out)) hb); clear HO_4; clear HO_7; clear HO_400001; clear HO419; clear HO422; clear BK385; clear BK399; clear HB; have HO_4 := n0_; have HO_7 := n1_; have HO_400001 := n2_; have HO419 := n3_; have HO422 := n4_; have BK385 := n5_; have BK399 := n6_; have HB := n7_; clear n0_ n1_ n2_ n3_ n4_ n5_ n6_ n7_; (try clear hb); (try clear hb2); (try clear hk); (try clear hi)))
             go_meet
             case rel => exact ⟨_, ((t423 != t394)), (by first | rfl | (simp; done) | (simp [*]; done)), H', ⟨by have := HJ10.out; have := HJ38.out; first | omega | exact Nat.le_refl _⟩, ⟨by (try simp only [hl400001_38]); (with_reducible repeat (first | apply Kd.R_alloc | apply Kd.R_drewN | apply Kd.R_drew)); exact Kd.R_mono HO_7.out (fun _ hk => hk.1.1.2)⟩, ⟨by (try simp only [hl400001_38]); (with_reducible repeat (first | apply Kd.R_alloc | apply Kd.R_drewN | apply Kd.R_drew)); exact Kd.R_mono HO_400001.out (fun _ hk => hk.1.1.2)⟩, ⟨by (try simp only [hl400001_38]); (with_reducible repeat (first | refine blk_drewN ?_ _ | refine blk_drew ?_ | refine blk_alloc ?_ _)); exact BK385.out⟩, ⟨by (try simp only [hl400001_38]); (with_reducible repeat (first | refine blk_drewN ?_ _ | refine blk_drew ?_ | refine blk_alloc ?_ _)); exact BK399.out⟩, ⟨by repeat (first | (with_reducible first | exact HB.out | apply below_alloc | apply pw_below_drewN | apply below_drew1 | refine below_set ?_ GE385.out | refine below_set ?_ GE399.out) | exact HB.out)⟩⟩
            ·replace c74 := Bool.eq_false_iff.mpr c74
             subst c74
             have H1 : (laws_FnExactMostInPairs.j2 kj38 t414 t413 true) = some r := by rw [if_neg (show ¬ (false = true) by decide)] at H; exact H
             clear H
             have H := H1
             clear H1
             have H' := Aside0.mk H
             clear H
             obtain ⟨Ao78, co78, eo78⟩ := Kd.R_slice HO422.out
             subst eo78
             obtain ⟨Ao79, co79, eo79⟩ := Kd.R_slice HO_4.out
             subst eo79
             go_wp2_with (first | ((with_reducible refine gate_callee (f := 22) rfl ?_); refine goesL_ (some 81) rfl rfl Tryd.func22 (by kernel_rfl) rfl #[.slice Ao78 t420.length co78, .slice Ao79 t391.length co79] rfl (by (try simp only [List.map_toArray, List.map_cons, List.map_nil]); first | done | rfl | (simp only [List.length_drop, List.length_take]; rfl)) ?_; (with_reducible refine (laws_eqPairS.calls kj38 _ _ t420 _ _ t391 false _ ?side1 ?side2 ?side3 ?side4 A73.out).mono ?_); (case side1 => repeat (first | exact (Kd.R_reads' HO422.out).2.2 | (with_reducible refine Kd.C_alloc ?_ _) | (with_reducible refine Kd.C_drewN ?_ _) | (with_reducible refine Kd.C_drew ?_))); (case side2 => exact (Kd.R_reads' HO422.out).2.1); (case side3 => repeat (first | exact (Kd.R_reads' HO_4.out).2.2 | (with_reducible refine Kd.C_alloc ?_ _) | (with_reducible refine Kd.C_drewN ?_ _) | (with_reducible refine Kd.C_drew ?_))); (case side4 => exact (Kd.R_reads' HO_4.out).2.1); rintro e w80 ⟨rfl, hb⟩; refine ⟨_, rfl, ?_⟩; have n0_ := Aside0.mk (Kd.R_below (by (with_reducible repeat (first | apply Kd.R_alloc | apply Kd.R_drewN | apply Kd.R_drew)); exact HO_4.out) hb); have n1_ := Aside0.mk (Kd.R_below (by (with_reducible repeat (first | apply Kd.R_alloc | apply Kd.R_drewN | apply Kd.R_drew)); exact HO_7.out) hb); have n2_ := Aside0.mk (Kd.R_below (by (with_reducible repeat (first | apply Kd.R_alloc | apply Kd.R_drewN | apply Kd.R_drew)); exact HO_400001.out) hb); have n3_ := Aside0.mk (Kd.R_below (by (with_reducible repeat (first | apply Kd.R_alloc | apply Kd.R_drewN | apply Kd.R_drew)); exact HO419.out) hb); have n4_ := Aside0.mk (Kd.R_below (by (with_reducible repeat (first | apply Kd.R_alloc | apply Kd.R_drewN | apply Kd.R_drew)); exact HO422.out) hb); have n5_ := Aside0.mk (blk_below (g := gb385) (o := .cells #[.int .i64 a0_0, .slice A0_1 l0_1.length c0_1] 24 (0, 0)) (by (with_reducible repeat (first | refine blk_drewN ?_ _ | refine blk_drew ?_ | refine blk_alloc ?_ _)); exact BK385.out) hb); have n6_ := Aside0.mk (blk_below (g := gb399) (o := .cells #[.int .i64 t395, .slice Ao24 t411.length co24] 30 (0, 0)) (by (with_reducible repeat (first | refine blk_drewN ?_ _ | refine blk_drew ?_ | refine blk_alloc ?_ _)); exact BK399.out) hb); have n7_ := Aside0.mk (below_step (by repeat (first | (with_reducible first | exact HB.out | apply below_alloc | apply pw_below_drewN | apply below_drew1 | refine below_set ?_ GE385.out | refine below_set ?_ GE399.out) | exact HB.out)) hb); clear HO_4; clear HO_7; clear HO_400001; clear HO419; clear HO422; clear BK385; clear BK399; clear HB; have HO_4 := n0_; have HO_7 := n1_; have HO_400001 := n2_; have HO419 := n3_; have HO422 := n4_; have BK385 := n5_; have BK399 := n6_; have HB := n7_; clear n0_ n1_ n2_ n3_ n4_ n5_ n6_ n7_; (try clear hb); (try clear hb2); (try clear hk); (try clear hi)))
             go_meet
             case rel => exact ⟨_, (true), (by first | rfl | (simp; done) | (simp [*]; done)), H', ⟨by have := HJ10.out; have := HJ38.out; first | omega | exact Nat.le_refl _⟩, ⟨by (try simp only [hl400001_38]); (with_reducible repeat (first | apply Kd.R_alloc | apply Kd.R_drewN | apply Kd.R_drew)); exact Kd.R_mono HO_7.out (fun _ hk => hk.1.1.2)⟩, ⟨by (try simp only [hl400001_38]); (with_reducible repeat (first | apply Kd.R_alloc | apply Kd.R_drewN | apply Kd.R_drew)); exact Kd.R_mono HO_400001.out (fun _ hk => hk.1.1.2)⟩, ⟨by (try simp only [hl400001_38]); (with_reducible repeat (first | refine blk_drewN ?_ _ | refine blk_drew ?_ | refine blk_alloc ?_ _)); exact BK385.out⟩, ⟨by (try simp only [hl400001_38]); (with_reducible repeat (first | refine blk_drewN ?_ _ | refine blk_drew ?_ | refine blk_alloc ?_ _)); exact BK399.out⟩, ⟨by repeat (first | (with_reducible first | exact HB.out | apply below_alloc | apply pw_below_drewN | apply below_drew1 | refine below_set ?_ GE385.out | refine below_set ?_ GE399.out) | exact HB.out)⟩⟩
           case rest =>
            clear HC65
            try clear c1
            try clear c2
            try clear p2
            try clear c3
            try clear c3b0
            try clear c4
            try clear c5
            try clear c6
            try clear c7
            try clear c13
            try clear c15
            try clear c17
            try clear c22
            try clear c23
            try clear c24
            try clear c25
            try clear c26
            try clear c27
            try clear c34
            try clear c37
            try clear c44
            try clear c47
            try clear c47b0
            try clear c49
            try clear c56
            try clear c59
            try clear c59b0
            try clear c62
            try clear c62b0
            try clear c62b1
            try clear c68
            try clear c74
            try clear hcz13_0
            try clear hcz13_1
            try clear hcz15_0
            try clear hcz15_1
            try clear hcz19_0
            try clear hcz19_1
            try clear hcz23_0
            try clear hcz23_1
            try clear hcz45_0
            try clear hcz45_1
            try clear hcz5_0
            try clear hcz5_1
            try clear hcz69_0
            try clear hcz69_1
            try clear hfz13_0
            try clear hfz13_1
            try clear hfz15_0
            try clear hfz15_1
            try clear hfz19_0
            try clear hfz19_1
            try clear hfz23_0
            try clear hfz23_1
            try clear hfz45_0
            try clear hfz45_1
            try clear hfz5_0
            try clear hfz5_1
            try clear hfz69_0
            try clear hfz69_1
            try clear p2
            obtain ⟨kq, x87_64, rfl, HA, HJ64, HO_7, HO_400001, BK385, BK399, HB⟩ := hcut
            have hl7_64 := (Kd.R_reads' HO_7.out).1
            rw [hl7_64] at HO_7
            (try simp only [hl7_64])
            (try simp only [hl7_64] at BK385)
            (try simp only [hl7_64] at BK399)
            (try simp only [hl7_64] at HO_400001)
            cases kq with
            | zero => exact absurd HA.out (by simp [laws_FnExactMostInPairs.j2])
            | succ kj64 =>
             have H := HA.out
             clear HA
             simp only [laws_FnExactMostInPairs.j2] at H
             by_cases c81 : x87_64 = true
             ·subst c81
              have H1 : (some false) = some r := by rw [if_pos rfl] at H; exact H
              clear H
              have H := H1
              clear H1
              obtain rfl := Option.some.inj H
              go_wp2
              go_ret
              exact ⟨by first | rfl | (simp [errW_none, errW_some] <;> rfl) | (simp [*, errW_none, errW_some] <;> rfl), by repeat (first | (with_reducible first | exact HB.out | apply below_alloc | apply pw_below_drewN | apply below_drew1 | refine below_set ?_ GE385.out | refine below_set ?_ GE399.out) | exact HB.out)⟩
             ·replace c81 := Bool.eq_false_iff.mpr c81
              subst c81
              have H1 : ((laws_heldPairS.f kj64 t414 1).bind fun t425 => (if t425 < 0 then (some false) else (if t425 = t413 then (some true) else (some false)))) = some r := by rw [if_neg (show ¬ (false = true) by decide)] at H; exact H
              clear H
              have H := H1
              clear H1
              replace H := Option.bind_eq_some_iff.mp H
              obtain ⟨t425, A820, H⟩ := H
              replace H : (if t425 < 0 then (some false) else (if t425 = t413 then (some true) else (some false))) = some r := H
              have A82 := Aside0.mk A820
              clear A820
              by_cases c83 : t425 < 0
              ·rw [if_pos c83] at H
               have c83b0 : decide (t425 < 0) = true := decide_eq_true c83
               clear c83
               obtain rfl := Option.some.inj H
               go_wp2_with (first | ((with_reducible refine gate_callee (f := 25) rfl ?_); refine goesL_ (some 90) rfl rfl Tryd.func25 (by kernel_rfl) rfl #[.slice Ao66 t414.length co66, .int .i64 1] rfl (by (try simp only [List.map_toArray, List.map_cons, List.map_nil]); first | done | rfl | (simp only [List.length_drop, List.length_take]; rfl)) ?_; (with_reducible refine (laws_heldPairS.calls kj64 _ _ t414 1 t425 _ ?side1 ?side2 A82.out).mono ?_); (case side1 => repeat (first | exact (Kd.R_reads' HO_7.out).2.2 | (with_reducible refine Kd.C_alloc ?_ _) | (with_reducible refine Kd.C_drewN ?_ _) | (with_reducible refine Kd.C_drew ?_))); (case side2 => exact (Kd.R_reads' HO_7.out).2.1); rintro e w' ⟨rfl, ⟨nd, rfl⟩⟩; refine ⟨_, rfl, ?_⟩))
               go_ret
               exact ⟨by first | rfl | (simp [errW_none, errW_some] <;> rfl) | (simp [*, errW_none, errW_some] <;> rfl), by repeat (first | (with_reducible first | exact HB.out | apply below_alloc | apply pw_below_drewN | apply below_drew1 | refine below_set ?_ GE385.out | refine below_set ?_ GE399.out) | exact HB.out)⟩
              ·rw [if_neg c83] at H
               have c83b0 : decide (t425 < 0) = false := decide_eq_false c83
               clear c83
               by_cases c84 : t425 = t413
               ·rw [if_pos c84] at H
                have c84b0 : (t425 == t413) = true := beq_iff_eq.mpr c84
                have c84b1 : (t425 != t413) = false := bne_eq_false_iff_eq.mpr c84
                clear c84
                obtain rfl := Option.some.inj H
                go_wp2_with (first | ((with_reducible refine gate_callee (f := 25) rfl ?_); refine goesL_ (some 90) rfl rfl Tryd.func25 (by kernel_rfl) rfl #[.slice Ao66 t414.length co66, .int .i64 1] rfl (by (try simp only [List.map_toArray, List.map_cons, List.map_nil]); first | done | rfl | (simp only [List.length_drop, List.length_take]; rfl)) ?_; (with_reducible refine (laws_heldPairS.calls kj64 _ _ t414 1 t425 _ ?side1 ?side2 A82.out).mono ?_); (case side1 => repeat (first | exact (Kd.R_reads' HO_7.out).2.2 | (with_reducible refine Kd.C_alloc ?_ _) | (with_reducible refine Kd.C_drewN ?_ _) | (with_reducible refine Kd.C_drew ?_))); (case side2 => exact (Kd.R_reads' HO_7.out).2.1); rintro e w' ⟨rfl, ⟨nd, rfl⟩⟩; refine ⟨_, rfl, ?_⟩))
                go_ret
                exact ⟨by first | rfl | (simp [errW_none, errW_some] <;> rfl) | (simp [*, errW_none, errW_some] <;> rfl), by repeat (first | (with_reducible first | exact HB.out | apply below_alloc | apply pw_below_drewN | apply below_drew1 | refine below_set ?_ GE385.out | refine below_set ?_ GE399.out) | exact HB.out)⟩
               ·rw [if_neg c84] at H
                have c84b0 : (t425 == t413) = false := beq_eq_false_iff_ne.mpr c84
                have c84b1 : (t425 != t413) = true := bne_iff_ne.mpr c84
                obtain rfl := Option.some.inj H
                go_wp2_with (first | ((with_reducible refine gate_callee (f := 25) rfl ?_); refine goesL_ (some 90) rfl rfl Tryd.func25 (by kernel_rfl) rfl #[.slice Ao66 t414.length co66, .int .i64 1] rfl (by (try simp only [List.map_toArray, List.map_cons, List.map_nil]); first | done | rfl | (simp only [List.length_drop, List.length_take]; rfl)) ?_; (with_reducible refine (laws_heldPairS.calls kj64 _ _ t414 1 t425 _ ?side1 ?side2 A82.out).mono ?_); (case side1 => repeat (first | exact (Kd.R_reads' HO_7.out).2.2 | (with_reducible refine Kd.C_alloc ?_ _) | (with_reducible refine Kd.C_drewN ?_ _) | (with_reducible refine Kd.C_drew ?_))); (case side2 => exact (Kd.R_reads' HO_7.out).2.1); rintro e w' ⟨rfl, ⟨nd, rfl⟩⟩; refine ⟨_, rfl, ?_⟩))
                go_ret
                exact ⟨by first | rfl | (simp [errW_none, errW_some] <;> rfl) | (simp [*, errW_none, errW_some] <;> rfl), by repeat (first | (with_reducible first | exact HB.out | apply below_alloc | apply pw_below_drewN | apply below_drew1 | refine below_set ?_ GE385.out | refine below_set ?_ GE399.out) | exact HB.out)⟩
          ·rw [if_neg c62] at H
           have c62b0 : (t415 == t413) = false := beq_eq_false_iff_ne.mpr c62
           have c62b1 : (t415 != t413) = true := bne_iff_ne.mpr c62
           obtain rfl := Option.some.inj H
           obtain ⟨Ao85, co85, eo85⟩ := Kd.R_slice HO_7.out
           subst eo85
           go_wp2_with (first | ((with_reducible refine gate_callee (f := 24) rfl ?_); refine goesL_ (some 64) rfl rfl Tryd.func24 (by kernel_rfl) rfl #[.slice Ao85 t400.length co85, .int .i64 1] rfl (by (try simp only [List.map_toArray, List.map_cons, List.map_nil]); first | done | rfl | (simp only [List.length_drop, List.length_take]; rfl)) ?_; (with_reducible refine (laws_markPairS.calls kj38 (fun k_ => some k_ = (.slice Ao85 t400.length co85 : Value).ownBlock) (.slice Ao85 t400.length co85) t400 1 t413 t414 w _ ?side1 ?side2 A57.out).mono ?_); (case side1 => repeat (first | (with_reducible first | exact HB.out | apply below_alloc | apply pw_below_drewN | apply below_drew1 | refine below_set ?_ GE385.out | refine below_set ?_ GE399.out) | exact HB.out)); (case side2 => exact Kd.R_tight rfl HO_7.out); rintro e w86 ⟨rfl, hy0, hb, hkp⟩; refine ⟨_, rfl, ?_⟩; have n0_ := Aside0.mk (Kd.R_mono (ok' := fun k_ => some k_ ≠ (.slice Ao85 t400.length co85 : Value).ownBlock ∧ some k_ ≠ (.slice Ao24 t411.length co24 : Value).ownBlock) (Kd.R_keptB (HO_4.out) hkp (fun k_ hk_ hs_ => (hk_.1) hs_)) (fun k_ hk_ => ⟨hk_.1.1, hk_.1.2⟩)); have n1_ := Aside0.mk (Kd.R_reok rfl hy0 (fun k_ e_ => HO_7.out.1 k_ e_)); have n2_ := Aside0.mk (Kd.R_mono (ok' := fun k_ => some k_ ≠ (v392 : Value).ownBlock ∧ some k_ ≠ (.slice Ao85 t400.length co85 : Value).ownBlock) (Kd.R_keptB (HO_400001.out) hkp (fun k_ hk_ hs_ => (hk_.2) hs_)) (fun k_ hk_ => ⟨hk_.1.1, hk_.1.2⟩)); have n3_ := Aside0.mk (blk_kept (by (with_reducible repeat (first | refine blk_drewN ?_ _ | refine blk_drew ?_ | refine blk_alloc ?_ _)); exact BK385.out) hkp (fun hs_ => (fun e_ => (Kd.R_ne HO_7.out BK385.out (by decide)) e_) hs_)); have n4_ := Aside0.mk (blk_kept (by (with_reducible repeat (first | refine blk_drewN ?_ _ | refine blk_drew ?_ | refine blk_alloc ?_ _)); exact BK399.out) hkp (fun hs_ => (fun e_ => (Kd.R_ne HO_7.out BK399.out (by decide)) e_) hs_)); have n5_ := Aside0.mk (hb); clear HO_4; clear HO_7; clear HO_400001; clear BK385; clear BK399; clear HB; have HO_4 := n0_; have HO_7 := n1_; have HO_400001 := n2_; have BK385 := n3_; have BK399 := n4_; have HB := n5_; clear n0_ n1_ n2_ n3_ n4_ n5_; (try clear hb); (try clear hkp); (try clear hy0)) | ((with_reducible refine gate_callee (f := 25) rfl ?_); refine goesL_ (some 67) rfl rfl Tryd.func25 (by kernel_rfl) rfl #[.slice Ao85 t414.length co85, .int .i64 1] rfl (by (try simp only [List.map_toArray, List.map_cons, List.map_nil]); first | done | (rw [show t414.length = t400.length from (Kd.R_reads' HO_7.out).1.symm] <;> rfl) | rfl | (simp only [List.length_drop, List.length_take]; rfl)) ?_; (with_reducible refine (laws_heldPairS.calls kj38 _ _ t414 1 t415 _ ?side1 ?side2 A58.out).mono ?_); (case side1 => repeat (first | exact (Kd.R_reads' HO_7.out).2.2 | (with_reducible refine Kd.C_alloc ?_ _) | (with_reducible refine Kd.C_drewN ?_ _) | (with_reducible refine Kd.C_drew ?_))); (case side2 => rw [show t414.length = t400.length from (Kd.R_reads' HO_7.out).1.symm]; exact (Kd.R_reads' HO_7.out).2.1); rintro e w' ⟨rfl, ⟨nd, rfl⟩⟩; refine ⟨_, rfl, ?_⟩))
           go_ret
           exact ⟨by first | rfl | (simp [errW_none, errW_some] <;> rfl) | (simp [*, errW_none, errW_some] <;> rfl), by repeat (first | (with_reducible first | exact HB.out | apply below_alloc | apply pw_below_drewN | apply below_drew1 | refine below_set ?_ GE385.out | refine below_set ?_ GE399.out) | exact HB.out)⟩
     ·replace c37 := Bool.eq_false_iff.mpr c37
      subst c37
      have H1 : (some false) = some r := by rw [if_neg (show ¬ (false = true) by decide)] at H; exact H
      clear H
      have H := H1
      clear H1
      obtain rfl := Option.some.inj H
      try go_wp2
      have n0_ := Aside0.mk (Kd.R_drew HO_4.out)
      have n1_ := Aside0.mk (Kd.R_drew HO_7.out)
      have n2_ := Aside0.mk (Kd.R_drew HO_400001.out)
      have n3_ := Aside0.mk (blk_drew BK385.out)
      have n4_ := Aside0.mk (blk_drew BK399.out)
      have n5_ := Aside0.mk (below_drew1 HB.out)
      clear HO_4
      clear HO_7
      clear HO_400001
      clear BK385
      clear BK399
      clear HB
      have HO_4 := n0_
      have HO_7 := n1_
      have HO_400001 := n2_
      have BK385 := n3_
      have BK399 := n4_
      have HB := n5_
      clear n0_ n1_ n2_ n3_ n4_ n5_
      refine start_ (n := 5) (S := fun w' => w'.cell? ⟨gb399, 0, none⟩ = some (.int .i64 t395) ∧ w'.cell? ⟨gb399, 1, none⟩ = some (.slice Ao24 t396.length co24) ∧ w'.cell? ⟨gb385, 0, none⟩ = some (.int .i64 a0_0) ∧ w'.cell? ⟨gb385, 1, none⟩ = some (.slice A0_1 l0_1.length c0_1)) (ds := []) #[false, false, false, false, false] (by kernel_rfl) rfl rfl ⟨(blk_cell BK399.out 0).trans rfl, (blk_cell BK399.out 1).trans rfl, (blk_cell BK385.out 0).trans rfl, (blk_cell BK385.out 1).trans rfl⟩ (fun hHeld => ?_)
      generalize wc.drew = w87 at HO_4 HO_7 HO_400001 BK385 BK399 HB hHeld ⊢
      refine take_ (i := 0) (N := some 41) (v := ?_) (a' := ?_) #[true, false, false, false, false] rfl rfl (by kernel_rfl) (fun _ _ _ h => h) (Or.inl ⟨by rfl, ?_⟩) hHeld ?_ ?_
      rotate_left
      ·rintro w' ⟨s0, s1, s2, s3⟩
       go_simp
       with_reducible rfl
      rotate_left
      ·simp only [Act.put, List.setIfInBounds_toArray, List.set_cons_zero, List.set_cons_succ, i64_w, i32_w]
       rfl
      refine take_ (i := 1) (N := some 42) (v := ?_) (a' := ?_) #[true, true, false, false, false] rfl rfl (by kernel_rfl) (fun _ _ _ h => h) (Or.inl ⟨by rfl, ?_⟩) hHeld ?_ ?_
      rotate_left
      ·rintro w' ⟨s0, s1, s2, s3⟩
       go_simp
       with_reducible rfl
      rotate_left
      ·simp only [Act.put, List.setIfInBounds_toArray, List.set_cons_zero, List.set_cons_succ, i64_w, i32_w]
       rfl
      refine one_ (i := 2) (N := some 43) #[true, true, true, false, false] rfl rfl (by kernel_rfl) (by decide) (fun K hK => ?_)
      refine goes_ Tryd.func15 (by kernel_rfl) rfl #[.agg #[.int .i64 a0_0, .slice A0_1 l0_1.length c0_1]] (by rfl) rfl rfl (by (try simp only [List.map_toArray, List.map_cons, List.map_nil]); first | done | rfl | (simp only [List.length_drop, List.length_take]; rfl)) ?_
      with_reducible refine (laws_toParty.calls kj10 a0_0 _ _ l0_1 t405 t406 _ ?side1 ?side2 A35.out).mono ?_
      (case side1 => repeat (first | exact (Kd.C_below HR0_1.out HB.out) | (with_reducible refine Kd.C_alloc ?_ _) | (with_reducible refine Kd.C_drewN ?_ _) | (with_reducible refine Kd.C_drew ?_)))
      (case side2 => exact HC0_1.out)
      rintro e w88 ⟨v407, rfl, ho0, hb⟩
      refine ⟨_, rfl, ?_⟩
      have n0_ := Aside0.mk (Kd.R_elder' (by (with_reducible repeat (first | apply Kd.R_alloc | apply Kd.R_drewN | apply Kd.R_drew)); exact HO_4.out) (Kd.R_base ho0) hb)
      have n1_ := Aside0.mk (Kd.R_elder' (by (with_reducible repeat (first | apply Kd.R_alloc | apply Kd.R_drewN | apply Kd.R_drew)); exact HO_7.out) (Kd.R_base ho0) hb)
      have n2_ := Aside0.mk (Kd.R_elder' (by (with_reducible repeat (first | apply Kd.R_alloc | apply Kd.R_drewN | apply Kd.R_drew)); exact HO_400001.out) (Kd.R_base ho0) hb)
      have n3_ := Aside0.mk (Kd.R_lower (Kd.R_new' (Kd.R_new' (Kd.R_new' ho0 (Kd.R_lt (by (with_reducible repeat (first | apply Kd.R_alloc | apply Kd.R_drewN | apply Kd.R_drew)); exact HO_4.out))) (Kd.R_lt (by (with_reducible repeat (first | apply Kd.R_alloc | apply Kd.R_drewN | apply Kd.R_drew)); exact HO_7.out))) (Kd.R_lt (by (with_reducible repeat (first | apply Kd.R_alloc | apply Kd.R_drewN | apply Kd.R_drew)); exact HO_400001.out))) (below_size (by repeat (first | (with_reducible first | exact HB.out | apply below_alloc | apply pw_below_drewN | apply below_drew1 | refine below_set ?_ GE385.out | refine below_set ?_ GE399.out) | exact HB.out))))
      have n4_ := Aside0.mk (blk_below (g := gb385) (o := .cells #[.int .i64 a0_0, .slice A0_1 l0_1.length c0_1] 24 (0, 0)) (by (with_reducible repeat (first | refine blk_drewN ?_ _ | refine blk_drew ?_ | refine blk_alloc ?_ _)); exact BK385.out) hb)
      have n5_ := Aside0.mk (blk_below (g := gb399) (o := .cells #[.int .i64 t395, .slice Ao24 t396.length co24] 30 (0, 0)) (by (with_reducible repeat (first | refine blk_drewN ?_ _ | refine blk_drew ?_ | refine blk_alloc ?_ _)); exact BK399.out) hb)
      have n6_ := Aside0.mk (below_step (by repeat (first | (with_reducible first | exact HB.out | apply below_alloc | apply pw_below_drewN | apply below_drew1 | refine below_set ?_ GE385.out | refine below_set ?_ GE399.out) | exact HB.out)) hb)
      clear HO_4
      clear HO_7
      clear HO_400001
      clear BK385
      clear BK399
      clear HB
      have HO_4 := n0_
      have HO_7 := n1_
      have HO_400001 := n2_
      have HO408 := n3_
      have BK385 := n4_
      have BK399 := n5_
      have HB := n6_
      clear n0_ n1_ n2_ n3_ n4_ n5_ n6_
      (try clear hb)
      (try clear hb2)
      (try clear hk)
      (try clear hi)
      (try clear ho0)
      obtain ⟨Ao89, co89, eo89⟩ := Kd.R_slice HO408.out
      (first | subst eo89 | (injection eo89 with f1_ f2_ f3_; have f4_ := f1_.symm; have f5_ := f3_.symm; clear f1_ f2_ f3_; subst f4_; subst f5_))
      refine hK.out _ _ ⟨(blk_cell BK399.out 0).trans rfl, (blk_cell BK399.out 1).trans rfl, (blk_cell BK385.out 0).trans rfl, (blk_cell BK385.out 1).trans rfl⟩ (fun hHeld => ?_)
      clear hK K
      refine norm_ (a' := ?_) ?_ ?_
      rotate_left
      ·show Act.put _ (some 43) _ = _
       simp only [Act.put, List.setIfInBounds_toArray, List.set_cons_zero, List.set_cons_succ, i64_w, i32_w]
       rfl
      refine one_ (i := 3) (N := some 44) #[true, true, true, true, false] rfl rfl (by kernel_rfl) (by decide) (fun K hK => ?_)
      refine goes_ Tryd.func17 (by kernel_rfl) rfl #[.agg #[.int .i64 t395, .slice Ao24 t396.length co24], .agg #[.int .i64 t405, .slice Ao89 t406.length co89]] (by rfl) rfl rfl (by (try simp only [List.map_toArray, List.map_cons, List.map_nil]); first | done | rfl | (simp only [List.length_drop, List.length_take]; rfl)) ?_
      with_reducible refine (laws_eqParty.calls kj10 t395 _ _ t396 t405 _ _ t406 false _ ?side1 ?side2 ?side3 ?side4 A36.out).mono ?_
      (case side1 => repeat (first | exact (Kd.R_reads' HO_400001.out).2.2 | (with_reducible refine Kd.C_alloc ?_ _) | (with_reducible refine Kd.C_drewN ?_ _) | (with_reducible refine Kd.C_drew ?_)))
      (case side2 => exact (Kd.R_reads' HO_400001.out).2.1)
      (case side3 => repeat (first | exact (Kd.R_reads' HO408.out).2.2 | (with_reducible refine Kd.C_alloc ?_ _) | (with_reducible refine Kd.C_drewN ?_ _) | (with_reducible refine Kd.C_drew ?_)))
      (case side4 => exact (Kd.R_reads' HO408.out).2.1)
      rintro e w90 ⟨rfl, hb⟩
      refine ⟨_, rfl, ?_⟩
      have n0_ := Aside0.mk (Kd.R_below (by (with_reducible repeat (first | apply Kd.R_alloc | apply Kd.R_drewN | apply Kd.R_drew)); exact HO_4.out) hb)
      have n1_ := Aside0.mk (Kd.R_below (by (with_reducible repeat (first | apply Kd.R_alloc | apply Kd.R_drewN | apply Kd.R_drew)); exact HO_7.out) hb)
      have n2_ := Aside0.mk (Kd.R_below (by (with_reducible repeat (first | apply Kd.R_alloc | apply Kd.R_drewN | apply Kd.R_drew)); exact HO_400001.out) hb)
      have n3_ := Aside0.mk (Kd.R_below (by (with_reducible repeat (first | apply Kd.R_alloc | apply Kd.R_drewN | apply Kd.R_drew)); exact HO408.out) hb)
      have n4_ := Aside0.mk (blk_below (g := gb385) (o := .cells #[.int .i64 a0_0, .slice A0_1 l0_1.length c0_1] 24 (0, 0)) (by (with_reducible repeat (first | refine blk_drewN ?_ _ | refine blk_drew ?_ | refine blk_alloc ?_ _)); exact BK385.out) hb)
      have n5_ := Aside0.mk (blk_below (g := gb399) (o := .cells #[.int .i64 t395, .slice Ao24 t396.length co24] 30 (0, 0)) (by (with_reducible repeat (first | refine blk_drewN ?_ _ | refine blk_drew ?_ | refine blk_alloc ?_ _)); exact BK399.out) hb)
      have n6_ := Aside0.mk (below_step (by repeat (first | (with_reducible first | exact HB.out | apply below_alloc | apply pw_below_drewN | apply below_drew1 | refine below_set ?_ GE385.out | refine below_set ?_ GE399.out) | exact HB.out)) hb)
      clear HO_4
      clear HO_7
      clear HO_400001
      clear HO408
      clear BK385
      clear BK399
      clear HB
      have HO_4 := n0_
      have HO_7 := n1_
      have HO_400001 := n2_
      have HO408 := n3_
      have BK385 := n4_
      have BK399 := n5_
      have HB := n6_
      clear n0_ n1_ n2_ n3_ n4_ n5_ n6_
      (try clear hb)
      (try clear hb2)
      (try clear hk)
      (try clear hi)
      refine hK.out _ _ ⟨(blk_cell BK399.out 0).trans rfl, (blk_cell BK399.out 1).trans rfl, (blk_cell BK385.out 0).trans rfl, (blk_cell BK385.out 1).trans rfl⟩ (fun hHeld => ?_)
      clear hK K
      refine norm_ (a' := ?_) ?_ ?_
      rotate_left
      ·show Act.put _ (some 44) _ = _
       simp only [Act.put, List.setIfInBounds_toArray, List.set_cons_zero, List.set_cons_succ, i64_w, i32_w]
       rfl
      refine pure_ (i := 4) (N := some 45) (v := ?_) (a' := ?_) #[true, true, true, true, true] rfl rfl (by kernel_rfl) (fun _ _ _ h => h) (Or.inl ⟨by rfl, ?_⟩) ?_ ?_
      rotate_left
      ·intro w'
       go_simp
       with_reducible rfl
      rotate_left
      ·simp only [Act.put, List.setIfInBounds_toArray, List.set_cons_zero, List.set_cons_succ, i64_w, i32_w]
       rfl
      refine done_ (by kernel_rfl) ?_
      try go_wp2
      go_ret
      exact ⟨by first | rfl | (simp [errW_none, errW_some] <;> rfl) | (simp [*, errW_none, errW_some] <;> rfl), by repeat (first | (with_reducible first | exact HB.out | apply below_alloc | apply pw_below_drewN | apply below_drew1 | refine below_set ?_ GE385.out | refine below_set ?_ GE399.out) | exact HB.out)⟩
end Go.Proofs.YtopahhcojncgaaaDoor.G
