/- Part 6 of the proof: texts merged. Conditions: those that each theorem states. -/
import Derived.Test.YtopahhcojncgaaaDoorZ6p5
import Derived.Test.YtopahhcojncgaaaDoorZ6p2
import Derived.Test.YtopahhcojncgaaaDoorZ6p4
import Derived.Test.YtopahhcojncgaaaDoorZ6p3
section
section
set_option linter.unusedVariables false
set_option linter.unusedSimpArgs false
namespace Go.Proofs.YtopahhcojncgaaaDoorW.PrintWords
open Go.RowKit
section
variable {P : Program} {ops : Array Oper} {o : Oper} {a : Act} {Q : Exit → Act → World → Prop} {Kc : Act → World → Prop}
namespace Kd
variable {α : Type}
theorem R_make_step (d : Kd α) {w0 W : World} (base e : Nat) (hw : Region.wanted o (yielded ops a.tmps) = true) {N : Tmp} (hd : o.dst = some N) (t : TypeId) (x y : Operand) (ho : o.op = .makeSlice t x y) (n : Int) (hx : a.eval x = .int .i64 n) (hy : a.eval y = .int .i64 n)
    (ht : P.underlying t = some (.slice e)) (z : Value) (bytes : Nat) (hinfo : (P.info? e).map (fun i => (i.zero, i.size, i.bytes)) = some (some z, d.sz, bytes)) (hz : z.cells.size = d.sz) (hs0 : 0 < d.sz) (hb0 : 0 < bytes)
    (z0 : α) {ok okp : Nat → Prop} (hzero : d.M W base okp z0 z.cells.toList) (hok : ∀ k, okp k → ok k) (hfresh : ok W.heap.size) (h0 : 0 ≤ n) (hl : n.toNat * bytes ≤ 281474976710656) (HB : Below base w0 W) (hbase : base ≤ W.heap.size)
    (h : ∀ v1 w1, d.R e w1 base ok v1 (List.replicate n.toNat z0) → Below base w0 w1 → W.grownBy w1 none → (∃ b, v1.ownBlock = some b ∧ W.heap.size ≤ b) → Kc (a.put o.dst v1) w1) : if Region.wanted o (yielded ops a.tmps) = true then Oper.wp P o a W Kc Q else Kc (a.put o.dst undef) W := by
  obtain ⟨m, rfl⟩ := Int.eq_ofNat_of_zero_le h0
  simp only [Int.toNat_natCast] at hl h
  obtain ⟨i0, hi, hzz⟩ := Option.map_eq_some_iff.1 hinfo
  simp only [Prod.mk.injEq] at hzz
  obtain ⟨hz0, hz1, hz2⟩ := hzz
  have hm : m ≤ 281474976710656 := Nat.le_trans (Nat.le_mul_of_pos_right _ hb0) hl
  have hr := run_make (P := P) W t e i0 z ht hi hz0 .i64 .i64 (m : Int) (m : Int) (by omega) (by omega)
    (by
      have h3 : ((i0.bytes * m : Nat) : Int) ≤ 281474976710656 := by rw [hz2, Nat.mul_comm]; omega
      rwa [Int.natCast_mul] at h3) (by omega)
  simp only [Int.toNat_natCast] at hr
  rw [hz1] at hr
  refine R_lit_step d base e hw hd (xs := List.replicate m z0) (inner := (madeCells z.cells (m * d.sz)).toList) (okp := okp) (ok := ok) ?_ (reps_made hz hs0 hzero m) hok hfresh HB hbase (by simp; omega) h
  simp [execOp, ho, hx, hy, hr]
end Kd
end
end Go.Proofs.YtopahhcojncgaaaDoorW.PrintWords
end
end
section
section
set_option linter.unusedVariables false
set_option linter.unusedSimpArgs false
namespace Go.Proofs.YtopahhcojncgaaaDoorW.PrintWords
open Go.RowKit
theorem blk_ne {w : World} {g g' : Nat} {t t' : TypeId} {cs cs' : Array Value} (h : w.heap[g]? = some (.cells cs t (0, 0))) (h' : w.heap[g']? = some (.cells cs' t' (0, 0))) (hne : t ≠ t') : g ≠ g' := by
  rintro rfl
  rw [h] at h'
  injection h' with h'
  injection h' with _ ht
  exact hne ht
end Go.Proofs.YtopahhcojncgaaaDoorW.PrintWords
end
end
section
namespace Go.Proofs.YtopahhcojncgaaaDoorW.PrintLast
section
variable {P : Program} {ops : Array Oper} {Q : Exit → Act → World → Prop} {md : Region.Mode} {S : World → Prop} {ds : List Nat}
theorem two_ {i j : Nat} {Ni Nj : Option Tmp} {oi oj : Oper} {fuel : Nat} {l : Array Bool} {a : Act} {w : World} (li lj : Array Bool) (hi : ops[i]? = some oi) (hj : ops[j]? = some oj) (hNi : oi.dst = Ni) (hNj : oj.dst = Nj)
  (hc : (Region.ready md ops l == [i, j] && l.setIfInBounds i true == li && l.setIfInBounds j true == lj) = true) (hdi : i ∉ ds) (hdj : j ∉ ds)
  (h1 : ∀ K : Act → World → Prop, Shut (∀ a' w', S w' → (S w' → wpAnyLast P md ops Q S ds fuel li a' w') → K a' w') → if Region.wanted oi (yielded ops a.tmps) = true then Oper.wp P oi a w K Q else K (a.put Ni undef) w)
  (h2 : ∀ K : Act → World → Prop, Shut (∀ a' w', S w' → (S w' → wpAnyLast P md ops Q S ds fuel lj a' w') → K a' w') → if Region.wanted oj (yielded ops a.tmps) = true then Oper.wp P oj a w K Q else K (a.put Nj undef) w) :
  wpAnyLast P md ops Q S ds (fuel + 1) l a w := by
 subst hNi
 subst hNj
 simp only [Bool.and_eq_true, beq_iff_eq] at hc
 obtain ⟨⟨h3, h4⟩, h5⟩ := hc
 subst h4
 subst h5
 exact wpAnyLast_ready h3 (by simp) (AllReadyL.cons hi hdi (fun K hK => h1 K hK) (AllReadyL.cons hj hdj (fun K hK => h2 K hK) AllReadyL.nil))
end
end Go.Proofs.YtopahhcojncgaaaDoorW.PrintLast
end
section
namespace Go.Proofs.YtopahhcojncgaaaDoorW.PrintLast
section
variable {P : Program} {ops : Array Oper} {Q : Exit → Act → World → Prop} {md : Region.Mode} {S : World → Prop} {ds : List Nat}
theorem join_ {σ : Type} {fuel : Nat} {l : Array Bool} {a : Act} {w : World} (fuel' : Nat) (l' : Array Bool) (ns : σ → List (Tmp × Value)) (F : σ → World → Prop)
  (hcont : ∀ s w', F s w' → wpAnyLast P md ops Q S ds fuel' l' (putAll a (ns s)) w')
  (h : (∀ s w', F s w' → wpAnyLast P md ops Q S ds fuel' l' (putAll a (ns s)) w') → wpAnyLast P md ops Q S ds fuel l a w) : wpAnyLast P md ops Q S ds fuel l a w := h hcont
end
end Go.Proofs.YtopahhcojncgaaaDoorW.PrintLast
end
namespace Go.Proofs.YtopahhcojncgaaaDoor.G
open Go.RowKit Go.Proofs.YtopahhcojncgaaaDoorW.PrintWords Go.Proofs.YtopahhcojncgaaaDoorW.PrintLast Go.Proofs.YtopahhcojncgaaaDoorW.PrintMore
set_option linter.unusedVariables false
set_option linter.unusedSimpArgs false
def marks (m : Nat) : List S98 := (List.range m).map fun (i : Nat) => ⟨1 + 2 * (i : Int), 2 + 2 * (i : Int)⟩
theorem marks_len (m : Nat) : (marks m).length = m := by simp [marks]
theorem marks_at (m i : Nat) (h : i < m) : rd_T98 (marks m) (i : Int) = ⟨1 + 2 * (i : Int), 2 + 2 * (i : Int)⟩ := by
  rw [rd98 _ _ (by rw [marks_len]; exact h)]
  simp [marks]
theorem markPairS_l0 (m : Nat) (hl : m ≤ 1048576) : ∀ (d i : Nat) (x : List S98), i + d = m → x.length = m → x.take i = (marks m).take i →
    Ev (fun k => laws_markPairS.l0 k x (1 + 2 * (i : Int)) (i : Int)) (1 + 2 * (m : Int), marks m) := by
  intro d
  induction d with
  | zero =>
    intro i x hi hx ht
    have : x = marks m := by
      rw [List.take_of_length_le (by omega), List.take_of_length_le (by rw [marks_len]; omega)] at ht
      exact ht
    subst this
    obtain rfl : i = m := by omega
    exact Ev.step (fun k => laws_markPairS.l0.eq_2 ..) (Ev.ifn (by omega) (Ev.pure _))
  | succ d ih =>
    intro i x hi hx ht
    have hil : i < x.length := by omega
    refine Ev.step (fun k => laws_markPairS.l0.eq_2 ..) (Ev.ifp (by omega) (Ev.ifp (by omega) (Ev.bindC rfl ?_)))
    rw [w64 (x := (i : Int) + 1) (by omega) (by omega), w64 (x := 1 + 2 * (i : Int) + 1) (by omega) (by omega), w64 (by omega) (by omega)]
    have e1 : (1 + 2 * (i : Int) + 1 + 1) = 1 + 2 * ((i + 1 : Nat) : Int) := by omega
    have e2 : ((i : Int) + 1) = ((i + 1 : Nat) : Int) := by omega
    rw [e1, e2]
    refine ih (i + 1) _ (by omega) (by simp only [List.length_set]; exact hx) ?_
    rw [Int.toNat_natCast]
    have e3 : (rd_T98 (x.set i (⟨1 + 2 * (i : Int), (rd_T98 x (i : Int)).f1⟩ : S98)) (i : Int)).f0 = 1 + 2 * (i : Int) := by
      rw [rd98 _ _ (by rw [List.length_set]; exact hil), List.getElem_set_self]
    rw [e3, List.set_set, List.take_succ_eq_append_getElem (by rw [List.length_set]; omega), List.take_set_of_le (Nat.le_refl _), ht, List.take_succ_eq_append_getElem (by rw [marks_len]; omega), List.getElem_set_self]
    congr 2
    simp [marks]
    omega
theorem markPairS_eq (l : List S98) (hl : l.length ≤ 1048576) : Ev (fun k => laws_markPairS.f k l 1) (1 + 2 * (l.length : Int), marks l.length) := by
  unfold laws_markPairS.f
  exact markPairS_l0 l.length hl l.length 0 l (by omega) rfl (by simp)
theorem heldPairS_l0 (m : Nat) (hl : m ≤ 1048576) : ∀ (d i : Nat), i + d = m → Ev (fun k => laws_heldPairS.l0 k (marks m) (1 + 2 * (i : Int)) (i : Int)) (1 + 2 * (m : Int)) := by
  intro d
  induction d with
  | zero =>
    intro i hi
    obtain rfl : i = m := by omega
    exact Ev.step (fun k => laws_heldPairS.l0.eq_2 ..) (Ev.ifn (by rw [marks_len]; omega) (Ev.pure _))
  | succ d ih =>
    intro i hi
    refine Ev.step (fun k => laws_heldPairS.l0.eq_2 ..) (Ev.ifp (by rw [marks_len]; omega) (Ev.ifp (by omega) ?_))
    rw [marks_at m i (by omega), w64 (x := (i : Int) + 1) (by omega) (by omega), w64 (x := 1 + 2 * (i : Int) + 1) (by omega) (by omega), w64 (by omega) (by omega)]
    refine Ev.ifp rfl (Ev.ifp (by show 2 + 2 * (i : Int) = _; omega) ?_)
    have e1 : (1 + 2 * (i : Int) + 1 + 1) = 1 + 2 * ((i + 1 : Nat) : Int) := by omega
    have e2 : ((i : Int) + 1) = ((i + 1 : Nat) : Int) := by omega
    rw [e1, e2]
    exact ih (i + 1) (by omega)
theorem heldPairS_eq (m : Nat) (hl : m ≤ 1048576) : Ev (fun k => laws_heldPairS.f k (marks m) 1) (1 + 2 * (m : Int)) := by
  unfold laws_heldPairS.f
  exact heldPairS_l0 m hl m 0 (by omega)
theorem markParty_eq (n : Int) (l : List S98) (hl : l.length ≤ 1048576) : Ev (fun k => laws_markParty.f k n l 1) (1 + 2 * (l.length : Int), marks l.length) := by
  unfold laws_markParty.f
  exact Ev.bind (markPairS_eq l hl) (Ev.pure _)
theorem eqPairS_refl (l : List S98) (hl : l.length < 4611686018427387904) : Ev (fun k => laws_eqPairS.f k l l) true := by
  unfold laws_eqPairS.f
  exact Ev.ifp rfl (eqPairS_l0 l hl l.length 0 (by omega))
theorem l1Most_eq (a b : Int) : spec_l1Most.f a b = some (max a b) := by
  unfold spec_l1Most.f
  rw [Int.max_def]
  split <;> split <;> (first | rfl | (congr 1; omega))
theorem rdOf_getD (d : List Bool) (j : Nat) : rdOf false d (j : Int) = d.getD j false := by simp [rdOf]
theorem set_back (d : List Bool) (b : Nat) (h : d.getD b false = false) : (d.set b true).set b false = d := by
  rw [List.set_set]
  apply List.ext_getElem (by simp)
  intro i h1 h2
  rw [List.getElem_set]
  split
  · rename_i e
    subst e
    rw [List.getD_eq_getElem?_getD, List.getElem?_eq_getElem h2, Option.getD_some] at h
    exact h.symm
  · rfl
def gL (M : Nat → Int) (s : Nat) (i : Int) (l : List Nat) : Int := l.foldl (fun best b => max best (wrap64 (1 + M (clr s (2 ^ b))))) i
theorem gL_cons (M s i b l) : gL M s i (b :: l) = gL M s (max i (wrap64 (1 + M (clr s (2 ^ b))))) l := rfl
set_option maxHeartbeats 400000 in
theorem taMost_gen (M : Nat → Int) (hM0 : M 0 = 0) (n : Nat) (hn : n ≤ 12) (ps : List S98) (T : List (List Bool)) (t : List Int) (hT : TabI n T ps) (ht : MaskI n t ps)
    (hMs : ∀ s, s ≠ 0 → s < 65536 → M s = gL M (clr s (2 ^ tz16 s)) (M (clr s (2 ^ tz16 s))) (bl ((t.getD (tz16 s) 0).toNat &&& clr s (2 ^ tz16 s)))) : ∀ (m s a : Nat) (d : List Bool),
    a ≤ n → d.length = n → s < 2 ^ n → (∀ j, j < n → s.testBit j = (decide (a ≤ j) && !d.getD j false)) → (bl s).length < m → Ev (fun k => spec_taMost.f k T d (a : Int)) (M s, d) := by
  intro m
  have hlt16 : ∀ s : Nat, s < 2 ^ n → s < 65536 := fun s h => Nat.lt_of_lt_of_le h (Nat.pow_le_pow_right (by decide) (by omega : n ≤ 16))
  induction m with
  | zero => intro s a d _ _ _ _ h; omega
  | succ m ih =>
    intro s a0 d ha0 hd hs hbits0 hm
    refine Ev.step (fun k => spec_taMost.f.eq_2 ..) ?_
    have skip : ∀ (c a : Nat), a + c = n → (∀ j, j < n → s.testBit j = (decide (a ≤ j) && !d.getD j false)) → Ev (fun k => spec_taMost.l0 k T d (a : Int)) (M s, d) := by
      intro c
      induction c with
      | zero =>
        intro a hac hbits
        have hz : s = 0 := by
          apply Nat.eq_of_testBit_eq
          intro j
          rw [Nat.zero_testBit]
          by_cases hj : j < n
          · rw [hbits j hj]; simp; omega
          · exact Nat.testBit_lt_two_pow (Nat.lt_of_lt_of_le hs (Nat.pow_le_pow_right (by decide) (by omega)))
        subst hz
        rw [hM0]
        exact Ev.step (fun k => spec_taMost.l0.eq_2 ..) (Ev.ifn (by omega) (Ev.step (fun k => spec_taMost.j1.eq_2 ..) (Ev.ifp (by omega) (Ev.pure _))))
      | succ c ihc =>
        intro a hac hbits
        have e2 : Aside0 (wrap64 ((a : Int) + 1) = ((a + 1 : Nat) : Int)) := ⟨by rw [w64 (by omega) (by omega)]; omega⟩
        refine Ev.step (fun k => spec_taMost.l0.eq_2 ..) (Ev.ifp (by omega) (Ev.ifp (Int.natCast_nonneg a) ?_))
        by_cases hda : d.getD a false = true
        · refine Ev.ifp (by rw [rdOf_getD]; exact hda) ?_
          rw [e2.out]
          refine ihc (a + 1) (by omega) (fun j hj => ?_)
          rw [hbits j hj]
          by_cases e : j = a
          · subst e; rw [hda]; simp
          · congr 1; rw [decide_eq_decide]; omega
        · have hda : d.getD a false = false := by simpa using hda
          refine Ev.ifn (by rw [rdOf_getD, hda]; decide) ?_
          have han : a < n := by omega
          have hsa : s.testBit a = true := by rw [hbits a han, hda]; simp
          have hlow : ∀ j, j < a → s.testBit j = false := fun j hj => by rw [hbits j (by omega)]; simp; omega
          have h0 : s ≠ 0 := by intro e; subst e; rw [Nat.zero_testBit] at hsa; cases hsa
          have hs16 : s < 65536 := hlt16 s hs
          have hta : tz16 s = a := by
            obtain ⟨t1, t2⟩ := tz16_spec s (by omega) hs16
            rcases Nat.lt_trichotomy (tz16 s) a with h | h | h
            · rw [hlow _ h] at t1; cases t1
            · exact h
            · rw [t2 _ h] at hsa; cases hsa
          have hl1 := bl_clr1 s (tz16 s) (by omega) hs16 rfl
          rw [hMs s h0 hs16, hta]
          rw [hta] at hl1
          obtain ⟨left, el⟩ : ∃ l, clr s (2 ^ a) = l := ⟨_, rfl⟩
          have hl2 : left < 2 ^ n := by rw [← el]; exact clr_lt_two _ _ _ hs
          have hl16 := hlt16 left hl2
          have hleft : ∀ j, j < n → left.testBit j = (decide (a + 1 ≤ j) && !d.getD j false) := fun j hj => by
            rw [← el, testBit_clr _ _ _ hs16, hbits j hj, Nat.testBit_two_pow]
            by_cases e : a = j
            · subst e
              rw [decide_eq_true (Nat.le_refl a), decide_eq_false (Nat.not_succ_le_self a)]; simp
            · have : decide (a ≤ j) = decide (a + 1 ≤ j) := by rw [decide_eq_decide]; omega
              rw [this]; simp [e]
          rw [el] at hl1 ⊢
          have e3 : (List.range n).filter (fun i => ((t.getD a 0).toNat &&& left).testBit i) = (List.range' (a + 1) (n - (a + 1))).filter (fun i => ((t.getD a 0).toNat &&& left).testBit i) := by
            have e4 : List.range n = List.range' 0 (a + 1) ++ List.range' (a + 1) (n - (a + 1)) := by
              rw [List.range_eq_range']
              have := List.range'_append_1 (s := 0) (m := a + 1) (n := n - (a + 1))
              rw [Nat.zero_add] at this
              rw [this]
              congr 1; omega
            rw [e4, List.filter_append]
            have e5 : (List.range' 0 (a + 1)).filter (fun i => ((t.getD a 0).toNat &&& left).testBit i) = [] := by
              rw [List.filter_eq_nil_iff]
              intro j hj
              have hj2 := List.mem_range'_1.1 hj
              rw [Nat.testBit_and, hleft j (by omega)]
              simp
              intro _ h; omega
            rw [e5, List.nil_append]
          rw [bl_ltn _ n (Nat.and_lt_two_pow _ hl2) (by omega), e3]
          refine Ev.step (fun k => spec_taMost.j1.eq_2 ..) (Ev.ifn (by omega) ?_)
          rw [e2.out]
          refine Ev.bind (ih left (a + 1) d (by omega) hd hl2 hleft (by omega)) ?_
          have part : ∀ (c b : Nat) (v : Int), b + c = n → a < b → Ev (fun k => spec_taMost.l1 k T d (a : Int) v (b : Int)) (gL M left v ((List.range' b c).filter (fun i => ((t.getD a 0).toNat &&& left).testBit i)), d) := by
            intro c
            induction c with
            | zero => intro b v hb hab; exact Ev.step (fun k => spec_taMost.l1.eq_2 ..) (Ev.ifn (by omega) (Ev.pure _))
            | succ c ihp =>
              intro b v hb hab
              have hbn : b < n := by omega
              have e6 : Aside0 (wrap64 ((b : Int) + 1) = ((b + 1 : Nat) : Int)) := ⟨by rw [w64 (by omega) (by omega)]; omega⟩
              have hrow : (rd_L4 T (a : Int)).length = n := hT.row a han
              have htab : rdOf false (rd_L4 T (a : Int)) (b : Int) = adj ps a b := by rw [← hT.at_ a b han hbn]; simp [rdOf, rd_L4, tab]
              have hbit : ((t.getD a 0).toNat &&& left).testBit b = (adj ps a b && !d.getD b false) := by
                rw [Nat.testBit_and, ht.at_ a b han hbn, hleft b hbn]
                have : decide (a + 1 ≤ b) = true := decide_eq_true (Nat.succ_le_of_lt hab)
                rw [this, Bool.true_and]
              have off : ((t.getD a 0).toNat &&& left).testBit b = false → Ev (fun k => spec_taMost.j3 k T d (a : Int) v (b : Int) false) (gL M left v ((List.range' b (c + 1)).filter (fun i => ((t.getD a 0).toNat &&& left).testBit i)), d) := by
                intro h
                refine Ev.step (fun k => spec_taMost.j3.eq_2 ..) (Ev.ifn (by decide) ?_)
                rw [e6.out, List.range'_succ, List.filter_cons_of_neg (by rw [h]; decide)]
                exact ihp (b + 1) v (by omega) (by omega)
              refine Ev.step (fun k => spec_taMost.l1.eq_2 ..) (Ev.ifp (by omega) (Ev.ifp (Int.natCast_nonneg a) (Ev.ifp (by rw [hT.len]; omega) (Ev.ifp (Int.natCast_nonneg b) (Ev.ifp (by rw [hrow]; omega) ?_)))))
              rw [htab, rdOf_getD]
              by_cases hadj : adj ps a b = true
              · refine Ev.ifp hadj ?_
                by_cases hdb : d.getD b false = true
                · rw [hdb]
                  exact off (by rw [hbit, hdb]; simp)
                · have hdb : d.getD b false = false := by simpa using hdb
                  rw [hdb]
                  have hon : ((t.getD a 0).toNat &&& left).testBit b = true := by rw [hbit, hdb, hadj]; rfl
                  refine Ev.step (fun k => spec_taMost.j3.eq_2 ..) (Ev.ifp rfl (Ev.ifp (Int.natCast_nonneg b) (Ev.ifp (by omega) ?_)))
                  rw [Int.toNat_natCast, e2.out]
                  have hlb : left.testBit b = true := by
                    rw [Nat.testBit_and, Bool.and_eq_true] at hon; exact hon.2
                  have hlt : (bl (clr left (2 ^ b))).length < (bl left).length := by
                    rw [bl_clr _ _ hl16, List.length_filter_lt_length_iff_exists]
                    exact ⟨b, (mem_bl _ _ hl16).2 hlb, by simp [Nat.testBit_two_pow_self]⟩
                  refine Ev.bind (ih (clr left (2 ^ b)) (a + 1) (d.set b true) (by omega) (by rw [List.length_set]; exact hd) (clr_lt_two _ _ _ hl2) (fun j hj => ?_) (by omega)) (Ev.bindC (l1Most_eq _ _) ?_)
                  · rw [testBit_clr _ _ _ hl16, hleft j hj, Nat.testBit_two_pow]
                    simp only [List.getD_eq_getElem?_getD]
                    by_cases e : b = j
                    · subst e
                      rw [List.getElem?_set_self (by omega)]; simp
                    · rw [List.getElem?_set_ne e]; simp [e]
                  · have e7 := set_back d b hdb
                    rw [List.range'_succ, List.filter_cons_of_pos hon, gL_cons]
                    have h9 := ihp (b + 1) (max v (wrap64 (1 + M (clr left (2 ^ b))))) (by omega) (by omega)
                    rw [← e6.out] at h9
                    simp only [Int.toNat_natCast, e7]
                    exact h9
              · refine Ev.ifn hadj (off ?_)
                rw [hbit]; simp [hadj]
          exact part (n - (a + 1)) (a + 1) (M left) (by omega) (by omega)
    exact skip (n - a0) a0 (by omega) hbits0
theorem taMost_eq (n : Nat) (hn : n ≤ 12) (ps : List S98) (T : List (List Bool)) (t : List Int) (hT : TabI n T ps) (ht : MaskI n t ps) (s a : Nat) (d : List Bool) (ha : a ≤ n) (hd : d.length = n) (hs : s < 2 ^ n)
    (hb : ∀ j, j < n → s.testBit j = (decide (a ≤ j) && !d.getD j false)) : Ev (fun k => spec_taMost.f k T d (a : Int)) (mo t s, d) :=
  taMost_gen (mo t) (mo_zero t) n hn ps T t hT ht (fun s h0 hs => mo_step t s h0 hs) ((bl s).length + 1) s a d ha hd hs hb (Nat.lt_succ_self _)
end Go.Proofs.YtopahhcojncgaaaDoor.G
namespace Go.Proofs.YtopahhcojncgaaaDoor.G
open Go.RowKit Go.Proofs.YtopahhcojncgaaaDoorW.PrintWords Go.Proofs.YtopahhcojncgaaaDoorW.PrintLast Go.Proofs.YtopahhcojncgaaaDoorW.PrintMore
attribute [local go_sem] max2_int min2_int max_two min_two max_three min_three max_four min_four
set_option linter.unusedVariables false
set_option linter.unusedSimpArgs false
def impl_MostInPairs.f (k : Nat) (a0_0 : Int) (l0_1 : List (S98)) : Option ((List (S98)) × Bool) := (impl_IsParty.f k a0_0 l0_1).bind fun t287 => (if t287 = true then ((impl_mostInPairs.f k a0_0 l0_1).bind fun t288 => (some (t288, true))) else (some (([] : List (S98)), false)))
theorem impl_MostInPairs.mono : ∀ a0 a1 k, LeO (impl_MostInPairs.f k a0 a1) (impl_MostInPairs.f (k + 1) a0 a1) := by
 intro a0 a1 k
 unfold impl_MostInPairs.f
 repeat' first
   | (with_reducible exact impl_IsParty.mono _ _ _)
   | (with_reducible exact impl_mostInPairs.mono _ _ _)
   | (with_reducible exact LeO.refl _)
   | (with_reducible exact LeO.none _)
   | (with_reducible refine LeO.ite ?_ ?_)
   | (with_reducible refine LeO.bind ?_ (fun _ => ?_))
   | exact impl_IsParty.mono _ _ _
   | exact impl_mostInPairs.mono _ _ _
   | exact LeO.none _
   | refine LeO.ite ?_ ?_
   | refine LeO.bind ?_ (fun _ => ?_)
set_option maxHeartbeats 8000000 in
set_option maxRecDepth 100000 in
theorem impl_MostInPairs.calls (k : Nat) (a0_0 : Int) (A0_1 : Option Addr) (c0_1 : Nat) (l0_1 : List (S98)) (r1 : List (S98)) (r2 : Bool) (w : World) (hG : Laid32 w) (hr0_1 : Kd.C k98 w A0_1 l0_1.length l0_1) (hc0_1 : l0_1.length ≤ c0_1) (h : impl_MostInPairs.f k a0_0 l0_1 = some (r1, r2)) :
  Calls Tryd.prog 27 #[.agg #[.int .i64 a0_0, .slice A0_1 l0_1.length c0_1]] w fun e w' => ∃ v0_ : Value, e = .returned (.tuple #[v0_, .bool r2]) ∧ Kd.R k98 98 w' w.heap.size (fun _ => True) v0_ r1 ∧ Below w.heap.size w w' := by
 have hu30 := Tryd.underlying30
 have HG := Aside0.mk hG
 clear hG
 have HR0_1 := Aside0.mk hr0_1
 have HC0_1 := Aside0.mk hc0_1
 clear hr0_1 hc0_1
 have HB := Aside0.mk (Below.refl w.heap.size w)
 have H : ((impl_IsParty.f k a0_0 l0_1).bind fun t287 => (if t287 = true then ((impl_mostInPairs.f k a0_0 l0_1).bind fun t288 => (some (t288, true))) else (some (([] : List (S98)), false)))) = some (r1, r2) := h
 clear h
 replace H := Option.bind_eq_some_iff.mp H
 obtain ⟨t287, A20, H⟩ := H
 replace H : (if t287 = true then ((impl_mostInPairs.f k a0_0 l0_1).bind fun t288 => (some (t288, true))) else (some (([] : List (S98)), false))) = some (r1, r2) := H
 have A2 := Aside0.mk A20
 clear A20
 by_cases c3 : t287 = true
 ·subst c3
  have H1 : ((impl_mostInPairs.f k a0_0 l0_1).bind fun t288 => (some (t288, true))) = some (r1, r2) := by rw [if_pos rfl] at H; exact H
  clear H
  have H := H1
  clear H1
  replace H := Option.bind_eq_some_iff.mp H
  obtain ⟨t288, A40, H⟩ := H
  replace H : (some (t288, true)) = some (r1, r2) := H
  have A4 := Aside0.mk A40
  clear A40
  simp only [Option.some.injEq, Prod.mk.injEq] at H
  obtain ⟨rfl, rfl⟩ := H
  go_enter Tryd.func27, Tryd.ntmps27
  go_wp2_with (first | ((with_reducible refine gate_dst (N := 1) rfl ?_); refine box_event ?hg (N := 1) ?hd (cs := #[.int .i64 a0_0, .slice A0_1 l0_1.length c0_1]) (t := 30) ?hr ?_; (case hd => rfl); (case hg => rfl); (case hr => first | (go_simp; done) | (go_simp; rfl)); intro gb286 hg w5 hbox hb; have n0_ := Aside0.mk (below_step (by repeat (first | (with_reducible first | exact HB.out | apply below_alloc | apply pw_below_drewN | apply below_drew1) | exact HB.out)) hb); have n1_ := Aside0.mk (hbox); have n2_ := Aside0.mk ((by rw [hg]; exact (below_size (by repeat (first | (with_reducible first | exact HB.out | apply below_alloc | apply pw_below_drewN | apply below_drew1) | exact HB.out))) : w.heap.size ≤ gb286)); have n3_ := Aside0.mk ((by rw [hg]; exact (below_size (by repeat (first | (with_reducible first | exact HB.out | apply below_alloc | apply pw_below_drewN | apply below_drew1) | exact HB.out))) : w.heap.size ≤ gb286)); clear HB; have HB := n0_; have BK286 := n1_; have GW286 := n2_; have GE286 := n3_; clear n0_ n1_ n2_ n3_; clear hb hbox hg; have hcz6_0 : w5.cell? ⟨gb286, 0, none⟩ = some (.int .i64 a0_0) := (blk_cell BK286.out 0).trans rfl; have hcz6_1 : w5.cell? ⟨gb286, 1, none⟩ = some (.slice A0_1 l0_1.length c0_1) := (blk_cell BK286.out 1).trans rfl; have hfz6_0 := blk_frozen BK286.out 0; have hfz6_1 := blk_frozen BK286.out 1) | ((with_reducible refine gate_callee (f := 47) rfl ?_); refine goesL_ (some 5) rfl rfl Tryd.func47 (by kernel_rfl) rfl #[.agg #[.int .i64 a0_0, .slice A0_1 l0_1.length c0_1]] rfl (by (try simp only [List.map_toArray, List.map_cons, List.map_nil]); first | done | rfl | (simp only [List.length_drop, List.length_take]; rfl)) ?_; (with_reducible refine (impl_IsParty.calls k a0_0 _ _ l0_1 true _ ?side1 ?side2 A2.out).mono ?_); (case side1 => repeat (first | exact (Kd.C_below HR0_1.out HB.out) | (with_reducible refine Kd.C_alloc ?_ _) | (with_reducible refine Kd.C_drewN ?_ _) | (with_reducible refine Kd.C_drew ?_))); (case side2 => exact HC0_1.out); rintro e w7 ⟨rfl, hb⟩; refine ⟨_, rfl, ?_⟩; have n0_ := Aside0.mk (blk_below (g := gb286) (o := .cells #[.int .i64 a0_0, .slice A0_1 l0_1.length c0_1] 30 (0, 0)) (by (with_reducible repeat (first | refine blk_drewN ?_ _ | refine blk_drew ?_ | refine blk_alloc ?_ _)); exact BK286.out) hb); have n1_ := Aside0.mk (below_step (by repeat (first | (with_reducible first | exact HB.out | apply below_alloc | apply pw_below_drewN | apply below_drew1 | refine below_set ?_ GE286.out) | exact HB.out)) hb); clear BK286; clear HB; have BK286 := n0_; have HB := n1_; clear n0_ n1_; (try clear hb); (try clear hb2); (try clear hk); (try clear hi); have hcz8_0 : w7.cell? ⟨gb286, 0, none⟩ = some (.int .i64 a0_0) := (blk_cell BK286.out 0).trans rfl; have hcz8_1 : w7.cell? ⟨gb286, 1, none⟩ = some (.slice A0_1 l0_1.length c0_1) := (blk_cell BK286.out 1).trans rfl; have hfz8_0 := blk_frozen BK286.out 0; have hfz8_1 := blk_frozen BK286.out 1) | ((with_reducible refine gate_callee (f := 81) rfl ?_); refine goesL_ (some 8) rfl rfl Tryd.func81 (by kernel_rfl) rfl #[.agg #[.int .i64 a0_0, .slice A0_1 l0_1.length c0_1]] rfl (by (try simp only [List.map_toArray, List.map_cons, List.map_nil]); first | done | rfl | (simp only [List.length_drop, List.length_take]; rfl)) ?_; (with_reducible refine (impl_mostInPairs.calls k a0_0 _ _ l0_1 t288 _ ?side1 ?side2 ?side3 A4.out).mono ?_); (case side1 => first | exact HG.out | exact Laid32.drewN HG.out _ | exact Laid32.drew HG.out | exact (Laid32.drewN HG.out _).drewN _ | exact Laid32.below HG.out (by repeat (first | (with_reducible first | exact HB.out | apply below_alloc | apply pw_below_drewN | apply below_drew1 | refine below_set ?_ GE286.out) | exact HB.out))); (case side2 => repeat (first | exact (Kd.C_below HR0_1.out HB.out) | (with_reducible refine Kd.C_alloc ?_ _) | (with_reducible refine Kd.C_drewN ?_ _) | (with_reducible refine Kd.C_drew ?_))); (case side3 => exact HC0_1.out); rintro e w9 ⟨v289, rfl, ho0, hb⟩; refine ⟨_, rfl, ?_⟩; have n0_ := Aside0.mk (Kd.R_lower ho0 (below_size (by repeat (first | (with_reducible first | exact HB.out | apply below_alloc | apply pw_below_drewN | apply below_drew1 | refine below_set ?_ GE286.out) | exact HB.out)))); have n1_ := Aside0.mk (blk_below (g := gb286) (o := .cells #[.int .i64 a0_0, .slice A0_1 l0_1.length c0_1] 30 (0, 0)) (by (with_reducible repeat (first | refine blk_drewN ?_ _ | refine blk_drew ?_ | refine blk_alloc ?_ _)); exact BK286.out) hb); have n2_ := Aside0.mk (below_step (by repeat (first | (with_reducible first | exact HB.out | apply below_alloc | apply pw_below_drewN | apply below_drew1 | refine below_set ?_ GE286.out) | exact HB.out)) hb); clear BK286; clear HB; have HO290 := n0_; have BK286 := n1_; have HB := n2_; clear n0_ n1_ n2_; (try clear hb); (try clear hb2); (try clear hk); (try clear hi); (try clear ho0)))
  go_ret2
  exact ⟨_, by first | rfl | (simp [errW_none, errW_some] <;> rfl) | (simp [*, errW_none, errW_some] <;> rfl), by (with_reducible repeat (first | apply Kd.R_alloc | apply Kd.R_drewN | apply Kd.R_drew)); exact HO290.out, by repeat (first | (with_reducible first | exact HB.out | apply below_alloc | apply pw_below_drewN | apply below_drew1 | refine below_set ?_ GE286.out) | exact HB.out)⟩
 ·replace c3 := Bool.eq_false_iff.mpr c3
  subst c3
  have H1 : (some (([] : List (S98)), false)) = some (r1, r2) := by rw [if_neg (show ¬ (false = true) by decide)] at H; exact H
  clear H
  have H := H1
  clear H1
  simp only [Option.some.injEq, Prod.mk.injEq] at H
  obtain ⟨rfl, rfl⟩ := H
  go_enter Tryd.func27, Tryd.ntmps27
  go_wp2_with (first | ((with_reducible refine gate_dst (N := 1) rfl ?_); refine box_event ?hg (N := 1) ?hd (cs := #[.int .i64 a0_0, .slice A0_1 l0_1.length c0_1]) (t := 30) ?hr ?_; (case hd => rfl); (case hg => rfl); (case hr => first | (go_simp; done) | (go_simp; rfl)); intro gb286 hg w10 hbox hb; have n0_ := Aside0.mk (below_step (by repeat (first | (with_reducible first | exact HB.out | apply below_alloc | apply pw_below_drewN | apply below_drew1) | exact HB.out)) hb); have n1_ := Aside0.mk (hbox); have n2_ := Aside0.mk ((by rw [hg]; exact (below_size (by repeat (first | (with_reducible first | exact HB.out | apply below_alloc | apply pw_below_drewN | apply below_drew1) | exact HB.out))) : w.heap.size ≤ gb286)); have n3_ := Aside0.mk ((by rw [hg]; exact (below_size (by repeat (first | (with_reducible first | exact HB.out | apply below_alloc | apply pw_below_drewN | apply below_drew1) | exact HB.out))) : w.heap.size ≤ gb286)); clear HB; have HB := n0_; have BK286 := n1_; have GW286 := n2_; have GE286 := n3_; clear n0_ n1_ n2_ n3_; clear hb hbox hg; have hcz11_0 : w10.cell? ⟨gb286, 0, none⟩ = some (.int .i64 a0_0) := (blk_cell BK286.out 0).trans rfl; have hcz11_1 : w10.cell? ⟨gb286, 1, none⟩ = some (.slice A0_1 l0_1.length c0_1) := (blk_cell BK286.out 1).trans rfl; have hfz11_0 := blk_frozen BK286.out 0; have hfz11_1 := blk_frozen BK286.out 1) | ((with_reducible refine gate_callee (f := 47) rfl ?_); refine goesL_ (some 5) rfl rfl Tryd.func47 (by kernel_rfl) rfl #[.agg #[.int .i64 a0_0, .slice A0_1 l0_1.length c0_1]] rfl (by (try simp only [List.map_toArray, List.map_cons, List.map_nil]); first | done | rfl | (simp only [List.length_drop, List.length_take]; rfl)) ?_; (with_reducible refine (impl_IsParty.calls k a0_0 _ _ l0_1 false _ ?side1 ?side2 A2.out).mono ?_); (case side1 => repeat (first | exact (Kd.C_below HR0_1.out HB.out) | (with_reducible refine Kd.C_alloc ?_ _) | (with_reducible refine Kd.C_drewN ?_ _) | (with_reducible refine Kd.C_drew ?_))); (case side2 => exact HC0_1.out); rintro e w12 ⟨rfl, hb⟩; refine ⟨_, rfl, ?_⟩; have n0_ := Aside0.mk (blk_below (g := gb286) (o := .cells #[.int .i64 a0_0, .slice A0_1 l0_1.length c0_1] 30 (0, 0)) (by (with_reducible repeat (first | refine blk_drewN ?_ _ | refine blk_drew ?_ | refine blk_alloc ?_ _)); exact BK286.out) hb); have n1_ := Aside0.mk (below_step (by repeat (first | (with_reducible first | exact HB.out | apply below_alloc | apply pw_below_drewN | apply below_drew1 | refine below_set ?_ GE286.out) | exact HB.out)) hb); clear BK286; clear HB; have BK286 := n0_; have HB := n1_; clear n0_ n1_; (try clear hb); (try clear hb2); (try clear hk); (try clear hi)))
  go_ret2
  exact ⟨_, by first | rfl | (simp [errW_none, errW_some] <;> rfl) | (simp [*, errW_none, errW_some] <;> rfl), by first | exact Kd.R_nil _ _ _ _ _ | exact Kd.N_nil _ _ _ _ _ | exact Kd.V_nil _ _ _ _ _ | exact Kd.Q_nil _ _ _ _ _ | exact Kd.S_nil _ _ _ _ _, by repeat (first | (with_reducible first | exact HB.out | apply below_alloc | apply pw_below_drewN | apply below_drew1 | refine below_set ?_ GE286.out) | exact HB.out)⟩
end Go.Proofs.YtopahhcojncgaaaDoor.G
namespace Go.Proofs.YtopahhcojncgaaaDoor.G
open Go.RowKit Go.Proofs.YtopahhcojncgaaaDoorW.PrintWords Go.Proofs.YtopahhcojncgaaaDoorW.PrintLast Go.Proofs.YtopahhcojncgaaaDoorW.PrintMore
set_option linter.unusedVariables false
set_option linter.unusedSimpArgs false
def but2 (S : Nat → Prop) (p q : Nat) : Nat → Prop := fun i => S i ∧ i ≠ p ∧ i ≠ q
def Lost (e : Nat → Nat → Prop) (S : Nat → Prop) (v : Nat) (p q : Nat) : Prop := ∀ k, k + 1 = v → ¬ Has e k (but2 S p q)
theorem greedy_cut {e : Nat → Nat → Prop} (he : ∀ p q, e p q → e q p) {S : Nat → Prop} {A B v v1 v2 : Nat} (hAB : A < B) (heAB : e A B) (hA : S A) (hB : S B)
    (hv : ∀ k, Has e k S ↔ k ≤ v) (h1 : ∀ k, Has e k (but2 S A B) ↔ k ≤ v1) (h2 : ∀ k, Has e k (fun i => but2 S A B i ∧ A ≤ i) ↔ k ≤ v2)
    (hJ : ∀ c b, c ≠ b → e c b → S c → S b → c < A → Lost e S v c b) : (v2 + 1 = v ↔ v1 + 1 = v) ∧ v1 + 1 ≤ v := by
  have hle : v1 + 1 ≤ v := (hv _).1 ⟨A, B, by omega, heAB, hA, hB, (h1 v1).2 (Nat.le_refl _)⟩
  have h21 : v2 ≤ v1 := (h1 _).1 (((h2 v2).2 (Nat.le_refl _)).mono (fun i hi => hi.1))
  refine ⟨⟨fun h => by omega, fun h => ?_⟩, hle⟩
  have step : ∀ c, c ≤ A → Has e v1 (fun i => but2 S A B i ∧ c ≤ i) := by
    intro c
    induction c with
    | zero => intro _; exact ((h1 v1).2 (Nat.le_refl _)).mono (fun i hi => ⟨hi, Nat.zero_le _⟩)
    | succ c ih =>
      intro hc
      rcases (ih (by omega)).split he c with h3 | ⟨b, k', hk, c1, c2, c3, c4, c5⟩
      · exact h3.mono (fun i hi => ⟨hi.1.1, by have := hi.1.2; have := hi.2; omega⟩)
      · exfalso
        refine hJ c b c1 c2 c3.1.1 c4.1.1 (by omega) v1 h ?_
        rw [hk]
        exact ⟨A, B, by omega, heAB, ⟨hA, fun e9 => c3.1.2.1 e9.symm, fun e9 => c4.1.2.1 e9.symm⟩, ⟨hB, fun e9 => c3.1.2.2 e9.symm, fun e9 => c4.1.2.2 e9.symm⟩, c5.mono (fun i hi => ⟨⟨hi.1.1.1, hi.2.1, hi.2.2⟩, hi.1.1.2.1, hi.1.1.2.2⟩)⟩
  have := (h2 v1).1 (step A (Nat.le_refl _))
  omega
theorem good_f0 {n : Int} {ps : List S98} (h : Good n ps) : ∀ (d i : Nat), i + d < ps.length → (rd_T98 ps (i : Int)).f0 ≤ (rd_T98 ps ((i + d : Nat) : Int)).f0 := by
  intro d
  induction d with
  | zero => intro i _; exact Int.le_refl _
  | succ d ih =>
    intro i hi
    have h1 := ih i (by omega)
    have h2 := (h.2.2 (i + (d + 1)) hi).2.2.2 (by omega)
    rw [show i + (d + 1) - 1 = i + d by omega] at h2
    rcases h2 with h3 | ⟨h3, _⟩
    · omega
    · omega
theorem adj_at {n : Int} {ps : List S98} {c b : Nat} (h : adj ps c b = true) : ∃ j, j < ps.length ∧ (((rd_T98 ps (j : Int)).f0 = (c : Int) ∧ (rd_T98 ps (j : Int)).f1 = (b : Int)) ∨ ((rd_T98 ps (j : Int)).f0 = (b : Int) ∧ (rd_T98 ps (j : Int)).f1 = (c : Int))) := by
  unfold adj at h
  obtain ⟨p, hp, h2⟩ := List.any_eq_true.1 h
  obtain ⟨j, hj, rfl⟩ := List.getElem_of_mem hp
  refine ⟨j, hj, ?_⟩
  rw [rd98 ps j hj]
  simpa [pAdj] using h2
theorem at_adj {ps : List S98} {j A B : Nat} (hj : j < ps.length) (hA : (rd_T98 ps (j : Int)).f0 = (A : Int)) (hB : (rd_T98 ps (j : Int)).f1 = (B : Int)) : adj ps A B = true := by
  unfold adj
  rw [List.any_eq_true]
  rw [rd98 ps j hj] at hA hB
  exact ⟨_, List.getElem_mem hj, by simp [pAdj, hA, hB]⟩
def JI (ps : List S98) (S : Nat → Prop) (v i : Nat) : Prop := ∀ j A B, j < i → j < ps.length → (rd_T98 ps (j : Int)).f0 = ((A : Nat) : Int) → (rd_T98 ps (j : Int)).f1 = ((B : Nat) : Int) → S A → S B → Lost (eA ps) S v A B
theorem lost_comm {e : Nat → Nat → Prop} {S : Nat → Prop} {v p q : Nat} (h : Lost e S v p q) : Lost e S v q p := fun k hk h2 => h k hk (h2.mono (fun i hi => ⟨hi.1, hi.2.2, hi.2.1⟩))
theorem JI.before {n : Int} {ps : List S98} (hg : Good n ps) {S : Nat → Prop} {v i A : Nat} (hi : i < ps.length) (hA : (rd_T98 ps (i : Int)).f0 = (A : Int)) (hJ : JI ps S v i) : ∀ c b, c ≠ b → eA ps c b → S c → S b → c < A → Lost (eA ps) S v c b := by
  intro c b _ hcb hc hb hcA
  obtain ⟨j, hj, h⟩ := adj_at (n := n) hcb
  have hji : ∀ x : Nat, (rd_T98 ps (j : Int)).f0 = (x : Int) → x ≤ c → j < i := by
    intro x hx hxc
    rcases Nat.lt_or_ge j i with h1 | h1
    · exact h1
    · have := good_f0 hg (j - i) i (by omega)
      rw [show i + (j - i) = j by omega] at this
      omega
  have hlt := (hg.2.2 j hj).2.1
  rcases h with ⟨h1, h2⟩ | ⟨h1, h2⟩
  · exact hJ j c b (hji c h1 (Nat.le_refl _)) hj h1 h2 hc hb
  · exact lost_comm (hJ j b c (hji b h1 (by omega)) hj h1 h2 hb hc)
theorem JI.no {ps : List S98} {S : Nat → Prop} {v i : Nat} (hJ : JI ps S v i) (h : ∀ A B : Nat, (rd_T98 ps (i : Int)).f0 = (A : Int) → (rd_T98 ps (i : Int)).f1 = (B : Int) → S A → S B → Lost (eA ps) S v A B) : JI ps S v (i + 1) := by
  intro j A B hj hjl h0 h1 hA hB
  rcases Nat.eq_or_lt_of_le (Nat.le_of_lt_succ hj) with e | e
  · subst e; exact h A B h0 h1 hA hB
  · exact hJ j A B e hjl h0 h1 hA hB
theorem JI.yes {ps : List S98} {S : Nat → Prop} {v v' i A B : Nat} (hJ : JI ps S v i) (hi : i < ps.length) (hA : (rd_T98 ps (i : Int)).f0 = (A : Int)) (hB : (rd_T98 ps (i : Int)).f1 = (B : Int)) (hAB : A ≠ B) (sA : S A) (sB : S B) (hv : v' + 1 = v) {S' : Nat → Prop} (hS : ∀ i, S' i ↔ but2 S A B i) : JI ps S' v' (i + 1) := by
  intro j C D hj hjl h0 h1 hC hD k hk h2
  have hC' := (hS C).1 hC
  have hD' := (hS D).1 hD
  rcases Nat.eq_or_lt_of_le (Nat.le_of_lt_succ hj) with e | e
  · subst e
    have : C = A := by omega
    exact hC'.2.1 this
  · refine hJ j C D e hjl h0 h1 hC'.1 hD'.1 (k + 1) (by omega) ⟨A, B, hAB, at_adj hi hA hB, ⟨sA, fun e9 => hC'.2.1 e9.symm, fun e9 => hD'.2.1 e9.symm⟩, ⟨sB, fun e9 => hC'.2.2 e9.symm, fun e9 => hD'.2.2 e9.symm⟩, h2.mono (fun i hi => ?_)⟩
    have h3 := (hS i).1 hi.1
    exact ⟨⟨h3.1, hi.2.1, hi.2.2⟩, h3.2.1, h3.2.2⟩
theorem but2_clr {s A B : Nat} (hs : s < 65536) (i : Nat) : inS (clr s (2 ^ A ||| 2 ^ B)) i ↔ but2 (inS s) A B i := inS_clr2 s A B hs i
theorem sub_own (s A B : Nat) : s &&& (2 ^ A ||| 2 ^ B) = (2 ^ A ||| 2 ^ B) ↔ inS s A ∧ inS s B := by
  constructor
  · intro h
    have h1 := congrArg (fun x => x.testBit A) h
    have h2 := congrArg (fun x => x.testBit B) h
    simp only [Nat.testBit_and, Nat.testBit_or, Nat.testBit_two_pow_self, Bool.true_or, Bool.or_true, Bool.and_true] at h1 h2
    exact ⟨h1, h2⟩
  · rintro ⟨h1, h2⟩
    apply Nat.eq_of_testBit_eq
    intro i
    rw [Nat.testBit_and, Nat.testBit_or, Nat.testBit_two_pow, Nat.testBit_two_pow]
    by_cases ha : A = i
    · subst ha; unfold inS at h1; rw [h1]; simp
    · by_cases hb : B = i
      · subst hb; unfold inS at h2; rw [h2]; simp
      · simp [ha, hb]
end Go.Proofs.YtopahhcojncgaaaDoor.G
namespace Go.Proofs.YtopahhcojncgaaaDoor.G
open Go.RowKit Go.Proofs.YtopahhcojncgaaaDoorW.PrintWords Go.Proofs.YtopahhcojncgaaaDoorW.PrintLast Go.Proofs.YtopahhcojncgaaaDoorW.PrintMore
set_option linter.unusedVariables false
set_option linter.unusedSimpArgs false
theorem Has.congr {e : Nat → Nat → Prop} {k : Nat} {S S' : Nat → Prop} (h : ∀ i, S i ↔ S' i) : Has e k S ↔ Has e k S' := ⟨Has.mono (fun i hi => (h i).1 hi), Has.mono (fun i hi => (h i).2 hi)⟩
structure Num (ps : List S98) (t : List Int) (s : Nat) (v : Nat) : Prop where
  eq : mo t s = (v : Int)
  le : v ≤ 16
  has : ∀ k, Has (eA ps) k (inS s) ↔ k ≤ v
theorem num_of (n : Nat) (hn : n ≤ 12) (ps : List S98) (hself : ∀ a, adj ps a a = false) (t : List Int) (ht : MaskI n t ps) (s : Nat) (hs : s < 2 ^ n) : ∃ v, Num ps t s v := by
  obtain ⟨v, h1, h2, h3⟩ := mo_spec n hn ps hself t ht ((bl s).length + 1) s hs (Nat.lt_succ_self _)
  exact ⟨v, h1, Nat.le_trans h2 (bl_length s), h3⟩
theorem Num.wrap {ps t s v s' v'} (h : Num ps t s v) (h' : Num ps t s' v') : wrap64 (1 + mo t s) = mo t s' ↔ v + 1 = v' := by
  have l1 := h.le
  have l2 := h'.le
  rw [h.eq, h'.eq, w64 (by omega) (by omega)]
  omega
theorem cut_bit (s A B : Nat) (hs : s < 65536) (i : Nat) : inS (clr (clr s (2 ^ A ||| 2 ^ B)) (2 ^ A - 1)) i ↔ but2 (inS s) A B i ∧ A ≤ i := by
  rw [← but2_clr hs]
  unfold inS
  rw [testBit_clr _ _ _ (clr_lt _ _ hs), Nat.testBit_two_pow_sub_one]
  rw [Bool.and_eq_true]
  constructor
  · rintro ⟨h1, h2⟩
    refine ⟨h1, ?_⟩
    simpa using h2
  · rintro ⟨h1, h2⟩
    refine ⟨h1, ?_⟩
    simpa using h2
theorem ask_alike (n : Nat) (hn : n ≤ 12) (ps : List S98) (hg : Good (n : Int) ps) (t : List Int) (ht : MaskI n t ps) (S : Nat) (hS : S < 2 ^ n) (v : Nat) (hv : Num ps t S v) (i A B : Nat) (hi : i < ps.length)
    (hA : (rd_T98 ps (i : Int)).f0 = (A : Int)) (hB : (rd_T98 ps (i : Int)).f1 = (B : Int)) (hAB : A < B) (sA : inS S A) (sB : inS S B) (hJ : JI ps (inS S) v i) :
    (wrap64 (1 + mo t (clr (clr S (2 ^ A ||| 2 ^ B)) (2 ^ A - 1))) = mo t S ↔ wrap64 (1 + mo t (clr S (2 ^ A ||| 2 ^ B))) = mo t S) ∧
    (wrap64 (1 + mo t (clr S (2 ^ A ||| 2 ^ B))) = mo t S → ∃ v', Num ps t (clr S (2 ^ A ||| 2 ^ B)) v' ∧ v' + 1 = v ∧ JI ps (inS (clr S (2 ^ A ||| 2 ^ B))) v' (i + 1)) ∧
    (¬ wrap64 (1 + mo t (clr S (2 ^ A ||| 2 ^ B))) = mo t S → JI ps (inS S) v (i + 1)) := by
  have hp16 : S < 65536 := Nat.lt_of_lt_of_le hS (Nat.pow_le_pow_right (by decide) (by omega : n ≤ 16))
  obtain ⟨v1, h1⟩ := num_of n hn ps (adj_self hg) t ht (clr S (2 ^ A ||| 2 ^ B)) (clr_lt_two _ _ _ hS)
  obtain ⟨v2, h2⟩ := num_of n hn ps (adj_self hg) t ht (clr (clr S (2 ^ A ||| 2 ^ B)) (2 ^ A - 1)) (clr_lt_two _ _ _ (clr_lt_two _ _ _ hS))
  have k1 : ∀ k, Has (eA ps) k (but2 (inS S) A B) ↔ k ≤ v1 := fun k => by rw [← h1.has]; exact Has.congr (fun i => (but2_clr hp16 i).symm)
  have k2 : ∀ k, Has (eA ps) k (fun i => but2 (inS S) A B i ∧ A ≤ i) ↔ k ≤ v2 := fun k => by rw [← h2.has]; exact Has.congr (fun i => (cut_bit S A B hp16 i).symm)
  obtain ⟨g1, g2⟩ := greedy_cut (eA_comm ps) hAB (at_adj hi hA hB) sA sB hv.has k1 k2 (JI.before hg hi hA hJ)
  refine ⟨(h2.wrap hv).trans (g1.trans (h1.wrap hv).symm), fun h => ?_, fun h => ?_⟩
  · have h3 := (h1.wrap hv).1 h
    exact ⟨v1, h1, h3, JI.yes hJ hi hA hB (Nat.ne_of_lt hAB) sA sB h3 (fun i => but2_clr hp16 i)⟩
  · refine hJ.no (fun A' B' e0 e1 _ _ k hk h3 => ?_)
    obtain rfl : A' = A := by omega
    obtain rfl : B' = B := by omega
    have h4 := (k1 k).1 h3
    exact h ((h1.wrap hv).2 (by omega))
theorem good_len_le {n : Int} {ps : List S98} (h : Good n ps) : ps.length ≤ 66 := by
  have h1 := good_len h
  obtain ⟨m, rfl⟩ : ∃ m : Nat, n = (m : Int) := ⟨n.toNat, by have := h.1; omega⟩
  have e : ∀ m : Nat, m < 13 → Int.tdiv ((m : Int) * ((m : Int) - 1)) 2 ≤ 66 := by decide +kernel
  have := e m (by have := h.2.1; omega)
  omega
theorem ji_zero (ps : List S98) (S : Nat → Prop) (v : Nat) : JI ps S v 0 := fun _ _ _ h => absurd h (Nat.not_lt_zero _)
theorem all_bits (n : Nat) : ∀ j, j < n → (2 ^ n - 1).testBit j = !(List.replicate n false).getD j false := fun j hj => by
  rw [Nat.testBit_two_pow_sub_one]
  simp [List.getD_eq_getElem?_getD, List.getElem?_replicate, hj]
theorem mostInPairs_impl (n : Nat) (ps : List S98) (hg : Good (n : Int) ps) (t : List Int) (ht : MaskI n t ps) (htE : Ev (fun k => impl_Party_table.f k (n : Int) ps) t) : Ev (fun k => impl_mostInPairs.f k (n : Int) ps) (mip t (2 ^ n - 1) ps).2 := by
  have hn : n ≤ 12 := by have := hg.2.1; omega
  have hl := good_len_le hg
  have hlt : 2 ^ n - 1 < 2 ^ n := Nat.sub_lt (Nat.two_pow_pos _) (by decide)
  unfold impl_mostInPairs.f
  refine Ev.bind htE (Ev.bindC (all_eq t (by rw [ht.len]; omega)) (Ev.ifp ⟨⟨by rw [ht.len]; exact hn, by omega⟩, fun i hi => ?_, ⟨Int.natCast_nonneg _, by rw [Int.toNat_natCast, ht.len]; exact hlt⟩, fun x hx => ?_⟩ ?_))
  · have := ht.lt i
    have hp16 : 2 ^ n ≤ 65536 := Nat.pow_le_pow_right (by decide) (by omega : n ≤ 16)
    have e : ((2 : Int) ^ n) = ((2 ^ n : Nat) : Int) := by simp
    rw [e] at this
    omega
  · obtain ⟨j, hj, rfl⟩ := List.getElem_of_mem hx
    obtain ⟨q1, q2, q3, _⟩ := hg.2.2 j hj
    rw [rd98 ps j hj] at q1 q2 q3
    omega
  · rw [Int.toNat_natCast, ht.len]; exact Ev.pure _
end Go.Proofs.YtopahhcojncgaaaDoor.G
namespace Go.Proofs.YtopahhcojncgaaaDoor.G
open Go.RowKit Go.Proofs.YtopahhcojncgaaaDoorW.PrintWords Go.Proofs.YtopahhcojncgaaaDoorW.PrintLast Go.Proofs.YtopahhcojncgaaaDoorW.PrintMore
set_option linter.unusedVariables false
set_option linter.unusedSimpArgs false
def pmB (d : List Bool) (T : List (List Bool)) (b : Nat) : Bool := decide (firstFree d < b ∧ tab T (firstFree d) b = true ∧ d.getD b false = false)
def pm (T : List (List Bool)) : Nat → List Bool → List (List S98)
  | 0, _ => []
  | m + 1, d => if firstFree d = d.length then [[]] else (List.range d.length).flatMap fun b => if pmB d T b = true then (pm T m ((d.set (firstFree d) true).set b true)).map (fun l => (⟨(firstFree d : Nat), b⟩ : S98) :: l) else []
def hd2 (qs : List S98) (P : List (List S98)) (s2 : List S98) : List S98 := match P with | [] => s2 | l :: _ => qs ++ l
theorem pm_len (T : List (List Bool)) : ∀ (m : Nat) (d : List Bool), d.length ≤ 12 → (pm T m d).length ≤ 13 ^ m := by
  intro m
  induction m with
  | zero => intro d _; simp [pm]
  | succ m ih =>
    intro d hd
    rw [pm]
    split
    · exact Nat.pow_pos (by decide : 0 < 13)
    · have key : ∀ L : List Nat, (L.flatMap fun b => if pmB d T b = true then (pm T m ((d.set (firstFree d) true).set b true)).map (fun l => (⟨(firstFree d : Nat), b⟩ : S98) :: l) else []).length ≤ L.length * 13 ^ m := by
        intro L
        induction L with
        | nil => simp
        | cons b L ih2 =>
          rw [List.flatMap_cons, List.length_append, List.length_cons, Nat.succ_mul]
          have h1 : (if pmB d T b = true then (pm T m ((d.set (firstFree d) true).set b true)).map (fun l => (⟨(firstFree d : Nat), b⟩ : S98) :: l) else []).length ≤ 13 ^ m := by
            split
            · rw [List.length_map]; exact ih _ (by simpa using hd)
            · exact Nat.zero_le _
          omega
      have h2 := key (List.range d.length)
      rw [List.length_range] at h2
      have h3 : d.length * 13 ^ m ≤ 12 * 13 ^ m := Nat.mul_le_mul_right _ hd
      rw [Nat.pow_succ]
      omega
theorem tp_pm (T : List (List Bool)) : ∀ (m : Nat) (d : List Bool) (qs : List S98) (s : Int × List S98) (c : Nat), s.1 = (c : Int) → c + (pm T m d).length ≤ 4611686018427387904 →
    tp T m d qs s = (((c + (pm T m d).length : Nat) : Int), if c = 0 then hd2 qs (pm T m d) s.2 else s.2) := by
  intro m
  induction m with
  | zero =>
    intro d qs s c hs _
    show s = _
    simp only [pm, List.length_nil, Nat.add_zero, hd2]
    rw [← hs]
    split <;> rfl
  | succ m ih =>
    intro d qs s c hs hb
    by_cases hf : firstFree d = d.length
    · rw [tp_done _ _ _ _ _ hf]
      rw [pm, if_pos hf] at hb ⊢
      simp only [List.length_cons, List.length_nil] at hb ⊢
      rw [hs, w64 (by omega) (by omega)]
      have : ((c : Int) = 0) ↔ c = 0 := by omega
      simp only [this, hd2, List.append_nil]
      rfl
    · rw [tp_step _ _ _ _ _ hf]
      rw [pm, if_neg hf] at hb ⊢
      unfold tpLoop
      have key : ∀ (L : List Nat) (s : Int × List S98) (c : Nat), s.1 = (c : Int) → c + (L.flatMap fun b => if pmB d T b = true then (pm T m ((d.set (firstFree d) true).set b true)).map (fun l => (⟨(firstFree d : Nat), b⟩ : S98) :: l) else []).length ≤ 4611686018427387904 →
          L.foldl (fun s b => if firstFree d < b ∧ tab T (firstFree d) b = true ∧ d.getD b false = false then tp T m ((d.set (firstFree d) true).set b true) (qs ++ [⟨firstFree d, b⟩]) s else s) s =
          (((c + (L.flatMap fun b => if pmB d T b = true then (pm T m ((d.set (firstFree d) true).set b true)).map (fun l => (⟨(firstFree d : Nat), b⟩ : S98) :: l) else []).length : Nat) : Int), if c = 0 then hd2 qs (L.flatMap fun b => if pmB d T b = true then (pm T m ((d.set (firstFree d) true).set b true)).map (fun l => (⟨(firstFree d : Nat), b⟩ : S98) :: l) else []) s.2 else s.2) := by
        intro L
        induction L with
        | nil =>
          intro s c hs _
          simp only [List.foldl_nil, List.flatMap_nil, List.length_nil, Nat.add_zero, hd2]
          rw [← hs]
          split <;> rfl
        | cons b L ih2 =>
          intro s c hs hb
          rw [List.foldl_cons]
          rw [List.flatMap_cons, List.length_append] at hb
          rw [List.flatMap_cons]
          by_cases hc : firstFree d < b ∧ tab T (firstFree d) b = true ∧ d.getD b false = false
          · have hpb : pmB d T b = true := decide_eq_true hc
            rw [if_pos hpb, List.length_map] at hb
            rw [if_pos hc, if_pos hpb]
            have h1 := ih ((d.set (firstFree d) true).set b true) (qs ++ [⟨firstFree d, b⟩]) s c hs (by omega)
            rw [h1]
            rw [ih2 _ (c + (pm T m ((d.set (firstFree d) true).set b true)).length) rfl (by omega)]
            rw [List.length_append, List.length_map, Nat.add_assoc]
            congr 1
            cases hP : pm T m ((d.set (firstFree d) true).set b true) with
            | nil => simp [hd2]
            | cons l P =>
              by_cases h0 : c = 0
              · subst h0
                simp [hd2]
              · simp [hd2, h0]
          · have hpb : pmB d T b = false := decide_eq_false hc
            rw [if_neg (by rw [hpb]; decide)] at hb
            rw [if_neg hc, if_neg (by rw [hpb]; decide), List.nil_append]
            exact ih2 s c hs (by simpa using hb)
      exact key _ s c hs hb
theorem filter_one (L : List Nat) (p : Nat) (hn : L.Nodup) (hp : p ∈ L) : (L.filter (fun i => decide (i ≠ p))).length + 1 = L.length := by
  induction L with
  | nil => cases hp
  | cons x L ih =>
    have hn2 := List.nodup_cons.1 hn
    by_cases e : x = p
    · subst e
      rw [List.filter_cons_of_neg (by simp), List.filter_eq_self.2 (fun i hi => by simp; intro e2; subst e2; exact hn2.1 hi)]
      rfl
    · rw [List.filter_cons_of_pos (by simp [e]), List.length_cons, List.length_cons]
      rcases List.mem_cons.1 hp with h | h
      · exact absurd h.symm e
      · rw [ih hn2.2 h]
theorem bl_one (s p : Nat) (hs : s < 65536) (hp : inS s p) : (bl (clr s (2 ^ p))).length + 1 = (bl s).length := by
  rw [bl_clr _ _ hs]
  have e : (bl s).filter (fun i => !(2 ^ p).testBit i) = (bl s).filter (fun i => decide (i ≠ p)) := by
    apply List.filter_congr
    intro i _
    rw [Nat.testBit_two_pow]
    by_cases h : p = i
    · subst h; simp
    · simp [h, Ne.symm h]
  rw [e]
  exact filter_one _ _ (List.Pairwise.imp (fun h => Nat.ne_of_lt h) (bl_sorted s)) ((mem_bl s p hs).2 hp)
theorem bl_two (s p q : Nat) (hs : s < 65536) (hpq : p ≠ q) (hp : inS s p) (hq : inS s q) : (bl (clr s (2 ^ p ||| 2 ^ q))).length + 2 = (bl s).length := by
  have e : clr s (2 ^ p ||| 2 ^ q) = clr (clr s (2 ^ p)) (2 ^ q) := by
    apply Nat.eq_of_testBit_eq
    intro i
    rw [testBit_clr _ _ _ hs, testBit_clr _ _ _ (clr_lt _ _ hs), testBit_clr _ _ _ hs, Nat.testBit_or]
    cases s.testBit i <;> cases (2 ^ p).testBit i <;> cases (2 ^ q).testBit i <;> rfl
  rw [e]
  have h1 := bl_one s p hs hp
  have h2 := bl_one (clr s (2 ^ p)) q (clr_lt _ _ hs) ((inS_clr s p hs q).2 ⟨hq, Ne.symm hpq⟩)
  omega
theorem has_size (e : Nat → Nat → Prop) : ∀ (k s : Nat), s < 65536 → Has e k (inS s) → 2 * k ≤ (bl s).length := by
  intro k
  induction k with
  | zero => intro s _ _; omega
  | succ k ih =>
    rintro s hs ⟨p, q, h1, h2, h3, h4, h5⟩
    have := ih (clr s (2 ^ p ||| 2 ^ q)) (clr_lt _ _ hs) (h5.mono (fun i hi => (inS_clr2 s p q hs i).2 hi))
    have := bl_two s p q hs h1 h3 h4
    omega
theorem Num.two {ps t s v} (h : Num ps t s v) (hs : s < 65536) : 2 * v ≤ (bl s).length := has_size _ v s hs ((h.has v).2 (Nat.le_refl _))
theorem good_plt {n : Int} {ps : List S98} (h : Good n ps) : ∀ (d i : Nat), i + (d + 1) < ps.length → plt (rd_T98 ps (i : Int)) (rd_T98 ps ((i + (d + 1) : Nat) : Int)) := by
  intro d
  induction d with
  | zero =>
    intro i hi
    have := (h.2.2 (i + 1) hi).2.2.2 (by omega)
    rwa [Nat.add_sub_cancel] at this
  | succ d ih =>
    intro i hi
    have h1 := ih i (by omega)
    have h2 := (h.2.2 (i + (d + 2)) hi).2.2.2 (by omega)
    rw [show i + (d + 2) - 1 = i + (d + 1) by omega] at h2
    unfold plt at *
    rw [show i + (d + 1 + 1) = i + (d + 2) by omega]
    omega
end Go.Proofs.YtopahhcojncgaaaDoor.G
namespace Go.Proofs.YtopahhcojncgaaaDoor.G
open Go.RowKit Go.Proofs.YtopahhcojncgaaaDoorW.PrintWords Go.Proofs.YtopahhcojncgaaaDoorW.PrintLast Go.Proofs.YtopahhcojncgaaaDoorW.PrintMore
set_option linter.unusedVariables false
set_option linter.unusedSimpArgs false
theorem mipS_at (t : List Int) (S : Nat) (out : List S98) (x : S98) (A B : Nat) (hA : x.f0 = (A : Int)) (hB : x.f1 = (B : Int)) :
    mipS t (S, out) x = if S &&& (2 ^ A ||| 2 ^ B) = (2 ^ A ||| 2 ^ B) ∧ wrap64 (1 + mo t (clr S (2 ^ A ||| 2 ^ B))) = mo t S then (clr S (2 ^ A ||| 2 ^ B), out ++ [x]) else (S, out) := by
  unfold mipS
  rw [hA, hB, Int.toNat_natCast, Int.toNat_natCast]
theorem mip_end (n : Nat) (ps : List S98) (hg : Good (n : Int) ps) (t : List Int) (ht : MaskI n t ps) : ∀ (d i : Nat) (S : Nat) (out : List S98) (v : Nat), i + d = ps.length → S < 2 ^ n → Num ps t S v → JI ps (inS S) v i →
    ((ps.drop i).foldl (mipS t) (S, out)).2.length = out.length + v := by
  intro d
  have hn : n ≤ 12 := by have := hg.2.1; omega
  induction d with
  | zero =>
    intro i S out v hi hS hv hJ
    rw [List.drop_of_length_le (by omega)]
    show out.length = out.length + v
    cases v with
    | zero => rfl
    | succ v =>
      exfalso
      obtain ⟨p, q, h1, h2, h3, h4, h5⟩ := (hv.has (v + 1)).2 (Nat.le_refl _)
      obtain ⟨j, hj, h⟩ := adj_at (n := (n : Int)) h2
      rcases h with ⟨e0, e1⟩ | ⟨e0, e1⟩
      · exact hJ j p q (by omega) hj e0 e1 h3 h4 v rfl h5
      · exact lost_comm (hJ j q p (by omega) hj e0 e1 h4 h3) v rfl h5
  | succ d ih =>
    intro i S out v hi hS hv hJ
    have hil : i < ps.length := by omega
    obtain ⟨g1, g2, g3, _⟩ := hg.2.2 i hil
    obtain ⟨A, hA⟩ : ∃ A : Nat, (rd_T98 ps (i : Int)).f0 = (A : Int) := ⟨(rd_T98 ps (i : Int)).f0.toNat, by omega⟩
    obtain ⟨B, hB⟩ : ∃ B : Nat, (rd_T98 ps (i : Int)).f1 = (B : Int) := ⟨(rd_T98 ps (i : Int)).f1.toNat, by omega⟩
    rw [List.drop_eq_getElem_cons hil, List.foldl_cons, mipS_at t S out ps[i] A B (by rw [← rd98 ps i hil]; exact hA) (by rw [← rd98 ps i hil]; exact hB)]
    by_cases hs : inS S A ∧ inS S B
    · obtain ⟨_, a2, a3⟩ := ask_alike n hn ps hg t ht S hS v hv i A B hil hA hB (by omega) hs.1 hs.2 hJ
      by_cases hq : Aside0 (wrap64 (1 + mo t (clr S (2 ^ A ||| 2 ^ B))) = mo t S)
      · obtain ⟨v', n1, n2, n3⟩ := a2 hq.out
        rw [if_pos ⟨(sub_own S A B).2 hs, hq.out⟩]
        clear a2 a3
        rw [ih (i + 1) _ (out ++ [ps[i]]) v' (by omega) (clr_lt_two _ _ _ hS) n1 n3]
        simp
        omega
      · rw [if_neg (fun h => hq ⟨h.2⟩)]
        have := a3 (fun h => hq ⟨h⟩)
        clear a2 a3
        exact ih (i + 1) S out v (by omega) hS hv this
    · rw [if_neg (fun h => hs ((sub_own S A B).1 h.1))]
      refine ih (i + 1) S out v (by omega) hS hv (hJ.no (fun A' B' e0 e1 h1 h2 => ?_))
      obtain rfl : A' = A := by omega
      obtain rfl : B' = B := by omega
      exact absurd ⟨h1, h2⟩ hs
theorem mip_skip (n : Nat) (ps : List S98) (hg : Good (n : Int) ps) (t : List Int) (ht : MaskI n t ps) (S : Nat) (hS : S < 2 ^ n) (out : List S98) (v : Nat) (hv : Num ps t S v) : ∀ (d i : Nat), i + d ≤ ps.length → JI ps (inS S) v i →
    (∀ k, i ≤ k → k < i + d → ∀ A B : Nat, (rd_T98 ps (k : Int)).f0 = (A : Int) → (rd_T98 ps (k : Int)).f1 = (B : Int) → inS S A → inS S B → ¬ Aside0 (wrap64 (1 + mo t (clr S (2 ^ A ||| 2 ^ B))) = mo t S)) →
    (ps.drop i).foldl (mipS t) (S, out) = (ps.drop (i + d)).foldl (mipS t) (S, out) ∧ JI ps (inS S) v (i + d) := by
  intro d
  have hn : n ≤ 12 := by have := hg.2.1; omega
  induction d with
  | zero => intro i _ hJ _; exact ⟨rfl, hJ⟩
  | succ d ih =>
    intro i hi hJ hno
    have hil : i < ps.length := by omega
    obtain ⟨g1, g2, g3, _⟩ := hg.2.2 i hil
    obtain ⟨A, hA⟩ : ∃ A : Nat, (rd_T98 ps (i : Int)).f0 = (A : Int) := ⟨(rd_T98 ps (i : Int)).f0.toNat, by omega⟩
    obtain ⟨B, hB⟩ : ∃ B : Nat, (rd_T98 ps (i : Int)).f1 = (B : Int) := ⟨(rd_T98 ps (i : Int)).f1.toNat, by omega⟩
    have hJ2 : JI ps (inS S) v (i + 1) := by
      by_cases hs : inS S A ∧ inS S B
      · obtain ⟨_, _, a3⟩ := ask_alike n hn ps hg t ht S hS v hv i A B hil hA hB (by omega) hs.1 hs.2 hJ
        exact a3 (fun h => hno i (Nat.le_refl _) (by omega) A B hA hB hs.1 hs.2 ⟨h⟩)
      · refine hJ.no (fun A' B' e0 e1 h1 h2 => ?_)
        obtain rfl : A' = A := by omega
        obtain rfl : B' = B := by omega
        exact absurd ⟨h1, h2⟩ hs
    obtain ⟨r1, r2⟩ := ih (i + 1) (by omega) hJ2 (fun k h1 h2 => hno k (by omega) (by omega))
    rw [show i + (d + 1) = i + 1 + d by omega]
    refine ⟨?_, r2⟩
    rw [← r1, List.drop_eq_getElem_cons hil, List.foldl_cons, mipS_at t S out ps[i] A B (by rw [← rd98 ps i hil]; exact hA) (by rw [← rd98 ps i hil]; exact hB), if_neg]
    intro h
    have hs := (sub_own S A B).1 h.1
    exact hno i (Nat.le_refl _) (by omega) A B hA hB hs.1 hs.2 ⟨h.2⟩
theorem flatMap_find {α : Type} (f : Nat → List α) (P : List α) (x : α) : ∀ (L : List Nat), L.flatMap f = x :: P → L.Pairwise (· < ·) → ∃ b, b ∈ L ∧ (∀ c, c ∈ L → c < b → f c = []) ∧ ∃ Q, f b = x :: Q := by
  intro L
  induction L with
  | nil => intro h; cases h
  | cons c L ih =>
    intro h hp
    rw [List.flatMap_cons] at h
    cases hf : f c with
    | nil =>
      rw [hf, List.nil_append] at h
      obtain ⟨b, hb, h1, h2⟩ := ih h (List.pairwise_cons.1 hp).2
      refine ⟨b, List.mem_cons_of_mem _ hb, fun c' hc' hlt => ?_, h2⟩
      rcases List.mem_cons.1 hc' with e | e
      · subst e; exact hf
      · exact h1 c' e hlt
    | cons y Q =>
      rw [hf, List.cons_append] at h
      injection h with h1 h2
      subst h1
      refine ⟨c, List.mem_cons_self .., fun c' hc' hlt => ?_, Q, hf⟩
      rcases List.mem_cons.1 hc' with e | e
      · omega
      · have := (List.pairwise_cons.1 hp).1 c' e
        omega
end Go.Proofs.YtopahhcojncgaaaDoor.G
namespace Go.Proofs.YtopahhcojncgaaaDoor.G
open Go.RowKit Go.Proofs.YtopahhcojncgaaaDoorW.PrintWords Go.Proofs.YtopahhcojncgaaaDoorW.PrintLast Go.Proofs.YtopahhcojncgaaaDoorW.PrintMore
set_option linter.unusedVariables false
set_option linter.unusedSimpArgs false
theorem TPI.cellD {w0 W : World} {gd gc gf cd : Nat} {A0 : Option Addr} {T : List (List Bool)} {d : List Bool} {c : Int} {vf : Value} {fs : List S98} (h : TPI w0 gd gc gf A0 T W cd d c vf fs) (i : Nat) (hi : i < d.length) :
  W.cell? ⟨gd, i, none⟩ = some (.bool (d.getD i false)) ∧ W.frozen? ⟨gd, i, none⟩ = false := by
 have := Kd.R_celln false h.D (i : Int) (by omega) (by omega)
 simpa [rdOf] using this
theorem set_same (l : List Bool) (i : Nat) (h : i < l.length) (x : Bool) (hx : l.getD i false = x) : l.set i x = l := by
 apply List.ext_getElem?
 intro j
 by_cases hj : j = i
 ·subst hj
  rw [List.getElem?_set_self h, List.getElem?_eq_getElem h, ← hx, List.getD_eq_getElem?_getD, List.getElem?_eq_getElem h, Option.getD_some]
 ·rw [List.getElem?_set_ne (fun e => hj e.symm)]
theorem k98_KM (W W' : World) (base : Nat) (ok : Nat → Prop) (x : S98) (cs : List Value) (h : k98.K W x cs) : k98.M W' base ok x cs := by rw [k98_open h]; exact k98_mkM _ _ _ x
theorem R_not3 {w w0 W : World} {gd gc gf : Nat} {v : Value} {xs : List S98} (hb : Below w0.heap.size w0 w) (h : Kd.R k98 98 W w.heap.size (fun _ => True) v xs) (h1 : gd < w.heap.size) (h2 : gc < w.heap.size) (h3 : gf < w.heap.size) :
  Kd.R k98 98 W w0.heap.size (fun k => ¬ S3 gd gc gf k) v xs :=
 Kd.R_lower (Kd.R_mono (Kd.R_bound h) (fun k hk => by have := hk.2.1; rintro (e | e | e) <;> omega)) hb.size
theorem TPI.lt {w0 W : World} {gd gc gf cd : Nat} {A0 : Option Addr} {T : List (List Bool)} {d : List Bool} {c : Int} {vf : Value} {fs : List S98} (h : TPI w0 gd gc gf A0 T W cd d c vf fs) : gd < W.heap.size ∧ gc < W.heap.size ∧ gf < W.heap.size :=
 ⟨(by obtain ⟨i, ho⟩ := Kd.R_own h.D; exact own_lt ho gd rfl), blk_lt h.C, blk_lt h.F⟩
set_option maxHeartbeats 4000000 in
set_option maxRecDepth 100000 in
theorem spec_taPair.walk (w0 : World) (gd gc gf : Nat) (A0 : Option Addr) (T : List (List Bool)) (ct : Nat) (hct : T.length ≤ ct) (hsq : ∀ r ∈ T, r.length = T.length) (hT : T.length ≤ 1000) (m : Nat) :
  ∀ (d : List Bool) (ps : List S98) (Ap : Option Addr) (cp cd : Nat) (c : Int) (vf : Value) (fs : List S98) (w : World) (np : Nat), np = ps.length → d.length = T.length → frees d < m → ps.length + m ≤ 2000 → ps.length ≤ cp →
  TPI w0 gd gc gf A0 T w cd d c vf fs → (∀ W', Kept w W' (S3 gd gc gf) → Kd.C k98 W' Ap ps.length ps) →
  Calls Tryd.prog 128 #[.slice A0 T.length ct, .slice (some ⟨gd, 0, none⟩) T.length cd, .slice Ap np cp, .pointer (some ⟨gc, 0, none⟩), .pointer (some ⟨gf, 0, none⟩)] w
   fun e w' => e = .returned (.tuple #[]) ∧ (∃ vf', TPI w0 gd gc gf A0 T w' cd d (tp T m d ps (c, fs)).1 vf' (tp T m d ps (c, fs)).2) ∧ Kept w w' (S3 gd gc gf) := by
 induction m with
 | zero => intro d ps Ap cp cd c vf fs w np _ _ hf; omega
 | succ m ih =>
  intro d ps Ap cp cd c vf fs w np hnp hd hf hps hcp I HP
  subst hnp
  have II := Aside0.mk I
  have HPP := Aside0.mk HP
  have IH := Aside0.mk ih
  have Hsq := Aside0.mk hsq
  have hdT := Aside0.mk hd
  have hdl : T.length ≤ 1000 := by omega
  have hfl : firstFree d ≤ T.length := by have := firstFree_le d; omega
  clear I HP ih hsq hd
  go_enter Tryd.func128, Tryd.ntmps128
  go_wp2
  go_loop [10] (fun v => ∃ a : Nat, a ≤ firstFree d ∧ v = .int .i64 a) (fun v => T.length - (intOf v).toNat)
  case atStart => exact ⟨0, Nat.zero_le _, rfl⟩
  case round =>
   obtain ⟨a, ha, rfl⟩ := hrel
   by_cases hlt : a < firstFree d
   ·have hc1 := (II.out.cellD a (by have := hdT.out; omega)).1
    rw [firstFree_before d a hlt] at hc1
    have hdec : decide (a < T.length) = true := by simp; omega
    have hal : a < T.length := by omega
    go_wp2
    go_round
    case rel => exact ⟨a + 1, by omega, by go_num⟩
    case measure => simp [intOf]; omega
   ·have hae : a = firstFree d := by omega
    subst hae
    clear hlt ha
    by_cases hend : firstFree d = T.length
    ·have hdec : decide (firstFree d < T.length) = false := by simp; omega
     have heq : ((firstFree d : Int) == (T.length : Int)) = true := by simp; omega
     have hcc : w.cell? ⟨gc, 0, none⟩ = some (.int .i64 c) := (blk_cell II.out.C 0).trans rfl
     have hfc : w.frozen? ⟨gc, 0, none⟩ = false := blk_frozen II.out.C 0
     have Htp := Aside0.mk (tp_done T m d ps (c, fs) (hend.trans hdT.out.symm))
     have hgn := Aside0.mk II.out.ne
     have Hend := Aside0.mk hend
     clear hend
     by_cases hc0 : c = 0
     ·have hcb : (c == 0) = true := by simpa using hc0
      have Hc0 := Aside0.mk hc0
      clear hc0
      go_wp2_with (first | ((with_reducible refine gate_dst (N := 33) rfl ?_); refine Kd.R_lit k98 _ 98 ?hg (N := 33) ?hd (xs := ([] : List S98)) (inner := []) (ok := fun _ => True) (okp := fun _ => True) ?hr ?hp (fun _ hk => hk) trivial (Below.refl _ _) (Nat.le_refl _) (by simp) ?_; (case hd => rfl); (case hg => rfl); (case hr => first | (go_simp; done) | (go_simp; rfl)); (case hp => exact (Reps.none _ _)); intro v1 w1_ ho hb hg_ hnew_; have I3 := Aside0.mk (II.out.below hb); have K3 := Aside0.mk (Kept.of_below hb (S3 gd gc gf)); have HO3 := Aside0.mk ho; have HB3 := Aside0.mk hb; clear ho hb hg_ hnew_) | ((with_reducible refine gate_builtin (b := .append) (xs := #[.tmp 33, .tmp 34]) rfl ?_); at_builtin; refine Kd.R_append_rows k98 (Rr := k98.K w1_) (w0 := w) w.heap.size rfl (.tmp 33) (.tmp 34) 28 98 (.agg #[(.int .i64 0), (.int .i64 0)]) 16 rfl Tryd.underlying28 info98 rfl (by decide) (by decide) v1 ([] : List S98) ps _ _ _ (fun _ => True) (fun _ => False) rfl rfl ?aO ?aR (fun x cs h => k98_KM _ _ _ _ x cs h) (fun _ h => h.elim) ?aF ?aB ?aS ?aL ?_; (case aR => exact (HPP.out _ K3.out)); (case aB => exact HB3.out); (case aF => exact (fun _ _ => trivial)); (case aO => exact HO3.out); (case aS => exact HB3.out.size); (case aL => (simp only [List.length_nil]; omega)); intro v2 w2_ ho hb hg hat; rw [List.nil_append] at ho; obtain ⟨Av, cv, ev⟩ := Kd.R_slice ho; subst ev; have I4 := Aside0.mk (II.out.below hb); have K4 := Aside0.mk (Kept.of_below hb (S3 gd gc gf)); have HO4 := Aside0.mk (R_not3 II.out.B ho II.out.lt.1 II.out.lt.2.1 II.out.lt.2.2); clear I3 K3 HO3 HB3; have hcf4 : w2_.cell? ⟨gf, 0, none⟩ = some vf := (blk_cell I4.out.F 0).trans rfl; have hff4 : w2_.frozen? ⟨gf, 0, none⟩ = false := blk_frozen I4.out.F 0; clear ho hb hg hat) | ((with_reducible refine gate_store (t := 28) (p := 36) rfl ?_); refine store_event (t := 28) (p := 36) (v := ?vo_w4_1) (w1 := (w2_.setCell ⟨gf, 0, none⟩ (.slice Av ps.length cv))) ?hg ?ho ?hn ?hr ?_; (case ho => rfl); (case hg => rfl); (case hn => rfl); (case hr => first | (go_simp; done) | (go_simp; rfl)); intro w4_ hw; have I6 : Aside0 (TPI w0 gd gc gf A0 T w4_ cd d c (.slice Av ps.length cv) ps) := ⟨by rw [hw]; exact I4.out.setF HO4.out⟩; have K6 : Aside0 (Kept w w4_ (S3 gd gc gf)) := ⟨by rw [hw]; exact K4.out.setCell (.inl (.inr (.inr rfl))) _⟩; clear I4 K4 HO4 hcf4 hff4; have hcc6 : w4_.cell? ⟨gc, 0, none⟩ = some (.int .i64 c) := (blk_cell I6.out.C 0).trans rfl; have hfc6 : w4_.frozen? ⟨gc, 0, none⟩ = false := blk_frozen I6.out.C 0; clear hw) | ((with_reducible refine gate_store (t := 3) (p := 41) rfl ?_); refine store_event (t := 3) (p := 41) (v := ?vo_w7_2) (w1 := (w4_.setCell ⟨gc, 0, none⟩ (.int .i64 (wrap64 (c + 1))))) ?hg ?ho ?hn ?hr ?_; (case ho => rfl); (case hg => rfl); (case hn => rfl); (case hr => first | (go_simp; done) | (go_simp; rfl)); intro w7_ hw; have I7 : Aside0 (TPI w0 gd gc gf A0 T w7_ cd d (wrap64 (c + 1)) (.slice Av ps.length cv) ps) := ⟨by rw [hw]; exact I6.out.setC _⟩; have K7 : Aside0 (Kept w w7_ (S3 gd gc gf)) := ⟨by rw [hw]; exact K6.out.setCell (.inl (.inr (.inl rfl))) _⟩; clear I6 K6 hcc6 hfc6; clear hw))
      (try simp only [Exit.inBlock, Exit.then])
      refine bodyPost_ret (results_none rfl _ _ _) rfl ?_
      refine ⟨rfl, ⟨.slice Av ps.length cv, ?_⟩, K7.out⟩
      rw [Htp.out]
      simp only [Hc0.out, if_true]
      have := I7.out
      rw [Hc0.out] at this
      exact this
     ·have hcb : (c == 0) = false := by simpa using hc0
      have Hc0 := Aside0.mk hc0
      clear hc0
      go_wp2_with (first | ((with_reducible refine gate_store (t := 3) (p := 41) rfl ?_); refine store_event (t := 3) (p := 41) (v := ?vo_w7_3) (w1 := (w.setCell ⟨gc, 0, none⟩ (.int .i64 (wrap64 (c + 1))))) ?hg ?ho ?hn ?hr ?_; (case ho => rfl); (case hg => rfl); (case hn => rfl); (case hr => first | (go_simp; done) | (go_simp; rfl)); intro w7_ hw; have I7 : Aside0 (TPI w0 gd gc gf A0 T w7_ cd d (wrap64 (c + 1)) vf fs) := ⟨by rw [hw]; exact II.out.setC _⟩; have K7 : Aside0 (Kept w w7_ (S3 gd gc gf)) := ⟨by rw [hw]; exact (Kept.refl w _).setCell (.inl (.inr (.inl rfl))) _⟩; clear hw))
      (try simp only [Exit.inBlock, Exit.then])
      refine bodyPost_ret (results_none rfl _ _ _) rfl ?_
      refine ⟨rfl, ⟨vf, ?_⟩, K7.out⟩
      rw [Htp.out, if_neg Hc0.out]
      exact I7.out
    ·have hlt : firstFree d < T.length := by omega
     have Hend := Aside0.mk (show firstFree d ≠ d.length by have := hdT.out; omega)
     have Hat := Aside0.mk (firstFree_at d (by have := hdT.out; omega))
     have Htp := Aside0.mk (tp_step T m d ps (c, fs) Hend.out)
     have hc1 := (II.out.cellD (firstFree d) (by have := hdT.out; omega)).1
     have hf1 := (II.out.cellD (firstFree d) (by have := hdT.out; omega)).2
     rw [Hat.out] at hc1
     have hdec : decide (firstFree d < T.length) = true := by simp; omega
     have hne : ((firstFree d : Int) == (T.length : Int)) = false := by simp; omega
     clear hend
     obtain ⟨a, Ha⟩ : ∃ a, Aside0 (firstFree d = a) := ⟨_, ⟨rfl⟩⟩
     rw [Ha.out] at hc1 hf1 hdec hne hlt hfl ⊢
     go_wp2_with (first | ((with_reducible refine gate_store (t := 4) (p := 44) rfl ?_); refine store_event (t := 4) (p := 44) (v := ?vo_w2_4) (w1 := (w.setCell ⟨gd, a, none⟩ (.bool true))) ?hg ?ho ?hn ?hr ?_; (case ho => rfl); (case hg => rfl); (case hn => rfl); (case hr => first | (go_simp; done) | (go_simp; rfl)); intro w2_ hw; have I2 : Aside0 (TPI w0 gd gc gf A0 T w2_ cd (d.set a true) c vf fs) := ⟨by rw [hw]; exact II.out.setD a true⟩; have K2 : Aside0 (Kept w w2_ (S3 gd gc gf)) := ⟨by rw [hw]; exact (Kept.refl w _).setCell (.inl (.inl rfl)) _⟩; clear hc1 hf1; clear hw))
     go_loopw [11] (fun v wr => ∃ b : Nat, a + 1 ≤ b ∧ b ≤ T.length ∧ v = .int .i64 b ∧ Aside0 (∃ vf', TPI w0 gd gc gf A0 T wr cd (d.set a true) (tpLoop T m d ps (c, fs) b).1 vf' (tpLoop T m d ps (c, fs) b).2) ∧ Aside0 (Kept w wr (S3 gd gc gf))) (fun v _ => T.length - (intOf v).toNat)
     case atStart => exact ⟨a + 1, Nat.le_refl _, by omega, by go_num, ⟨⟨vf, by rw [tpLoop_start _ _ _ _ _ _ (by rw [Ha.out]; omega)]; exact I2.out⟩⟩, K2⟩
     case round =>
      clear I2 K2
      obtain ⟨b, hb1, hb2, rfl, I2, K2⟩ := hrel
      by_cases hbl : b < T.length
      ·have hdecb : decide (b < T.length) = true := by simp; omega
       obtain ⟨vf', I3⟩ := I2.out
       have I3 := Aside0.mk I3
       clear I2
       have hlr : (T.getD a []).length = T.length := by
        rw [List.getD_eq_getElem?_getD, List.getElem?_eq_getElem hlt]
        exact Hsq.out _ (List.getElem_mem hlt)
       obtain ⟨ad, Ar, cr, hA0, hx1, hx2, hx3⟩ := at_L4 (I3.out.T _ (Kept.refl _ _)) (a : Int) (by omega) (by omega)
       subst hA0
       have e1 : rd_L4 T (a : Int) = T.getD a [] := by simp [rd_L4]
       rw [e1, hlr] at hx1 hx2 hx3
       rw [Int.toNat_natCast] at hx1
       obtain ⟨ad2, hAr, hx4⟩ := Kd.at_bool hx3 (b : Int) (by omega) (by omega)
       subst hAr
       have e2 : rdOf false (T.getD a []) (b : Int) = tab T a b := by simp [rdOf, tab]
       rw [e2] at hx4
       rw [Int.toNat_natCast] at hx4
       clear e1 e2 hx3 hlr
       have hx5 := (I3.out.cellD b (by have := hdT.out; rw [List.length_set]; omega)).1
       have hf5 := (I3.out.cellD b (by have := hdT.out; rw [List.length_set]; omega)).2
       have e3 : (d.set a true).getD b false = d.getD b false := by simp only [List.getD_eq_getElem?_getD]; rw [List.getElem?_set_ne (by omega)]
       rw [e3] at hx5
       clear e3
       by_cases ht : tab T a b = true
       ·rw [ht] at hx4
        by_cases hdb : d.getD b false = false
        ·rw [hdb] at hx5
         have Ht := Aside0.mk ht
         have Hdb := Aside0.mk hdb
         clear ht hdb
         have Hfr := Aside0.mk (frees_set d a (by have := hdT.out; omega) (by rw [← Ha.out]; exact Hat.out))
         have Hfr2 := Aside0.mk (frees_set (d.set a true) b (by have := hdT.out; rw [List.length_set]; omega) (by simp only [List.getD_eq_getElem?_getD]; rw [List.getElem?_set_ne (by omega)]; simpa only [List.getD_eq_getElem?_getD] using Hdb.out))
         have Hbk := Aside0.mk (show (((d.set a true).set b true).set b false) = d.set a true by rw [List.set_set]; exact set_same (d.set a true) b (by have := hdT.out; rw [List.length_set]; omega) false (by simp only [List.getD_eq_getElem?_getD]; rw [List.getElem?_set_ne (by omega)]; simpa only [List.getD_eq_getElem?_getD] using Hdb.out))
         have Hs := Aside0.mk (tpLoop_succ T m d ps (c, fs) b)
         go_wp2_with (first | ((with_reducible refine gate_store (t := 4) (p := 69) rfl ?_); refine store_event (t := 4) (p := 69) (v := ?vo_w4_5) (w1 := (wr.setCell ⟨gd, b, none⟩ (.bool true))) ?hg ?ho ?hn ?hr ?_; (case ho => rfl); (case hg => rfl); (case hn => rfl); (case hr => first | (go_simp; done) | (go_simp; rfl)); intro w4_ hw; have I4 : Aside0 (TPI w0 gd gc gf (some ad) T w4_ cd ((d.set a true).set b true) (tpLoop T m d ps (c, fs) b).1 vf' (tpLoop T m d ps (c, fs) b).2) := ⟨by rw [hw]; exact I3.out.setD b true⟩; have K4 : Aside0 (Kept w w4_ (S3 gd gc gf)) := ⟨by rw [hw]; exact K2.out.setCell (.inl (.inl rfl)) _⟩; clear I3 K2 hx1 hx4 hx5 hf5; clear hw) | ((with_reducible refine gate_dst (N := 72) rfl ?_); refine Kd.R_lit k98 _ 98 ?hg (N := 72) ?hd (xs := ([] : List S98)) (inner := []) (ok := fun _ => True) (okp := fun _ => True) ?hr ?hp (fun _ hk => hk) trivial (Below.refl _ _) (Nat.le_refl _) (by simp) ?_; (case hd => rfl); (case hg => rfl); (case hr => first | (go_simp; done) | (go_simp; rfl)); (case hp => exact (Reps.none _ _)); intro v1 w1_ ho hb hg_ hnew_; have I5 := Aside0.mk (I4.out.below hb); have K5 := Aside0.mk (K4.out.below hb); have HO5 := Aside0.mk ho; have HB5 := Aside0.mk hb; clear ho hb hg_ hnew_) | ((with_reducible refine gate_builtin (b := .append) (xs := #[.tmp 72, .tmp 73]) rfl ?_); at_builtin; refine Kd.R_append_rows k98 (Rr := k98.K w1_) (w0 := w4_) w4_.heap.size rfl (.tmp 72) (.tmp 73) 28 98 (.agg #[(.int .i64 0), (.int .i64 0)]) 16 rfl Tryd.underlying28 info98 rfl (by decide) (by decide) v1 ([] : List S98) ps _ _ _ (fun _ => True) (fun _ => False) rfl rfl ?aO ?aR (fun x cs h => k98_KM _ _ _ _ x cs h) (fun _ h => h.elim) ?aF ?aB ?aS ?aL ?_; (case aR => exact (HPP.out _ K5.out)); (case aB => exact HB5.out); (case aF => exact (fun _ _ => trivial)); (case aO => exact HO5.out); (case aS => exact HB5.out.size); (case aL => (simp only [List.length_nil]; omega)); intro v2 w2_ ho hb hg hat; rw [List.nil_append] at ho; have I6 := Aside0.mk (I4.out.below hb); have K6 := Aside0.mk (K4.out.below hb); have HO6 := Aside0.mk ho; have HB6 := Aside0.mk hb; clear I5 K5 HO5 HB5; clear ho hb hg hat) | ((with_reducible refine gate_builtin (b := .append) (xs := #[.tmp 74, .tmp 78]) rfl ?_); at_builtin; refine Kd.R_append k98 (w0 := w4_) w4_.heap.size rfl (.tmp 74) (.tmp 78) 28 98 (.agg #[(.int .i64 0), (.int .i64 0)]) 16 rfl Tryd.underlying28 info98 rfl (by decide) (by decide) v2 ps (⟨(a : Int), (b : Int)⟩ : S98) [.int .i64 (a : Int), .int .i64 (b : Int)] (fun _ => True) (fun _ => False) rfl rfl ?aP (fun _ hk => hk.elim) ?aF ?aO ?aB ?aS ?aL ?_; (case aP => exact k98_mkM _ _ _ (⟨(a : Int), (b : Int)⟩ : S98)); (case aB => exact HB6.out); (case aF => exact (fun _ _ => trivial)); (case aO => exact HO6.out); (case aS => exact HB6.out.size); (case aL => omega); intro v3 w3_ ho hb hg hat; obtain ⟨Av, cv, ev⟩ := Kd.R_slice ho; rw [List.length_append, List.length_singleton] at ev; subst ev; have I7 := Aside0.mk (I4.out.below hb); have K7 := Aside0.mk (K4.out.below hb); have HO7 := Aside0.mk (R_not3 I4.out.B ho I4.out.lt.1 I4.out.lt.2.1 I4.out.lt.2.2); clear I6 K6 HO6 HB6 I4 K4; clear ho hb hg hat) | ((with_reducible refine gate_callee (f := 128) rfl ?_); (with_reducible refine gate_dst (N := 82) rfl ?_); refine goesL_ (some 82) rfl rfl Tryd.func128 (by kernel_rfl) rfl #[.slice (some ad) T.length ct, .slice (some ⟨gd, 0, none⟩) T.length cd, .slice Av (ps.length + 1) cv, .pointer (some ⟨gc, 0, none⟩), .pointer (some ⟨gf, 0, none⟩)] rfl (by (try simp only [List.map_toArray, List.map_cons, List.map_nil]); first | done | rfl) ?_; (with_reducible refine (IH.out ((d.set a true).set b true) (ps ++ [⟨(a : Int), (b : Int)⟩]) Av cv cd _ vf' _ _ (ps.length + 1) ?l0 ?l1 ?l2 ?l3 ?l4 I7.out ?l5).mono ?_); (case l0 => rw [List.length_append, List.length_singleton]); (case l1 => rw [List.length_set, List.length_set]; exact hdT.out); (case l2 => have := Hfr.out; have := Hfr2.out; omega); (case l3 => rw [List.length_append, List.length_singleton]; omega); (case l4 => have h_ := (Kd.R_reads' HO7.out).2.1; rw [List.length_append, List.length_singleton]; exact h_); (case l5 => have h_ := Kd.C_kept_own HO7.out (fun k hk => hk); rw [List.length_append, List.length_singleton]; exact h_); rintro e w5_ ⟨rfl, hI, hk⟩; refine ⟨_, rfl, ?_⟩; obtain ⟨vf8, hI⟩ := hI; have I8 := Aside0.mk hI; have K8 := Aside0.mk (K7.out.then_ hk (fun k hk => .inl hk)); clear hI hk I7 K7 HO7; have hx8 := (I8.out.cellD b (by have := hdT.out; rw [List.length_set, List.length_set]; omega)).1; have hf8 := (I8.out.cellD b (by have := hdT.out; rw [List.length_set, List.length_set]; omega)).2) | ((with_reducible refine gate_store (t := 4) (p := 85) rfl ?_); refine store_event (t := 4) (p := 85) (v := ?vo_w9_6) (w1 := (w5_.setCell ⟨gd, b, none⟩ (.bool false))) ?hg ?ho ?hn ?hr ?_; (case ho => rfl); (case hg => rfl); (case hn => rfl); (case hr => first | (go_simp; done) | (go_simp; rfl)); intro w9_ hw; have I9 := Aside0.mk (I8.out.setD b false); rw [Hbk.out, ← hw] at I9; have K9 : Aside0 (Kept w w9_ (S3 gd gc gf)) := ⟨by rw [hw]; exact K8.out.setCell (.inl (.inl rfl)) _⟩; clear I8 K8 hx8 hf8; clear hw))
         go_roundw
         case rel => exact ⟨b + 1, by omega, by omega, by go_num, ⟨⟨vf8, by rw [Hs.out, Ha.out, if_pos ⟨by omega, Ht.out, Hdb.out⟩]; exact I9.out⟩⟩, K9⟩
         case measure => simp [intOf]; omega
        ·replace hdb : d.getD b false = true := by cases h_ : d.getD b false with | true => rfl | false => exact absurd h_ hdb
         rw [hdb] at hx5
         have Hdb := Aside0.mk hdb
         clear ht hdb
         have Hs := Aside0.mk (tpLoop_succ T m d ps (c, fs) b)
         go_wp2
         go_roundw
         case rel => exact ⟨b + 1, by omega, by omega, by go_num, ⟨⟨vf', by rw [Hs.out, if_neg (by rw [Hdb.out]; intro h; exact absurd h.2.2 (by decide))]; exact I3.out⟩⟩, K2⟩
         case measure => simp [intOf]; omega
       ·replace ht := Bool.eq_false_iff.mpr ht
        rw [ht] at hx4
        have Ht := Aside0.mk ht
        clear ht
        have Hs := Aside0.mk (tpLoop_succ T m d ps (c, fs) b)
        go_wp2
        go_roundw
        case rel => exact ⟨b + 1, by omega, by omega, by go_num, ⟨⟨vf', by rw [Hs.out, Ha.out, if_neg (by rw [Ht.out]; intro h; exact absurd h.2.1 (by decide))]; exact I3.out⟩⟩, K2⟩
        case measure => simp [intOf]; omega
      ·have hbe : b = T.length := by omega
       subst hbe
       have hdecb : decide (T.length < T.length) = false := by simp
       obtain ⟨vf', I3⟩ := I2.out
       have I3 := Aside0.mk I3
       clear I2
       have hx8 := (I3.out.cellD a (by have := hdT.out; rw [List.length_set]; omega)).1
       have hf8 := (I3.out.cellD a (by have := hdT.out; rw [List.length_set]; omega)).2
       have Hbk := Aside0.mk (show (d.set a true).set a false = d by rw [List.set_set]; exact set_same d a (by have := hdT.out; omega) false (by rw [← Ha.out]; exact Hat.out))
       go_wp2_with (first | ((with_reducible refine gate_store (t := 4) (p := 88) rfl ?_); refine store_event (t := 4) (p := 88) (v := ?vo_w9_7) (w1 := (wr.setCell ⟨gd, a, none⟩ (.bool false))) ?hg ?ho ?hn ?hr ?_; (case ho => rfl); (case hg => rfl); (case hn => rfl); (case hr => first | (go_simp; done) | (go_simp; rfl)); intro w9_ hw; have I9 := Aside0.mk (I3.out.setD a false); rw [Hbk.out, ← hw] at I9; have K9 : Aside0 (Kept w w9_ (S3 gd gc gf)) := ⟨by rw [hw]; exact K2.out.setCell (.inl (.inl rfl)) _⟩; clear I3 K2 hx8 hf8; clear hw))
       refine bodyPost_end (results_none rfl _ _ _) rfl ?_
       refine ⟨rfl, ⟨vf', ?_⟩, K9.out⟩
       rw [Htp.out, hdT.out]
       exact I9.out
end Go.Proofs.YtopahhcojncgaaaDoor.G
namespace Go.Proofs.YtopahhcojncgaaaDoor.G
open Go.RowKit Go.Proofs.YtopahhcojncgaaaDoorW.PrintWords Go.Proofs.YtopahhcojncgaaaDoorW.PrintLast Go.Proofs.YtopahhcojncgaaaDoorW.PrintMore
set_option linter.unusedVariables false
set_option linter.unusedSimpArgs false
theorem own_addr {W : World} {b e s n m c : Nat} {A : Option Addr} {xs : List Value} {g : Nat} (h : W.ownsRow b e s (.slice A n c) m xs) (he : (Value.slice A n c).ownBlock = some g) : A = some ⟨g, 0, none⟩ := by
 rcases h.2 with h2 | ⟨g', cap, cur, e1, _⟩
 ·rw [h2.1] at he; cases he
 ·injection e1 with e1 _ _
  subst e1
  have : g' = g := by simpa [Value.ownBlock] using he
  rw [this]
theorem k98_nil_R (W : World) (b : Nat) (ok : Nat → Prop) : Kd.R k98 98 W b ok (.slice none 0 0) [] := Kd.R_nil _ _ _ _ _
theorem TPI.mk_ {w W : World} {gd gc gf cd base b2 : Nat} {A0 : Option Addr} {ct : Nat} {T : List (List Bool)} {okT okD : Nat → Prop} (hB : Below w.heap.size w W)
  (hT : Kd.R (Kd.slice 4 Kd.bool) 101 W base okT (.slice A0 T.length ct) T) (hok : ∀ k, okT k → base ≤ k → k < W.heap.size → k ≠ gd ∧ k ≠ gc ∧ k ≠ gf)
  (hD : Kd.R Kd.bool 4 W b2 okD (.slice (some ⟨gd, 0, none⟩) T.length cd) (List.replicate T.length false)) (hb2 : w.heap.size ≤ b2)
  (hC : W.heap[gc]? = some (.cells #[.int .i64 0] 3 (0, 0))) (hF : W.heap[gf]? = some (.cells #[.slice none 0 0] 28 (0, 0))) (g1 : w.heap.size ≤ gc) (g2 : w.heap.size ≤ gf) :
  TPI w gd gc gf A0 T W cd (List.replicate T.length false) 0 (.slice none 0 0) [] := by
 have hD1 : gd ≠ gc := by
  have := Kd.R_ne hD hC (by decide)
  intro e; subst e; exact this rfl
 have hD2 : gd ≠ gf := by
  have := Kd.R_ne hD hF (by decide)
  intro e; subst e; exact this rfl
 refine ⟨hB, ?_, ?_, hC, hF, Kd.R_nil _ _ _ _ _, ⟨Nat.le_trans hb2 (Kd.R_base hD gd rfl), g1, g2⟩, ⟨hD1, hD2, blk_ne hC hF (by decide)⟩⟩
 ·refine Kd.C_kept_own (Kd.R_bound hT) (fun k hk => ?_)
  have := hok k hk.1 hk.2.1 hk.2.2.1
  rintro (e | e | e) <;> simp_all
 ·have := Kd.R_lower (Kd.R_mono (Kd.R_tight rfl hD) (fun k hk => (Option.some.inj hk : k = gd))) hb2
  rw [List.length_replicate]
  exact this
def spec_taPairs.f (k : Nat) (a0_0 : Int) (l0_1 : List S98) : Option (Int × List S98) :=
 (spec_paTable.f k a0_0 l0_1).bind fun T => if a0_0 = (T.length : Int) ∧ T.length ≤ 1000 ∧ (∀ r ∈ T, r.length = T.length) then some (tp T (T.length + 1) (List.replicate T.length false) [] (0, [])) else none
theorem spec_taPairs.mono : ∀ a0 a1 k, LeO (spec_taPairs.f k a0 a1) (spec_taPairs.f (k + 1) a0 a1) := fun a0 a1 k => LeO.bind (spec_paTable.mono a0 a1 k) (fun _ => LeO.refl _)
theorem frees_rep (n : Nat) : frees (List.replicate n false) = n := by simp [frees]
set_option maxHeartbeats 4000000 in
set_option maxRecDepth 100000 in
theorem spec_taPairs.calls (k : Nat) (a0_0 : Int) (A0_1 : Option Addr) (c0_1 : Nat) (l0_1 : List (S98)) (r1 : Int) (r2 : List (S98)) (w : World) (hr0_1 : Kd.C k98 w A0_1 l0_1.length l0_1) (hc0_1 : l0_1.length ≤ c0_1) (h : spec_taPairs.f k a0_0 l0_1 = some (r1, r2)) :
  Calls Tryd.prog 67 #[.agg #[.int .i64 a0_0, .slice A0_1 l0_1.length c0_1]] w fun e w' => ∃ v1_ : Value, e = .returned (.tuple #[.int .i64 r1, v1_]) ∧ Kd.R k98 98 w' w.heap.size (fun _ => True) v1_ r2 ∧ Below w.heap.size w w' := by
 have hu30 := Tryd.underlying30
 obtain ⟨T, hT, h2⟩ := Option.bind_eq_some_iff.mp h
 clear h
 split at h2
 ·rename_i hc
  obtain ⟨rfl, hT1, hsq⟩ := hc
  have HR0 := Aside0.mk hr0_1
  have HC0 := Aside0.mk hc0_1
  have HT := Aside0.mk hT
  have Hsq := Aside0.mk hsq
  have H := Aside0.mk (Option.some.inj h2)
  clear hr0_1 hc0_1 hT hsq h2
  go_enter Tryd.func67, Tryd.ntmps67
  go_wp2_with (first | ((with_reducible refine gate_dst (N := 1) rfl ?_); refine box_event ?hg (N := 1) ?hd (cs := #[.int .i64 (T.length : Int), .slice A0_1 l0_1.length c0_1]) (t := 30) ?hr ?_; (case hd => rfl); (case hg => rfl); (case hr => first | (go_simp; done) | (go_simp; rfl)); intro gb hg w1 hbox hb; have HB1 := Aside0.mk hb; have BK1 := Aside0.mk hbox; have Gb := Aside0.mk (show w.heap.size ≤ gb from by rw [hg]; exact Nat.le_refl _); clear hg hbox hb) | ((with_reducible refine gate_dst (N := 4) rfl ?_); refine box_event ?hg (N := 4) ?hd (cs := #[.int .i64 0]) (t := 3) ?hr ?_; (case hd => rfl); (case hg => rfl); (case hr => first | (go_simp; done) | (go_simp; rfl)); intro gc hg w2 hbox hb; have HB2 := Aside0.mk (below_step HB1.out hb); have BK2 := Aside0.mk (blk_below BK1.out hb); have C2 := Aside0.mk hbox; have Gc := Aside0.mk (show w.heap.size ≤ gc from by rw [hg]; exact HB1.out.size); have hcz : w2.cell? ⟨gc, 0, none⟩ = some (.int .i64 0) := (blk_cell C2.out 0).trans rfl; have hfz : w2.frozen? ⟨gc, 0, none⟩ = false := blk_frozen C2.out 0; clear HB1 BK1; clear hg hbox hb) | ((with_reducible refine gate_store (t := 3) (p := 4) rfl ?_); refine store_event (t := 3) (p := 4) (v := ?vo_w2b1) (w1 := (w2.setCell ⟨gc, 0, none⟩ (.int .i64 0))) ?hg ?ho ?hn ?hr ?_; (case ho => rfl); (case hg => rfl); (case hn => rfl); (case hr => first | (go_simp; done) | (go_simp; rfl)); intro w2b hw; have HB2b : Aside0 (Below w.heap.size w w2b) := ⟨by rw [hw]; exact below_set HB2.out Gc.out⟩; have BK2b : Aside0 (w2b.heap[gb]? = some (.cells #[.int .i64 (T.length : Int), .slice A0_1 l0_1.length c0_1] 30 (0, 0))) := ⟨by rw [hw]; exact blk_far BK2.out (blk_ne BK2.out C2.out (by decide)) _⟩; have C2b : Aside0 (w2b.heap[gc]? = some (.cells #[.int .i64 0] 3 (0, 0))) := ⟨by rw [hw]; exact blk_set C2.out 0 _⟩; clear HB2 BK2 C2 hcz hfz; clear hw) | ((with_reducible refine gate_dst (N := 5) rfl ?_); refine box_event ?hg (N := 5) ?hd (cs := #[.slice none 0 0]) (t := 28) ?hr ?_; (case hd => rfl); (case hg => rfl); (case hr => first | (go_simp; done) | (go_simp; rfl)); intro gf hg w3 hbox hb; have HB3 := Aside0.mk (below_step HB2b.out hb); have BK3 := Aside0.mk (blk_below BK2b.out hb); have C3 := Aside0.mk (blk_below C2b.out hb); have F3 := Aside0.mk hbox; have Gf := Aside0.mk (show w.heap.size ≤ gf from by rw [hg]; exact HB2b.out.size); clear HB2b BK2b C2b; clear hg hbox hb))
  refine start_ (n := 6) (S := fun w' => w'.cell? ⟨gb, 0, none⟩ = some (.int .i64 (T.length : Int)) ∧ w'.cell? ⟨gb, 1, none⟩ = some (.slice A0_1 l0_1.length c0_1)) (ds := [5]) #[false, false, false, false, false, false] (by kernel_rfl) rfl rfl ⟨(blk_cell BK3.out 0).trans rfl, (blk_cell BK3.out 1).trans rfl⟩ (fun hHeld => ?_)
  replace HB3 := Aside0.mk (below_drew1 HB3.out)
  replace BK3 := Aside0.mk (blk_drew BK3.out)
  replace C3 := Aside0.mk (blk_drew C3.out)
  replace F3 := Aside0.mk (blk_drew F3.out)
  generalize w3.drew = w4 at HB3 BK3 C3 F3 hHeld ⊢
  refine take_ (i := 0) (N := some 6) (v := ?_) (a' := ?_) #[true, false, false, false, false, false] rfl rfl (by kernel_rfl) (fun _ _ _ h => h) (Or.inl ⟨by rfl, ?_⟩) hHeld ?_ ?_
  rotate_left
  ·rintro w' ⟨s0, s1⟩
   go_simp
   with_reducible rfl
  rotate_left
  ·simp only [Act.put, List.setIfInBounds_toArray, List.set_cons_zero, List.set_cons_succ, i64_w, i32_w]
   rfl
  refine pure_ (i := 2) (N := some 8) (v := ?_) (a' := ?_) #[true, false, true, false, false, false] rfl rfl (by kernel_rfl) (fun _ _ _ h => h) (Or.inl ⟨by rfl, ?_⟩) ?_ ?_
  rotate_left
  ·intro w'
   go_simp
   with_reducible rfl
  rotate_left
  ·simp only [Act.put, List.setIfInBounds_toArray, List.set_cons_zero, List.set_cons_succ, i64_w, i32_w]
   rfl
  refine take_ (i := 3) (N := some 9) (v := ?_) (a' := ?_) #[true, false, true, true, false, false] rfl rfl (by kernel_rfl) (fun _ _ _ h => h) (Or.inl ⟨by rfl, ?_⟩) hHeld ?_ ?_
  rotate_left
  ·rintro w' ⟨s0, s1⟩
   go_simp
   with_reducible rfl
  rotate_left
  ·simp only [Act.put, List.setIfInBounds_toArray, List.set_cons_zero, List.set_cons_succ, i64_w, i32_w]
   rfl
  refine join_ (σ := Value × Value) 1 #[true, true, true, true, true, false] (fun s_ => [(7, s_.1), (10, s_.2)]) (fun s_ w' => ∃ (A0 : Option Addr) (ct gd cd : Nat), s_.1 = .slice A0 T.length ct ∧ T.length ≤ ct ∧ s_.2 = .slice (some ⟨gd, 0, none⟩) T.length cd ∧ TPI w gd gc gf A0 T w' cd (List.replicate T.length false) 0 (.slice none 0 0) []) ?_ ?_
  rotate_left
  ·intro hCont
   refine two_ (i := 1) (j := 4) (Ni := some 7) (Nj := some 10) #[true, true, true, true, false, false] #[true, false, true, true, true, false] rfl rfl rfl rfl (by kernel_rfl) (by decide) (by decide) (fun K hK => ?_) (fun K hK => ?_)
   ·refine goes_ Tryd.func79 (by kernel_rfl) rfl #[.agg #[.int .i64 (T.length : Int), .slice A0_1 l0_1.length c0_1]] (by rfl) rfl rfl (by (try simp only [List.map_toArray, List.map_cons, List.map_nil]); first | done | rfl) ?_
    with_reducible refine (spec_paTable.calls k (T.length : Int) A0_1 c0_1 l0_1 T _ (Kd.C_below HR0.out HB3.out) HC0.out HT.out).mono ?_
    rintro e w5 ⟨v0, rfl, hoT, hbT⟩
    refine ⟨_, rfl, ?_⟩
    refine hK.out _ _ ⟨(blk_cell (blk_below BK3.out hbT) 0).trans rfl, (blk_cell (blk_below BK3.out hbT) 1).trans rfl⟩ (fun hHeld => ?_)
    clear hK K
    refine norm_ (a' := ?_) ?_ ?_
    rotate_left
    ·show Act.put _ (some 7) _ = _
     simp only [Act.put, List.setIfInBounds_toArray, List.set_cons_zero, List.set_cons_succ, i64_w, i32_w]
     rfl
    refine one_ (i := 4) (N := some 10) #[true, true, true, true, true, false] rfl rfl (by kernel_rfl) (by decide) (fun K hK => ?_)
    refine Kd.R_make_step Kd.bool _ 4 (by rfl) (N := 10) rfl 101 _ _ rfl (T.length : Int) rfl rfl Tryd.underlying101 (.bool false) 1 info4 rfl (by decide) (by decide) false (ok := fun _ => True) (okp := fun _ => True) rfl (fun _ h => h) trivial (Int.natCast_nonneg _) (by simp only [Int.toNat_natCast]; omega) (Below.refl _ _) (Nat.le_refl _) ?_
    intro vd w6 hoD hbD hgD hfD
    rw [Int.toNat_natCast] at hoD
    refine hK.out _ _ ⟨(blk_cell (blk_below (blk_below BK3.out hbT) hbD) 0).trans rfl, (blk_cell (blk_below (blk_below BK3.out hbT) hbD) 1).trans rfl⟩ (fun hHeld => ?_)
    clear hK K
    obtain ⟨A0, ct, e0⟩ := Kd.R_slice (Kd.S_R hoT)
    subst e0
    obtain ⟨gd, ed, hgd⟩ := hfD
    obtain ⟨A1, cd, e1⟩ := Kd.R_slice hoD
    subst e1
    obtain ⟨i1, hi1⟩ := Kd.R_own hoD
    obtain rfl : A1 = some ⟨gd, 0, none⟩ := own_addr hi1 ed
    rw [List.length_replicate] at hoD ⊢
    refine hCont (.slice A0 T.length ct, .slice (some ⟨gd, 0, none⟩) T.length cd) _ ⟨A0, ct, gd, cd, rfl, (Kd.R_reads' (Kd.S_R hoT)).2.1, rfl, ?_⟩
    refine TPI.mk_ (below_step (below_step HB3.out hbT) hbD) (Kd.R_bound (Kd.R_below (Kd.R_bound (Kd.S_R hoT)) hbD)) (fun k hk _ _ => ?_) hoD (Nat.le_trans HB3.out.size hbT.size) (blk_below (blk_below C3.out hbT) hbD) (blk_below (blk_below F3.out hbT) hbD) Gc.out Gf.out
    have h1 := hk.1.2.1
    have h2 := hk.1.2.2.1
    have h3 := blk_lt C3.out
    have h4 := blk_lt F3.out
    refine ⟨?_, ?_, ?_⟩ <;> omega
   ·refine Kd.R_make_step Kd.bool _ 4 (by rfl) (N := 10) rfl 101 _ _ rfl (T.length : Int) rfl rfl Tryd.underlying101 (.bool false) 1 info4 rfl (by decide) (by decide) false (ok := fun _ => True) (okp := fun _ => True) rfl (fun _ h => h) trivial (Int.natCast_nonneg _) (by simp only [Int.toNat_natCast]; omega) (Below.refl _ _) (Nat.le_refl _) ?_
    intro vd w6 hoD hbD hgD hfD
    rw [Int.toNat_natCast] at hoD
    refine hK.out _ _ ⟨(blk_cell (blk_below BK3.out hbD) 0).trans rfl, (blk_cell (blk_below BK3.out hbD) 1).trans rfl⟩ (fun hHeld => ?_)
    clear hK K
    refine norm_ (a' := ?_) ?_ ?_
    rotate_left
    ·show Act.put _ (some 10) _ = _
     simp only [Act.put, List.setIfInBounds_toArray, List.set_cons_zero, List.set_cons_succ, i64_w, i32_w]
     rfl
    refine one_ (i := 1) (N := some 7) #[true, true, true, true, true, false] rfl rfl (by kernel_rfl) (by decide) (fun K hK => ?_)
    refine goes_ Tryd.func79 (by kernel_rfl) rfl #[.agg #[.int .i64 (T.length : Int), .slice A0_1 l0_1.length c0_1]] (by rfl) rfl rfl (by (try simp only [List.map_toArray, List.map_cons, List.map_nil]); first | done | rfl) ?_
    with_reducible refine (spec_paTable.calls k (T.length : Int) A0_1 c0_1 l0_1 T _ (Kd.C_below HR0.out (below_step HB3.out hbD)) HC0.out HT.out).mono ?_
    rintro e w5 ⟨v0, rfl, hoT, hbT⟩
    refine ⟨_, rfl, ?_⟩
    refine hK.out _ _ ⟨(blk_cell (blk_below (blk_below BK3.out hbD) hbT) 0).trans rfl, (blk_cell (blk_below (blk_below BK3.out hbD) hbT) 1).trans rfl⟩ (fun hHeld => ?_)
    clear hK K
    obtain ⟨A0, ct, e0⟩ := Kd.R_slice (Kd.S_R hoT)
    subst e0
    obtain ⟨gd, ed, hgd⟩ := hfD
    obtain ⟨A1, cd, e1⟩ := Kd.R_slice hoD
    subst e1
    obtain ⟨i1, hi1⟩ := Kd.R_own hoD
    obtain rfl : A1 = some ⟨gd, 0, none⟩ := own_addr hi1 ed
    rw [List.length_replicate] at hoD ⊢
    refine hCont (.slice A0 T.length ct, .slice (some ⟨gd, 0, none⟩) T.length cd) _ ⟨A0, ct, gd, cd, rfl, (Kd.R_reads' (Kd.S_R hoT)).2.1, rfl, ?_⟩
    have h5 := own_lt hi1 gd rfl
    refine TPI.mk_ (below_step (below_step HB3.out hbD) hbT) (Kd.S_R hoT) (fun k _ hk hk2 => ?_) (Kd.R_below hoD hbT) HB3.out.size (blk_below (blk_below C3.out hbD) hbT) (blk_below (blk_below F3.out hbD) hbT) Gc.out Gf.out
    have h1 := hbD.size
    have h3 := blk_lt C3.out
    have h4 := blk_lt F3.out
    refine ⟨?_, ?_, ?_⟩ <;> omega
  rintro ⟨s1, s2⟩ w7 ⟨A0, ct, gd, cd, e1, hct, e2, hI⟩
  simp only at e1 e2
  subst e1 e2
  have HI := Aside0.mk hI
  clear hI
  refine norm_ (a' := ?_) ?_ ?_
  rotate_left
  ·simp only [putAll, Act.put, List.setIfInBounds_toArray, List.set_cons_zero, List.set_cons_succ, i64_w, i32_w]
   rfl
  refine last_ (i := 5) (N := some 11) #[true, true, true, true, true, true] rfl rfl (by kernel_rfl) (by decide) (fun K hK => ?_)
  refine goes_ Tryd.func128 (by kernel_rfl) rfl #[.slice A0 T.length ct, .slice (some ⟨gd, 0, none⟩) T.length cd, .slice none 0 0, .pointer (some ⟨gc, 0, none⟩), .pointer (some ⟨gf, 0, none⟩)] (by rfl) rfl rfl (by (try simp only [List.map_toArray, List.map_cons, List.map_nil]); first | done | rfl) ?_
  refine (spec_taPair.walk w gd gc gf A0 T ct hct Hsq.out hT1 (T.length + 1) (List.replicate T.length false) [] none 0 cd 0 (.slice none 0 0) [] _ 0 rfl (List.length_replicate ..) (by rw [frees_rep]; omega) (by simp only [List.length_nil]; omega) (Nat.le_refl _) HI.out (fun _ _ => Kd.C_nil _ _)).mono ?_
  rintro e w8 ⟨rfl, ⟨vf, hI⟩, hk⟩
  refine ⟨_, rfl, ?_⟩
  refine hK.out _ _ ?_
  clear hK K
  have I8 := Aside0.mk hI
  clear hI hk HI
  rw [H.out] at I8
  obtain ⟨Av, cv, ev⟩ := Kd.R_slice I8.out.R
  subst ev
  have hcc : w8.cell? ⟨gc, 0, none⟩ = some (.int .i64 r1) := (blk_cell I8.out.C 0).trans rfl
  have hcf : w8.cell? ⟨gf, 0, none⟩ = some (.slice Av r2.length cv) := (blk_cell I8.out.F 0).trans rfl
  refine done_ (by kernel_rfl) ?_
  go_wp2
  go_quiet (fail)
  go_wp2
  go_ret2
  exact ⟨_, rfl, Kd.R_drewN (Kd.R_mono I8.out.R (fun _ _ => trivial)) _, pw_below_drewN I8.out.B _⟩
 ·cases h2
end Go.Proofs.YtopahhcojncgaaaDoor.G
namespace Go.Proofs.YtopahhcojncgaaaDoor.G
open Go.RowKit Go.Proofs.YtopahhcojncgaaaDoorW.PrintWords Go.Proofs.YtopahhcojncgaaaDoorW.PrintLast Go.Proofs.YtopahhcojncgaaaDoorW.PrintMore
attribute [local go_sem] max2_int min2_int max_two min_two max_three min_three max_four min_four
set_option linter.unusedVariables false
set_option linter.unusedSimpArgs false
def spec_FirstPairing.f (k : Nat) (a0_0 : Int) (l0_1 : List (S98)) : Option ((List (S98)) × Bool) := (spec_paGood.f k a0_0 l0_1).bind fun t281 => (if t281 = true then ((spec_taPairs.f k a0_0 l0_1).bind fun bt282 => (some (bt282.2, decide (bt282.1 > 0)))) else (some (([] : List (S98)), false)))
theorem spec_FirstPairing.mono : ∀ a0 a1 k, LeO (spec_FirstPairing.f k a0 a1) (spec_FirstPairing.f (k + 1) a0 a1) := by
 intro a0 a1 k
 unfold spec_FirstPairing.f
 repeat' first
   | (with_reducible exact spec_paGood.mono _ _ _)
   | (with_reducible exact spec_taPairs.mono _ _ _)
   | (with_reducible exact LeO.refl _)
   | (with_reducible exact LeO.none _)
   | (with_reducible refine LeO.ite ?_ ?_)
   | (with_reducible refine LeO.bind ?_ (fun _ => ?_))
   | exact spec_paGood.mono _ _ _
   | exact spec_taPairs.mono _ _ _
   | exact LeO.none _
   | refine LeO.ite ?_ ?_
   | refine LeO.bind ?_ (fun _ => ?_)
set_option maxHeartbeats 8000000 in
set_option maxRecDepth 100000 in
theorem spec_FirstPairing.calls (k : Nat) (a0_0 : Int) (A0_1 : Option Addr) (c0_1 : Nat) (l0_1 : List (S98)) (r1 : List (S98)) (r2 : Bool) (w : World) (hr0_1 : Kd.C k98 w A0_1 l0_1.length l0_1) (hc0_1 : l0_1.length ≤ c0_1) (h : spec_FirstPairing.f k a0_0 l0_1 = some (r1, r2)) :
  Calls Tryd.prog 20 #[.agg #[.int .i64 a0_0, .slice A0_1 l0_1.length c0_1]] w fun e w' => ∃ v0_ : Value, e = .returned (.tuple #[v0_, .bool r2]) ∧ Kd.R k98 98 w' w.heap.size (fun _ => True) v0_ r1 ∧ Below w.heap.size w w' := by
 have hu30 := Tryd.underlying30
 have HR0_1 := Aside0.mk hr0_1
 have HC0_1 := Aside0.mk hc0_1
 clear hr0_1 hc0_1
 have HB := Aside0.mk (Below.refl w.heap.size w)
 have H : ((spec_paGood.f k a0_0 l0_1).bind fun t281 => (if t281 = true then ((spec_taPairs.f k a0_0 l0_1).bind fun bt282 => (some (bt282.2, decide (bt282.1 > 0)))) else (some (([] : List (S98)), false)))) = some (r1, r2) := h
 clear h
 replace H := Option.bind_eq_some_iff.mp H
 obtain ⟨t281, A20, H⟩ := H
 replace H : (if t281 = true then ((spec_taPairs.f k a0_0 l0_1).bind fun bt282 => (some (bt282.2, decide (bt282.1 > 0)))) else (some (([] : List (S98)), false))) = some (r1, r2) := H
 have A2 := Aside0.mk A20
 clear A20
 by_cases c3 : t281 = true
 ·subst c3
  have H1 : ((spec_taPairs.f k a0_0 l0_1).bind fun bt282 => (some (bt282.2, decide (bt282.1 > 0)))) = some (r1, r2) := by rw [if_pos rfl] at H; exact H
  clear H
  have H := H1
  clear H1
  replace H := Option.bind_eq_some_iff.mp H
  obtain ⟨⟨t282, t283⟩, A40, H⟩ := H
  replace H : (some (t283, decide (t282 > 0))) = some (r1, r2) := H
  have A4 := Aside0.mk A40
  clear A40
  simp only [Option.some.injEq, Prod.mk.injEq] at H
  obtain ⟨rfl, rfl⟩ := H
  go_enter Tryd.func20, Tryd.ntmps20
  go_wp2_with (first | ((with_reducible refine gate_dst (N := 1) rfl ?_); refine box_event ?hg (N := 1) ?hd (cs := #[.int .i64 a0_0, .slice A0_1 l0_1.length c0_1]) (t := 30) ?hr ?_; (case hd => rfl); (case hg => rfl); (case hr => first | (go_simp; done) | (go_simp; rfl)); intro gb280 hg w5 hbox hb; have n0_ := Aside0.mk (below_step (by repeat (first | (with_reducible first | exact HB.out | apply below_alloc | apply pw_below_drewN | apply below_drew1) | exact HB.out)) hb); have n1_ := Aside0.mk (hbox); have n2_ := Aside0.mk ((by rw [hg]; exact (below_size (by repeat (first | (with_reducible first | exact HB.out | apply below_alloc | apply pw_below_drewN | apply below_drew1) | exact HB.out))) : w.heap.size ≤ gb280)); have n3_ := Aside0.mk ((by rw [hg]; exact (below_size (by repeat (first | (with_reducible first | exact HB.out | apply below_alloc | apply pw_below_drewN | apply below_drew1) | exact HB.out))) : w.heap.size ≤ gb280)); clear HB; have HB := n0_; have BK280 := n1_; have GW280 := n2_; have GE280 := n3_; clear n0_ n1_ n2_ n3_; clear hb hbox hg; have hcz6_0 : w5.cell? ⟨gb280, 0, none⟩ = some (.int .i64 a0_0) := (blk_cell BK280.out 0).trans rfl; have hcz6_1 : w5.cell? ⟨gb280, 1, none⟩ = some (.slice A0_1 l0_1.length c0_1) := (blk_cell BK280.out 1).trans rfl; have hfz6_0 := blk_frozen BK280.out 0; have hfz6_1 := blk_frozen BK280.out 1) | ((with_reducible refine gate_callee (f := 66) rfl ?_); refine goesL_ (some 7) rfl rfl Tryd.func66 (by kernel_rfl) rfl #[.agg #[.int .i64 a0_0, .slice A0_1 l0_1.length c0_1]] rfl (by (try simp only [List.map_toArray, List.map_cons, List.map_nil]); first | done | rfl | (simp only [List.length_drop, List.length_take]; rfl)) ?_; (with_reducible refine (spec_paGood.calls k a0_0 _ _ l0_1 true _ ?side1 ?side2 A2.out).mono ?_); (case side1 => repeat (first | exact (Kd.C_below HR0_1.out HB.out) | (with_reducible refine Kd.C_alloc ?_ _) | (with_reducible refine Kd.C_drewN ?_ _) | (with_reducible refine Kd.C_drew ?_))); (case side2 => exact HC0_1.out); rintro e w7 ⟨rfl, hb⟩; refine ⟨_, rfl, ?_⟩; have n0_ := Aside0.mk (blk_below (g := gb280) (o := .cells #[.int .i64 a0_0, .slice A0_1 l0_1.length c0_1] 30 (0, 0)) (by (with_reducible repeat (first | refine blk_drewN ?_ _ | refine blk_drew ?_ | refine blk_alloc ?_ _)); exact BK280.out) hb); have n1_ := Aside0.mk (below_step (by repeat (first | (with_reducible first | exact HB.out | apply below_alloc | apply pw_below_drewN | apply below_drew1 | refine below_set ?_ GE280.out) | exact HB.out)) hb); clear BK280; clear HB; have BK280 := n0_; have HB := n1_; clear n0_ n1_; (try clear hb); (try clear hb2); (try clear hk); (try clear hi); have hcz8_0 : w7.cell? ⟨gb280, 0, none⟩ = some (.int .i64 a0_0) := (blk_cell BK280.out 0).trans rfl; have hcz8_1 : w7.cell? ⟨gb280, 1, none⟩ = some (.slice A0_1 l0_1.length c0_1) := (blk_cell BK280.out 1).trans rfl; have hfz8_0 := blk_frozen BK280.out 0; have hfz8_1 := blk_frozen BK280.out 1) | ((with_reducible refine gate_callee (f := 67) rfl ?_); refine goesL_ (some 11) rfl rfl Tryd.func67 (by kernel_rfl) rfl #[.agg #[.int .i64 a0_0, .slice A0_1 l0_1.length c0_1]] rfl (by (try simp only [List.map_toArray, List.map_cons, List.map_nil]); first | done | rfl | (simp only [List.length_drop, List.length_take]; rfl)) ?_; (with_reducible refine (spec_taPairs.calls k a0_0 _ _ l0_1 t282 t283 _ ?side1 ?side2 A4.out).mono ?_); (case side1 => repeat (first | exact (Kd.C_below HR0_1.out HB.out) | (with_reducible refine Kd.C_alloc ?_ _) | (with_reducible refine Kd.C_drewN ?_ _) | (with_reducible refine Kd.C_drew ?_))); (case side2 => exact HC0_1.out); rintro e w9 ⟨v284, rfl, ho0, hb⟩; refine ⟨_, rfl, ?_⟩; have n0_ := Aside0.mk (Kd.R_lower ho0 (below_size (by repeat (first | (with_reducible first | exact HB.out | apply below_alloc | apply pw_below_drewN | apply below_drew1 | refine below_set ?_ GE280.out) | exact HB.out)))); have n1_ := Aside0.mk (blk_below (g := gb280) (o := .cells #[.int .i64 a0_0, .slice A0_1 l0_1.length c0_1] 30 (0, 0)) (by (with_reducible repeat (first | refine blk_drewN ?_ _ | refine blk_drew ?_ | refine blk_alloc ?_ _)); exact BK280.out) hb); have n2_ := Aside0.mk (below_step (by repeat (first | (with_reducible first | exact HB.out | apply below_alloc | apply pw_below_drewN | apply below_drew1 | refine below_set ?_ GE280.out) | exact HB.out)) hb); clear BK280; clear HB; have HO285 := n0_; have BK280 := n1_; have HB := n2_; clear n0_ n1_ n2_; (try clear hb); (try clear hb2); (try clear hk); (try clear hi); (try clear ho0)))
  go_ret2
  exact ⟨_, by first | rfl | (simp [errW_none, errW_some] <;> rfl) | (simp [*, errW_none, errW_some] <;> rfl), by (with_reducible repeat (first | apply Kd.R_alloc | apply Kd.R_drewN | apply Kd.R_drew)); exact HO285.out, by repeat (first | (with_reducible first | exact HB.out | apply below_alloc | apply pw_below_drewN | apply below_drew1 | refine below_set ?_ GE280.out) | exact HB.out)⟩
 ·replace c3 := Bool.eq_false_iff.mpr c3
  subst c3
  have H1 : (some (([] : List (S98)), false)) = some (r1, r2) := by rw [if_neg (show ¬ (false = true) by decide)] at H; exact H
  clear H
  have H := H1
  clear H1
  simp only [Option.some.injEq, Prod.mk.injEq] at H
  obtain ⟨rfl, rfl⟩ := H
  go_enter Tryd.func20, Tryd.ntmps20
  go_wp2_with (first | ((with_reducible refine gate_dst (N := 1) rfl ?_); refine box_event ?hg (N := 1) ?hd (cs := #[.int .i64 a0_0, .slice A0_1 l0_1.length c0_1]) (t := 30) ?hr ?_; (case hd => rfl); (case hg => rfl); (case hr => first | (go_simp; done) | (go_simp; rfl)); intro gb280 hg w10 hbox hb; have n0_ := Aside0.mk (below_step (by repeat (first | (with_reducible first | exact HB.out | apply below_alloc | apply pw_below_drewN | apply below_drew1) | exact HB.out)) hb); have n1_ := Aside0.mk (hbox); have n2_ := Aside0.mk ((by rw [hg]; exact (below_size (by repeat (first | (with_reducible first | exact HB.out | apply below_alloc | apply pw_below_drewN | apply below_drew1) | exact HB.out))) : w.heap.size ≤ gb280)); have n3_ := Aside0.mk ((by rw [hg]; exact (below_size (by repeat (first | (with_reducible first | exact HB.out | apply below_alloc | apply pw_below_drewN | apply below_drew1) | exact HB.out))) : w.heap.size ≤ gb280)); clear HB; have HB := n0_; have BK280 := n1_; have GW280 := n2_; have GE280 := n3_; clear n0_ n1_ n2_ n3_; clear hb hbox hg; have hcz11_0 : w10.cell? ⟨gb280, 0, none⟩ = some (.int .i64 a0_0) := (blk_cell BK280.out 0).trans rfl; have hcz11_1 : w10.cell? ⟨gb280, 1, none⟩ = some (.slice A0_1 l0_1.length c0_1) := (blk_cell BK280.out 1).trans rfl; have hfz11_0 := blk_frozen BK280.out 0; have hfz11_1 := blk_frozen BK280.out 1) | ((with_reducible refine gate_callee (f := 66) rfl ?_); refine goesL_ (some 7) rfl rfl Tryd.func66 (by kernel_rfl) rfl #[.agg #[.int .i64 a0_0, .slice A0_1 l0_1.length c0_1]] rfl (by (try simp only [List.map_toArray, List.map_cons, List.map_nil]); first | done | rfl | (simp only [List.length_drop, List.length_take]; rfl)) ?_; (with_reducible refine (spec_paGood.calls k a0_0 _ _ l0_1 false _ ?side1 ?side2 A2.out).mono ?_); (case side1 => repeat (first | exact (Kd.C_below HR0_1.out HB.out) | (with_reducible refine Kd.C_alloc ?_ _) | (with_reducible refine Kd.C_drewN ?_ _) | (with_reducible refine Kd.C_drew ?_))); (case side2 => exact HC0_1.out); rintro e w12 ⟨rfl, hb⟩; refine ⟨_, rfl, ?_⟩; have n0_ := Aside0.mk (blk_below (g := gb280) (o := .cells #[.int .i64 a0_0, .slice A0_1 l0_1.length c0_1] 30 (0, 0)) (by (with_reducible repeat (first | refine blk_drewN ?_ _ | refine blk_drew ?_ | refine blk_alloc ?_ _)); exact BK280.out) hb); have n1_ := Aside0.mk (below_step (by repeat (first | (with_reducible first | exact HB.out | apply below_alloc | apply pw_below_drewN | apply below_drew1 | refine below_set ?_ GE280.out) | exact HB.out)) hb); clear BK280; clear HB; have BK280 := n0_; have HB := n1_; clear n0_ n1_; (try clear hb); (try clear hb2); (try clear hk); (try clear hi)))
  go_ret2
  exact ⟨_, by first | rfl | (simp [errW_none, errW_some] <;> rfl) | (simp [*, errW_none, errW_some] <;> rfl), by first | exact Kd.R_nil _ _ _ _ _ | exact Kd.N_nil _ _ _ _ _ | exact Kd.V_nil _ _ _ _ _ | exact Kd.Q_nil _ _ _ _ _ | exact Kd.S_nil _ _ _ _ _, by repeat (first | (with_reducible first | exact HB.out | apply below_alloc | apply pw_below_drewN | apply below_drew1 | refine below_set ?_ GE280.out) | exact HB.out)⟩
end Go.Proofs.YtopahhcojncgaaaDoor.G
namespace Go.Proofs.YtopahhcojncgaaaDoor.G
open Go.RowKit Go.Proofs.YtopahhcojncgaaaDoorW.PrintWords Go.Proofs.YtopahhcojncgaaaDoorW.PrintLast Go.Proofs.YtopahhcojncgaaaDoorW.PrintMore
attribute [local go_sem] max2_int min2_int max_two min_two max_three min_three max_four min_four
set_option linter.unusedVariables false
set_option linter.unusedSimpArgs false
def impl_FirstPairing.f (k : Nat) (a0_0 : Int) (l0_1 : List (S98)) : Option ((List (S98)) × Bool) := (impl_MostInPairs.f k a0_0 l0_1).bind fun bt292 => (if bt292.2 = true then (if (wrap64 (2 * (bt292.1.length : Int))) < a0_0 then (some (([] : List (S98)), false)) else (some (bt292.1, true))) else (some (([] : List (S98)), false)))
theorem impl_FirstPairing.mono : ∀ a0 a1 k, LeO (impl_FirstPairing.f k a0 a1) (impl_FirstPairing.f (k + 1) a0 a1) := by
 intro a0 a1 k
 unfold impl_FirstPairing.f
 repeat' first
   | (with_reducible exact impl_MostInPairs.mono _ _ _)
   | (with_reducible exact LeO.refl _)
   | (with_reducible exact LeO.none _)
   | (with_reducible refine LeO.ite ?_ ?_)
   | (with_reducible refine LeO.bind ?_ (fun _ => ?_))
   | exact impl_MostInPairs.mono _ _ _
   | exact LeO.none _
   | refine LeO.ite ?_ ?_
   | refine LeO.bind ?_ (fun _ => ?_)
set_option maxHeartbeats 8000000 in
set_option maxRecDepth 100000 in
theorem impl_FirstPairing.calls (k : Nat) (a0_0 : Int) (A0_1 : Option Addr) (c0_1 : Nat) (l0_1 : List (S98)) (r1 : List (S98)) (r2 : Bool) (w : World) (hG : Laid32 w) (hr0_1 : Kd.C k98 w A0_1 l0_1.length l0_1) (hc0_1 : l0_1.length ≤ c0_1) (h : impl_FirstPairing.f k a0_0 l0_1 = some (r1, r2)) :
  Calls Tryd.prog 21 #[.agg #[.int .i64 a0_0, .slice A0_1 l0_1.length c0_1]] w fun e w' => ∃ v0_ : Value, e = .returned (.tuple #[v0_, .bool r2]) ∧ Kd.R k98 98 w' w.heap.size (fun _ => True) v0_ r1 ∧ Below w.heap.size w w' := by
 have hu30 := Tryd.underlying30
 have HG := Aside0.mk hG
 clear hG
 have HR0_1 := Aside0.mk hr0_1
 have HC0_1 := Aside0.mk hc0_1
 clear hr0_1 hc0_1
 have HB := Aside0.mk (Below.refl w.heap.size w)
 have H : ((impl_MostInPairs.f k a0_0 l0_1).bind fun bt292 => (if bt292.2 = true then (if (wrap64 (2 * (bt292.1.length : Int))) < a0_0 then (some (([] : List (S98)), false)) else (some (bt292.1, true))) else (some (([] : List (S98)), false)))) = some (r1, r2) := h
 clear h
 replace H := Option.bind_eq_some_iff.mp H
 obtain ⟨⟨t292, t295⟩, A20, H⟩ := H
 replace H : (if t295 = true then (if (wrap64 (2 * (t292.length : Int))) < a0_0 then (some (([] : List (S98)), false)) else (some (t292, true))) else (some (([] : List (S98)), false))) = some (r1, r2) := H
 have A2 := Aside0.mk A20
 clear A20
 by_cases c3 : t295 = true
 ·subst c3
  have H1 : (if (wrap64 (2 * (t292.length : Int))) < a0_0 then (some (([] : List (S98)), false)) else (some (t292, true))) = some (r1, r2) := by rw [if_pos rfl] at H; exact H
  clear H
  have H := H1
  clear H1
  by_cases c4 : (wrap64 (2 * (t292.length : Int))) < a0_0
  ·rw [if_pos c4] at H
   have c4b0 : decide ((wrap64 (2 * (t292.length : Int))) < a0_0) = true := decide_eq_true c4
   clear c4
   simp only [Option.some.injEq, Prod.mk.injEq] at H
   obtain ⟨rfl, rfl⟩ := H
   go_enter Tryd.func21, Tryd.ntmps21
   go_wp2_with (first | ((with_reducible refine gate_dst (N := 1) rfl ?_); (try (refine gate_guard (by rfl) ?_; dsimp only)); refine box_event ?hg (N := 1) ?hd (cs := #[.int .i64 a0_0, .slice A0_1 l0_1.length c0_1]) (t := 30) ?hr ?_; (case hd => rfl); (case hg => rfl); (case hr => first | (go_simp; done) | (go_simp; rfl)); intro gb291 hg w5 hbox hb; have n0_ := Aside0.mk (below_step (by repeat (first | (with_reducible first | exact HB.out | apply below_alloc | apply pw_below_drewN | apply below_drew1) | exact HB.out)) hb); have n1_ := Aside0.mk (hbox); have n2_ := Aside0.mk ((by rw [hg]; exact (below_size (by repeat (first | (with_reducible first | exact HB.out | apply below_alloc | apply pw_below_drewN | apply below_drew1) | exact HB.out))) : w.heap.size ≤ gb291)); have n3_ := Aside0.mk ((by rw [hg]; exact (below_size (by repeat (first | (with_reducible first | exact HB.out | apply below_alloc | apply pw_below_drewN | apply below_drew1) | exact HB.out))) : w.heap.size ≤ gb291)); clear HB; have HB := n0_; have BK291 := n1_; have GW291 := n2_; have GE291 := n3_; clear n0_ n1_ n2_ n3_; clear hb hbox hg; have hcz6_0 : w5.cell? ⟨gb291, 0, none⟩ = some (.int .i64 a0_0) := (blk_cell BK291.out 0).trans rfl; have hcz6_1 : w5.cell? ⟨gb291, 1, none⟩ = some (.slice A0_1 l0_1.length c0_1) := (blk_cell BK291.out 1).trans rfl; have hfz6_0 := blk_frozen BK291.out 0; have hfz6_1 := blk_frozen BK291.out 1) | ((with_reducible refine gate_callee (f := 27) rfl ?_); refine goesL_ (some 8) rfl rfl Tryd.func27 (by kernel_rfl) rfl #[.agg #[.int .i64 a0_0, .slice A0_1 l0_1.length c0_1]] rfl (by (try simp only [List.map_toArray, List.map_cons, List.map_nil]); first | done | rfl | (simp only [List.length_drop, List.length_take]; rfl)) ?_; (with_reducible refine (impl_MostInPairs.calls k a0_0 _ _ l0_1 t292 true _ ?side1 ?side2 ?side3 A2.out).mono ?_); (case side1 => first | exact HG.out | exact Laid32.drewN HG.out _ | exact Laid32.drew HG.out | exact (Laid32.drewN HG.out _).drewN _ | exact Laid32.below HG.out (by repeat (first | (with_reducible first | exact HB.out | apply below_alloc | apply pw_below_drewN | apply below_drew1 | refine below_set ?_ GE291.out) | exact HB.out))); (case side2 => repeat (first | exact (Kd.C_below HR0_1.out HB.out) | (with_reducible refine Kd.C_alloc ?_ _) | (with_reducible refine Kd.C_drewN ?_ _) | (with_reducible refine Kd.C_drew ?_))); (case side3 => exact HC0_1.out); rintro e w7 ⟨v293, rfl, ho0, hb⟩; refine ⟨_, rfl, ?_⟩; have n0_ := Aside0.mk (Kd.R_lower ho0 (below_size (by repeat (first | (with_reducible first | exact HB.out | apply below_alloc | apply pw_below_drewN | apply below_drew1 | refine below_set ?_ GE291.out) | exact HB.out)))); have n1_ := Aside0.mk (blk_below (g := gb291) (o := .cells #[.int .i64 a0_0, .slice A0_1 l0_1.length c0_1] 30 (0, 0)) (by (with_reducible repeat (first | refine blk_drewN ?_ _ | refine blk_drew ?_ | refine blk_alloc ?_ _)); exact BK291.out) hb); have n2_ := Aside0.mk (below_step (by repeat (first | (with_reducible first | exact HB.out | apply below_alloc | apply pw_below_drewN | apply below_drew1 | refine below_set ?_ GE291.out) | exact HB.out)) hb); clear BK291; clear HB; have HO294 := n0_; have BK291 := n1_; have HB := n2_; clear n0_ n1_ n2_; (try clear hb); (try clear hb2); (try clear hk); (try clear hi); (try clear ho0); obtain ⟨Ao8, co8, eo8⟩ := Kd.R_slice HO294.out; subst eo8; have hcz9_0 : w7.cell? ⟨gb291, 0, none⟩ = some (.int .i64 a0_0) := (blk_cell BK291.out 0).trans rfl; have hcz9_1 : w7.cell? ⟨gb291, 1, none⟩ = some (.slice A0_1 l0_1.length c0_1) := (blk_cell BK291.out 1).trans rfl; have hfz9_0 := blk_frozen BK291.out 0; have hfz9_1 := blk_frozen BK291.out 1))
   go_ret2
   exact ⟨_, by first | rfl | (simp [errW_none, errW_some] <;> rfl) | (simp [*, errW_none, errW_some] <;> rfl), by first | exact Kd.R_nil _ _ _ _ _ | exact Kd.N_nil _ _ _ _ _ | exact Kd.V_nil _ _ _ _ _ | exact Kd.Q_nil _ _ _ _ _ | exact Kd.S_nil _ _ _ _ _, by repeat (first | (with_reducible first | exact HB.out | apply below_alloc | apply pw_below_drewN | apply below_drew1 | refine below_set ?_ GE291.out) | exact HB.out)⟩
  ·rw [if_neg c4] at H
   have c4b0 : decide ((wrap64 (2 * (t292.length : Int))) < a0_0) = false := decide_eq_false c4
   clear c4
   simp only [Option.some.injEq, Prod.mk.injEq] at H
   obtain ⟨rfl, rfl⟩ := H
   go_enter Tryd.func21, Tryd.ntmps21
   go_wp2_with (first | ((with_reducible refine gate_dst (N := 1) rfl ?_); (try (refine gate_guard (by rfl) ?_; dsimp only)); refine box_event ?hg (N := 1) ?hd (cs := #[.int .i64 a0_0, .slice A0_1 l0_1.length c0_1]) (t := 30) ?hr ?_; (case hd => rfl); (case hg => rfl); (case hr => first | (go_simp; done) | (go_simp; rfl)); intro gb291 hg w10 hbox hb; have n0_ := Aside0.mk (below_step (by repeat (first | (with_reducible first | exact HB.out | apply below_alloc | apply pw_below_drewN | apply below_drew1) | exact HB.out)) hb); have n1_ := Aside0.mk (hbox); have n2_ := Aside0.mk ((by rw [hg]; exact (below_size (by repeat (first | (with_reducible first | exact HB.out | apply below_alloc | apply pw_below_drewN | apply below_drew1) | exact HB.out))) : w.heap.size ≤ gb291)); have n3_ := Aside0.mk ((by rw [hg]; exact (below_size (by repeat (first | (with_reducible first | exact HB.out | apply below_alloc | apply pw_below_drewN | apply below_drew1) | exact HB.out))) : w.heap.size ≤ gb291)); clear HB; have HB := n0_; have BK291 := n1_; have GW291 := n2_; have GE291 := n3_; clear n0_ n1_ n2_ n3_; clear hb hbox hg; have hcz11_0 : w10.cell? ⟨gb291, 0, none⟩ = some (.int .i64 a0_0) := (blk_cell BK291.out 0).trans rfl; have hcz11_1 : w10.cell? ⟨gb291, 1, none⟩ = some (.slice A0_1 l0_1.length c0_1) := (blk_cell BK291.out 1).trans rfl; have hfz11_0 := blk_frozen BK291.out 0; have hfz11_1 := blk_frozen BK291.out 1) | ((with_reducible refine gate_callee (f := 27) rfl ?_); refine goesL_ (some 8) rfl rfl Tryd.func27 (by kernel_rfl) rfl #[.agg #[.int .i64 a0_0, .slice A0_1 l0_1.length c0_1]] rfl (by (try simp only [List.map_toArray, List.map_cons, List.map_nil]); first | done | rfl | (simp only [List.length_drop, List.length_take]; rfl)) ?_; (with_reducible refine (impl_MostInPairs.calls k a0_0 _ _ l0_1 t292 true _ ?side1 ?side2 ?side3 A2.out).mono ?_); (case side1 => first | exact HG.out | exact Laid32.drewN HG.out _ | exact Laid32.drew HG.out | exact (Laid32.drewN HG.out _).drewN _ | exact Laid32.below HG.out (by repeat (first | (with_reducible first | exact HB.out | apply below_alloc | apply pw_below_drewN | apply below_drew1 | refine below_set ?_ GE291.out) | exact HB.out))); (case side2 => repeat (first | exact (Kd.C_below HR0_1.out HB.out) | (with_reducible refine Kd.C_alloc ?_ _) | (with_reducible refine Kd.C_drewN ?_ _) | (with_reducible refine Kd.C_drew ?_))); (case side3 => exact HC0_1.out); rintro e w12 ⟨v293, rfl, ho0, hb⟩; refine ⟨_, rfl, ?_⟩; have n0_ := Aside0.mk (Kd.R_lower ho0 (below_size (by repeat (first | (with_reducible first | exact HB.out | apply below_alloc | apply pw_below_drewN | apply below_drew1 | refine below_set ?_ GE291.out) | exact HB.out)))); have n1_ := Aside0.mk (blk_below (g := gb291) (o := .cells #[.int .i64 a0_0, .slice A0_1 l0_1.length c0_1] 30 (0, 0)) (by (with_reducible repeat (first | refine blk_drewN ?_ _ | refine blk_drew ?_ | refine blk_alloc ?_ _)); exact BK291.out) hb); have n2_ := Aside0.mk (below_step (by repeat (first | (with_reducible first | exact HB.out | apply below_alloc | apply pw_below_drewN | apply below_drew1 | refine below_set ?_ GE291.out) | exact HB.out)) hb); clear BK291; clear HB; have HO294 := n0_; have BK291 := n1_; have HB := n2_; clear n0_ n1_ n2_; (try clear hb); (try clear hb2); (try clear hk); (try clear hi); (try clear ho0); obtain ⟨Ao13, co13, eo13⟩ := Kd.R_slice HO294.out; subst eo13; have hcz14_0 : w12.cell? ⟨gb291, 0, none⟩ = some (.int .i64 a0_0) := (blk_cell BK291.out 0).trans rfl; have hcz14_1 : w12.cell? ⟨gb291, 1, none⟩ = some (.slice A0_1 l0_1.length c0_1) := (blk_cell BK291.out 1).trans rfl; have hfz14_0 := blk_frozen BK291.out 0; have hfz14_1 := blk_frozen BK291.out 1))
   go_ret2
   exact ⟨_, by first | rfl | (simp [errW_none, errW_some] <;> rfl) | (simp [*, errW_none, errW_some] <;> rfl), by (with_reducible repeat (first | apply Kd.R_alloc | apply Kd.R_drewN | apply Kd.R_drew)); exact HO294.out, by repeat (first | (with_reducible first | exact HB.out | apply below_alloc | apply pw_below_drewN | apply below_drew1 | refine below_set ?_ GE291.out) | exact HB.out)⟩
 ·replace c3 := Bool.eq_false_iff.mpr c3
  subst c3
  have H1 : (some (([] : List (S98)), false)) = some (r1, r2) := by rw [if_neg (show ¬ (false = true) by decide)] at H; exact H
  clear H
  have H := H1
  clear H1
  simp only [Option.some.injEq, Prod.mk.injEq] at H
  obtain ⟨rfl, rfl⟩ := H
  go_enter Tryd.func21, Tryd.ntmps21
  go_wp2_with (first | ((with_reducible refine gate_dst (N := 1) rfl ?_); (try (refine gate_guard (by rfl) ?_; dsimp only)); refine box_event ?hg (N := 1) ?hd (cs := #[.int .i64 a0_0, .slice A0_1 l0_1.length c0_1]) (t := 30) ?hr ?_; (case hd => rfl); (case hg => rfl); (case hr => first | (go_simp; done) | (go_simp; rfl)); intro gb291 hg w15 hbox hb; have n0_ := Aside0.mk (below_step (by repeat (first | (with_reducible first | exact HB.out | apply below_alloc | apply pw_below_drewN | apply below_drew1) | exact HB.out)) hb); have n1_ := Aside0.mk (hbox); have n2_ := Aside0.mk ((by rw [hg]; exact (below_size (by repeat (first | (with_reducible first | exact HB.out | apply below_alloc | apply pw_below_drewN | apply below_drew1) | exact HB.out))) : w.heap.size ≤ gb291)); have n3_ := Aside0.mk ((by rw [hg]; exact (below_size (by repeat (first | (with_reducible first | exact HB.out | apply below_alloc | apply pw_below_drewN | apply below_drew1) | exact HB.out))) : w.heap.size ≤ gb291)); clear HB; have HB := n0_; have BK291 := n1_; have GW291 := n2_; have GE291 := n3_; clear n0_ n1_ n2_ n3_; clear hb hbox hg; have hcz16_0 : w15.cell? ⟨gb291, 0, none⟩ = some (.int .i64 a0_0) := (blk_cell BK291.out 0).trans rfl; have hcz16_1 : w15.cell? ⟨gb291, 1, none⟩ = some (.slice A0_1 l0_1.length c0_1) := (blk_cell BK291.out 1).trans rfl; have hfz16_0 := blk_frozen BK291.out 0; have hfz16_1 := blk_frozen BK291.out 1) | ((with_reducible refine gate_callee (f := 27) rfl ?_); refine goesL_ (some 8) rfl rfl Tryd.func27 (by kernel_rfl) rfl #[.agg #[.int .i64 a0_0, .slice A0_1 l0_1.length c0_1]] rfl (by (try simp only [List.map_toArray, List.map_cons, List.map_nil]); first | done | rfl | (simp only [List.length_drop, List.length_take]; rfl)) ?_; (with_reducible refine (impl_MostInPairs.calls k a0_0 _ _ l0_1 t292 false _ ?side1 ?side2 ?side3 A2.out).mono ?_); (case side1 => first | exact HG.out | exact Laid32.drewN HG.out _ | exact Laid32.drew HG.out | exact (Laid32.drewN HG.out _).drewN _ | exact Laid32.below HG.out (by repeat (first | (with_reducible first | exact HB.out | apply below_alloc | apply pw_below_drewN | apply below_drew1 | refine below_set ?_ GE291.out) | exact HB.out))); (case side2 => repeat (first | exact (Kd.C_below HR0_1.out HB.out) | (with_reducible refine Kd.C_alloc ?_ _) | (with_reducible refine Kd.C_drewN ?_ _) | (with_reducible refine Kd.C_drew ?_))); (case side3 => exact HC0_1.out); rintro e w17 ⟨v293, rfl, ho0, hb⟩; refine ⟨_, rfl, ?_⟩; have n0_ := Aside0.mk (Kd.R_lower ho0 (below_size (by repeat (first | (with_reducible first | exact HB.out | apply below_alloc | apply pw_below_drewN | apply below_drew1 | refine below_set ?_ GE291.out) | exact HB.out)))); have n1_ := Aside0.mk (blk_below (g := gb291) (o := .cells #[.int .i64 a0_0, .slice A0_1 l0_1.length c0_1] 30 (0, 0)) (by (with_reducible repeat (first | refine blk_drewN ?_ _ | refine blk_drew ?_ | refine blk_alloc ?_ _)); exact BK291.out) hb); have n2_ := Aside0.mk (below_step (by repeat (first | (with_reducible first | exact HB.out | apply below_alloc | apply pw_below_drewN | apply below_drew1 | refine below_set ?_ GE291.out) | exact HB.out)) hb); clear BK291; clear HB; have HO294 := n0_; have BK291 := n1_; have HB := n2_; clear n0_ n1_ n2_; (try clear hb); (try clear hb2); (try clear hk); (try clear hi); (try clear ho0)))
  go_ret2
  exact ⟨_, by first | rfl | (simp [errW_none, errW_some] <;> rfl) | (simp [*, errW_none, errW_some] <;> rfl), by first | exact Kd.R_nil _ _ _ _ _ | exact Kd.N_nil _ _ _ _ _ | exact Kd.V_nil _ _ _ _ _ | exact Kd.Q_nil _ _ _ _ _ | exact Kd.S_nil _ _ _ _ _, by repeat (first | (with_reducible first | exact HB.out | apply below_alloc | apply pw_below_drewN | apply below_drew1 | refine below_set ?_ GE291.out) | exact HB.out)⟩
end Go.Proofs.YtopahhcojncgaaaDoor.G
namespace Go.Proofs.YtopahhcojncgaaaDoor.G
open Go.RowKit Go.Proofs.YtopahhcojncgaaaDoorW.PrintWords Go.Proofs.YtopahhcojncgaaaDoorW.PrintLast Go.Proofs.YtopahhcojncgaaaDoorW.PrintMore
attribute [local go_sem] max2_int min2_int max_two min_two max_three min_three max_four min_four
set_option linter.unusedVariables false
set_option linter.unusedSimpArgs false
mutual
def laws_FnExactFirstPairing.j0 : Nat → List (S98) → Bool → List (S98) → Bool → Bool → Int → List (S144) → Int → List (S98) → Option (Bool)
 | 0, _, _, _, _, _, _, _, _, _ => none
 | k + 1, x4, x5, x7, x8, x40, x304000, x304001, x318000, x318001 => if x40 = true then (some false) else ((laws_toParty.f k x304000 x304001).bind fun bt323 => ((laws_eqParty.f k x318000 x318001 bt323.1 bt323.2).bind fun t327 => (if t327 = true then ((laws_markParty.f k x318000 x318001 1).bind fun bt328 => (if bt328.1 < 0 then (laws_FnExactFirstPairing.j1 k x4 x5 x7 true x304000 x304001) else ((laws_eqPairS.f k x7 x4).bind fun t330 => (if t330 = true then (laws_FnExactFirstPairing.j1 k x4 x5 x7 (x8 != x5) x304000 x304001) else (laws_FnExactFirstPairing.j1 k x4 x5 x7 true x304000 x304001))))) else (some false))))
def laws_FnExactFirstPairing.j1 : Nat → List (S98) → Bool → List (S98) → Bool → Int → List (S144) → Option (Bool)
 | 0, _, _, _, _, _, _ => none
 | k + 1, x4, x5, x7, x61, x304000, x304001 => if x61 = true then (some false) else ((laws_markPairS.f k x7 1).bind fun bt331 => ((laws_heldPairS.f k bt331.2 1).bind fun t333 => (if t333 < 0 then (some false) else (if t333 = bt331.1 then ((laws_toParty.f k x304000 x304001).bind fun bt334 => ((impl_FirstPairing.f k bt334.1 bt334.2).bind fun bt338 => ((laws_eqPairS.f k bt338.1 x4).bind fun t342 => (if t342 = true then (laws_FnExactFirstPairing.j2 k bt331.2 bt331.1 (bt338.2 != x5)) else (laws_FnExactFirstPairing.j2 k bt331.2 bt331.1 true))))) else (some false)))))
def laws_FnExactFirstPairing.j2 : Nat → List (S98) → Int → Bool → Option (Bool)
 | 0, _, _, _ => none
 | k + 1, x7, x10, x87 => if x87 = true then (some false) else ((laws_heldPairS.f k x7 1).bind fun t343 => (if t343 < 0 then (some false) else (if t343 = x10 then (some true) else (some false))))
end
def laws_FnExactFirstPairing.f (k : Nat) (a0_0 : Int) (l0_1 : List (S144)) : Option (Bool) := (laws_szParty.f a0_0 l0_1 1048576).bind fun t304 => (if t304 < 0 then (some true) else ((laws_toParty.f k a0_0 l0_1).bind fun bt305 => ((spec_FirstPairing.f k bt305.1 bt305.2).bind fun bt309 => ((laws_toParty.f k a0_0 l0_1).bind fun bt313 => ((impl_FirstPairing.f k bt313.1 bt313.2).bind fun bt318 => ((laws_eqPairS.f k bt318.1 bt309.1).bind fun t322 => (if t322 = true then (laws_FnExactFirstPairing.j0 k bt309.1 bt309.2 bt318.1 bt318.2 (bt318.2 != bt309.2) a0_0 l0_1 bt313.1 bt313.2) else (laws_FnExactFirstPairing.j0 k bt309.1 bt309.2 bt318.1 bt318.2 true a0_0 l0_1 bt313.1 bt313.2))))))))
theorem laws_FnExactFirstPairing.mono_l : ∀ k, (∀ y0 y1 y2 y3 y4 y5 y6 y7 y8, LeO (laws_FnExactFirstPairing.j0 k y0 y1 y2 y3 y4 y5 y6 y7 y8) (laws_FnExactFirstPairing.j0 (k + 1) y0 y1 y2 y3 y4 y5 y6 y7 y8)) ∧ (∀ y0 y1 y2 y3 y4 y5, LeO (laws_FnExactFirstPairing.j1 k y0 y1 y2 y3 y4 y5) (laws_FnExactFirstPairing.j1 (k + 1) y0 y1 y2 y3 y4 y5)) ∧ (∀ y0 y1 y2, LeO (laws_FnExactFirstPairing.j2 k y0 y1 y2) (laws_FnExactFirstPairing.j2 (k + 1) y0 y1 y2))
 | 0 => ⟨fun _ _ _ _ _ _ _ _ _ r h => by simp [laws_FnExactFirstPairing.j0] at h, fun _ _ _ _ _ _ r h => by simp [laws_FnExactFirstPairing.j1] at h, fun _ _ _ r h => by simp [laws_FnExactFirstPairing.j2] at h⟩
 | k + 1 => by
  obtain ⟨ih0, ih1, ih2⟩ := laws_FnExactFirstPairing.mono_l k
  refine ⟨?_, ?_, ?_⟩
  ·intro y0 y1 y2 y3 y4 y5 y6 y7 y8
   unfold laws_FnExactFirstPairing.j0
   repeat' first
   | (with_reducible exact ih0 _ _ _ _ _ _ _ _ _)
   | (with_reducible exact ih1 _ _ _ _ _ _)
   | (with_reducible exact ih2 _ _ _)
   | (with_reducible exact impl_FirstPairing.mono _ _ _)
   | (with_reducible exact laws_eqPairS.mono _ _ _)
   | (with_reducible exact laws_eqParty.mono _ _ _ _ _)
   | (with_reducible exact laws_heldPairS.mono _ _ _)
   | (with_reducible exact laws_markPairS.mono _ _ _)
   | (with_reducible exact laws_markParty.mono _ _ _ _)
   | (with_reducible exact laws_toParty.mono _ _ _)
   | (with_reducible exact spec_FirstPairing.mono _ _ _)
   | (with_reducible exact LeO.refl _)
   | (with_reducible exact LeO.none _)
   | (with_reducible refine LeO.ite ?_ ?_)
   | (with_reducible refine LeO.bind ?_ (fun _ => ?_))
   | exact ih0 _ _ _ _ _ _ _ _ _
   | exact ih1 _ _ _ _ _ _
   | exact ih2 _ _ _
   | exact impl_FirstPairing.mono _ _ _
   | exact laws_eqPairS.mono _ _ _
   | exact laws_eqParty.mono _ _ _ _ _
   | exact laws_heldPairS.mono _ _ _
   | exact laws_markPairS.mono _ _ _
   | exact laws_markParty.mono _ _ _ _
   | exact laws_toParty.mono _ _ _
   | exact spec_FirstPairing.mono _ _ _
   | exact LeO.none _
   | refine LeO.ite ?_ ?_
   | refine LeO.bind ?_ (fun _ => ?_)
  ·intro y0 y1 y2 y3 y4 y5
   unfold laws_FnExactFirstPairing.j1
   repeat' first
   | (with_reducible exact ih0 _ _ _ _ _ _ _ _ _)
   | (with_reducible exact ih1 _ _ _ _ _ _)
   | (with_reducible exact ih2 _ _ _)
   | (with_reducible exact impl_FirstPairing.mono _ _ _)
   | (with_reducible exact laws_eqPairS.mono _ _ _)
   | (with_reducible exact laws_eqParty.mono _ _ _ _ _)
   | (with_reducible exact laws_heldPairS.mono _ _ _)
   | (with_reducible exact laws_markPairS.mono _ _ _)
   | (with_reducible exact laws_markParty.mono _ _ _ _)
   | (with_reducible exact laws_toParty.mono _ _ _)
   | (with_reducible exact spec_FirstPairing.mono _ _ _)
   | (with_reducible exact LeO.refl _)
   | (with_reducible exact LeO.none _)
   | (with_reducible refine LeO.ite ?_ ?_)
   | (with_reducible refine LeO.bind ?_ (fun _ => ?_))
   | exact ih0 _ _ _ _ _ _ _ _ _
   | exact ih1 _ _ _ _ _ _
   | exact ih2 _ _ _
   | exact impl_FirstPairing.mono _ _ _
   | exact laws_eqPairS.mono _ _ _
   | exact laws_eqParty.mono _ _ _ _ _
   | exact laws_heldPairS.mono _ _ _
   | exact laws_markPairS.mono _ _ _
   | exact laws_markParty.mono _ _ _ _
   | exact laws_toParty.mono _ _ _
   | exact spec_FirstPairing.mono _ _ _
   | exact LeO.none _
   | refine LeO.ite ?_ ?_
   | refine LeO.bind ?_ (fun _ => ?_)
  ·intro y0 y1 y2
   unfold laws_FnExactFirstPairing.j2
   repeat' first
   | (with_reducible exact ih0 _ _ _ _ _ _ _ _ _)
   | (with_reducible exact ih1 _ _ _ _ _ _)
   | (with_reducible exact ih2 _ _ _)
   | (with_reducible exact impl_FirstPairing.mono _ _ _)
   | (with_reducible exact laws_eqPairS.mono _ _ _)
   | (with_reducible exact laws_eqParty.mono _ _ _ _ _)
   | (with_reducible exact laws_heldPairS.mono _ _ _)
   | (with_reducible exact laws_markPairS.mono _ _ _)
   | (with_reducible exact laws_markParty.mono _ _ _ _)
   | (with_reducible exact laws_toParty.mono _ _ _)
   | (with_reducible exact spec_FirstPairing.mono _ _ _)
   | (with_reducible exact LeO.refl _)
   | (with_reducible exact LeO.none _)
   | (with_reducible refine LeO.ite ?_ ?_)
   | (with_reducible refine LeO.bind ?_ (fun _ => ?_))
   | exact ih0 _ _ _ _ _ _ _ _ _
   | exact ih1 _ _ _ _ _ _
   | exact ih2 _ _ _
   | exact impl_FirstPairing.mono _ _ _
   | exact laws_eqPairS.mono _ _ _
   | exact laws_eqParty.mono _ _ _ _ _
   | exact laws_heldPairS.mono _ _ _
   | exact laws_markPairS.mono _ _ _
   | exact laws_markParty.mono _ _ _ _
   | exact laws_toParty.mono _ _ _
   | exact spec_FirstPairing.mono _ _ _
   | exact LeO.none _
   | refine LeO.ite ?_ ?_
   | refine LeO.bind ?_ (fun _ => ?_)
theorem laws_FnExactFirstPairing.mono : ∀ a0 a1 k, LeO (laws_FnExactFirstPairing.f k a0 a1) (laws_FnExactFirstPairing.f (k + 1) a0 a1) := by
 intro a0 a1 k
 obtain ⟨ih0, ih1, ih2⟩ := laws_FnExactFirstPairing.mono_l k
 unfold laws_FnExactFirstPairing.f
 repeat' first
   | (with_reducible exact ih0 _ _ _ _ _ _ _ _ _)
   | (with_reducible exact ih1 _ _ _ _ _ _)
   | (with_reducible exact ih2 _ _ _)
   | (with_reducible exact impl_FirstPairing.mono _ _ _)
   | (with_reducible exact laws_eqPairS.mono _ _ _)
   | (with_reducible exact laws_eqParty.mono _ _ _ _ _)
   | (with_reducible exact laws_heldPairS.mono _ _ _)
   | (with_reducible exact laws_markPairS.mono _ _ _)
   | (with_reducible exact laws_markParty.mono _ _ _ _)
   | (with_reducible exact laws_toParty.mono _ _ _)
   | (with_reducible exact spec_FirstPairing.mono _ _ _)
   | (with_reducible exact LeO.refl _)
   | (with_reducible exact LeO.none _)
   | (with_reducible refine LeO.ite ?_ ?_)
   | (with_reducible refine LeO.bind ?_ (fun _ => ?_))
   | exact ih0 _ _ _ _ _ _ _ _ _
   | exact ih1 _ _ _ _ _ _
   | exact ih2 _ _ _
   | exact impl_FirstPairing.mono _ _ _
   | exact laws_eqPairS.mono _ _ _
   | exact laws_eqParty.mono _ _ _ _ _
   | exact laws_heldPairS.mono _ _ _
   | exact laws_markPairS.mono _ _ _
   | exact laws_markParty.mono _ _ _ _
   | exact laws_toParty.mono _ _ _
   | exact spec_FirstPairing.mono _ _ _
   | exact LeO.none _
   | refine LeO.ite ?_ ?_
   | refine LeO.bind ?_ (fun _ => ?_)
set_option maxHeartbeats 8000000 in
set_option maxRecDepth 100000 in
theorem laws_FnExactFirstPairing.calls (k : Nat) (a0_0 : Int) (A0_1 : Option Addr) (c0_1 : Nat) (l0_1 : List (S144)) (r : Bool) (w : World) (hG : Laid32 w) (hr0_1 : Kd.C k144 w A0_1 l0_1.length l0_1) (hc0_1 : l0_1.length ≤ c0_1) (h : laws_FnExactFirstPairing.f k a0_0 l0_1 = some r) :
  Calls Tryd.prog 5 #[.agg #[.int .i64 a0_0, .slice A0_1 l0_1.length c0_1]] w fun e w' => e = .returned (.bool r) ∧ Below w.heap.size w w' := by
 have hu24 := Tryd.underlying24
 have hu30 := Tryd.underlying30
 have HG := Aside0.mk hG
 clear hG
 have HR0_1 := Aside0.mk hr0_1
 have HC0_1 := Aside0.mk hc0_1
 clear hr0_1 hc0_1
 have HB := Aside0.mk (Below.refl w.heap.size w)
 have H : ((laws_szParty.f a0_0 l0_1 1048576).bind fun t304 => (if t304 < 0 then (some true) else ((laws_toParty.f k a0_0 l0_1).bind fun bt305 => ((spec_FirstPairing.f k bt305.1 bt305.2).bind fun bt309 => ((laws_toParty.f k a0_0 l0_1).bind fun bt313 => ((impl_FirstPairing.f k bt313.1 bt313.2).bind fun bt318 => ((laws_eqPairS.f k bt318.1 bt309.1).bind fun t322 => (if t322 = true then (laws_FnExactFirstPairing.j0 k bt309.1 bt309.2 bt318.1 bt318.2 (bt318.2 != bt309.2) a0_0 l0_1 bt313.1 bt313.2) else (laws_FnExactFirstPairing.j0 k bt309.1 bt309.2 bt318.1 bt318.2 true a0_0 l0_1 bt313.1 bt313.2))))))))) = some r := h
 clear h
 replace H := Option.bind_eq_some_iff.mp H
 obtain ⟨t304, A20, H⟩ := H
 replace H : (if t304 < 0 then (some true) else ((laws_toParty.f k a0_0 l0_1).bind fun bt305 => ((spec_FirstPairing.f k bt305.1 bt305.2).bind fun bt309 => ((laws_toParty.f k a0_0 l0_1).bind fun bt313 => ((impl_FirstPairing.f k bt313.1 bt313.2).bind fun bt318 => ((laws_eqPairS.f k bt318.1 bt309.1).bind fun t322 => (if t322 = true then (laws_FnExactFirstPairing.j0 k bt309.1 bt309.2 bt318.1 bt318.2 (bt318.2 != bt309.2) a0_0 l0_1 bt313.1 bt313.2) else (laws_FnExactFirstPairing.j0 k bt309.1 bt309.2 bt318.1 bt318.2 true a0_0 l0_1 bt313.1 bt313.2)))))))) = some r := H
 have A2 := Aside0.mk A20
 clear A20
 by_cases c3 : t304 < 0
 ·rw [if_pos c3] at H
  have c3b0 : decide (t304 < 0) = true := decide_eq_true c3
  clear c3
  obtain rfl := Option.some.inj H
  go_enter Tryd.func5, Tryd.ntmps5
  go_wp2_with (first | ((with_reducible refine gate_dst (N := 1) rfl ?_); refine box_event ?hg (N := 1) ?hd (cs := #[.int .i64 a0_0, .slice A0_1 l0_1.length c0_1]) (t := 24) ?hr ?_; (case hd => rfl); (case hg => rfl); (case hr => first | (go_simp; done) | (go_simp; rfl)); intro gb303 hg w4 hbox hb; have n0_ := Aside0.mk (below_step (by repeat (first | (with_reducible first | exact HB.out | apply below_alloc | apply pw_below_drewN | apply below_drew1) | exact HB.out)) hb); have n1_ := Aside0.mk (hbox); have n2_ := Aside0.mk ((by rw [hg]; exact (below_size (by repeat (first | (with_reducible first | exact HB.out | apply below_alloc | apply pw_below_drewN | apply below_drew1) | exact HB.out))) : w.heap.size ≤ gb303)); have n3_ := Aside0.mk ((by rw [hg]; exact (below_size (by repeat (first | (with_reducible first | exact HB.out | apply below_alloc | apply pw_below_drewN | apply below_drew1) | exact HB.out))) : w.heap.size ≤ gb303)); clear HB; have HB := n0_; have BK303 := n1_; have GW303 := n2_; have GE303 := n3_; clear n0_ n1_ n2_ n3_; clear hb hbox hg; have hcz5_0 : w4.cell? ⟨gb303, 0, none⟩ = some (.int .i64 a0_0) := (blk_cell BK303.out 0).trans rfl; have hcz5_1 : w4.cell? ⟨gb303, 1, none⟩ = some (.slice A0_1 l0_1.length c0_1) := (blk_cell BK303.out 1).trans rfl; have hfz5_0 := blk_frozen BK303.out 0; have hfz5_1 := blk_frozen BK303.out 1) | ((with_reducible refine gate_callee (f := 13) rfl ?_); refine goesL_ (some 16) rfl rfl Tryd.func13 (by kernel_rfl) rfl #[.agg #[.int .i64 a0_0, .slice A0_1 l0_1.length c0_1], .int .i64 1048576] rfl (by (try simp only [List.map_toArray, List.map_cons, List.map_nil]); first | done | rfl | (simp only [List.length_drop, List.length_take]; rfl)) ?_; (with_reducible refine (laws_szParty.calls a0_0 _ _ l0_1 1048576 t304 _ ?side1 ?side2 A2.out).mono ?_); (case side1 => repeat (first | exact (Kd.C_below HR0_1.out HB.out) | (with_reducible refine Kd.C_alloc ?_ _) | (with_reducible refine Kd.C_drewN ?_ _) | (with_reducible refine Kd.C_drew ?_))); (case side2 => exact HC0_1.out); rintro e w6 ⟨rfl, hb⟩; refine ⟨_, rfl, ?_⟩; have n0_ := Aside0.mk (blk_below (g := gb303) (o := .cells #[.int .i64 a0_0, .slice A0_1 l0_1.length c0_1] 24 (0, 0)) (by (with_reducible repeat (first | refine blk_drewN ?_ _ | refine blk_drew ?_ | refine blk_alloc ?_ _)); exact BK303.out) hb); have n1_ := Aside0.mk (below_step (by repeat (first | (with_reducible first | exact HB.out | apply below_alloc | apply pw_below_drewN | apply below_drew1 | refine below_set ?_ GE303.out) | exact HB.out)) hb); clear BK303; clear HB; have BK303 := n0_; have HB := n1_; clear n0_ n1_; (try clear hb); (try clear hb2); (try clear hk); (try clear hi)))
  go_ret
  exact ⟨by first | rfl | (simp [errW_none, errW_some] <;> rfl) | (simp [*, errW_none, errW_some] <;> rfl), by repeat (first | (with_reducible first | exact HB.out | apply below_alloc | apply pw_below_drewN | apply below_drew1 | refine below_set ?_ GE303.out) | exact HB.out)⟩
 ·rw [if_neg c3] at H
  have c3b0 : decide (t304 < 0) = false := decide_eq_false c3
  clear c3
  replace H := Option.bind_eq_some_iff.mp H
  obtain ⟨⟨t305, t306⟩, A70, H⟩ := H
  replace H : ((spec_FirstPairing.f k t305 t306).bind fun bt309 => ((laws_toParty.f k a0_0 l0_1).bind fun bt313 => ((impl_FirstPairing.f k bt313.1 bt313.2).bind fun bt318 => ((laws_eqPairS.f k bt318.1 bt309.1).bind fun t322 => (if t322 = true then (laws_FnExactFirstPairing.j0 k bt309.1 bt309.2 bt318.1 bt318.2 (bt318.2 != bt309.2) a0_0 l0_1 bt313.1 bt313.2) else (laws_FnExactFirstPairing.j0 k bt309.1 bt309.2 bt318.1 bt318.2 true a0_0 l0_1 bt313.1 bt313.2)))))) = some r := H
  have A7 := Aside0.mk A70
  clear A70
  replace H := Option.bind_eq_some_iff.mp H
  obtain ⟨⟨t309, t312⟩, A80, H⟩ := H
  replace H : ((laws_toParty.f k a0_0 l0_1).bind fun bt313 => ((impl_FirstPairing.f k bt313.1 bt313.2).bind fun bt318 => ((laws_eqPairS.f k bt318.1 t309).bind fun t322 => (if t322 = true then (laws_FnExactFirstPairing.j0 k t309 t312 bt318.1 bt318.2 (bt318.2 != t312) a0_0 l0_1 bt313.1 bt313.2) else (laws_FnExactFirstPairing.j0 k t309 t312 bt318.1 bt318.2 true a0_0 l0_1 bt313.1 bt313.2))))) = some r := H
  have A8 := Aside0.mk A80
  clear A80
  replace H := Option.bind_eq_some_iff.mp H
  obtain ⟨⟨t313, t314⟩, A90, H⟩ := H
  replace H : ((impl_FirstPairing.f k t313 t314).bind fun bt318 => ((laws_eqPairS.f k bt318.1 t309).bind fun t322 => (if t322 = true then (laws_FnExactFirstPairing.j0 k t309 t312 bt318.1 bt318.2 (bt318.2 != t312) a0_0 l0_1 t313 t314) else (laws_FnExactFirstPairing.j0 k t309 t312 bt318.1 bt318.2 true a0_0 l0_1 t313 t314)))) = some r := H
  have A9 := Aside0.mk A90
  clear A90
  replace H := Option.bind_eq_some_iff.mp H
  obtain ⟨⟨t318, t321⟩, A100, H⟩ := H
  replace H : ((laws_eqPairS.f k t318 t309).bind fun t322 => (if t322 = true then (laws_FnExactFirstPairing.j0 k t309 t312 t318 t321 (t321 != t312) a0_0 l0_1 t313 t314) else (laws_FnExactFirstPairing.j0 k t309 t312 t318 t321 true a0_0 l0_1 t313 t314))) = some r := H
  have A10 := Aside0.mk A100
  clear A100
  have HC11 := Aside0.mk H
  clear H
  go_enter Tryd.func5, Tryd.ntmps5
  go_upto_region 8 with (first | ((with_reducible refine gate_dst (N := 1) rfl ?_); refine box_event ?hg (N := 1) ?hd (cs := #[.int .i64 a0_0, .slice A0_1 l0_1.length c0_1]) (t := 24) ?hr ?_; (case hd => rfl); (case hg => rfl); (case hr => first | (go_simp; done) | (go_simp; rfl)); intro gb303 hg w12 hbox hb; have n0_ := Aside0.mk (below_step (by repeat (first | (with_reducible first | exact HB.out | apply below_alloc | apply pw_below_drewN | apply below_drew1) | exact HB.out)) hb); have n1_ := Aside0.mk (hbox); have n2_ := Aside0.mk ((by rw [hg]; exact (below_size (by repeat (first | (with_reducible first | exact HB.out | apply below_alloc | apply pw_below_drewN | apply below_drew1) | exact HB.out))) : w.heap.size ≤ gb303)); have n3_ := Aside0.mk ((by rw [hg]; exact (below_size (by repeat (first | (with_reducible first | exact HB.out | apply below_alloc | apply pw_below_drewN | apply below_drew1) | exact HB.out))) : w.heap.size ≤ gb303)); clear HB; have HB := n0_; have BK303 := n1_; have GW303 := n2_; have GE303 := n3_; clear n0_ n1_ n2_ n3_; clear hb hbox hg; have hcz13_0 : w12.cell? ⟨gb303, 0, none⟩ = some (.int .i64 a0_0) := (blk_cell BK303.out 0).trans rfl; have hcz13_1 : w12.cell? ⟨gb303, 1, none⟩ = some (.slice A0_1 l0_1.length c0_1) := (blk_cell BK303.out 1).trans rfl; have hfz13_0 := blk_frozen BK303.out 0; have hfz13_1 := blk_frozen BK303.out 1) | ((with_reducible refine gate_callee (f := 13) rfl ?_); refine goesL_ (some 16) rfl rfl Tryd.func13 (by kernel_rfl) rfl #[.agg #[.int .i64 a0_0, .slice A0_1 l0_1.length c0_1], .int .i64 1048576] rfl (by (try simp only [List.map_toArray, List.map_cons, List.map_nil]); first | done | rfl | (simp only [List.length_drop, List.length_take]; rfl)) ?_; (with_reducible refine (laws_szParty.calls a0_0 _ _ l0_1 1048576 t304 _ ?side1 ?side2 A2.out).mono ?_); (case side1 => repeat (first | exact (Kd.C_below HR0_1.out HB.out) | (with_reducible refine Kd.C_alloc ?_ _) | (with_reducible refine Kd.C_drewN ?_ _) | (with_reducible refine Kd.C_drew ?_))); (case side2 => exact HC0_1.out); rintro e w14 ⟨rfl, hb⟩; refine ⟨_, rfl, ?_⟩; have n0_ := Aside0.mk (blk_below (g := gb303) (o := .cells #[.int .i64 a0_0, .slice A0_1 l0_1.length c0_1] 24 (0, 0)) (by (with_reducible repeat (first | refine blk_drewN ?_ _ | refine blk_drew ?_ | refine blk_alloc ?_ _)); exact BK303.out) hb); have n1_ := Aside0.mk (below_step (by repeat (first | (with_reducible first | exact HB.out | apply below_alloc | apply pw_below_drewN | apply below_drew1 | refine below_set ?_ GE303.out) | exact HB.out)) hb); clear BK303; clear HB; have BK303 := n0_; have HB := n1_; clear n0_ n1_; (try clear hb); (try clear hb2); (try clear hk); (try clear hi); have hcz15_0 : w14.cell? ⟨gb303, 0, none⟩ = some (.int .i64 a0_0) := (blk_cell BK303.out 0).trans rfl; have hcz15_1 : w14.cell? ⟨gb303, 1, none⟩ = some (.slice A0_1 l0_1.length c0_1) := (blk_cell BK303.out 1).trans rfl; have hfz15_0 := blk_frozen BK303.out 0; have hfz15_1 := blk_frozen BK303.out 1) | ((with_reducible refine gate_callee (f := 15) rfl ?_); refine goesL_ (some 21) rfl rfl Tryd.func15 (by kernel_rfl) rfl #[.agg #[.int .i64 a0_0, .slice A0_1 l0_1.length c0_1]] rfl (by (try simp only [List.map_toArray, List.map_cons, List.map_nil]); first | done | rfl | (simp only [List.length_drop, List.length_take]; rfl)) ?_; (with_reducible refine (laws_toParty.calls k a0_0 _ _ l0_1 t305 t306 _ ?side1 ?side2 A7.out).mono ?_); (case side1 => repeat (first | exact (Kd.C_below HR0_1.out HB.out) | (with_reducible refine Kd.C_alloc ?_ _) | (with_reducible refine Kd.C_drewN ?_ _) | (with_reducible refine Kd.C_drew ?_))); (case side2 => exact HC0_1.out); rintro e w16 ⟨v307, rfl, ho0, hb⟩; refine ⟨_, rfl, ?_⟩; have n0_ := Aside0.mk (Kd.R_lower ho0 (below_size (by repeat (first | (with_reducible first | exact HB.out | apply below_alloc | apply pw_below_drewN | apply below_drew1 | refine below_set ?_ GE303.out) | exact HB.out)))); have n1_ := Aside0.mk (blk_below (g := gb303) (o := .cells #[.int .i64 a0_0, .slice A0_1 l0_1.length c0_1] 24 (0, 0)) (by (with_reducible repeat (first | refine blk_drewN ?_ _ | refine blk_drew ?_ | refine blk_alloc ?_ _)); exact BK303.out) hb); have n2_ := Aside0.mk (below_step (by repeat (first | (with_reducible first | exact HB.out | apply below_alloc | apply pw_below_drewN | apply below_drew1 | refine below_set ?_ GE303.out) | exact HB.out)) hb); clear BK303; clear HB; have HO308 := n0_; have BK303 := n1_; have HB := n2_; clear n0_ n1_ n2_; (try clear hb); (try clear hb2); (try clear hk); (try clear hi); (try clear ho0); obtain ⟨Ao17, co17, eo17⟩ := Kd.R_slice HO308.out; subst eo17) | ((with_reducible refine gate_callee (f := 20) rfl ?_); refine goesL_ (some 22) rfl rfl Tryd.func20 (by kernel_rfl) rfl #[.agg #[.int .i64 t305, .slice Ao17 t306.length co17]] rfl (by (try simp only [List.map_toArray, List.map_cons, List.map_nil]); first | done | rfl | (simp only [List.length_drop, List.length_take]; rfl)) ?_; (with_reducible refine (spec_FirstPairing.calls k t305 _ _ t306 t309 t312 _ ?side1 ?side2 A8.out).mono ?_); (case side1 => repeat (first | exact (Kd.R_reads' HO308.out).2.2 | (with_reducible refine Kd.C_alloc ?_ _) | (with_reducible refine Kd.C_drewN ?_ _) | (with_reducible refine Kd.C_drew ?_))); (case side2 => exact (Kd.R_reads' HO308.out).2.1); rintro e w18 ⟨v310, rfl, ho0, hb⟩; refine ⟨_, rfl, ?_⟩; have n0_ := Aside0.mk (Kd.R_elder' (by (with_reducible repeat (first | apply Kd.R_alloc | apply Kd.R_drewN | apply Kd.R_drew)); exact HO308.out) (Kd.R_base ho0) hb); have n1_ := Aside0.mk (Kd.R_lower (Kd.R_new' ho0 (Kd.R_lt (by (with_reducible repeat (first | apply Kd.R_alloc | apply Kd.R_drewN | apply Kd.R_drew)); exact HO308.out))) (below_size (by repeat (first | (with_reducible first | exact HB.out | apply below_alloc | apply pw_below_drewN | apply below_drew1 | refine below_set ?_ GE303.out) | exact HB.out)))); have n2_ := Aside0.mk (blk_below (g := gb303) (o := .cells #[.int .i64 a0_0, .slice A0_1 l0_1.length c0_1] 24 (0, 0)) (by (with_reducible repeat (first | refine blk_drewN ?_ _ | refine blk_drew ?_ | refine blk_alloc ?_ _)); exact BK303.out) hb); have n3_ := Aside0.mk (below_step (by repeat (first | (with_reducible first | exact HB.out | apply below_alloc | apply pw_below_drewN | apply below_drew1 | refine below_set ?_ GE303.out) | exact HB.out)) hb); clear HO308; clear BK303; clear HB; have HO308 := n0_; have HO311 := n1_; have BK303 := n2_; have HB := n3_; clear n0_ n1_ n2_ n3_; (try clear hb); (try clear hb2); (try clear hk); (try clear hi); (try clear ho0); have hcz19_0 : w18.cell? ⟨gb303, 0, none⟩ = some (.int .i64 a0_0) := (blk_cell BK303.out 0).trans rfl; have hcz19_1 : w18.cell? ⟨gb303, 1, none⟩ = some (.slice A0_1 l0_1.length c0_1) := (blk_cell BK303.out 1).trans rfl; have hfz19_0 := blk_frozen BK303.out 0; have hfz19_1 := blk_frozen BK303.out 1) | ((with_reducible refine gate_callee (f := 15) rfl ?_); refine goesL_ (some 26) rfl rfl Tryd.func15 (by kernel_rfl) rfl #[.agg #[.int .i64 a0_0, .slice A0_1 l0_1.length c0_1]] rfl (by (try simp only [List.map_toArray, List.map_cons, List.map_nil]); first | done | rfl | (simp only [List.length_drop, List.length_take]; rfl)) ?_; (with_reducible refine (laws_toParty.calls k a0_0 _ _ l0_1 t313 t314 _ ?side1 ?side2 A9.out).mono ?_); (case side1 => repeat (first | exact (Kd.C_below HR0_1.out HB.out) | (with_reducible refine Kd.C_alloc ?_ _) | (with_reducible refine Kd.C_drewN ?_ _) | (with_reducible refine Kd.C_drew ?_))); (case side2 => exact HC0_1.out); rintro e w20 ⟨v315, rfl, ho0, hb⟩; refine ⟨_, rfl, ?_⟩; have n0_ := Aside0.mk (Kd.R_elder' (by (with_reducible repeat (first | apply Kd.R_alloc | apply Kd.R_drewN | apply Kd.R_drew)); exact HO308.out) (Kd.R_base ho0) hb); have n1_ := Aside0.mk (Kd.R_elder' (by (with_reducible repeat (first | apply Kd.R_alloc | apply Kd.R_drewN | apply Kd.R_drew)); exact HO311.out) (Kd.R_base ho0) hb); have n2_ := Aside0.mk (Kd.R_lower (Kd.R_new' (Kd.R_new' ho0 (Kd.R_lt (by (with_reducible repeat (first | apply Kd.R_alloc | apply Kd.R_drewN | apply Kd.R_drew)); exact HO308.out))) (Kd.R_lt (by (with_reducible repeat (first | apply Kd.R_alloc | apply Kd.R_drewN | apply Kd.R_drew)); exact HO311.out))) (below_size (by repeat (first | (with_reducible first | exact HB.out | apply below_alloc | apply pw_below_drewN | apply below_drew1 | refine below_set ?_ GE303.out) | exact HB.out)))); have n3_ := Aside0.mk (blk_below (g := gb303) (o := .cells #[.int .i64 a0_0, .slice A0_1 l0_1.length c0_1] 24 (0, 0)) (by (with_reducible repeat (first | refine blk_drewN ?_ _ | refine blk_drew ?_ | refine blk_alloc ?_ _)); exact BK303.out) hb); have n4_ := Aside0.mk (below_step (by repeat (first | (with_reducible first | exact HB.out | apply below_alloc | apply pw_below_drewN | apply below_drew1 | refine below_set ?_ GE303.out) | exact HB.out)) hb); clear HO308; clear HO311; clear BK303; clear HB; have HO308 := n0_; have HO311 := n1_; have HO316 := n2_; have BK303 := n3_; have HB := n4_; clear n0_ n1_ n2_ n3_ n4_; (try clear hb); (try clear hb2); (try clear hk); (try clear hi); (try clear ho0)) | ((with_reducible refine gate_dst (N := 6) rfl ?_); refine box_event ?hg (N := 6) ?hd (cs := #[.int .i64 0, .slice none 0 0]) (t := 30) ?hr ?_; (case hd => rfl); (case hg => rfl); (case hr => first | (go_simp; done) | (go_simp; rfl)); intro gb317 hg w21 hbox hb; have n0_ := Aside0.mk (Kd.R_below (by (with_reducible repeat (first | apply Kd.R_alloc | apply Kd.R_drewN | apply Kd.R_drew)); exact HO308.out) hb); have n1_ := Aside0.mk (Kd.R_below (by (with_reducible repeat (first | apply Kd.R_alloc | apply Kd.R_drewN | apply Kd.R_drew)); exact HO311.out) hb); have n2_ := Aside0.mk (Kd.R_below (by (with_reducible repeat (first | apply Kd.R_alloc | apply Kd.R_drewN | apply Kd.R_drew)); exact HO316.out) hb); have n3_ := Aside0.mk (blk_below (g := gb303) (o := .cells #[.int .i64 a0_0, .slice A0_1 l0_1.length c0_1] 24 (0, 0)) (by (with_reducible repeat (first | refine blk_drewN ?_ _ | refine blk_drew ?_ | refine blk_alloc ?_ _)); exact BK303.out) hb); have n4_ := Aside0.mk (below_step (by repeat (first | (with_reducible first | exact HB.out | apply below_alloc | apply pw_below_drewN | apply below_drew1 | refine below_set ?_ GE303.out) | exact HB.out)) hb); have n5_ := Aside0.mk (hbox); have n6_ := Aside0.mk ((by rw [hg]; exact (below_size (by repeat (first | (with_reducible first | exact HB.out | apply below_alloc | apply pw_below_drewN | apply below_drew1 | refine below_set ?_ GE303.out) | exact HB.out))) : w.heap.size ≤ gb317)); have n7_ := Aside0.mk ((by rw [hg]; exact (below_size (by repeat (first | (with_reducible first | exact HB.out | apply below_alloc | apply pw_below_drewN | apply below_drew1 | refine below_set ?_ GE303.out) | exact HB.out))) : w.heap.size ≤ gb317)); have n8_ := Aside0.mk ((by rw [hg]; exact Nat.ne_of_lt (blk_lt (g := gb303) (o := .cells #[.int .i64 a0_0, .slice A0_1 l0_1.length c0_1] 24 (0, 0)) (by (with_reducible repeat (first | refine blk_drewN ?_ _ | refine blk_drew ?_ | refine blk_alloc ?_ _)); exact BK303.out)) : gb303 ≠ gb317)); have n9_ := Aside0.mk ((by rw [hg]; exact Nat.ne_of_gt (blk_lt (g := gb303) (o := .cells #[.int .i64 a0_0, .slice A0_1 l0_1.length c0_1] 24 (0, 0)) (by (with_reducible repeat (first | refine blk_drewN ?_ _ | refine blk_drew ?_ | refine blk_alloc ?_ _)); exact BK303.out)) : gb317 ≠ gb303)); clear HO308; clear HO311; clear HO316; clear BK303; clear HB; have HO308 := n0_; have HO311 := n1_; have HO316 := n2_; have BK303 := n3_; have HB := n4_; have BK317 := n5_; have GW317 := n6_; have GE317 := n7_; have NB303_317 := n8_; have NB317_303 := n9_; clear n0_ n1_ n2_ n3_ n4_ n5_ n6_ n7_ n8_ n9_; clear hb hbox hg; have hnb22 := NB317_303.out; have hnc22 := NB303_317.out; have hcz23_0 : w21.cell? ⟨gb317, 0, none⟩ = some (.int .i64 0) := (blk_cell BK317.out 0).trans rfl; have hcz23_1 : w21.cell? ⟨gb317, 1, none⟩ = some (.slice none 0 0) := (blk_cell BK317.out 1).trans rfl; have hfz23_0 := blk_frozen BK317.out 0; have hfz23_1 := blk_frozen BK317.out 1; obtain ⟨Ao24, co24, eo24⟩ := Kd.R_slice HO316.out; subst eo24) | ((with_reducible refine gate_callee (f := 21) rfl ?_); refine goesL_ (some 29) rfl rfl Tryd.func21 (by kernel_rfl) rfl #[.agg #[.int .i64 t313, .slice Ao24 t314.length co24]] rfl (by (try simp only [List.map_toArray, List.map_cons, List.map_nil]); first | done | rfl | (simp only [List.length_drop, List.length_take]; rfl)) ?_; (with_reducible refine (impl_FirstPairing.calls k t313 _ _ t314 t318 t321 _ ?side1 ?side2 ?side3 A10.out).mono ?_); (case side1 => first | exact HG.out | exact Laid32.drewN HG.out _ | exact Laid32.drew HG.out | exact (Laid32.drewN HG.out _).drewN _ | exact Laid32.below HG.out (by repeat (first | (with_reducible first | exact HB.out | apply below_alloc | apply pw_below_drewN | apply below_drew1 | refine below_set ?_ GE303.out | refine below_set ?_ GE317.out) | exact HB.out))); (case side2 => refine (Kd.R_reads' (e := 98) (base := w.heap.size) (ok := fun k_ => ((True ∧ some k_ ≠ (.slice Ao17 t306.length co17 : Value).ownBlock) ∧ some k_ ≠ (v310 : Value).ownBlock)) (n := t314.length) (c := co24) ?_).2.2; exact (by (with_reducible repeat (first | apply Kd.R_alloc | apply Kd.R_drewN | apply Kd.R_drew)); exact (Kd.R_mono (Kd.R_far (p := ⟨gb317, 1, none⟩) (Kd.R_far (p := ⟨gb317, 0, none⟩) (Kd.R_types HO316.out BK317.out (by decide)) (fun _ hk => hk.2) (.int .i64 t313)) (fun _ hk => hk.2) (.slice Ao24 t314.length co24)) (fun _ h_ => h_.1)))); (case side3 => exact (Kd.R_reads' HO316.out).2.1); rintro e w25 ⟨v319, rfl, ho0, hb⟩; refine ⟨_, rfl, ?_⟩; have n0_ := Aside0.mk (Kd.R_elder' (by (with_reducible repeat (first | apply Kd.R_alloc | apply Kd.R_drewN | apply Kd.R_drew)); exact (Kd.R_mono (Kd.R_far (p := ⟨gb317, 1, none⟩) (Kd.R_far (p := ⟨gb317, 0, none⟩) (Kd.R_types HO308.out BK317.out (by decide)) (fun _ hk => hk.2) (.int .i64 t313)) (fun _ hk => hk.2) (.slice Ao24 t314.length co24)) (fun _ h_ => h_.1))) (Kd.R_base ho0) hb); have n1_ := Aside0.mk (Kd.R_elder' (by (with_reducible repeat (first | apply Kd.R_alloc | apply Kd.R_drewN | apply Kd.R_drew)); exact (Kd.R_mono (Kd.R_far (p := ⟨gb317, 1, none⟩) (Kd.R_far (p := ⟨gb317, 0, none⟩) (Kd.R_types HO311.out BK317.out (by decide)) (fun _ hk => hk.2) (.int .i64 t313)) (fun _ hk => hk.2) (.slice Ao24 t314.length co24)) (fun _ h_ => h_.1))) (Kd.R_base ho0) hb); have n2_ := Aside0.mk (Kd.R_elder' (by (with_reducible repeat (first | apply Kd.R_alloc | apply Kd.R_drewN | apply Kd.R_drew)); exact (Kd.R_mono (Kd.R_far (p := ⟨gb317, 1, none⟩) (Kd.R_far (p := ⟨gb317, 0, none⟩) (Kd.R_types HO316.out BK317.out (by decide)) (fun _ hk => hk.2) (.int .i64 t313)) (fun _ hk => hk.2) (.slice Ao24 t314.length co24)) (fun _ h_ => h_.1))) (Kd.R_base ho0) hb); have n3_ := Aside0.mk (Kd.R_lower (Kd.R_new' (Kd.R_new' (Kd.R_new' ho0 (Kd.R_lt (by (with_reducible repeat (first | apply Kd.R_alloc | apply Kd.R_drewN | apply Kd.R_drew)); exact (Kd.R_mono (Kd.R_far (p := ⟨gb317, 1, none⟩) (Kd.R_far (p := ⟨gb317, 0, none⟩) (Kd.R_types HO308.out BK317.out (by decide)) (fun _ hk => hk.2) (.int .i64 t313)) (fun _ hk => hk.2) (.slice Ao24 t314.length co24)) (fun _ h_ => h_.1))))) (Kd.R_lt (by (with_reducible repeat (first | apply Kd.R_alloc | apply Kd.R_drewN | apply Kd.R_drew)); exact (Kd.R_mono (Kd.R_far (p := ⟨gb317, 1, none⟩) (Kd.R_far (p := ⟨gb317, 0, none⟩) (Kd.R_types HO311.out BK317.out (by decide)) (fun _ hk => hk.2) (.int .i64 t313)) (fun _ hk => hk.2) (.slice Ao24 t314.length co24)) (fun _ h_ => h_.1))))) (Kd.R_lt (by (with_reducible repeat (first | apply Kd.R_alloc | apply Kd.R_drewN | apply Kd.R_drew)); exact (Kd.R_mono (Kd.R_far (p := ⟨gb317, 1, none⟩) (Kd.R_far (p := ⟨gb317, 0, none⟩) (Kd.R_types HO316.out BK317.out (by decide)) (fun _ hk => hk.2) (.int .i64 t313)) (fun _ hk => hk.2) (.slice Ao24 t314.length co24)) (fun _ h_ => h_.1))))) (below_size (by repeat (first | (with_reducible first | exact HB.out | apply below_alloc | apply pw_below_drewN | apply below_drew1 | refine below_set ?_ GE303.out | refine below_set ?_ GE317.out) | exact HB.out)))); have n4_ := Aside0.mk (blk_below (g := gb303) (o := .cells #[.int .i64 a0_0, .slice A0_1 l0_1.length c0_1] 24 (0, 0)) (by (with_reducible repeat (first | refine blk_drewN ?_ _ | refine blk_drew ?_ | refine blk_alloc ?_ _)); refine blk_far ?_ NB303_317.out _; (with_reducible repeat (first | refine blk_drewN ?_ _ | refine blk_drew ?_ | refine blk_alloc ?_ _)); refine blk_far ?_ NB303_317.out _; (with_reducible repeat (first | refine blk_drewN ?_ _ | refine blk_drew ?_ | refine blk_alloc ?_ _)); exact BK303.out) hb); have n5_ := Aside0.mk (blk_below (g := gb317) (o := .cells #[.int .i64 t313, .slice Ao24 t314.length co24] 30 (0, 0)) (by (with_reducible repeat (first | refine blk_drewN ?_ _ | refine blk_drew ?_ | refine blk_alloc ?_ _)); refine blk_put (cs := #[.int .i64 t313, .slice none 0 0]) ?_ 1 _ rfl; (with_reducible repeat (first | refine blk_drewN ?_ _ | refine blk_drew ?_ | refine blk_alloc ?_ _)); refine blk_put (cs := #[.int .i64 0, .slice none 0 0]) ?_ 0 _ rfl; (with_reducible repeat (first | refine blk_drewN ?_ _ | refine blk_drew ?_ | refine blk_alloc ?_ _)); exact BK317.out) hb); have n6_ := Aside0.mk (below_step (by repeat (first | (with_reducible first | exact HB.out | apply below_alloc | apply pw_below_drewN | apply below_drew1 | refine below_set ?_ GE303.out | refine below_set ?_ GE317.out) | exact HB.out)) hb); clear HO308; clear HO311; clear HO316; clear BK303; clear BK317; clear HB; have HO308 := n0_; have HO311 := n1_; have HO316 := n2_; have HO320 := n3_; have BK303 := n4_; have BK317 := n5_; have HB := n6_; clear n0_ n1_ n2_ n3_ n4_ n5_ n6_; (try clear hb); (try clear hb2); (try clear hk); (try clear hi); (try clear ho0)))
  (try simp only [Act.put, List.setIfInBounds_toArray, List.set_cons_zero, List.set_cons_succ])
  go_cut [40] (fun v40 wc => ∃ (kq : Nat) (x40_10 : Bool), v40 = .bool x40_10 ∧ Aside0 (laws_FnExactFirstPairing.j0 kq t309 t312 t318 t321 x40_10 a0_0 l0_1 t313 t314 = some r) ∧ Aside0 (kq ≤ k) ∧ Aside0 (Kd.R k98 98 wc w.heap.size (fun k_ => some k_ ≠ (v319 : Value).ownBlock ∧ some k_ ≠ ((.slice Ao24 t314.length co24) : Value).ownBlock) v310 t309) ∧ Aside0 (Kd.R k98 98 wc w.heap.size (fun k_ => some k_ ≠ (v310 : Value).ownBlock ∧ some k_ ≠ ((.slice Ao24 t314.length co24) : Value).ownBlock) v319 t318) ∧ Aside0 (Kd.R k98 98 wc w.heap.size (fun k_ => some k_ ≠ (v310 : Value).ownBlock ∧ some k_ ≠ (v319 : Value).ownBlock) (.slice Ao24 t314.length co24) t314) ∧ Aside0 (wc.heap[gb303]? = some (.cells #[.int .i64 a0_0, (.slice A0_1 l0_1.length c0_1)] 24 (0, 0))) ∧ Aside0 (wc.heap[gb317]? = some (.cells #[.int .i64 t313, (.slice Ao24 t314.length co24)] 30 (0, 0))) ∧ Aside0 (Below w.heap.size w wc))
  case first =>
   have H := HC11.out
   clear HC11
   replace H := Option.bind_eq_some_iff.mp H
   obtain ⟨t322, A260, H⟩ := H
   replace H : (if t322 = true then (laws_FnExactFirstPairing.j0 k t309 t312 t318 t321 (t321 != t312) a0_0 l0_1 t313 t314) else (laws_FnExactFirstPairing.j0 k t309 t312 t318 t321 true a0_0 l0_1 t313 t314)) = some r := H
   have A26 := Aside0.mk A260
   clear A260
   by_cases c27 : t322 = true
   ·subst c27
    have H1 : (laws_FnExactFirstPairing.j0 k t309 t312 t318 t321 (t321 != t312) a0_0 l0_1 t313 t314) = some r := by rw [if_pos rfl] at H; exact H
    clear H
    have H := H1
    clear H1
    have H' := Aside0.mk H
    clear H
    obtain ⟨Ao28, co28, eo28⟩ := Kd.R_slice HO320.out
    subst eo28
    obtain ⟨Ao29, co29, eo29⟩ := Kd.R_slice HO311.out
    subst eo29
    go_wp2_with (first | ((with_reducible refine gate_callee (f := 22) rfl ?_); refine goesL_ (some 34) rfl rfl Tryd.func22 (by kernel_rfl) rfl #[.slice Ao28 t318.length co28, .slice Ao29 t309.length co29] rfl (by (try simp only [List.map_toArray, List.map_cons, List.map_nil]); first | done | rfl | (simp only [List.length_drop, List.length_take]; rfl)) ?_; (with_reducible refine (laws_eqPairS.calls k _ _ t318 _ _ t309 true _ ?side1 ?side2 ?side3 ?side4 A26.out).mono ?_); (case side1 => repeat (first | exact (Kd.R_reads' HO320.out).2.2 | (with_reducible refine Kd.C_alloc ?_ _) | (with_reducible refine Kd.C_drewN ?_ _) | (with_reducible refine Kd.C_drew ?_))); (case side2 => exact (Kd.R_reads' HO320.out).2.1); (case side3 => repeat (first | exact (Kd.R_reads' HO311.out).2.2 | (with_reducible refine Kd.C_alloc ?_ _) | (with_reducible refine Kd.C_drewN ?_ _) | (with_reducible refine Kd.C_drew ?_))); (case side4 => exact (Kd.R_reads' HO311.out).2.1); rintro e w30 ⟨rfl, hb⟩; refine ⟨_, rfl, ?_⟩; have n0_ := Aside0.mk (Kd.R_below (by (with_reducible repeat (first | apply Kd.R_alloc | apply Kd.R_drewN | apply Kd.R_drew)); exact HO308.out) hb); have n1_ := Aside0.mk (Kd.R_below (by (with_reducible repeat (first | apply Kd.R_alloc | apply Kd.R_drewN | apply Kd.R_drew)); exact HO311.out) hb); have n2_ := Aside0.mk (Kd.R_below (by (with_reducible repeat (first | apply Kd.R_alloc | apply Kd.R_drewN | apply Kd.R_drew)); exact HO316.out) hb); have n3_ := Aside0.mk (Kd.R_below (by (with_reducible repeat (first | apply Kd.R_alloc | apply Kd.R_drewN | apply Kd.R_drew)); exact HO320.out) hb); have n4_ := Aside0.mk (blk_below (g := gb303) (o := .cells #[.int .i64 a0_0, .slice A0_1 l0_1.length c0_1] 24 (0, 0)) (by (with_reducible repeat (first | refine blk_drewN ?_ _ | refine blk_drew ?_ | refine blk_alloc ?_ _)); exact BK303.out) hb); have n5_ := Aside0.mk (blk_below (g := gb317) (o := .cells #[.int .i64 t313, .slice Ao24 t314.length co24] 30 (0, 0)) (by (with_reducible repeat (first | refine blk_drewN ?_ _ | refine blk_drew ?_ | refine blk_alloc ?_ _)); exact BK317.out) hb); have n6_ := Aside0.mk (below_step (by repeat (first | (with_reducible first | exact HB.out | apply below_alloc | apply pw_below_drewN | apply below_drew1 | refine below_set ?_ GE303.out | refine below_set ?_ GE317.out) | exact HB.out)) hb); clear HO308; clear HO311; clear HO316; clear HO320; clear BK303; clear BK317; clear HB; have HO308 := n0_; have HO311 := n1_; have HO316 := n2_; have HO320 := n3_; have BK303 := n4_; have BK317 := n5_; have HB := n6_; clear n0_ n1_ n2_ n3_ n4_ n5_ n6_; (try clear hb); (try clear hb2); (try clear hk); (try clear hi)))
    go_meet
    case rel => exact ⟨_, ((t321 != t312)), (by first | rfl | (simp; done) | (simp [*]; done)), H', ⟨by first | omega | exact Nat.le_refl _⟩, ⟨by (with_reducible repeat (first | apply Kd.R_alloc | apply Kd.R_drewN | apply Kd.R_drew)); exact Kd.R_mono HO311.out (fun _ hk => ⟨hk.2, hk.1.2⟩)⟩, ⟨by (with_reducible repeat (first | apply Kd.R_alloc | apply Kd.R_drewN | apply Kd.R_drew)); exact Kd.R_mono HO320.out (fun _ hk => ⟨hk.1.2, hk.2⟩)⟩, ⟨by (with_reducible repeat (first | apply Kd.R_alloc | apply Kd.R_drewN | apply Kd.R_drew)); exact Kd.R_mono HO316.out (fun _ hk => ⟨hk.1.2, hk.2⟩)⟩, ⟨by (with_reducible repeat (first | refine blk_drewN ?_ _ | refine blk_drew ?_ | refine blk_alloc ?_ _)); exact BK303.out⟩, ⟨by (with_reducible repeat (first | refine blk_drewN ?_ _ | refine blk_drew ?_ | refine blk_alloc ?_ _)); exact BK317.out⟩, ⟨by repeat (first | (with_reducible first | exact HB.out | apply below_alloc | apply pw_below_drewN | apply below_drew1 | refine below_set ?_ GE303.out | refine below_set ?_ GE317.out) | exact HB.out)⟩⟩
   ·replace c27 := Bool.eq_false_iff.mpr c27
    subst c27
    have H1 : (laws_FnExactFirstPairing.j0 k t309 t312 t318 t321 true a0_0 l0_1 t313 t314) = some r := by rw [if_neg (show ¬ (false = true) by decide)] at H; exact H
    clear H
    have H := H1
    clear H1
    have H' := Aside0.mk H
    clear H
    obtain ⟨Ao31, co31, eo31⟩ := Kd.R_slice HO320.out
    subst eo31
    obtain ⟨Ao32, co32, eo32⟩ := Kd.R_slice HO311.out
    subst eo32
    go_wp2_with (first | ((with_reducible refine gate_callee (f := 22) rfl ?_); refine goesL_ (some 34) rfl rfl Tryd.func22 (by kernel_rfl) rfl #[.slice Ao31 t318.length co31, .slice Ao32 t309.length co32] rfl (by (try simp only [List.map_toArray, List.map_cons, List.map_nil]); first | done | rfl | (simp only [List.length_drop, List.length_take]; rfl)) ?_; (with_reducible refine (laws_eqPairS.calls k _ _ t318 _ _ t309 false _ ?side1 ?side2 ?side3 ?side4 A26.out).mono ?_); (case side1 => repeat (first | exact (Kd.R_reads' HO320.out).2.2 | (with_reducible refine Kd.C_alloc ?_ _) | (with_reducible refine Kd.C_drewN ?_ _) | (with_reducible refine Kd.C_drew ?_))); (case side2 => exact (Kd.R_reads' HO320.out).2.1); (case side3 => repeat (first | exact (Kd.R_reads' HO311.out).2.2 | (with_reducible refine Kd.C_alloc ?_ _) | (with_reducible refine Kd.C_drewN ?_ _) | (with_reducible refine Kd.C_drew ?_))); (case side4 => exact (Kd.R_reads' HO311.out).2.1); rintro e w33 ⟨rfl, hb⟩; refine ⟨_, rfl, ?_⟩; have n0_ := Aside0.mk (Kd.R_below (by (with_reducible repeat (first | apply Kd.R_alloc | apply Kd.R_drewN | apply Kd.R_drew)); exact HO308.out) hb); have n1_ := Aside0.mk (Kd.R_below (by (with_reducible repeat (first | apply Kd.R_alloc | apply Kd.R_drewN | apply Kd.R_drew)); exact HO311.out) hb); have n2_ := Aside0.mk (Kd.R_below (by (with_reducible repeat (first | apply Kd.R_alloc | apply Kd.R_drewN | apply Kd.R_drew)); exact HO316.out) hb); have n3_ := Aside0.mk (Kd.R_below (by (with_reducible repeat (first | apply Kd.R_alloc | apply Kd.R_drewN | apply Kd.R_drew)); exact HO320.out) hb); have n4_ := Aside0.mk (blk_below (g := gb303) (o := .cells #[.int .i64 a0_0, .slice A0_1 l0_1.length c0_1] 24 (0, 0)) (by (with_reducible repeat (first | refine blk_drewN ?_ _ | refine blk_drew ?_ | refine blk_alloc ?_ _)); exact BK303.out) hb); have n5_ := Aside0.mk (blk_below (g := gb317) (o := .cells #[.int .i64 t313, .slice Ao24 t314.length co24] 30 (0, 0)) (by (with_reducible repeat (first | refine blk_drewN ?_ _ | refine blk_drew ?_ | refine blk_alloc ?_ _)); exact BK317.out) hb); have n6_ := Aside0.mk (below_step (by repeat (first | (with_reducible first | exact HB.out | apply below_alloc | apply pw_below_drewN | apply below_drew1 | refine below_set ?_ GE303.out | refine below_set ?_ GE317.out) | exact HB.out)) hb); clear HO308; clear HO311; clear HO316; clear HO320; clear BK303; clear BK317; clear HB; have HO308 := n0_; have HO311 := n1_; have HO316 := n2_; have HO320 := n3_; have BK303 := n4_; have BK317 := n5_; have HB := n6_; clear n0_ n1_ n2_ n3_ n4_ n5_ n6_; (try clear hb); (try clear hb2); (try clear hk); (try clear hi)))
    go_meet
    case rel => exact ⟨_, (true), (by first | rfl | (simp; done) | (simp [*]; done)), H', ⟨by first | omega | exact Nat.le_refl _⟩, ⟨by (with_reducible repeat (first | apply Kd.R_alloc | apply Kd.R_drewN | apply Kd.R_drew)); exact Kd.R_mono HO311.out (fun _ hk => ⟨hk.2, hk.1.2⟩)⟩, ⟨by (with_reducible repeat (first | apply Kd.R_alloc | apply Kd.R_drewN | apply Kd.R_drew)); exact Kd.R_mono HO320.out (fun _ hk => ⟨hk.1.2, hk.2⟩)⟩, ⟨by (with_reducible repeat (first | apply Kd.R_alloc | apply Kd.R_drewN | apply Kd.R_drew)); exact Kd.R_mono HO316.out (fun _ hk => ⟨hk.1.2, hk.2⟩)⟩, ⟨by (with_reducible repeat (first | refine blk_drewN ?_ _ | refine blk_drew ?_ | refine blk_alloc ?_ _)); exact BK303.out⟩, ⟨by (with_reducible repeat (first | refine blk_drewN ?_ _ | refine blk_drew ?_ | refine blk_alloc ?_ _)); exact BK317.out⟩, ⟨by repeat (first | (with_reducible first | exact HB.out | apply below_alloc | apply pw_below_drewN | apply below_drew1 | refine below_set ?_ GE303.out | refine below_set ?_ GE317.out) | exact HB.out)⟩⟩
  case rest =>
   clear HC11
   try clear c1
   try clear c2
   try clear p2
   try clear c3
   try clear c3b0
   try clear c5
   try clear c13
   try clear c15
   try clear c20
   try clear c21
   try clear c22
   try clear c27
   try clear hcz13_0
   try clear hcz13_1
   try clear hcz15_0
   try clear hcz15_1
   try clear hcz19_0
   try clear hcz19_1
   try clear hcz23_0
   try clear hcz23_1
   try clear hcz5_0
   try clear hcz5_1
   try clear hfz13_0
   try clear hfz13_1
   try clear hfz15_0
   try clear hfz15_1
   try clear hfz19_0
   try clear hfz19_1
   try clear hfz23_0
   try clear hfz23_1
   try clear hfz5_0
   try clear hfz5_1
   obtain ⟨kq, x40_10, rfl, HA, HJ10, HO_4, HO_7, HO_318001, BK303, BK317, HB⟩ := hcut
   cases kq with
   | zero => exact absurd HA.out (by simp [laws_FnExactFirstPairing.j0])
   | succ kj10 =>
    have H := HA.out
    clear HA
    simp only [laws_FnExactFirstPairing.j0] at H
    by_cases c34 : x40_10 = true
    ·subst c34
     have H1 : (some false) = some r := by rw [if_pos rfl] at H; exact H
     clear H
     have H := H1
     clear H1
     obtain rfl := Option.some.inj H
     go_wp2
     go_ret
     exact ⟨by first | rfl | (simp [errW_none, errW_some] <;> rfl) | (simp [*, errW_none, errW_some] <;> rfl), by repeat (first | (with_reducible first | exact HB.out | apply below_alloc | apply pw_below_drewN | apply below_drew1 | refine below_set ?_ GE303.out | refine below_set ?_ GE317.out) | exact HB.out)⟩
    ·replace c34 := Bool.eq_false_iff.mpr c34
     subst c34
     have H1 : ((laws_toParty.f kj10 a0_0 l0_1).bind fun bt323 => ((laws_eqParty.f kj10 t313 t314 bt323.1 bt323.2).bind fun t327 => (if t327 = true then ((laws_markParty.f kj10 t313 t314 1).bind fun bt328 => (if bt328.1 < 0 then (laws_FnExactFirstPairing.j1 kj10 t309 t312 t318 true a0_0 l0_1) else ((laws_eqPairS.f kj10 t318 t309).bind fun t330 => (if t330 = true then (laws_FnExactFirstPairing.j1 kj10 t309 t312 t318 (t321 != t312) a0_0 l0_1) else (laws_FnExactFirstPairing.j1 kj10 t309 t312 t318 true a0_0 l0_1))))) else (some false)))) = some r := by rw [if_neg (show ¬ (false = true) by decide)] at H; exact H
     clear H
     have H := H1
     clear H1
     replace H := Option.bind_eq_some_iff.mp H
     obtain ⟨⟨t323, t324⟩, A350, H⟩ := H
     replace H : ((laws_eqParty.f kj10 t313 t314 t323 t324).bind fun t327 => (if t327 = true then ((laws_markParty.f kj10 t313 t314 1).bind fun bt328 => (if bt328.1 < 0 then (laws_FnExactFirstPairing.j1 kj10 t309 t312 t318 true a0_0 l0_1) else ((laws_eqPairS.f kj10 t318 t309).bind fun t330 => (if t330 = true then (laws_FnExactFirstPairing.j1 kj10 t309 t312 t318 (t321 != t312) a0_0 l0_1) else (laws_FnExactFirstPairing.j1 kj10 t309 t312 t318 true a0_0 l0_1))))) else (some false))) = some r := H
     have A35 := Aside0.mk A350
     clear A350
     replace H := Option.bind_eq_some_iff.mp H
     obtain ⟨t327, A360, H⟩ := H
     replace H : (if t327 = true then ((laws_markParty.f kj10 t313 t314 1).bind fun bt328 => (if bt328.1 < 0 then (laws_FnExactFirstPairing.j1 kj10 t309 t312 t318 true a0_0 l0_1) else ((laws_eqPairS.f kj10 t318 t309).bind fun t330 => (if t330 = true then (laws_FnExactFirstPairing.j1 kj10 t309 t312 t318 (t321 != t312) a0_0 l0_1) else (laws_FnExactFirstPairing.j1 kj10 t309 t312 t318 true a0_0 l0_1))))) else (some false)) = some r := H
     have A36 := Aside0.mk A360
     clear A360
     by_cases c37 : t327 = true
     ·subst c37
      have H1 : ((laws_markParty.f kj10 t313 t314 1).bind fun bt328 => (if bt328.1 < 0 then (laws_FnExactFirstPairing.j1 kj10 t309 t312 t318 true a0_0 l0_1) else ((laws_eqPairS.f kj10 t318 t309).bind fun t330 => (if t330 = true then (laws_FnExactFirstPairing.j1 kj10 t309 t312 t318 (t321 != t312) a0_0 l0_1) else (laws_FnExactFirstPairing.j1 kj10 t309 t312 t318 true a0_0 l0_1))))) = some r := by rw [if_pos rfl] at H; exact H
      clear H
      have H := H1
      clear H1
      replace H := Option.bind_eq_some_iff.mp H
      obtain ⟨⟨t328, t329⟩, A380, H⟩ := H
      replace H : (if t328 < 0 then (laws_FnExactFirstPairing.j1 kj10 t309 t312 t318 true a0_0 l0_1) else ((laws_eqPairS.f kj10 t318 t309).bind fun t330 => (if t330 = true then (laws_FnExactFirstPairing.j1 kj10 t309 t312 t318 (t321 != t312) a0_0 l0_1) else (laws_FnExactFirstPairing.j1 kj10 t309 t312 t318 true a0_0 l0_1)))) = some r := H
      have A38 := Aside0.mk A380
      clear A380
      have HC39 := Aside0.mk H
      clear H
      try go_wp2
      have n0_ := Aside0.mk (Kd.R_drew HO_4.out)
      have n1_ := Aside0.mk (Kd.R_drew HO_7.out)
      have n2_ := Aside0.mk (Kd.R_drew HO_318001.out)
      have n3_ := Aside0.mk (blk_drew BK303.out)
      have n4_ := Aside0.mk (blk_drew BK317.out)
      have n5_ := Aside0.mk (below_drew1 HB.out)
      clear HO_4
      clear HO_7
      clear HO_318001
      clear BK303
      clear BK317
      clear HB
      have HO_4 := n0_
      have HO_7 := n1_
      have HO_318001 := n2_
      have BK303 := n3_
      have BK317 := n4_
      have HB := n5_
      clear n0_ n1_ n2_ n3_ n4_ n5_
      refine start_ (n := 5) (S := fun w' => w'.cell? ⟨gb317, 0, none⟩ = some (.int .i64 t313) ∧ w'.cell? ⟨gb317, 1, none⟩ = some (.slice Ao24 t314.length co24) ∧ w'.cell? ⟨gb303, 0, none⟩ = some (.int .i64 a0_0) ∧ w'.cell? ⟨gb303, 1, none⟩ = some (.slice A0_1 l0_1.length c0_1)) (ds := []) #[false, false, false, false, false] (by kernel_rfl) rfl rfl ⟨(blk_cell BK317.out 0).trans rfl, (blk_cell BK317.out 1).trans rfl, (blk_cell BK303.out 0).trans rfl, (blk_cell BK303.out 1).trans rfl⟩ (fun hHeld => ?_)
      generalize wc.drew = w40 at HO_4 HO_7 HO_318001 BK303 BK317 HB hHeld ⊢
      refine take_ (i := 0) (N := some 41) (v := ?_) (a' := ?_) #[true, false, false, false, false] rfl rfl (by kernel_rfl) (fun _ _ _ h => h) (Or.inl ⟨by rfl, ?_⟩) hHeld ?_ ?_
      rotate_left
      ·rintro w' ⟨s0, s1, s2, s3⟩
       go_simp
       with_reducible rfl
      rotate_left
      ·simp only [Act.put, List.setIfInBounds_toArray, List.set_cons_zero, List.set_cons_succ, i64_w, i32_w]
       rfl
      refine take_ (i := 1) (N := some 42) (v := ?_) (a' := ?_) #[true, true, false, false, false] rfl rfl (by kernel_rfl) (fun _ _ _ h => h) (Or.inl ⟨by rfl, ?_⟩) hHeld ?_ ?_
      rotate_left
      ·rintro w' ⟨s0, s1, s2, s3⟩
       go_simp
       with_reducible rfl
      rotate_left
      ·simp only [Act.put, List.setIfInBounds_toArray, List.set_cons_zero, List.set_cons_succ, i64_w, i32_w]
       rfl
      refine one_ (i := 2) (N := some 43) #[true, true, true, false, false] rfl rfl (by kernel_rfl) (by decide) (fun K hK => ?_)
      refine goes_ Tryd.func15 (by kernel_rfl) rfl #[.agg #[.int .i64 a0_0, .slice A0_1 l0_1.length c0_1]] (by rfl) rfl rfl (by (try simp only [List.map_toArray, List.map_cons, List.map_nil]); first | done | rfl | (simp only [List.length_drop, List.length_take]; rfl)) ?_
      with_reducible refine (laws_toParty.calls kj10 a0_0 _ _ l0_1 t323 t324 _ ?side1 ?side2 A35.out).mono ?_
      (case side1 => repeat (first | exact (Kd.C_below HR0_1.out HB.out) | (with_reducible refine Kd.C_alloc ?_ _) | (with_reducible refine Kd.C_drewN ?_ _) | (with_reducible refine Kd.C_drew ?_)))
      (case side2 => exact HC0_1.out)
      rintro e w41 ⟨v325, rfl, ho0, hb⟩
      refine ⟨_, rfl, ?_⟩
      have n0_ := Aside0.mk (Kd.R_elder' (by (with_reducible repeat (first | apply Kd.R_alloc | apply Kd.R_drewN | apply Kd.R_drew)); exact HO_4.out) (Kd.R_base ho0) hb)
      have n1_ := Aside0.mk (Kd.R_elder' (by (with_reducible repeat (first | apply Kd.R_alloc | apply Kd.R_drewN | apply Kd.R_drew)); exact HO_7.out) (Kd.R_base ho0) hb)
      have n2_ := Aside0.mk (Kd.R_elder' (by (with_reducible repeat (first | apply Kd.R_alloc | apply Kd.R_drewN | apply Kd.R_drew)); exact HO_318001.out) (Kd.R_base ho0) hb)
      have n3_ := Aside0.mk (Kd.R_lower (Kd.R_new' (Kd.R_new' (Kd.R_new' ho0 (Kd.R_lt (by (with_reducible repeat (first | apply Kd.R_alloc | apply Kd.R_drewN | apply Kd.R_drew)); exact HO_4.out))) (Kd.R_lt (by (with_reducible repeat (first | apply Kd.R_alloc | apply Kd.R_drewN | apply Kd.R_drew)); exact HO_7.out))) (Kd.R_lt (by (with_reducible repeat (first | apply Kd.R_alloc | apply Kd.R_drewN | apply Kd.R_drew)); exact HO_318001.out))) (below_size (by repeat (first | (with_reducible first | exact HB.out | apply below_alloc | apply pw_below_drewN | apply below_drew1 | refine below_set ?_ GE303.out | refine below_set ?_ GE317.out) | exact HB.out))))
      have n4_ := Aside0.mk (blk_below (g := gb303) (o := .cells #[.int .i64 a0_0, .slice A0_1 l0_1.length c0_1] 24 (0, 0)) (by (with_reducible repeat (first | refine blk_drewN ?_ _ | refine blk_drew ?_ | refine blk_alloc ?_ _)); exact BK303.out) hb)
      have n5_ := Aside0.mk (blk_below (g := gb317) (o := .cells #[.int .i64 t313, .slice Ao24 t314.length co24] 30 (0, 0)) (by (with_reducible repeat (first | refine blk_drewN ?_ _ | refine blk_drew ?_ | refine blk_alloc ?_ _)); exact BK317.out) hb)
      have n6_ := Aside0.mk (below_step (by repeat (first | (with_reducible first | exact HB.out | apply below_alloc | apply pw_below_drewN | apply below_drew1 | refine below_set ?_ GE303.out | refine below_set ?_ GE317.out) | exact HB.out)) hb)
      clear HO_4
      clear HO_7
      clear HO_318001
      clear BK303
      clear BK317
      clear HB
      have HO_4 := n0_
      have HO_7 := n1_
      have HO_318001 := n2_
      have HO326 := n3_
      have BK303 := n4_
      have BK317 := n5_
      have HB := n6_
      clear n0_ n1_ n2_ n3_ n4_ n5_ n6_
      (try clear hb)
      (try clear hb2)
      (try clear hk)
      (try clear hi)
      (try clear ho0)
      obtain ⟨Ao42, co42, eo42⟩ := Kd.R_slice HO326.out
      (first | subst eo42 | (injection eo42 with f1_ f2_ f3_; have f4_ := f1_.symm; have f5_ := f3_.symm; clear f1_ f2_ f3_; subst f4_; subst f5_))
      refine hK.out _ _ ⟨(blk_cell BK317.out 0).trans rfl, (blk_cell BK317.out 1).trans rfl, (blk_cell BK303.out 0).trans rfl, (blk_cell BK303.out 1).trans rfl⟩ (fun hHeld => ?_)
      clear hK K
      refine norm_ (a' := ?_) ?_ ?_
      rotate_left
      ·show Act.put _ (some 43) _ = _
       simp only [Act.put, List.setIfInBounds_toArray, List.set_cons_zero, List.set_cons_succ, i64_w, i32_w]
       rfl
      refine one_ (i := 3) (N := some 44) #[true, true, true, true, false] rfl rfl (by kernel_rfl) (by decide) (fun K hK => ?_)
      refine goes_ Tryd.func17 (by kernel_rfl) rfl #[.agg #[.int .i64 t313, .slice Ao24 t314.length co24], .agg #[.int .i64 t323, .slice Ao42 t324.length co42]] (by rfl) rfl rfl (by (try simp only [List.map_toArray, List.map_cons, List.map_nil]); first | done | rfl | (simp only [List.length_drop, List.length_take]; rfl)) ?_
      with_reducible refine (laws_eqParty.calls kj10 t313 _ _ t314 t323 _ _ t324 true _ ?side1 ?side2 ?side3 ?side4 A36.out).mono ?_
      (case side1 => repeat (first | exact (Kd.R_reads' HO_318001.out).2.2 | (with_reducible refine Kd.C_alloc ?_ _) | (with_reducible refine Kd.C_drewN ?_ _) | (with_reducible refine Kd.C_drew ?_)))
      (case side2 => exact (Kd.R_reads' HO_318001.out).2.1)
      (case side3 => repeat (first | exact (Kd.R_reads' HO326.out).2.2 | (with_reducible refine Kd.C_alloc ?_ _) | (with_reducible refine Kd.C_drewN ?_ _) | (with_reducible refine Kd.C_drew ?_)))
      (case side4 => exact (Kd.R_reads' HO326.out).2.1)
      rintro e w43 ⟨rfl, hb⟩
      refine ⟨_, rfl, ?_⟩
      have n0_ := Aside0.mk (Kd.R_below (by (with_reducible repeat (first | apply Kd.R_alloc | apply Kd.R_drewN | apply Kd.R_drew)); exact HO_4.out) hb)
      have n1_ := Aside0.mk (Kd.R_below (by (with_reducible repeat (first | apply Kd.R_alloc | apply Kd.R_drewN | apply Kd.R_drew)); exact HO_7.out) hb)
      have n2_ := Aside0.mk (Kd.R_below (by (with_reducible repeat (first | apply Kd.R_alloc | apply Kd.R_drewN | apply Kd.R_drew)); exact HO_318001.out) hb)
      have n3_ := Aside0.mk (Kd.R_below (by (with_reducible repeat (first | apply Kd.R_alloc | apply Kd.R_drewN | apply Kd.R_drew)); exact HO326.out) hb)
      have n4_ := Aside0.mk (blk_below (g := gb303) (o := .cells #[.int .i64 a0_0, .slice A0_1 l0_1.length c0_1] 24 (0, 0)) (by (with_reducible repeat (first | refine blk_drewN ?_ _ | refine blk_drew ?_ | refine blk_alloc ?_ _)); exact BK303.out) hb)
      have n5_ := Aside0.mk (blk_below (g := gb317) (o := .cells #[.int .i64 t313, .slice Ao24 t314.length co24] 30 (0, 0)) (by (with_reducible repeat (first | refine blk_drewN ?_ _ | refine blk_drew ?_ | refine blk_alloc ?_ _)); exact BK317.out) hb)
      have n6_ := Aside0.mk (below_step (by repeat (first | (with_reducible first | exact HB.out | apply below_alloc | apply pw_below_drewN | apply below_drew1 | refine below_set ?_ GE303.out | refine below_set ?_ GE317.out) | exact HB.out)) hb)
      clear HO_4
      clear HO_7
      clear HO_318001
      clear HO326
      clear BK303
      clear BK317
      clear HB
      have HO_4 := n0_
      have HO_7 := n1_
      have HO_318001 := n2_
      have HO326 := n3_
      have BK303 := n4_
      have BK317 := n5_
      have HB := n6_
      clear n0_ n1_ n2_ n3_ n4_ n5_ n6_
      (try clear hb)
      (try clear hb2)
      (try clear hk)
      (try clear hi)
      refine hK.out _ _ ⟨(blk_cell BK317.out 0).trans rfl, (blk_cell BK317.out 1).trans rfl, (blk_cell BK303.out 0).trans rfl, (blk_cell BK303.out 1).trans rfl⟩ (fun hHeld => ?_)
      clear hK K
      refine norm_ (a' := ?_) ?_ ?_
      rotate_left
      ·show Act.put _ (some 44) _ = _
       simp only [Act.put, List.setIfInBounds_toArray, List.set_cons_zero, List.set_cons_succ, i64_w, i32_w]
       rfl
      refine pure_ (i := 4) (N := some 45) (v := ?_) (a' := ?_) #[true, true, true, true, true] rfl rfl (by kernel_rfl) (fun _ _ _ h => h) (Or.inl ⟨by rfl, ?_⟩) ?_ ?_
      rotate_left
      ·intro w'
       go_simp
       with_reducible rfl
      rotate_left
      ·simp only [Act.put, List.setIfInBounds_toArray, List.set_cons_zero, List.set_cons_succ, i64_w, i32_w]
       rfl
      refine done_ (by kernel_rfl) ?_
      have hnb44 := NB317_303.out
      have hnc44 := NB303_317.out
      have hcz45_0 : w43.cell? ⟨gb317, 0, none⟩ = some (.int .i64 t313) := (blk_cell BK317.out 0).trans rfl
      have hcz45_1 : w43.cell? ⟨gb317, 1, none⟩ = some (.slice Ao24 t314.length co24) := (blk_cell BK317.out 1).trans rfl
      have hfz45_0 := blk_frozen BK317.out 0
      have hfz45_1 := blk_frozen BK317.out 1
      go_upto_region 14 with (first | ((with_reducible refine gate_callee (f := 23) rfl ?_); refine goesL_ (some 48) rfl rfl Tryd.func23 (by kernel_rfl) rfl #[.agg #[.int .i64 t313, .slice Ao24 t314.length co24], .int .i64 1] rfl (by (try simp only [List.map_toArray, List.map_cons, List.map_nil]); first | done | rfl | (simp only [List.length_drop, List.length_take]; rfl)) ?_; (with_reducible refine (laws_markParty.calls kj10 t313 (fun k_ => some k_ = (.slice Ao24 t314.length co24 : Value).ownBlock) (.slice Ao24 t314.length co24) t314 1 t328 t329 w _ ?side1 ?side2 A38.out).mono ?_); (case side1 => repeat (first | (with_reducible first | exact HB.out | apply below_alloc | apply pw_below_drewN | apply below_drew1 | refine below_set ?_ GE303.out | refine below_set ?_ GE317.out) | exact HB.out)); (case side2 => exact Kd.R_tight rfl HO_318001.out); rintro e w46 ⟨rfl, hy0, hb, hkp⟩; refine ⟨_, rfl, ?_⟩; have n0_ := Aside0.mk (Kd.R_mono (ok' := fun k_ => some k_ ≠ (v319 : Value).ownBlock ∧ some k_ ≠ (.slice Ao24 t314.length co24 : Value).ownBlock ∧ some k_ ≠ (.slice Ao42 t324.length co42 : Value).ownBlock) (Kd.R_keptB (HO_4.out) hkp (fun k_ hk_ hs_ => (hk_.1.2) hs_)) (fun k_ hk_ => ⟨hk_.1.1.1, hk_.1.1.2, hk_.1.2⟩)); have n1_ := Aside0.mk (Kd.R_mono (ok' := fun k_ => some k_ ≠ (v310 : Value).ownBlock ∧ some k_ ≠ (.slice Ao24 t314.length co24 : Value).ownBlock ∧ some k_ ≠ (.slice Ao42 t324.length co42 : Value).ownBlock) (Kd.R_keptB (HO_7.out) hkp (fun k_ hk_ hs_ => (hk_.1.2) hs_)) (fun k_ hk_ => ⟨hk_.1.1.1, hk_.1.1.2, hk_.1.2⟩)); have n2_ := Aside0.mk (Kd.R_reok rfl hy0 (fun k_ e_ => HO_318001.out.1 k_ e_)); have n3_ := Aside0.mk (blk_kept (by (with_reducible repeat (first | refine blk_drewN ?_ _ | refine blk_drew ?_ | refine blk_alloc ?_ _)); exact BK303.out) hkp (fun hs_ => (fun e_ => (Kd.R_ne HO_318001.out BK303.out (by decide)) e_) hs_)); have n4_ := Aside0.mk (blk_kept (by (with_reducible repeat (first | refine blk_drewN ?_ _ | refine blk_drew ?_ | refine blk_alloc ?_ _)); exact BK317.out) hkp (fun hs_ => (fun e_ => (Kd.R_ne HO_318001.out BK317.out (by decide)) e_) hs_)); have n5_ := Aside0.mk (Kd.R_mono (ok' := fun k_ => some k_ ≠ (v310 : Value).ownBlock ∧ some k_ ≠ (v319 : Value).ownBlock ∧ some k_ ≠ (.slice Ao24 t314.length co24 : Value).ownBlock) (Kd.R_keptB (HO326.out) hkp (fun k_ hk_ hs_ => (hk_.2) hs_)) (fun k_ hk_ => ⟨hk_.1.1.1.2, hk_.1.1.2, hk_.1.2⟩)); have n6_ := Aside0.mk (hb); clear HO_4; clear HO_7; clear HO_318001; clear BK303; clear BK317; clear HO326; clear HB; have HO_4 := n0_; have HO_7 := n1_; have HO_318001 := n2_; have BK303 := n3_; have BK317 := n4_; have HO326 := n5_; have HB := n6_; clear n0_ n1_ n2_ n3_ n4_ n5_ n6_; (try clear hb); (try clear hkp); (try clear hy0)))
      (try simp only [Act.put, List.setIfInBounds_toArray, List.set_cons_zero, List.set_cons_succ])
      go_cut [61] (fun v61 wc => ∃ (kq : Nat) (x61_38 : Bool), v61 = .bool x61_38 ∧ Aside0 (laws_FnExactFirstPairing.j1 kq t309 t312 t318 x61_38 a0_0 l0_1 = some r) ∧ Aside0 (kq ≤ kj10) ∧ Aside0 (Kd.R k98 98 wc w.heap.size (fun k_ => some k_ ≠ (v319 : Value).ownBlock ∧ some k_ ≠ ((.slice Ao24 t314.length co24) : Value).ownBlock) v310 t309) ∧ Aside0 (Kd.R k98 98 wc w.heap.size (fun k_ => some k_ ≠ (v310 : Value).ownBlock ∧ some k_ ≠ ((.slice Ao24 t314.length co24) : Value).ownBlock) v319 t318) ∧ Aside0 (Kd.R k98 98 wc w.heap.size (fun k_ => some k_ ≠ (v310 : Value).ownBlock ∧ some k_ ≠ (v319 : Value).ownBlock) (.slice Ao24 t314.length co24) t329) ∧ Aside0 (wc.heap[gb303]? = some (.cells #[.int .i64 a0_0, (.slice A0_1 l0_1.length c0_1)] 24 (0, 0))) ∧ Aside0 (wc.heap[gb317]? = some (.cells #[.int .i64 t313, (.slice Ao24 t314.length co24)] 30 (0, 0))) ∧ Aside0 (Below w.heap.size w wc))
      case first =>
       have H := HC39.out
       clear HC39
       by_cases c47 : t328 < 0
       ·rw [if_pos c47] at H
        have c47b0 : decide (t328 < 0) = true := decide_eq_true c47
        clear c47
        (first | rw [c47b0] | (simp only [i64_w, i32_w]; rw [c47b0]) | skip)
        have H' := Aside0.mk H
        clear H
        go_wp2
        go_meet
        case rel => exact ⟨_, (true), (by first | rfl | (simp; done) | (simp [*]; done)), H', ⟨by have := HJ10.out; first | omega | exact Nat.le_refl _⟩, ⟨by (with_reducible repeat (first | apply Kd.R_alloc | apply Kd.R_drewN | apply Kd.R_drew)); exact Kd.R_mono HO_4.out (fun _ hk => ⟨hk.1, hk.2.1⟩)⟩, ⟨by (with_reducible repeat (first | apply Kd.R_alloc | apply Kd.R_drewN | apply Kd.R_drew)); exact Kd.R_mono HO_7.out (fun _ hk => ⟨hk.1, hk.2.1⟩)⟩, ⟨by (with_reducible repeat (first | apply Kd.R_alloc | apply Kd.R_drewN | apply Kd.R_drew)); exact Kd.R_mono HO_318001.out (fun _ hk => ⟨hk.1.1, hk.1.2⟩)⟩, ⟨by (with_reducible repeat (first | refine blk_drewN ?_ _ | refine blk_drew ?_ | refine blk_alloc ?_ _)); exact BK303.out⟩, ⟨by (with_reducible repeat (first | refine blk_drewN ?_ _ | refine blk_drew ?_ | refine blk_alloc ?_ _)); exact BK317.out⟩, ⟨by repeat (first | (with_reducible first | exact HB.out | apply below_alloc | apply pw_below_drewN | apply below_drew1 | refine below_set ?_ GE303.out | refine below_set ?_ GE317.out) | exact HB.out)⟩⟩
       ·rw [if_neg c47] at H
        have c47b0 : decide (t328 < 0) = false := decide_eq_false c47
        clear c47
        (first | rw [c47b0] | (simp only [i64_w, i32_w]; rw [c47b0]) | skip)
        replace H := Option.bind_eq_some_iff.mp H
        obtain ⟨t330, A480, H⟩ := H
        replace H : (if t330 = true then (laws_FnExactFirstPairing.j1 kj10 t309 t312 t318 (t321 != t312) a0_0 l0_1) else (laws_FnExactFirstPairing.j1 kj10 t309 t312 t318 true a0_0 l0_1)) = some r := H
        have A48 := Aside0.mk A480
        clear A480
        by_cases c49 : t330 = true
        ·subst c49
         have H1 : (laws_FnExactFirstPairing.j1 kj10 t309 t312 t318 (t321 != t312) a0_0 l0_1) = some r := by rw [if_pos rfl] at H; exact H
         clear H
         have H := H1
         clear H1
         have H' := Aside0.mk H
         clear H
         obtain ⟨Ao50, co50, eo50⟩ := Kd.R_slice HO_7.out
         subst eo50
         obtain ⟨Ao51, co51, eo51⟩ := Kd.R_slice HO_4.out
         subst eo51
         go_wp2_with (first | (go_at_call 22; (with_reducible refine (laws_eqPairS.calls kj10 _ _ t318 _ _ t309 true _ ?side1 ?side2 ?side3 ?side4 A48.out).mono ?_); (case side1 => repeat (first | exact (Kd.R_reads' HO_7.out).2.2 | (with_reducible refine Kd.C_alloc ?_ _) | (with_reducible refine Kd.C_drewN ?_ _) | (with_reducible refine Kd.C_drew ?_))); (case side2 => exact (Kd.R_reads' HO_7.out).2.1); (case side3 => repeat (first | exact (Kd.R_reads' HO_4.out).2.2 | (with_reducible refine Kd.C_alloc ?_ _) | (with_reducible refine Kd.C_drewN ?_ _) | (with_reducible refine Kd.C_drew ?_))); (case side4 => exact (Kd.R_reads' HO_4.out).2.1); rintro e w52 ⟨rfl, hb⟩; have n0_ := Aside0.mk (Kd.R_below (by (with_reducible repeat (first | apply Kd.R_alloc | apply Kd.R_drewN | apply Kd.R_drew)); exact HO_4.out) hb); have n1_ := Aside0.mk (Kd.R_below (by (with_reducible repeat (first | apply Kd.R_alloc | apply Kd.R_drewN | apply Kd.R_drew)); exact HO_7.out) hb); have n2_ := Aside0.mk (Kd.R_below (by (with_reducible repeat (first | apply Kd.R_alloc | apply Kd.R_drewN | apply Kd.R_drew)); exact HO_318001.out) hb); have n3_ := Aside0.mk (Kd.R_below (by (with_reducible repeat (first | apply Kd.R_alloc | apply Kd.R_drewN | apply Kd.R_drew)); exact HO326.out) hb); have n4_ := Aside0.mk (blk_below (g := gb303) (o := .cells #[.int .i64 a0_0, .slice A0_1 l0_1.length c0_1] 24 (0, 0)) (by (with_reducible repeat (first | refine blk_drewN ?_ _ | refine blk_drew ?_ | refine blk_alloc ?_ _)); exact BK303.out) hb); have n5_ := Aside0.mk (blk_below (g := gb317) (o := .cells #[.int .i64 t313, .slice Ao24 t314.length co24] 30 (0, 0)) (by (with_reducible repeat (first | refine blk_drewN ?_ _ | refine blk_drew ?_ | refine blk_alloc ?_ _)); exact BK317.out) hb); have n6_ := Aside0.mk (below_step (by repeat (first | (with_reducible first | exact HB.out | apply below_alloc | apply pw_below_drewN | apply below_drew1 | refine below_set ?_ GE303.out | refine below_set ?_ GE317.out) | exact HB.out)) hb); clear HO_4; clear HO_7; clear HO_318001; clear HO326; clear BK303; clear BK317; clear HB; have HO_4 := n0_; have HO_7 := n1_; have HO_318001 := n2_; have HO326 := n3_; have BK303 := n4_; have BK317 := n5_; have HB := n6_; clear n0_ n1_ n2_ n3_ n4_ n5_ n6_; (try clear hb); (try clear hb2); (try clear hk); (try clear hi)))
         go_meet
         case rel => exact ⟨_, ((t321 != t312)), (by first | rfl | (simp; done) | (simp [*]; done)), H', ⟨by have := HJ10.out; first | omega | exact Nat.le_refl _⟩, ⟨by (with_reducible repeat (first | apply Kd.R_alloc | apply Kd.R_drewN | apply Kd.R_drew)); exact Kd.R_mono HO_4.out (fun _ hk => ⟨hk.1, hk.2.1⟩)⟩, ⟨by (with_reducible repeat (first | apply Kd.R_alloc | apply Kd.R_drewN | apply Kd.R_drew)); exact Kd.R_mono HO_7.out (fun _ hk => ⟨hk.1, hk.2.1⟩)⟩, ⟨by (with_reducible repeat (first | apply Kd.R_alloc | apply Kd.R_drewN | apply Kd.R_drew)); exact Kd.R_mono HO_318001.out (fun _ hk => ⟨hk.1.1, hk.1.2⟩)⟩, ⟨by (with_reducible repeat (first | refine blk_drewN ?_ _ | refine blk_drew ?_ | refine blk_alloc ?_ _)); exact BK303.out⟩, ⟨by (with_reducible repeat (first | refine blk_drewN ?_ _ | refine blk_drew ?_ | refine blk_alloc ?_ _)); exact BK317.out⟩, ⟨by repeat (first | (with_reducible first | exact HB.out | apply below_alloc | apply pw_below_drewN | apply below_drew1 | refine below_set ?_ GE303.out | refine below_set ?_ GE317.out) | exact HB.out)⟩⟩
        ·replace c49 := Bool.eq_false_iff.mpr c49
         subst c49
         have H1 : (laws_FnExactFirstPairing.j1 kj10 t309 t312 t318 true a0_0 l0_1) = some r := by rw [if_neg (show ¬ (false = true) by decide)] at H; exact H
         clear H
         have H := H1
         clear H1
         have H' := Aside0.mk H
         clear H
         obtain ⟨Ao53, co53, eo53⟩ := Kd.R_slice HO_7.out
         subst eo53
         obtain ⟨Ao54, co54, eo54⟩ := Kd.R_slice HO_4.out
         subst eo54
         go_wp2_with (first | (go_at_call 22; (with_reducible refine (laws_eqPairS.calls kj10 _ _ t318 _ _ t309 false _ ?side1 ?side2 ?side3 ?side4 A48.out).mono ?_); (case side1 => repeat (first | exact (Kd.R_reads' HO_7.out).2.2 | (with_reducible refine Kd.C_alloc ?_ _) | (with_reducible refine Kd.C_drewN ?_ _) | (with_reducible refine Kd.C_drew ?_))); (case side2 => exact (Kd.R_reads' HO_7.out).2.1); (case side3 => repeat (first | exact (Kd.R_reads' HO_4.out).2.2 | (with_reducible refine Kd.C_alloc ?_ _) | (with_reducible refine Kd.C_drewN ?_ _) | (with_reducible refine Kd.C_drew ?_))); (case side4 => exact (Kd.R_reads' HO_4.out).2.1); rintro e w55 ⟨rfl, hb⟩; have n0_ := Aside0.mk (Kd.R_below (by (with_reducible repeat (first | apply Kd.R_alloc | apply Kd.R_drewN | apply Kd.R_drew)); exact HO_4.out) hb); have n1_ := Aside0.mk (Kd.R_below (by (with_reducible repeat (first | apply Kd.R_alloc | apply Kd.R_drewN | apply Kd.R_drew)); exact HO_7.out) hb); have n2_ := Aside0.mk (Kd.R_below (by (with_reducible repeat (first | apply Kd.R_alloc | apply Kd.R_drewN | apply Kd.R_drew)); exact HO_318001.out) hb); have n3_ := Aside0.mk (Kd.R_below (by (with_reducible repeat (first | apply Kd.R_alloc | apply Kd.R_drewN | apply Kd.R_drew)); exact HO326.out) hb); have n4_ := Aside0.mk (blk_below (g := gb303) (o := .cells #[.int .i64 a0_0, .slice A0_1 l0_1.length c0_1] 24 (0, 0)) (by (with_reducible repeat (first | refine blk_drewN ?_ _ | refine blk_drew ?_ | refine blk_alloc ?_ _)); exact BK303.out) hb); have n5_ := Aside0.mk (blk_below (g := gb317) (o := .cells #[.int .i64 t313, .slice Ao24 t314.length co24] 30 (0, 0)) (by (with_reducible repeat (first | refine blk_drewN ?_ _ | refine blk_drew ?_ | refine blk_alloc ?_ _)); exact BK317.out) hb); have n6_ := Aside0.mk (below_step (by repeat (first | (with_reducible first | exact HB.out | apply below_alloc | apply pw_below_drewN | apply below_drew1 | refine below_set ?_ GE303.out | refine below_set ?_ GE317.out) | exact HB.out)) hb); clear HO_4; clear HO_7; clear HO_318001; clear HO326; clear BK303; clear BK317; clear HB; have HO_4 := n0_; have HO_7 := n1_; have HO_318001 := n2_; have HO326 := n3_; have BK303 := n4_; have BK317 := n5_; have HB := n6_; clear n0_ n1_ n2_ n3_ n4_ n5_ n6_; (try clear hb); (try clear hb2); (try clear hk); (try clear hi)))
         go_meet
         case rel => exact ⟨_, (true), (by first | rfl | (simp; done) | (simp [*]; done)), H', ⟨by have := HJ10.out; first | omega | exact Nat.le_refl _⟩, ⟨by (with_reducible repeat (first | apply Kd.R_alloc | apply Kd.R_drewN | apply Kd.R_drew)); exact Kd.R_mono HO_4.out (fun _ hk => ⟨hk.1, hk.2.1⟩)⟩, ⟨by (with_reducible repeat (first | apply Kd.R_alloc | apply Kd.R_drewN | apply Kd.R_drew)); exact Kd.R_mono HO_7.out (fun _ hk => ⟨hk.1, hk.2.1⟩)⟩, ⟨by (with_reducible repeat (first | apply Kd.R_alloc | apply Kd.R_drewN | apply Kd.R_drew)); exact Kd.R_mono HO_318001.out (fun _ hk => ⟨hk.1.1, hk.1.2⟩)⟩, ⟨by (with_reducible repeat (first | refine blk_drewN ?_ _ | refine blk_drew ?_ | refine blk_alloc ?_ _)); exact BK303.out⟩, ⟨by (with_reducible repeat (first | refine blk_drewN ?_ _ | refine blk_drew ?_ | refine blk_alloc ?_ _)); exact BK317.out⟩, ⟨by repeat (first | (with_reducible first | exact HB.out | apply below_alloc | apply pw_below_drewN | apply below_drew1 | refine below_set ?_ GE303.out | refine below_set ?_ GE317.out) | exact HB.out)⟩⟩
      case rest =>
       clear HC39
       try clear c1
       try clear c2
       try clear p2
       try clear c3
       try clear c3b0
       try clear c4
       try clear c5
       try clear c13
       try clear c15
       try clear c17
       try clear c20
       try clear c21
       try clear c22
       try clear c23
       try clear c27
       try clear c34
       try clear c37
       try clear c44
       try clear c47
       try clear c47b0
       try clear c49
       try clear hcz13_0
       try clear hcz13_1
       try clear hcz15_0
       try clear hcz15_1
       try clear hcz19_0
       try clear hcz19_1
       try clear hcz23_0
       try clear hcz23_1
       try clear hcz45_0
       try clear hcz45_1
       try clear hcz5_0
       try clear hcz5_1
       try clear hfz13_0
       try clear hfz13_1
       try clear hfz15_0
       try clear hfz15_1
       try clear hfz19_0
       try clear hfz19_1
       try clear hfz23_0
       try clear hfz23_1
       try clear hfz45_0
       try clear hfz45_1
       try clear hfz5_0
       try clear hfz5_1
       try clear p2
       obtain ⟨kq, x61_38, rfl, HA, HJ38, HO_4, HO_7, HO_318001, BK303, BK317, HB⟩ := hcut
       have hl318001_38 := (Kd.R_reads' HO_318001.out).1
       rw [hl318001_38] at HO_318001
       (try simp only [hl318001_38])
       (try simp only [hl318001_38] at BK303)
       (try simp only [hl318001_38] at BK317)
       (try simp only [hl318001_38] at HO_4)
       (try simp only [hl318001_38] at HO_7)
       cases kq with
       | zero => exact absurd HA.out (by simp [laws_FnExactFirstPairing.j1])
       | succ kj38 =>
        have H := HA.out
        clear HA
        simp only [laws_FnExactFirstPairing.j1] at H
        by_cases c56 : x61_38 = true
        ·subst c56
         have H1 : (some false) = some r := by rw [if_pos rfl] at H; exact H
         clear H
         have H := H1
         clear H1
         obtain rfl := Option.some.inj H
         go_wp2
         go_ret
         exact ⟨by first | rfl | (simp [errW_none, errW_some] <;> rfl) | (simp [*, errW_none, errW_some] <;> rfl), by repeat (first | (with_reducible first | exact HB.out | apply below_alloc | apply pw_below_drewN | apply below_drew1 | refine below_set ?_ GE303.out | refine below_set ?_ GE317.out) | exact HB.out)⟩
        ·replace c56 := Bool.eq_false_iff.mpr c56
         subst c56
         have H1 : ((laws_markPairS.f kj38 t318 1).bind fun bt331 => ((laws_heldPairS.f kj38 bt331.2 1).bind fun t333 => (if t333 < 0 then (some false) else (if t333 = bt331.1 then ((laws_toParty.f kj38 a0_0 l0_1).bind fun bt334 => ((impl_FirstPairing.f kj38 bt334.1 bt334.2).bind fun bt338 => ((laws_eqPairS.f kj38 bt338.1 t309).bind fun t342 => (if t342 = true then (laws_FnExactFirstPairing.j2 kj38 bt331.2 bt331.1 (bt338.2 != t312)) else (laws_FnExactFirstPairing.j2 kj38 bt331.2 bt331.1 true))))) else (some false))))) = some r := by rw [if_neg (show ¬ (false = true) by decide)] at H; exact H
         clear H
         have H := H1
         clear H1
         replace H := Option.bind_eq_some_iff.mp H
         obtain ⟨⟨t331, t332⟩, A570, H⟩ := H
         replace H : ((laws_heldPairS.f kj38 t332 1).bind fun t333 => (if t333 < 0 then (some false) else (if t333 = t331 then ((laws_toParty.f kj38 a0_0 l0_1).bind fun bt334 => ((impl_FirstPairing.f kj38 bt334.1 bt334.2).bind fun bt338 => ((laws_eqPairS.f kj38 bt338.1 t309).bind fun t342 => (if t342 = true then (laws_FnExactFirstPairing.j2 kj38 t332 t331 (bt338.2 != t312)) else (laws_FnExactFirstPairing.j2 kj38 t332 t331 true))))) else (some false)))) = some r := H
         have A57 := Aside0.mk A570
         clear A570
         replace H := Option.bind_eq_some_iff.mp H
         obtain ⟨t333, A580, H⟩ := H
         replace H : (if t333 < 0 then (some false) else (if t333 = t331 then ((laws_toParty.f kj38 a0_0 l0_1).bind fun bt334 => ((impl_FirstPairing.f kj38 bt334.1 bt334.2).bind fun bt338 => ((laws_eqPairS.f kj38 bt338.1 t309).bind fun t342 => (if t342 = true then (laws_FnExactFirstPairing.j2 kj38 t332 t331 (bt338.2 != t312)) else (laws_FnExactFirstPairing.j2 kj38 t332 t331 true))))) else (some false))) = some r := H
         have A58 := Aside0.mk A580
         clear A580
         by_cases c59 : t333 < 0
         ·rw [if_pos c59] at H
          have c59b0 : decide (t333 < 0) = true := decide_eq_true c59
          clear c59
          obtain rfl := Option.some.inj H
          obtain ⟨Ao60, co60, eo60⟩ := Kd.R_slice HO_7.out
          subst eo60
          go_wp2_with (first | ((with_reducible refine gate_callee (f := 24) rfl ?_); refine goesL_ (some 64) rfl rfl Tryd.func24 (by kernel_rfl) rfl #[.slice Ao60 t318.length co60, .int .i64 1] rfl (by (try simp only [List.map_toArray, List.map_cons, List.map_nil]); first | done | rfl | (simp only [List.length_drop, List.length_take]; rfl)) ?_; (with_reducible refine (laws_markPairS.calls kj38 (fun k_ => some k_ = (.slice Ao60 t318.length co60 : Value).ownBlock) (.slice Ao60 t318.length co60) t318 1 t331 t332 w _ ?side1 ?side2 A57.out).mono ?_); (case side1 => repeat (first | (with_reducible first | exact HB.out | apply below_alloc | apply pw_below_drewN | apply below_drew1 | refine below_set ?_ GE303.out | refine below_set ?_ GE317.out) | exact HB.out)); (case side2 => exact Kd.R_tight rfl HO_7.out); rintro e w61 ⟨rfl, hy0, hb, hkp⟩; refine ⟨_, rfl, ?_⟩; have n0_ := Aside0.mk (Kd.R_mono (ok' := fun k_ => some k_ ≠ (.slice Ao60 t318.length co60 : Value).ownBlock ∧ some k_ ≠ (.slice Ao24 t329.length co24 : Value).ownBlock) (Kd.R_keptB (HO_4.out) hkp (fun k_ hk_ hs_ => (hk_.1) hs_)) (fun k_ hk_ => ⟨hk_.1.1, hk_.1.2⟩)); have n1_ := Aside0.mk (Kd.R_reok rfl hy0 (fun k_ e_ => HO_7.out.1 k_ e_)); have n2_ := Aside0.mk (Kd.R_mono (ok' := fun k_ => some k_ ≠ (v310 : Value).ownBlock ∧ some k_ ≠ (.slice Ao60 t318.length co60 : Value).ownBlock) (Kd.R_keptB (HO_318001.out) hkp (fun k_ hk_ hs_ => (hk_.2) hs_)) (fun k_ hk_ => ⟨hk_.1.1, hk_.1.2⟩)); have n3_ := Aside0.mk (blk_kept (by (with_reducible repeat (first | refine blk_drewN ?_ _ | refine blk_drew ?_ | refine blk_alloc ?_ _)); exact BK303.out) hkp (fun hs_ => (fun e_ => (Kd.R_ne HO_7.out BK303.out (by decide)) e_) hs_)); have n4_ := Aside0.mk (blk_kept (by (with_reducible repeat (first | refine blk_drewN ?_ _ | refine blk_drew ?_ | refine blk_alloc ?_ _)); exact BK317.out) hkp (fun hs_ => (fun e_ => (Kd.R_ne HO_7.out BK317.out (by decide)) e_) hs_)); have n5_ := Aside0.mk (hb); clear HO_4; clear HO_7; clear HO_318001; clear BK303; clear BK317; clear HB; have HO_4 := n0_; have HO_7 := n1_; have HO_318001 := n2_; have BK303 := n3_; have BK317 := n4_; have HB := n5_; clear n0_ n1_ n2_ n3_ n4_ n5_; (try clear hb); (try clear hkp); (try clear hy0)) | ((with_reducible refine gate_callee (f := 25) rfl ?_); refine goesL_ (some 67) rfl rfl Tryd.func25 (by kernel_rfl) rfl #[.slice Ao60 t332.length co60, .int .i64 1] rfl (by (try simp only [List.map_toArray, List.map_cons, List.map_nil]); first | done | (rw [show t332.length = t318.length from (Kd.R_reads' HO_7.out).1.symm] <;> rfl) | rfl | (simp only [List.length_drop, List.length_take]; rfl)) ?_; (with_reducible refine (laws_heldPairS.calls kj38 _ _ t332 1 t333 _ ?side1 ?side2 A58.out).mono ?_); (case side1 => repeat (first | exact (Kd.R_reads' HO_7.out).2.2 | (with_reducible refine Kd.C_alloc ?_ _) | (with_reducible refine Kd.C_drewN ?_ _) | (with_reducible refine Kd.C_drew ?_))); (case side2 => rw [show t332.length = t318.length from (Kd.R_reads' HO_7.out).1.symm]; exact (Kd.R_reads' HO_7.out).2.1); rintro e w' ⟨rfl, ⟨nd, rfl⟩⟩; refine ⟨_, rfl, ?_⟩))
          go_ret
          exact ⟨by first | rfl | (simp [errW_none, errW_some] <;> rfl) | (simp [*, errW_none, errW_some] <;> rfl), by repeat (first | (with_reducible first | exact HB.out | apply below_alloc | apply pw_below_drewN | apply below_drew1 | refine below_set ?_ GE303.out | refine below_set ?_ GE317.out) | exact HB.out)⟩
         ·rw [if_neg c59] at H
          have c59b0 : decide (t333 < 0) = false := decide_eq_false c59
          clear c59
          by_cases c62 : t333 = t331
          ·rw [if_pos c62] at H
           have c62b0 : (t333 == t331) = true := beq_iff_eq.mpr c62
           have c62b1 : (t333 != t331) = false := bne_eq_false_iff_eq.mpr c62
           clear c62
           replace H := Option.bind_eq_some_iff.mp H
           obtain ⟨⟨t334, t335⟩, A630, H⟩ := H
           replace H : ((impl_FirstPairing.f kj38 t334 t335).bind fun bt338 => ((laws_eqPairS.f kj38 bt338.1 t309).bind fun t342 => (if t342 = true then (laws_FnExactFirstPairing.j2 kj38 t332 t331 (bt338.2 != t312)) else (laws_FnExactFirstPairing.j2 kj38 t332 t331 true)))) = some r := H
           have A63 := Aside0.mk A630
           clear A630
           replace H := Option.bind_eq_some_iff.mp H
           obtain ⟨⟨t338, t341⟩, A640, H⟩ := H
           replace H : ((laws_eqPairS.f kj38 t338 t309).bind fun t342 => (if t342 = true then (laws_FnExactFirstPairing.j2 kj38 t332 t331 (t341 != t312)) else (laws_FnExactFirstPairing.j2 kj38 t332 t331 true))) = some r := H
           have A64 := Aside0.mk A640
           clear A640
           have HC65 := Aside0.mk H
           clear H
           obtain ⟨Ao66, co66, eo66⟩ := Kd.R_slice HO_7.out
           subst eo66
           go_upto_region 25 with (first | ((with_reducible refine gate_callee (f := 24) rfl ?_); refine goesL_ (some 64) rfl rfl Tryd.func24 (by kernel_rfl) rfl #[.slice Ao66 t318.length co66, .int .i64 1] rfl (by (try simp only [List.map_toArray, List.map_cons, List.map_nil]); first | done | rfl | (simp only [List.length_drop, List.length_take]; rfl)) ?_; (with_reducible refine (laws_markPairS.calls kj38 (fun k_ => some k_ = (.slice Ao66 t318.length co66 : Value).ownBlock) (.slice Ao66 t318.length co66) t318 1 t331 t332 w _ ?side1 ?side2 A57.out).mono ?_); (case side1 => repeat (first | (with_reducible first | exact HB.out | apply below_alloc | apply pw_below_drewN | apply below_drew1 | refine below_set ?_ GE303.out | refine below_set ?_ GE317.out) | exact HB.out)); (case side2 => exact Kd.R_tight rfl HO_7.out); rintro e w67 ⟨rfl, hy0, hb, hkp⟩; refine ⟨_, rfl, ?_⟩; have n0_ := Aside0.mk (Kd.R_mono (ok' := fun k_ => some k_ ≠ (.slice Ao66 t318.length co66 : Value).ownBlock ∧ some k_ ≠ (.slice Ao24 t329.length co24 : Value).ownBlock) (Kd.R_keptB (HO_4.out) hkp (fun k_ hk_ hs_ => (hk_.1) hs_)) (fun k_ hk_ => ⟨hk_.1.1, hk_.1.2⟩)); have n1_ := Aside0.mk (Kd.R_reok rfl hy0 (fun k_ e_ => HO_7.out.1 k_ e_)); have n2_ := Aside0.mk (Kd.R_mono (ok' := fun k_ => some k_ ≠ (v310 : Value).ownBlock ∧ some k_ ≠ (.slice Ao66 t318.length co66 : Value).ownBlock) (Kd.R_keptB (HO_318001.out) hkp (fun k_ hk_ hs_ => (hk_.2) hs_)) (fun k_ hk_ => ⟨hk_.1.1, hk_.1.2⟩)); have n3_ := Aside0.mk (blk_kept (by (with_reducible repeat (first | refine blk_drewN ?_ _ | refine blk_drew ?_ | refine blk_alloc ?_ _)); exact BK303.out) hkp (fun hs_ => (fun e_ => (Kd.R_ne HO_7.out BK303.out (by decide)) e_) hs_)); have n4_ := Aside0.mk (blk_kept (by (with_reducible repeat (first | refine blk_drewN ?_ _ | refine blk_drew ?_ | refine blk_alloc ?_ _)); exact BK317.out) hkp (fun hs_ => (fun e_ => (Kd.R_ne HO_7.out BK317.out (by decide)) e_) hs_)); have n5_ := Aside0.mk (hb); clear HO_4; clear HO_7; clear HO_318001; clear BK303; clear BK317; clear HB; have HO_4 := n0_; have HO_7 := n1_; have HO_318001 := n2_; have BK303 := n3_; have BK317 := n4_; have HB := n5_; clear n0_ n1_ n2_ n3_ n4_ n5_; (try clear hb); (try clear hkp); (try clear hy0)) | ((with_reducible refine gate_callee (f := 25) rfl ?_); refine goesL_ (some 67) rfl rfl Tryd.func25 (by kernel_rfl) rfl #[.slice Ao66 t332.length co66, .int .i64 1] rfl (by (try simp only [List.map_toArray, List.map_cons, List.map_nil]); first | done | (rw [show t332.length = t318.length from (Kd.R_reads' HO_7.out).1.symm] <;> rfl) | rfl | (simp only [List.length_drop, List.length_take]; rfl)) ?_; (with_reducible refine (laws_heldPairS.calls kj38 _ _ t332 1 t333 _ ?side1 ?side2 A58.out).mono ?_); (case side1 => repeat (first | exact (Kd.R_reads' HO_7.out).2.2 | (with_reducible refine Kd.C_alloc ?_ _) | (with_reducible refine Kd.C_drewN ?_ _) | (with_reducible refine Kd.C_drew ?_))); (case side2 => rw [show t332.length = t318.length from (Kd.R_reads' HO_7.out).1.symm]; exact (Kd.R_reads' HO_7.out).2.1); rintro e w' ⟨rfl, ⟨nd, rfl⟩⟩; refine ⟨_, rfl, ?_⟩; have hnb68 := NB303_317.out; have hnc68 := NB317_303.out; have hcz69_0 : w67.cell? ⟨gb303, 0, none⟩ = some (.int .i64 a0_0) := (blk_cell BK303.out 0).trans rfl; have hcz69_1 : w67.cell? ⟨gb303, 1, none⟩ = some (.slice A0_1 l0_1.length c0_1) := (blk_cell BK303.out 1).trans rfl; have hfz69_0 := blk_frozen BK303.out 0; have hfz69_1 := blk_frozen BK303.out 1) | ((with_reducible refine gate_callee (f := 15) rfl ?_); refine goesL_ (some 75) rfl rfl Tryd.func15 (by kernel_rfl) rfl #[.agg #[.int .i64 a0_0, .slice A0_1 l0_1.length c0_1]] rfl (by (try simp only [List.map_toArray, List.map_cons, List.map_nil]); first | done | rfl | (simp only [List.length_drop, List.length_take]; rfl)) ?_; (with_reducible refine (laws_toParty.calls kj38 a0_0 _ _ l0_1 t334 t335 _ ?side1 ?side2 A63.out).mono ?_); (case side1 => repeat (first | exact (Kd.C_below HR0_1.out (by repeat (first | (with_reducible first | exact HB.out | apply below_alloc | apply pw_below_drewN | apply below_drew1 | refine below_set ?_ GE303.out | refine below_set ?_ GE317.out) | exact HB.out))) | (with_reducible refine Kd.C_alloc ?_ _) | (with_reducible refine Kd.C_drewN ?_ _) | (with_reducible refine Kd.C_drew ?_))); (case side2 => exact HC0_1.out); rintro e w70 ⟨v336, rfl, ho0, hb⟩; refine ⟨_, rfl, ?_⟩; have n0_ := Aside0.mk (Kd.R_elder' (by (with_reducible repeat (first | apply Kd.R_alloc | apply Kd.R_drewN | apply Kd.R_drew)); exact HO_4.out) (Kd.R_base ho0) hb); have n1_ := Aside0.mk (Kd.R_elder' (by (with_reducible repeat (first | apply Kd.R_alloc | apply Kd.R_drewN | apply Kd.R_drew)); exact HO_7.out) (Kd.R_base ho0) hb); have n2_ := Aside0.mk (Kd.R_elder' (by (with_reducible repeat (first | apply Kd.R_alloc | apply Kd.R_drewN | apply Kd.R_drew)); exact HO_318001.out) (Kd.R_base ho0) hb); have n3_ := Aside0.mk (Kd.R_lower (Kd.R_new' (Kd.R_new' (Kd.R_new' ho0 (Kd.R_lt (by (with_reducible repeat (first | apply Kd.R_alloc | apply Kd.R_drewN | apply Kd.R_drew)); exact HO_4.out))) (Kd.R_lt (by (with_reducible repeat (first | apply Kd.R_alloc | apply Kd.R_drewN | apply Kd.R_drew)); exact HO_7.out))) (Kd.R_lt (by (with_reducible repeat (first | apply Kd.R_alloc | apply Kd.R_drewN | apply Kd.R_drew)); exact HO_318001.out))) (below_size (by repeat (first | (with_reducible first | exact HB.out | apply below_alloc | apply pw_below_drewN | apply below_drew1 | refine below_set ?_ GE303.out | refine below_set ?_ GE317.out) | exact HB.out)))); have n4_ := Aside0.mk (blk_below (g := gb303) (o := .cells #[.int .i64 a0_0, .slice A0_1 l0_1.length c0_1] 24 (0, 0)) (by (with_reducible repeat (first | refine blk_drewN ?_ _ | refine blk_drew ?_ | refine blk_alloc ?_ _)); exact BK303.out) hb); have n5_ := Aside0.mk (blk_below (g := gb317) (o := .cells #[.int .i64 t313, .slice Ao24 t329.length co24] 30 (0, 0)) (by (with_reducible repeat (first | refine blk_drewN ?_ _ | refine blk_drew ?_ | refine blk_alloc ?_ _)); exact BK317.out) hb); have n6_ := Aside0.mk (below_step (by repeat (first | (with_reducible first | exact HB.out | apply below_alloc | apply pw_below_drewN | apply below_drew1 | refine below_set ?_ GE303.out | refine below_set ?_ GE317.out) | exact HB.out)) hb); clear HO_4; clear HO_7; clear HO_318001; clear BK303; clear BK317; clear HB; have HO_4 := n0_; have HO_7 := n1_; have HO_318001 := n2_; have HO337 := n3_; have BK303 := n4_; have BK317 := n5_; have HB := n6_; clear n0_ n1_ n2_ n3_ n4_ n5_ n6_; (try clear hb); (try clear hb2); (try clear hk); (try clear hi); (try clear ho0); obtain ⟨Ao71, co71, eo71⟩ := Kd.R_slice HO337.out; subst eo71) | ((with_reducible refine gate_callee (f := 21) rfl ?_); refine goesL_ (some 76) rfl rfl Tryd.func21 (by kernel_rfl) rfl #[.agg #[.int .i64 t334, .slice Ao71 t335.length co71]] rfl (by (try simp only [List.map_toArray, List.map_cons, List.map_nil]); first | done | rfl | (simp only [List.length_drop, List.length_take]; rfl)) ?_; (with_reducible refine (impl_FirstPairing.calls kj38 t334 _ _ t335 t338 t341 _ ?side1 ?side2 ?side3 A64.out).mono ?_); (case side1 => first | exact HG.out | exact Laid32.drewN HG.out _ | exact Laid32.drew HG.out | exact (Laid32.drewN HG.out _).drewN _ | exact Laid32.below HG.out (by repeat (first | (with_reducible first | exact HB.out | apply below_alloc | apply pw_below_drewN | apply below_drew1 | refine below_set ?_ GE303.out | refine below_set ?_ GE317.out) | exact HB.out))); (case side2 => repeat (first | exact (Kd.R_reads' HO337.out).2.2 | (with_reducible refine Kd.C_alloc ?_ _) | (with_reducible refine Kd.C_drewN ?_ _) | (with_reducible refine Kd.C_drew ?_))); (case side3 => exact (Kd.R_reads' HO337.out).2.1); rintro e w72 ⟨v339, rfl, ho0, hb⟩; refine ⟨_, rfl, ?_⟩; have n0_ := Aside0.mk (Kd.R_elder' (by (with_reducible repeat (first | apply Kd.R_alloc | apply Kd.R_drewN | apply Kd.R_drew)); exact HO_4.out) (Kd.R_base ho0) hb); have n1_ := Aside0.mk (Kd.R_elder' (by (with_reducible repeat (first | apply Kd.R_alloc | apply Kd.R_drewN | apply Kd.R_drew)); exact HO_7.out) (Kd.R_base ho0) hb); have n2_ := Aside0.mk (Kd.R_elder' (by (with_reducible repeat (first | apply Kd.R_alloc | apply Kd.R_drewN | apply Kd.R_drew)); exact HO_318001.out) (Kd.R_base ho0) hb); have n3_ := Aside0.mk (Kd.R_elder' (by (with_reducible repeat (first | apply Kd.R_alloc | apply Kd.R_drewN | apply Kd.R_drew)); exact HO337.out) (Kd.R_base ho0) hb); have n4_ := Aside0.mk (Kd.R_lower (Kd.R_new' (Kd.R_new' (Kd.R_new' (Kd.R_new' ho0 (Kd.R_lt (by (with_reducible repeat (first | apply Kd.R_alloc | apply Kd.R_drewN | apply Kd.R_drew)); exact HO_4.out))) (Kd.R_lt (by (with_reducible repeat (first | apply Kd.R_alloc | apply Kd.R_drewN | apply Kd.R_drew)); exact HO_7.out))) (Kd.R_lt (by (with_reducible repeat (first | apply Kd.R_alloc | apply Kd.R_drewN | apply Kd.R_drew)); exact HO_318001.out))) (Kd.R_lt (by (with_reducible repeat (first | apply Kd.R_alloc | apply Kd.R_drewN | apply Kd.R_drew)); exact HO337.out))) (below_size (by repeat (first | (with_reducible first | exact HB.out | apply below_alloc | apply pw_below_drewN | apply below_drew1 | refine below_set ?_ GE303.out | refine below_set ?_ GE317.out) | exact HB.out)))); have n5_ := Aside0.mk (blk_below (g := gb303) (o := .cells #[.int .i64 a0_0, .slice A0_1 l0_1.length c0_1] 24 (0, 0)) (by (with_reducible repeat (first | refine blk_drewN ?_ _ | refine blk_drew ?_ | refine blk_alloc ?_ _)); exact BK303.out) hb); have n6_ := Aside0.mk (blk_below (g := gb317) (o := .cells #[.int .i64 t313, .slice Ao24 t329.length co24] 30 (0, 0)) (by (with_reducible repeat (first | refine blk_drewN ?_ _ | refine blk_drew ?_ | refine blk_alloc ?_ _)); exact BK317.out) hb); have n7_ := Aside0.mk (below_step (by repeat (first | (with_reducible first | exact HB.out | apply below_alloc | apply pw_below_drewN | apply below_drew1 | refine below_set ?_ GE303.out | refine below_set ?_ GE317.out) | exact HB.out)) hb); clear HO_4; clear HO_7; clear HO_318001; clear HO337; clear BK303; clear BK317; clear HB; have HO_4 := n0_; have HO_7 := n1_; have HO_318001 := n2_; have HO337 := n3_; have HO340 := n4_; have BK303 := n5_; have BK317 := n6_; have HB := n7_; clear n0_ n1_ n2_ n3_ n4_ n5_ n6_ n7_; (try clear hb); (try clear hb2); (try clear hk); (try clear hi); (try clear ho0)))
           (try simp only [Act.put, List.setIfInBounds_toArray, List.set_cons_zero, List.set_cons_succ])
           go_cut [87] (fun v87 wc => ∃ (kq : Nat) (x87_64 : Bool), v87 = .bool x87_64 ∧ Aside0 (laws_FnExactFirstPairing.j2 kq t332 t331 x87_64 = some r) ∧ Aside0 (kq ≤ kj38) ∧ Aside0 (Kd.R k98 98 wc w.heap.size (fun k_ => some k_ ≠ ((.slice Ao24 t329.length co24) : Value).ownBlock) (.slice Ao66 t318.length co66) t332) ∧ Aside0 (Kd.R k98 98 wc w.heap.size (fun k_ => some k_ ≠ ((.slice Ao66 t318.length co66) : Value).ownBlock) (.slice Ao24 t329.length co24) t329) ∧ Aside0 (wc.heap[gb303]? = some (.cells #[.int .i64 a0_0, (.slice A0_1 l0_1.length c0_1)] 24 (0, 0))) ∧ Aside0 (wc.heap[gb317]? = some (.cells #[.int .i64 t313, (.slice Ao24 t329.length co24)] 30 (0, 0))) ∧ Aside0 (Below w.heap.size w wc))
           case first =>
            have H := HC65.out
            clear HC65
            replace H := Option.bind_eq_some_iff.mp H
            obtain ⟨t342, A730, H⟩ := H
            replace H : (if t342 = true then (laws_FnExactFirstPairing.j2 kj38 t332 t331 (t341 != t312)) else (laws_FnExactFirstPairing.j2 kj38 t332 t331 true)) = some r := H
            have A73 := Aside0.mk A730
            clear A730
            by_cases c74 : t342 = true
            ·subst c74
             have H1 : (laws_FnExactFirstPairing.j2 kj38 t332 t331 (t341 != t312)) = some r := by rw [if_pos rfl] at H; exact H
             clear H
             have H := H1
             clear H1
             have H' := Aside0.mk H
             clear H
             obtain ⟨Ao75, co75, eo75⟩ := Kd.R_slice HO340.out
             subst eo75
             obtain ⟨Ao76, co76, eo76⟩ := Kd.R_slice HO_4.out
             subst eo76
             go_wp2_with (first | ((with_reducible refine gate_callee (f := 22) rfl ?_); refine goesL_ (some 81) rfl rfl Tryd.func22 (by kernel_rfl) rfl #[.slice Ao75 t338.length co75, .slice Ao76 t309.length co76] rfl (by (try simp only [List.map_toArray, List.map_cons, List.map_nil]); first | done | rfl | (simp only [List.length_drop, List.length_take]; rfl)) ?_; (with_reducible refine (laws_eqPairS.calls kj38 _ _ t338 _ _ t309 true _ ?side1 ?side2 ?side3 ?side4 A73.out).mono ?_); (case side1 => repeat (first | exact (Kd.R_reads' HO340.out).2.2 | (with_reducible refine Kd.C_alloc ?_ _) | (with_reducible refine Kd.C_drewN ?_ _) | (with_reducible refine Kd.C_drew ?_))); (case side2 => exact (Kd.R_reads' HO340.out).2.1); (case side3 => repeat (first | exact (Kd.R_reads' HO_4.out).2.2 | (with_reducible refine Kd.C_alloc ?_ _) | (with_reducible refine Kd.C_drewN ?_ _) | (with_reducible refine Kd.C_drew ?_))); (case side4 => exact (Kd.R_reads' HO_4.out).2.1); rintro e w77 ⟨rfl, hb⟩; refine ⟨_, rfl, ?_⟩; have n0_ := Aside0.mk (Kd.R_below (by (with_reducible repeat (first | apply Kd.R_alloc | apply Kd.R_drewN | apply Kd.R_drew)); exact HO_4.out) hb); have n1_ := Aside0.mk (Kd.R_below (by (with_reducible repeat (first | apply Kd.R_alloc | apply Kd.R_drewN | apply Kd.R_drew)); exact HO_7.out) hb); have n2_ := Aside0.mk (Kd.R_below (by (with_reducible repeat (first | apply Kd.R_alloc | apply Kd.R_drewN | apply Kd.R_drew)); exact HO_318001.out) hb); have n3_ := Aside0.mk (Kd.R_below (by (with_reducible repeat (first | apply Kd.R_alloc | apply Kd.R_drewN | apply Kd.R_drew)); exact HO337.out) hb); have n4_ := Aside0.mk (Kd.R_below (by (with_reducible repeat (first | apply Kd.R_alloc | apply Kd.R_drewN | apply Kd.R_drew)); exact HO340.out) hb); have n5_ := Aside0.mk (blk_below (g := gb303) (o := .cells #[.int .i64 a0_0, .slice A0_1 l0_1.length c0_1] 24 (0, 0)) (by (with_reducible repeat (first | refine blk_drewN ?_ _ | refine blk_drew ?_ | refine blk_alloc ?_ _)); exact BK303.out) hb); have n6_ := Aside0.mk (blk_below (g := gb317) (o := .cells #[.int .i64 t313, .slice Ao24 t329.length co24] 30 (0, 0)) (by (with_reducible repeat (first | refine blk_drewN ?_ _ | refine blk_drew ?_ | refine blk_alloc ?_ _)); exact BK317.out) hb); have n7_ := Aside0.mk (below_step (by repeat (first | (with_reducible first | exact HB.out | apply below_alloc | apply pw_below_drewN | apply below_drew1 | refine below_set ?_ GE303.out | refine below_set ?_ GE317.out) | exact HB.out)) hb); clear HO_4; clear HO_7; clear HO_318001; clear HO337; clear HO340; clear BK303; clear BK317; clear HB; have HO_4 := n0_; have HO_7 := n1_; have HO_318001 := n2_; have HO337 := n3_; have HO340 := n4_; have BK303 := n5_; have BK317 := n6_; have HB := n7_; clear n0_ n1_ n2_ n3_ n4_ n5_ n6_ n7_; (try clear hb); (try clear hb2); (try clear hk); (try clear hi)))
             go_meet
             case rel => exact ⟨_, ((t341 != t312)), (by first | rfl | (simp; done) | (simp [*]; done)), H', ⟨by have := HJ10.out; have := HJ38.out; first | omega | exact Nat.le_refl _⟩, ⟨by (try simp only [hl318001_38]); (with_reducible repeat (first | apply Kd.R_alloc | apply Kd.R_drewN | apply Kd.R_drew)); exact Kd.R_mono HO_7.out (fun _ hk => hk.1.1.2)⟩, ⟨by (try simp only [hl318001_38]); (with_reducible repeat (first | apply Kd.R_alloc | apply Kd.R_drewN | apply Kd.R_drew)); exact Kd.R_mono HO_318001.out (fun _ hk => hk.1.1.2)⟩, ⟨by (try simp only [hl318001_38]); (with_reducible repeat (first | refine blk_drewN ?_ _ | refine blk_drew ?_ | refine blk_alloc ?_ _)); exact BK303.out⟩, ⟨by (try simp only [hl318001_38]); (with_reducible repeat (first | refine blk_drewN ?_ _ | refine blk_drew ?_ | refine blk_alloc ?_ _)); exact BK317.out⟩, ⟨by repeat (first | (with_reducible first | exact HB.out | apply below_alloc | apply pw_below_drewN | apply below_drew1 | refine below_set ?_ GE303.out | refine below_set ?_ GE317.out) | exact HB.out)⟩⟩
            ·replace c74 := Bool.eq_false_iff.mpr c74
             subst c74
             have H1 : (laws_FnExactFirstPairing.j2 kj38 t332 t331 true) = some r := by rw [if_neg (show ¬ (false = true) by decide)] at H; exact H
             clear H
             have H := H1
             clear H1
             have H' := Aside0.mk H
             clear H
             obtain ⟨Ao78, co78, eo78⟩ := Kd.R_slice HO340.out
             subst eo78
             obtain ⟨Ao79, co79, eo79⟩ := Kd.R_slice HO_4.out
             subst eo79
             go_wp2_with (first | ((with_reducible refine gate_callee (f := 22) rfl ?_); refine goesL_ (some 81) rfl rfl Tryd.func22 (by kernel_rfl) rfl #[.slice Ao78 t338.length co78, .slice Ao79 t309.length co79] rfl (by (try simp only [List.map_toArray, List.map_cons, List.map_nil]); first | done | rfl | (simp only [List.length_drop, List.length_take]; rfl)) ?_; (with_reducible refine (laws_eqPairS.calls kj38 _ _ t338 _ _ t309 false _ ?side1 ?side2 ?side3 ?side4 A73.out).mono ?_); (case side1 => repeat (first | exact (Kd.R_reads' HO340.out).2.2 | (with_reducible refine Kd.C_alloc ?_ _) | (with_reducible refine Kd.C_drewN ?_ _) | (with_reducible refine Kd.C_drew ?_))); (case side2 => exact (Kd.R_reads' HO340.out).2.1); (case side3 => repeat (first | exact (Kd.R_reads' HO_4.out).2.2 | (with_reducible refine Kd.C_alloc ?_ _) | (with_reducible refine Kd.C_drewN ?_ _) | (with_reducible refine Kd.C_drew ?_))); (case side4 => exact (Kd.R_reads' HO_4.out).2.1); rintro e w80 ⟨rfl, hb⟩; refine ⟨_, rfl, ?_⟩; have n0_ := Aside0.mk (Kd.R_below (by (with_reducible repeat (first | apply Kd.R_alloc | apply Kd.R_drewN | apply Kd.R_drew)); exact HO_4.out) hb); have n1_ := Aside0.mk (Kd.R_below (by (with_reducible repeat (first | apply Kd.R_alloc | apply Kd.R_drewN | apply Kd.R_drew)); exact HO_7.out) hb); have n2_ := Aside0.mk (Kd.R_below (by (with_reducible repeat (first | apply Kd.R_alloc | apply Kd.R_drewN | apply Kd.R_drew)); exact HO_318001.out) hb); have n3_ := Aside0.mk (Kd.R_below (by (with_reducible repeat (first | apply Kd.R_alloc | apply Kd.R_drewN | apply Kd.R_drew)); exact HO337.out) hb); have n4_ := Aside0.mk (Kd.R_below (by (with_reducible repeat (first | apply Kd.R_alloc | apply Kd.R_drewN | apply Kd.R_drew)); exact HO340.out) hb); have n5_ := Aside0.mk (blk_below (g := gb303) (o := .cells #[.int .i64 a0_0, .slice A0_1 l0_1.length c0_1] 24 (0, 0)) (by (with_reducible repeat (first | refine blk_drewN ?_ _ | refine blk_drew ?_ | refine blk_alloc ?_ _)); exact BK303.out) hb); have n6_ := Aside0.mk (blk_below (g := gb317) (o := .cells #[.int .i64 t313, .slice Ao24 t329.length co24] 30 (0, 0)) (by (with_reducible repeat (first | refine blk_drewN ?_ _ | refine blk_drew ?_ | refine blk_alloc ?_ _)); exact BK317.out) hb); have n7_ := Aside0.mk (below_step (by repeat (first | (with_reducible first | exact HB.out | apply below_alloc | apply pw_below_drewN | apply below_drew1 | refine below_set ?_ GE303.out | refine below_set ?_ GE317.out) | exact HB.out)) hb); clear HO_4; clear HO_7; clear HO_318001; clear HO337; clear HO340; clear BK303; clear BK317; clear HB; have HO_4 := n0_; have HO_7 := n1_; have HO_318001 := n2_; have HO337 := n3_; have HO340 := n4_; have BK303 := n5_; have BK317 := n6_; have HB := n7_; clear n0_ n1_ n2_ n3_ n4_ n5_ n6_ n7_; (try clear hb); (try clear hb2); (try clear hk); (try clear hi)))
             go_meet
             case rel => exact ⟨_, (true), (by first | rfl | (simp; done) | (simp [*]; done)), H', ⟨by have := HJ10.out; have := HJ38.out; first | omega | exact Nat.le_refl _⟩, ⟨by (try simp only [hl318001_38]); (with_reducible repeat (first | apply Kd.R_alloc | apply Kd.R_drewN | apply Kd.R_drew)); exact Kd.R_mono HO_7.out (fun _ hk => hk.1.1.2)⟩, ⟨by (try simp only [hl318001_38]); (with_reducible repeat (first | apply Kd.R_alloc | apply Kd.R_drewN | apply Kd.R_drew)); exact Kd.R_mono HO_318001.out (fun _ hk => hk.1.1.2)⟩, ⟨by (try simp only [hl318001_38]); (with_reducible repeat (first | refine blk_drewN ?_ _ | refine blk_drew ?_ | refine blk_alloc ?_ _)); exact BK303.out⟩, ⟨by (try simp only [hl318001_38]); (with_reducible repeat (first | refine blk_drewN ?_ _ | refine blk_drew ?_ | refine blk_alloc ?_ _)); exact BK317.out⟩, ⟨by repeat (first | (with_reducible first | exact HB.out | apply below_alloc | apply pw_below_drewN | apply below_drew1 | refine below_set ?_ GE303.out | refine below_set ?_ GE317.out) | exact HB.out)⟩⟩
           case rest =>
            clear HC65
            try clear c1
            try clear c2
            try clear p2
            try clear c3
            try clear c3b0
            try clear c4
            try clear c5
            try clear c6
            try clear c7
            try clear c13
            try clear c15
            try clear c17
            try clear c20
            try clear c21
            try clear c22
            try clear c23
            try clear c24
            try clear c25
            try clear c27
            try clear c34
            try clear c37
            try clear c44
            try clear c47
            try clear c47b0
            try clear c49
            try clear c56
            try clear c59
            try clear c59b0
            try clear c62
            try clear c62b0
            try clear c62b1
            try clear c68
            try clear c74
            try clear hcz13_0
            try clear hcz13_1
            try clear hcz15_0
            try clear hcz15_1
            try clear hcz19_0
            try clear hcz19_1
            try clear hcz23_0
            try clear hcz23_1
            try clear hcz45_0
            try clear hcz45_1
            try clear hcz5_0
            try clear hcz5_1
            try clear hcz69_0
            try clear hcz69_1
            try clear hfz13_0
            try clear hfz13_1
            try clear hfz15_0
            try clear hfz15_1
            try clear hfz19_0
            try clear hfz19_1
            try clear hfz23_0
            try clear hfz23_1
            try clear hfz45_0
            try clear hfz45_1
            try clear hfz5_0
            try clear hfz5_1
            try clear hfz69_0
            try clear hfz69_1
            try clear p2
            obtain ⟨kq, x87_64, rfl, HA, HJ64, HO_7, HO_318001, BK303, BK317, HB⟩ := hcut
            have hl7_64 := (Kd.R_reads' HO_7.out).1
            rw [hl7_64] at HO_7
            (try simp only [hl7_64])
            (try simp only [hl7_64] at BK303)
            (try simp only [hl7_64] at BK317)
            (try simp only [hl7_64] at HO_318001)
            cases kq with
            | zero => exact absurd HA.out (by simp [laws_FnExactFirstPairing.j2])
            | succ kj64 =>
             have H := HA.out
             clear HA
             simp only [laws_FnExactFirstPairing.j2] at H
             by_cases c81 : x87_64 = true
             ·subst c81
              have H1 : (some false) = some r := by rw [if_pos rfl] at H; exact H
              clear H
              have H := H1
              clear H1
              obtain rfl := Option.some.inj H
              go_wp2
              go_ret
              exact ⟨by first | rfl | (simp [errW_none, errW_some] <;> rfl) | (simp [*, errW_none, errW_some] <;> rfl), by repeat (first | (with_reducible first | exact HB.out | apply below_alloc | apply pw_below_drewN | apply below_drew1 | refine below_set ?_ GE303.out | refine below_set ?_ GE317.out) | exact HB.out)⟩
             ·replace c81 := Bool.eq_false_iff.mpr c81
              subst c81
              have H1 : ((laws_heldPairS.f kj64 t332 1).bind fun t343 => (if t343 < 0 then (some false) else (if t343 = t331 then (some true) else (some false)))) = some r := by rw [if_neg (show ¬ (false = true) by decide)] at H; exact H
              clear H
              have H := H1
              clear H1
              replace H := Option.bind_eq_some_iff.mp H
              obtain ⟨t343, A820, H⟩ := H
              replace H : (if t343 < 0 then (some false) else (if t343 = t331 then (some true) else (some false))) = some r := H
              have A82 := Aside0.mk A820
              clear A820
              by_cases c83 : t343 < 0
              ·rw [if_pos c83] at H
               have c83b0 : decide (t343 < 0) = true := decide_eq_true c83
               clear c83
               obtain rfl := Option.some.inj H
               go_wp2_with (first | ((with_reducible refine gate_callee (f := 25) rfl ?_); refine goesL_ (some 90) rfl rfl Tryd.func25 (by kernel_rfl) rfl #[.slice Ao66 t332.length co66, .int .i64 1] rfl (by (try simp only [List.map_toArray, List.map_cons, List.map_nil]); first | done | rfl | (simp only [List.length_drop, List.length_take]; rfl)) ?_; (with_reducible refine (laws_heldPairS.calls kj64 _ _ t332 1 t343 _ ?side1 ?side2 A82.out).mono ?_); (case side1 => repeat (first | exact (Kd.R_reads' HO_7.out).2.2 | (with_reducible refine Kd.C_alloc ?_ _) | (with_reducible refine Kd.C_drewN ?_ _) | (with_reducible refine Kd.C_drew ?_))); (case side2 => exact (Kd.R_reads' HO_7.out).2.1); rintro e w' ⟨rfl, ⟨nd, rfl⟩⟩; refine ⟨_, rfl, ?_⟩))
               go_ret
               exact ⟨by first | rfl | (simp [errW_none, errW_some] <;> rfl) | (simp [*, errW_none, errW_some] <;> rfl), by repeat (first | (with_reducible first | exact HB.out | apply below_alloc | apply pw_below_drewN | apply below_drew1 | refine below_set ?_ GE303.out | refine below_set ?_ GE317.out) | exact HB.out)⟩
              ·rw [if_neg c83] at H
               have c83b0 : decide (t343 < 0) = false := decide_eq_false c83
               clear c83
               by_cases c84 : t343 = t331
               ·rw [if_pos c84] at H
                have c84b0 : (t343 == t331) = true := beq_iff_eq.mpr c84
                have c84b1 : (t343 != t331) = false := bne_eq_false_iff_eq.mpr c84
                clear c84
                obtain rfl := Option.some.inj H
                go_wp2_with (first | ((with_reducible refine gate_callee (f := 25) rfl ?_); refine goesL_ (some 90) rfl rfl Tryd.func25 (by kernel_rfl) rfl #[.slice Ao66 t332.length co66, .int .i64 1] rfl (by (try simp only [List.map_toArray, List.map_cons, List.map_nil]); first | done | rfl | (simp only [List.length_drop, List.length_take]; rfl)) ?_; (with_reducible refine (laws_heldPairS.calls kj64 _ _ t332 1 t343 _ ?side1 ?side2 A82.out).mono ?_); (case side1 => repeat (first | exact (Kd.R_reads' HO_7.out).2.2 | (with_reducible refine Kd.C_alloc ?_ _) | (with_reducible refine Kd.C_drewN ?_ _) | (with_reducible refine Kd.C_drew ?_))); (case side2 => exact (Kd.R_reads' HO_7.out).2.1); rintro e w' ⟨rfl, ⟨nd, rfl⟩⟩; refine ⟨_, rfl, ?_⟩))
                go_ret
                exact ⟨by first | rfl | (simp [errW_none, errW_some] <;> rfl) | (simp [*, errW_none, errW_some] <;> rfl), by repeat (first | (with_reducible first | exact HB.out | apply below_alloc | apply pw_below_drewN | apply below_drew1 | refine below_set ?_ GE303.out | refine below_set ?_ GE317.out) | exact HB.out)⟩
               ·rw [if_neg c84] at H
                have c84b0 : (t343 == t331) = false := beq_eq_false_iff_ne.mpr c84
                have c84b1 : (t343 != t331) = true := bne_iff_ne.mpr c84
                obtain rfl := Option.some.inj H
                go_wp2_with (first | ((with_reducible refine gate_callee (f := 25) rfl ?_); refine goesL_ (some 90) rfl rfl Tryd.func25 (by kernel_rfl) rfl #[.slice Ao66 t332.length co66, .int .i64 1] rfl (by (try simp only [List.map_toArray, List.map_cons, List.map_nil]); first | done | rfl | (simp only [List.length_drop, List.length_take]; rfl)) ?_; (with_reducible refine (laws_heldPairS.calls kj64 _ _ t332 1 t343 _ ?side1 ?side2 A82.out).mono ?_); (case side1 => repeat (first | exact (Kd.R_reads' HO_7.out).2.2 | (with_reducible refine Kd.C_alloc ?_ _) | (with_reducible refine Kd.C_drewN ?_ _) | (with_reducible refine Kd.C_drew ?_))); (case side2 => exact (Kd.R_reads' HO_7.out).2.1); rintro e w' ⟨rfl, ⟨nd, rfl⟩⟩; refine ⟨_, rfl, ?_⟩))
                go_ret
                exact ⟨by first | rfl | (simp [errW_none, errW_some] <;> rfl) | (simp [*, errW_none, errW_some] <;> rfl), by repeat (first | (with_reducible first | exact HB.out | apply below_alloc | apply pw_below_drewN | apply below_drew1 | refine below_set ?_ GE303.out | refine below_set ?_ GE317.out) | exact HB.out)⟩
          ·rw [if_neg c62] at H
           have c62b0 : (t333 == t331) = false := beq_eq_false_iff_ne.mpr c62
           have c62b1 : (t333 != t331) = true := bne_iff_ne.mpr c62
           obtain rfl := Option.some.inj H
           obtain ⟨Ao85, co85, eo85⟩ := Kd.R_slice HO_7.out
           subst eo85
           go_wp2_with (first | ((with_reducible refine gate_callee (f := 24) rfl ?_); refine goesL_ (some 64) rfl rfl Tryd.func24 (by kernel_rfl) rfl #[.slice Ao85 t318.length co85, .int .i64 1] rfl (by (try simp only [List.map_toArray, List.map_cons, List.map_nil]); first | done | rfl | (simp only [List.length_drop, List.length_take]; rfl)) ?_; (with_reducible refine (laws_markPairS.calls kj38 (fun k_ => some k_ = (.slice Ao85 t318.length co85 : Value).ownBlock) (.slice Ao85 t318.length co85) t318 1 t331 t332 w _ ?side1 ?side2 A57.out).mono ?_); (case side1 => repeat (first | (with_reducible first | exact HB.out | apply below_alloc | apply pw_below_drewN | apply below_drew1 | refine below_set ?_ GE303.out | refine below_set ?_ GE317.out) | exact HB.out)); (case side2 => exact Kd.R_tight rfl HO_7.out); rintro e w86 ⟨rfl, hy0, hb, hkp⟩; refine ⟨_, rfl, ?_⟩; have n0_ := Aside0.mk (Kd.R_mono (ok' := fun k_ => some k_ ≠ (.slice Ao85 t318.length co85 : Value).ownBlock ∧ some k_ ≠ (.slice Ao24 t329.length co24 : Value).ownBlock) (Kd.R_keptB (HO_4.out) hkp (fun k_ hk_ hs_ => (hk_.1) hs_)) (fun k_ hk_ => ⟨hk_.1.1, hk_.1.2⟩)); have n1_ := Aside0.mk (Kd.R_reok rfl hy0 (fun k_ e_ => HO_7.out.1 k_ e_)); have n2_ := Aside0.mk (Kd.R_mono (ok' := fun k_ => some k_ ≠ (v310 : Value).ownBlock ∧ some k_ ≠ (.slice Ao85 t318.length co85 : Value).ownBlock) (Kd.R_keptB (HO_318001.out) hkp (fun k_ hk_ hs_ => (hk_.2) hs_)) (fun k_ hk_ => ⟨hk_.1.1, hk_.1.2⟩)); have n3_ := Aside0.mk (blk_kept (by (with_reducible repeat (first | refine blk_drewN ?_ _ | refine blk_drew ?_ | refine blk_alloc ?_ _)); exact BK303.out) hkp (fun hs_ => (fun e_ => (Kd.R_ne HO_7.out BK303.out (by decide)) e_) hs_)); have n4_ := Aside0.mk (blk_kept (by (with_reducible repeat (first | refine blk_drewN ?_ _ | refine blk_drew ?_ | refine blk_alloc ?_ _)); exact BK317.out) hkp (fun hs_ => (fun e_ => (Kd.R_ne HO_7.out BK317.out (by decide)) e_) hs_)); have n5_ := Aside0.mk (hb); clear HO_4; clear HO_7; clear HO_318001; clear BK303; clear BK317; clear HB; have HO_4 := n0_; have HO_7 := n1_; have HO_318001 := n2_; have BK303 := n3_; have BK317 := n4_; have HB := n5_; clear n0_ n1_ n2_ n3_ n4_ n5_; (try clear hb); (try clear hkp); (try clear hy0)) | ((with_reducible refine gate_callee (f := 25) rfl ?_); refine goesL_ (some 67) rfl rfl Tryd.func25 (by kernel_rfl) rfl #[.slice Ao85 t332.length co85, .int .i64 1] rfl (by (try simp only [List.map_toArray, List.map_cons, List.map_nil]); first | done | (rw [show t332.length = t318.length from (Kd.R_reads' HO_7.out).1.symm] <;> rfl) | rfl | (simp only [List.length_drop, List.length_take]; rfl)) ?_; (with_reducible refine (laws_heldPairS.calls kj38 _ _ t332 1 t333 _ ?side1 ?side2 A58.out).mono ?_); (case side1 => repeat (first | exact (Kd.R_reads' HO_7.out).2.2 | (with_reducible refine Kd.C_alloc ?_ _) | (with_reducible refine Kd.C_drewN ?_ _) | (with_reducible refine Kd.C_drew ?_))); (case side2 => rw [show t332.length = t318.length from (Kd.R_reads' HO_7.out).1.symm]; exact (Kd.R_reads' HO_7.out).2.1); rintro e w' ⟨rfl, ⟨nd, rfl⟩⟩; refine ⟨_, rfl, ?_⟩))
           go_ret
           exact ⟨by first | rfl | (simp [errW_none, errW_some] <;> rfl) | (simp [*, errW_none, errW_some] <;> rfl), by repeat (first | (with_reducible first | exact HB.out | apply below_alloc | apply pw_below_drewN | apply below_drew1 | refine below_set ?_ GE303.out | refine below_set ?_ GE317.out) | exact HB.out)⟩
     ·replace c37 := Bool.eq_false_iff.mpr c37
      subst c37
      have H1 : (some false) = some r := by rw [if_neg (show ¬ (false = true) by decide)] at H; exact H
      clear H
      have H := H1
      clear H1
      obtain rfl := Option.some.inj H
      try go_wp2
      have n0_ := Aside0.mk (Kd.R_drew HO_4.out)
      have n1_ := Aside0.mk (Kd.R_drew HO_7.out)
      have n2_ := Aside0.mk (Kd.R_drew HO_318001.out)
      have n3_ := Aside0.mk (blk_drew BK303.out)
      have n4_ := Aside0.mk (blk_drew BK317.out)
      have n5_ := Aside0.mk (below_drew1 HB.out)
      clear HO_4
      clear HO_7
      clear HO_318001
      clear BK303
      clear BK317
      clear HB
      have HO_4 := n0_
      have HO_7 := n1_
      have HO_318001 := n2_
      have BK303 := n3_
      have BK317 := n4_
      have HB := n5_
      clear n0_ n1_ n2_ n3_ n4_ n5_
      refine start_ (n := 5) (S := fun w' => w'.cell? ⟨gb317, 0, none⟩ = some (.int .i64 t313) ∧ w'.cell? ⟨gb317, 1, none⟩ = some (.slice Ao24 t314.length co24) ∧ w'.cell? ⟨gb303, 0, none⟩ = some (.int .i64 a0_0) ∧ w'.cell? ⟨gb303, 1, none⟩ = some (.slice A0_1 l0_1.length c0_1)) (ds := []) #[false, false, false, false, false] (by kernel_rfl) rfl rfl ⟨(blk_cell BK317.out 0).trans rfl, (blk_cell BK317.out 1).trans rfl, (blk_cell BK303.out 0).trans rfl, (blk_cell BK303.out 1).trans rfl⟩ (fun hHeld => ?_)
      generalize wc.drew = w87 at HO_4 HO_7 HO_318001 BK303 BK317 HB hHeld ⊢
      refine take_ (i := 0) (N := some 41) (v := ?_) (a' := ?_) #[true, false, false, false, false] rfl rfl (by kernel_rfl) (fun _ _ _ h => h) (Or.inl ⟨by rfl, ?_⟩) hHeld ?_ ?_
      rotate_left
      ·rintro w' ⟨s0, s1, s2, s3⟩
       go_simp
       with_reducible rfl
      rotate_left
      ·simp only [Act.put, List.setIfInBounds_toArray, List.set_cons_zero, List.set_cons_succ, i64_w, i32_w]
       rfl
      refine take_ (i := 1) (N := some 42) (v := ?_) (a' := ?_) #[true, true, false, false, false] rfl rfl (by kernel_rfl) (fun _ _ _ h => h) (Or.inl ⟨by rfl, ?_⟩) hHeld ?_ ?_
      rotate_left
      ·rintro w' ⟨s0, s1, s2, s3⟩
       go_simp
       with_reducible rfl
      rotate_left
      ·simp only [Act.put, List.setIfInBounds_toArray, List.set_cons_zero, List.set_cons_succ, i64_w, i32_w]
       rfl
      refine one_ (i := 2) (N := some 43) #[true, true, true, false, false] rfl rfl (by kernel_rfl) (by decide) (fun K hK => ?_)
      refine goes_ Tryd.func15 (by kernel_rfl) rfl #[.agg #[.int .i64 a0_0, .slice A0_1 l0_1.length c0_1]] (by rfl) rfl rfl (by (try simp only [List.map_toArray, List.map_cons, List.map_nil]); first | done | rfl | (simp only [List.length_drop, List.length_take]; rfl)) ?_
      with_reducible refine (laws_toParty.calls kj10 a0_0 _ _ l0_1 t323 t324 _ ?side1 ?side2 A35.out).mono ?_
      (case side1 => repeat (first | exact (Kd.C_below HR0_1.out HB.out) | (with_reducible refine Kd.C_alloc ?_ _) | (with_reducible refine Kd.C_drewN ?_ _) | (with_reducible refine Kd.C_drew ?_)))
      (case side2 => exact HC0_1.out)
      rintro e w88 ⟨v325, rfl, ho0, hb⟩
      refine ⟨_, rfl, ?_⟩
      have n0_ := Aside0.mk (Kd.R_elder' (by (with_reducible repeat (first | apply Kd.R_alloc | apply Kd.R_drewN | apply Kd.R_drew)); exact HO_4.out) (Kd.R_base ho0) hb)
      have n1_ := Aside0.mk (Kd.R_elder' (by (with_reducible repeat (first | apply Kd.R_alloc | apply Kd.R_drewN | apply Kd.R_drew)); exact HO_7.out) (Kd.R_base ho0) hb)
      have n2_ := Aside0.mk (Kd.R_elder' (by (with_reducible repeat (first | apply Kd.R_alloc | apply Kd.R_drewN | apply Kd.R_drew)); exact HO_318001.out) (Kd.R_base ho0) hb)
      have n3_ := Aside0.mk (Kd.R_lower (Kd.R_new' (Kd.R_new' (Kd.R_new' ho0 (Kd.R_lt (by (with_reducible repeat (first | apply Kd.R_alloc | apply Kd.R_drewN | apply Kd.R_drew)); exact HO_4.out))) (Kd.R_lt (by (with_reducible repeat (first | apply Kd.R_alloc | apply Kd.R_drewN | apply Kd.R_drew)); exact HO_7.out))) (Kd.R_lt (by (with_reducible repeat (first | apply Kd.R_alloc | apply Kd.R_drewN | apply Kd.R_drew)); exact HO_318001.out))) (below_size (by repeat (first | (with_reducible first | exact HB.out | apply below_alloc | apply pw_below_drewN | apply below_drew1 | refine below_set ?_ GE303.out | refine below_set ?_ GE317.out) | exact HB.out))))
      have n4_ := Aside0.mk (blk_below (g := gb303) (o := .cells #[.int .i64 a0_0, .slice A0_1 l0_1.length c0_1] 24 (0, 0)) (by (with_reducible repeat (first | refine blk_drewN ?_ _ | refine blk_drew ?_ | refine blk_alloc ?_ _)); exact BK303.out) hb)
      have n5_ := Aside0.mk (blk_below (g := gb317) (o := .cells #[.int .i64 t313, .slice Ao24 t314.length co24] 30 (0, 0)) (by (with_reducible repeat (first | refine blk_drewN ?_ _ | refine blk_drew ?_ | refine blk_alloc ?_ _)); exact BK317.out) hb)
      have n6_ := Aside0.mk (below_step (by repeat (first | (with_reducible first | exact HB.out | apply below_alloc | apply pw_below_drewN | apply below_drew1 | refine below_set ?_ GE303.out | refine below_set ?_ GE317.out) | exact HB.out)) hb)
      clear HO_4
      clear HO_7
      clear HO_318001
      clear BK303
      clear BK317
      clear HB
      have HO_4 := n0_
      have HO_7 := n1_
      have HO_318001 := n2_
      have HO326 := n3_
      have BK303 := n4_
      have BK317 := n5_
      have HB := n6_
      clear n0_ n1_ n2_ n3_ n4_ n5_ n6_
      (try clear hb)
      (try clear hb2)
      (try clear hk)
      (try clear hi)
      (try clear ho0)
      obtain ⟨Ao89, co89, eo89⟩ := Kd.R_slice HO326.out
      (first | subst eo89 | (injection eo89 with f1_ f2_ f3_; have f4_ := f1_.symm; have f5_ := f3_.symm; clear f1_ f2_ f3_; subst f4_; subst f5_))
      refine hK.out _ _ ⟨(blk_cell BK317.out 0).trans rfl, (blk_cell BK317.out 1).trans rfl, (blk_cell BK303.out 0).trans rfl, (blk_cell BK303.out 1).trans rfl⟩ (fun hHeld => ?_)
      clear hK K
      refine norm_ (a' := ?_) ?_ ?_
      rotate_left
      ·show Act.put _ (some 43) _ = _
       simp only [Act.put, List.setIfInBounds_toArray, List.set_cons_zero, List.set_cons_succ, i64_w, i32_w]
       rfl
      refine one_ (i := 3) (N := some 44) #[true, true, true, true, false] rfl rfl (by kernel_rfl) (by decide) (fun K hK => ?_)
      refine goes_ Tryd.func17 (by kernel_rfl) rfl #[.agg #[.int .i64 t313, .slice Ao24 t314.length co24], .agg #[.int .i64 t323, .slice Ao89 t324.length co89]] (by rfl) rfl rfl (by (try simp only [List.map_toArray, List.map_cons, List.map_nil]); first | done | rfl | (simp only [List.length_drop, List.length_take]; rfl)) ?_
      with_reducible refine (laws_eqParty.calls kj10 t313 _ _ t314 t323 _ _ t324 false _ ?side1 ?side2 ?side3 ?side4 A36.out).mono ?_
      (case side1 => repeat (first | exact (Kd.R_reads' HO_318001.out).2.2 | (with_reducible refine Kd.C_alloc ?_ _) | (with_reducible refine Kd.C_drewN ?_ _) | (with_reducible refine Kd.C_drew ?_)))
      (case side2 => exact (Kd.R_reads' HO_318001.out).2.1)
      (case side3 => repeat (first | exact (Kd.R_reads' HO326.out).2.2 | (with_reducible refine Kd.C_alloc ?_ _) | (with_reducible refine Kd.C_drewN ?_ _) | (with_reducible refine Kd.C_drew ?_)))
      (case side4 => exact (Kd.R_reads' HO326.out).2.1)
      rintro e w90 ⟨rfl, hb⟩
      refine ⟨_, rfl, ?_⟩
      have n0_ := Aside0.mk (Kd.R_below (by (with_reducible repeat (first | apply Kd.R_alloc | apply Kd.R_drewN | apply Kd.R_drew)); exact HO_4.out) hb)
      have n1_ := Aside0.mk (Kd.R_below (by (with_reducible repeat (first | apply Kd.R_alloc | apply Kd.R_drewN | apply Kd.R_drew)); exact HO_7.out) hb)
      have n2_ := Aside0.mk (Kd.R_below (by (with_reducible repeat (first | apply Kd.R_alloc | apply Kd.R_drewN | apply Kd.R_drew)); exact HO_318001.out) hb)
      have n3_ := Aside0.mk (Kd.R_below (by (with_reducible repeat (first | apply Kd.R_alloc | apply Kd.R_drewN | apply Kd.R_drew)); exact HO326.out) hb)
      have n4_ := Aside0.mk (blk_below (g := gb303) (o := .cells #[.int .i64 a0_0, .slice A0_1 l0_1.length c0_1] 24 (0, 0)) (by (with_reducible repeat (first | refine blk_drewN ?_ _ | refine blk_drew ?_ | refine blk_alloc ?_ _)); exact BK303.out) hb)
      have n5_ := Aside0.mk (blk_below (g := gb317) (o := .cells #[.int .i64 t313, .slice Ao24 t314.length co24] 30 (0, 0)) (by (with_reducible repeat (first | refine blk_drewN ?_ _ | refine blk_drew ?_ | refine blk_alloc ?_ _)); exact BK317.out) hb)
      have n6_ := Aside0.mk (below_step (by repeat (first | (with_reducible first | exact HB.out | apply below_alloc | apply pw_below_drewN | apply below_drew1 | refine below_set ?_ GE303.out | refine below_set ?_ GE317.out) | exact HB.out)) hb)
      clear HO_4
      clear HO_7
      clear HO_318001
      clear HO326
      clear BK303
      clear BK317
      clear HB
      have HO_4 := n0_
      have HO_7 := n1_
      have HO_318001 := n2_
      have HO326 := n3_
      have BK303 := n4_
      have BK317 := n5_
      have HB := n6_
      clear n0_ n1_ n2_ n3_ n4_ n5_ n6_
      (try clear hb)
      (try clear hb2)
      (try clear hk)
      (try clear hi)
      refine hK.out _ _ ⟨(blk_cell BK317.out 0).trans rfl, (blk_cell BK317.out 1).trans rfl, (blk_cell BK303.out 0).trans rfl, (blk_cell BK303.out 1).trans rfl⟩ (fun hHeld => ?_)
      clear hK K
      refine norm_ (a' := ?_) ?_ ?_
      rotate_left
      ·show Act.put _ (some 44) _ = _
       simp only [Act.put, List.setIfInBounds_toArray, List.set_cons_zero, List.set_cons_succ, i64_w, i32_w]
       rfl
      refine pure_ (i := 4) (N := some 45) (v := ?_) (a' := ?_) #[true, true, true, true, true] rfl rfl (by kernel_rfl) (fun _ _ _ h => h) (Or.inl ⟨by rfl, ?_⟩) ?_ ?_
      rotate_left
      ·intro w'
       go_simp
       with_reducible rfl
      rotate_left
      ·simp only [Act.put, List.setIfInBounds_toArray, List.set_cons_zero, List.set_cons_succ, i64_w, i32_w]
       rfl
      refine done_ (by kernel_rfl) ?_
      try go_wp2
      go_ret
      exact ⟨by first | rfl | (simp [errW_none, errW_some] <;> rfl) | (simp [*, errW_none, errW_some] <;> rfl), by repeat (first | (with_reducible first | exact HB.out | apply below_alloc | apply pw_below_drewN | apply below_drew1 | refine below_set ?_ GE303.out | refine below_set ?_ GE317.out) | exact HB.out)⟩
end Go.Proofs.YtopahhcojncgaaaDoor.G
namespace Go.Proofs.YtopahhcojncgaaaDoor.G
open Go.RowKit Go.Proofs.YtopahhcojncgaaaDoorW.PrintWords Go.Proofs.YtopahhcojncgaaaDoorW.PrintLast Go.Proofs.YtopahhcojncgaaaDoorW.PrintMore
set_option linter.unusedVariables false
set_option linter.unusedSimpArgs false
theorem free_tz (n : Nat) (d : List Bool) (S : Nat) (hd : d.length = n) (hS : S < 65536) (h : ∀ j, j < n → S.testBit j = !d.getD j false) (h0 : 0 < S) (hlt : S < 2 ^ n) : firstFree d = tz16 S := by
  obtain ⟨t1, t2⟩ := tz16_spec S h0 hS
  have htn : tz16 S < n := inS_lt hlt t1
  refine firstFree_eq d _ (by omega) (fun j hj => ?_) (fun _ => ?_)
  · have := t2 j hj
    rw [h j (by omega)] at this
    simpa using this
  · have := h _ htn
    rw [t1] at this
    simpa using this.symm
theorem bits_two (n : Nat) (d : List Bool) (S a b : Nat) (hd : d.length = n) (hS : S < 65536) (h : ∀ j, j < n → S.testBit j = !d.getD j false) (ha : a < n) (hb : b < n) :
    ∀ j, j < n → (clr S (2 ^ a ||| 2 ^ b)).testBit j = !((d.set a true).set b true).getD j false := by
  intro j hj
  rw [testBit_clr _ _ _ hS, h j hj, Nat.testBit_or, Nat.testBit_two_pow, Nat.testBit_two_pow]
  simp only [List.getD_eq_getElem?_getD]
  by_cases e7 : b = j
  · subst e7; rw [List.getElem?_set_self (by rw [List.length_set]; omega)]; simp
  · rw [List.getElem?_set_ne e7]
    by_cases e8 : a = j
    · subst e8; rw [List.getElem?_set_self (by omega)]; simp
    · rw [List.getElem?_set_ne e8]; simp [e7, e8]
theorem pmB_iff (n : Nat) (ps : List S98) (T : List (List Bool)) (hT : TabI n T ps) (d : List Bool) (S a b : Nat) (h : ∀ j, j < n → S.testBit j = !d.getD j false) (ha : firstFree d = a) (han : a < n) (hb : b < n) :
    pmB d T b = true ↔ a < b ∧ adj ps a b = true ∧ inS S b := by
  unfold pmB inS
  rw [decide_eq_true_iff, ha, hT.at_ a b han hb, h b hb]
  simp
theorem free_done (n : Nat) (d : List Bool) (hd : d.length = n) (h : ∀ j, j < n → (0 : Nat).testBit j = !d.getD j false) : firstFree d = d.length := by
  refine firstFree_eq d _ (Nat.le_refl _) (fun j hj => ?_) (fun h => absurd h (by omega))
  have := h j (by omega)
  rw [Nat.zero_testBit] at this
  simpa using this.symm
theorem frees_two (d : List Bool) (a b : Nat) (ha : a < d.length) (hb : b < d.length) (hab : a ≠ b) (fa : d.getD a false = false) (fb : d.getD b false = false) : frees ((d.set a true).set b true) + 2 = frees d := by
  have h1 := frees_set d a ha fa
  have h2 := frees_set (d.set a true) b (by rw [List.length_set]; exact hb) (by rw [List.getD_eq_getElem?_getD, List.getElem?_set_ne hab, ← List.getD_eq_getElem?_getD]; exact fb)
  omega
theorem num_zero {ps t v} (h : Num ps t 0 v) : v = 0 := by
  have := h.eq
  rw [mo_zero] at this
  omega
theorem pm_perfect (n : Nat) (hn : n ≤ 12) (ps : List S98) (hself : ∀ a, adj ps a a = false) (T : List (List Bool)) (t : List Int) (hT : TabI n T ps) (ht : MaskI n t ps) : ∀ (m : Nat) (d : List Bool) (S v : Nat), d.length = n → S < 2 ^ n → (∀ j, j < n → S.testBit j = !d.getD j false) → frees d < m → Num ps t S v →
    (pm T m d ≠ [] ↔ 2 * v = (bl S).length) := by
  intro m
  have hlt16 : ∀ s : Nat, s < 2 ^ n → s < 65536 := fun s h => Nat.lt_of_lt_of_le h (Nat.pow_le_pow_right (by decide) (by omega : n ≤ 16))
  induction m with
  | zero => intro d S v _ _ _ h; omega
  | succ m ih =>
    intro d S v hd hS hbit hfr hv
    by_cases h0 : S = 0
    · subst h0
      rw [pm, if_pos (free_done n d hd hbit), num_zero hv, bl_zero]
      simp
    · have hS16 := hlt16 S hS
      obtain ⟨t1, t2⟩ := tz16_spec S (by omega) hS16
      have hff := free_tz n d S hd hS16 hbit (by omega) hS
      have han : tz16 S < n := inS_lt hS t1
      obtain ⟨a, ea⟩ : ∃ a, tz16 S = a := ⟨_, rfl⟩
      rw [ea] at hff t1 t2 han
      have fa : d.getD a false = false := by have := hbit a han; rw [t1] at this; simpa using this.symm
      rw [pm, if_neg (by omega), hff, hd]
      have sub : ∀ b, b < n → pmB d T b = true → ∃ v', Num ps t (clr S (2 ^ a ||| 2 ^ b)) v' ∧ (pm T m ((d.set a true).set b true) ≠ [] ↔ 2 * v' + 2 = (bl S).length) ∧ a < b ∧ adj ps a b = true ∧ inS S b := by
        intro b hb hp
        obtain ⟨p1, p2, p3⟩ := (pmB_iff n ps T hT d S a b hbit hff han hb).1 hp
        obtain ⟨v', hv'⟩ := num_of n hn ps hself t ht (clr S (2 ^ a ||| 2 ^ b)) (clr_lt_two _ _ _ hS)
        have fb : d.getD b false = false := by have := hbit b hb; unfold inS at p3; rw [p3] at this; simpa using this.symm
        have h1 := frees_two d a b (by omega) (by omega) (by omega) fa fb
        have h2 := ih ((d.set a true).set b true) _ v' (by simp [hd]) (clr_lt_two _ _ _ hS) (bits_two n d S a b hd hS16 hbit han hb) (by omega) hv'
        have h3 := bl_two S a b hS16 (by omega) t1 p3
        refine ⟨v', hv', ?_, p1, p2, p3⟩
        rw [h2]
        omega
      rw [Ne, List.flatMap_eq_nil_iff]
      constructor
      · intro h
        have : ∃ b, b ∈ List.range n ∧ ¬ (if pmB d T b = true then (pm T m ((d.set a true).set b true)).map (fun l => (⟨(a : Nat), b⟩ : S98) :: l) else []) = [] := by
          refine Classical.byContradiction (fun h2 => h (fun b hb => ?_))
          exact Classical.byContradiction (fun h3 => h2 ⟨b, hb, h3⟩)
        obtain ⟨b, hb, h2⟩ := this
        have hbn := List.mem_range.1 hb
        by_cases hp : pmB d T b = true
        · rw [if_pos hp, List.map_eq_nil_iff] at h2
          obtain ⟨v', hv', q, p1, p2, p3⟩ := sub b hbn hp
          have h4 := q.1 h2
          have h5 : v' + 1 ≤ v := (hv.has _).1 ⟨a, b, by omega, p2, t1, p3, ((hv'.has v').2 (Nat.le_refl _)).mono (fun i hi => (inS_clr2 S a b hS16 i).1 hi)⟩
          have h6 := hv.two hS16
          omega
        · rw [if_neg hp] at h2
          exact absurd rfl h2
      · intro h h2
        rcases ((hv.has v).2 (Nat.le_refl _)).split (eA_comm ps) a with h3 | ⟨b, k', hk, c1, c2, c3, c4, c5⟩
        · have := has_size _ v (clr S (2 ^ a)) (clr_lt _ _ hS16) (h3.mono (fun i hi => (inS_clr S a hS16 i).2 hi))
          have := bl_one S a hS16 t1
          omega
        · have hbn := inS_lt hS c4
          have hab : a < b := by
            rcases Nat.lt_trichotomy a b with h4 | h4 | h4
            · exact h4
            · exact absurd h4 c1
            · have := t2 b h4
              unfold inS at c4
              rw [this] at c4; cases c4
          have hp := (pmB_iff n ps T hT d S a b hbit hff han hbn).2 ⟨hab, c2, c4⟩
          obtain ⟨v', hv', q, p1, p2, p3⟩ := sub b hbn hp
          have h4 : k' ≤ v' := (hv'.has k').1 (c5.mono (fun i hi => (inS_clr2 S a b hS16 i).2 hi))
          have h5 := hv'.two (clr_lt _ _ hS16)
          have h6 := bl_two S a b hS16 (by omega) t1 c4
          have h7 := q.2 (by omega)
          have h8 := h2 b (List.mem_range.2 hbn)
          rw [if_pos hp, List.map_eq_nil_iff] at h8
          exact h7 h8
theorem pm_greedy (n : Nat) (ps : List S98) (hg : Good (n : Int) ps) (T : List (List Bool)) (t : List Int) (hT : TabI n T ps) (ht : MaskI n t ps) : ∀ (m : Nat) (d : List Bool) (S v i : Nat) (out l : List S98) (P : List (List S98)), d.length = n → S < 2 ^ n → (∀ j, j < n → S.testBit j = !d.getD j false) → frees d < m → Num ps t S v → JI ps (inS S) v i → i ≤ ps.length →
    pm T m d = l :: P → ((ps.drop i).foldl (mipS t) (S, out)).2 = out ++ l := by
  intro m
  have hn : n ≤ 12 := by have := hg.2.1; omega
  have hself := adj_self hg
  have hlt16 : ∀ s : Nat, s < 2 ^ n → s < 65536 := fun s h => Nat.lt_of_lt_of_le h (Nat.pow_le_pow_right (by decide) (by omega : n ≤ 16))
  induction m with
  | zero => intro d S v i out l P _ _ _ h; omega
  | succ m ih =>
    intro d S v i out l P hd hS hbit hfr hv hJ hi hpm
    have hperf := (pm_perfect n hn ps hself T t hT ht (m + 1) d S v hd hS hbit hfr hv).1 (by rw [hpm]; simp)
    by_cases h0 : S = 0
    · subst h0
      rw [pm, if_pos (free_done n d hd hbit)] at hpm
      injection hpm with e1 _
      subst e1
      obtain ⟨r1, _⟩ := mip_skip n ps hg t ht 0 hS out v hv (ps.length - i) i (by omega) hJ (fun k _ _ A B _ _ h1 _ => by unfold inS at h1; rw [Nat.zero_testBit] at h1; cases h1)
      rw [r1, List.drop_of_length_le (by omega)]
      simp
    · have hS16 := hlt16 S hS
      obtain ⟨t1, t2⟩ := tz16_spec S (by omega) hS16
      have hff := free_tz n d S hd hS16 hbit (by omega) hS
      have han : tz16 S < n := inS_lt hS t1
      obtain ⟨a, ea⟩ : ∃ a, tz16 S = a := ⟨_, rfl⟩
      rw [ea] at hff t1 t2 han
      have fa : d.getD a false = false := by have := hbit a han; rw [t1] at this; simpa using this.symm
      rw [pm, if_neg (by omega), hff, hd] at hpm
      obtain ⟨b, hb, hbefore, Q, hQ⟩ := flatMap_find _ P l _ hpm List.pairwise_lt_range
      have hbn := List.mem_range.1 hb
      have freeOf : ∀ c, c < n → inS S c → d.getD c false = false := fun c hc h1 => by have := hbit c hc; unfold inS at h1; rw [h1] at this; simpa using this.symm
      by_cases hp : pmB d T b = true
      case neg => rw [if_neg hp] at hQ; cases hQ
      rw [if_pos hp] at hQ
      obtain ⟨p1, p2, p3⟩ := (pmB_iff n ps T hT d S a b hbit hff han hbn).1 hp
      cases hP : pm T m ((d.set a true).set b true) with
      | nil => rw [hP] at hQ; cases hQ
      | cons l' Q' =>
        rw [hP, List.map_cons] at hQ
        injection hQ with e1 _
        subst e1
        obtain ⟨v', hv'⟩ := num_of n hn ps hself t ht (clr S (2 ^ a ||| 2 ^ b)) (clr_lt_two _ _ _ hS)
        have hf2 := frees_two d a b (by omega) (by omega) (by omega) fa (freeOf b hbn p3)
        have hbits2 := bits_two n d S a b hd hS16 hbit han hbn
        have hperf' := (pm_perfect n hn ps hself T t hT ht m _ _ v' (by simp [hd]) (clr_lt_two _ _ _ hS) hbits2 (by omega) hv').1 (by rw [hP]; simp)
        have hsz := bl_two S a b hS16 (by omega) t1 p3
        have hvv : v' + 1 = v := by omega
        have hHas : Has (eA ps) v' (but2 (inS S) a b) := ((hv'.has v').2 (Nat.le_refl _)).mono (fun i hi => (inS_clr2 S a b hS16 i).1 hi)
        obtain ⟨j, hj, hjab⟩ := adj_at (n := (n : Int)) p2
        have hjlt := (hg.2.2 j hj).2.1
        have hj2 : (rd_T98 ps (j : Int)).f0 = (a : Int) ∧ (rd_T98 ps (j : Int)).f1 = (b : Int) := by
          rcases hjab with h1 | ⟨h1, h2⟩
          · exact h1
          · omega
        have hji : i ≤ j := by
          rcases Nat.lt_or_ge j i with h1 | h1
          · exact absurd hHas (hJ j a b h1 hj hj2.1 hj2.2 t1 p3 v' hvv)
          · exact h1
        obtain ⟨r1, r2⟩ := mip_skip n ps hg t ht S hS out v hv (j - i) i (by omega) hJ (fun k hk1 hk2 A B hA hB sA sB hask => by
          have hpl := good_plt hg (j - k - 1) k (by omega)
          rw [show k + (j - k - 1 + 1) = j by omega] at hpl
          unfold plt at hpl
          rw [hA, hB, hj2.1, hj2.2] at hpl
          have hkl := (hg.2.2 k (by omega)).2.1
          rw [hA, hB] at hkl
          rcases Nat.lt_or_ge A a with h1 | h1
          · have := t2 A h1
            unfold inS at sA
            rw [this] at sA; cases sA
          obtain ⟨v1, hv1⟩ := num_of n hn ps hself t ht (clr S (2 ^ A ||| 2 ^ B)) (clr_lt_two _ _ _ hS)
          have hv1v := (hv1.wrap hv).1 hask.out
          clear hask
          obtain rfl : A = a := by omega
          have hBb : B < b := by omega
          have hBn : B < n := by omega
          have hpB := (pmB_iff n ps T hT d S A B hbit hff han hBn).2 ⟨by omega, at_adj (by omega) hA hB, sB⟩
          have hnil := hbefore B (List.mem_range.2 hBn) hBb
          rw [if_pos hpB, List.map_eq_nil_iff] at hnil
          have hsz2 := bl_two S A B hS16 (by omega) t1 sB
          have hf3 := frees_two d A B (by omega) (by omega) (by omega) fa (freeOf B hBn sB)
          have := (pm_perfect n hn ps hself T t hT ht m _ _ v1 (by simp [hd]) (clr_lt_two _ _ _ hS) (bits_two n d S A B hd hS16 hbit han hBn) (by omega) hv1).2 (by omega)
          exact this hnil)
        rw [show i + (j - i) = j by omega] at r1 r2
        have e5 : ps[j] = (⟨(a : Nat), b⟩ : S98) := by
          have := rd98 ps j hj
          rw [this] at hj2
          cases hx : ps[j]
          rw [hx] at hj2
          simp only at hj2
          rw [hj2.1, hj2.2]
        have hask : Aside0 (wrap64 (1 + mo t (clr S (2 ^ a ||| 2 ^ b))) = mo t S) := ⟨(hv'.wrap hv).2 hvv⟩
        rw [r1, List.drop_eq_getElem_cons hj, List.foldl_cons, e5, mipS_at t S out (⟨(a : Nat), b⟩ : S98) a b rfl rfl, if_pos ⟨(sub_own S a b).2 ⟨t1, p3⟩, hask.out⟩]
        rw [ih _ _ v' (j + 1) (out ++ [(⟨(a : Nat), b⟩ : S98)]) l' Q' (by simp [hd]) (clr_lt_two _ _ _ hS) hbits2 (by omega) hv' (JI.yes r2 hj hj2.1 hj2.2 (by omega) t1 p3 hvv (fun i => but2_clr hS16 i)) (by omega) hP]
        simp
theorem hd_nil (P : List (List S98)) : hd2 [] P [] = (match P with | [] => [] | l :: _ => l) := by cases P <;> simp [hd2]
theorem frees_rep0 (n : Nat) : frees (List.replicate n false) = n := by simp [frees]
theorem FirstPairing_eq (n : Int) (ps : List S98) (hl : ps.length < 4611686018427387904) :
    ∃ (r : List S98) (g : Bool), Ev (fun k => spec_FirstPairing.f k n ps) (r, g) ∧ Ev (fun k => impl_FirstPairing.f k n ps) (r, g) ∧ r.length ≤ 1048576 := by
  have h1 := paGood_eq n ps hl
  have h2 := isParty_eq n ps hl
  cases hg : good n ps
  · rw [hg] at h1 h2
    refine ⟨[], false, Ev.bind h1 (Ev.ifn (by decide) (Ev.pure _)), ?_, by simp⟩
    unfold impl_FirstPairing.f impl_MostInPairs.f
    exact Ev.bind (v := ([], false)) (Ev.bind h2 (Ev.ifn (by decide) (Ev.pure _))) (Ev.ifn (by decide) (Ev.pure _))
  · rw [hg] at h1 h2
    have hG := good_iff.1 hg
    obtain ⟨N, rfl⟩ : ∃ N : Nat, n = (N : Int) := ⟨n.toNat, by have := hG.1; omega⟩
    have hN : N ≤ 12 := by have := hG.2.1; omega
    have h66 := good_len_le hG
    obtain ⟨T, hT, hTE⟩ := paTable_eq N ps hG hl
    obtain ⟨t, ht, htE⟩ := table_eq N ps hG hl
    have e2 := mostInPairs_impl N ps hG t ht htE
    have hbit : ∀ j, j < N → (2 ^ N - 1).testBit j = !(List.replicate N false).getD j false := fun j hj => by
      rw [Nat.testBit_two_pow_sub_one]
      simp [List.getD_eq_getElem?_getD, List.getElem?_replicate, hj]
    have hlt : 2 ^ N - 1 < 2 ^ N := Nat.sub_lt (Nat.two_pow_pos _) (by decide)
    obtain ⟨v, hv⟩ := num_of N hN ps (adj_self hG) t ht (2 ^ N - 1) hlt
    have hbl : (bl (2 ^ N - 1)).length = N := by
      rw [bl_ltn _ N hlt (by omega), List.filter_eq_self.2 (fun j hj => by rw [Nat.testBit_two_pow_sub_one]; simpa using hj), List.length_range]
    have hlen := mip_end N ps hG t ht ps.length 0 (2 ^ N - 1) [] v (by omega) hlt hv (ji_zero _ _ _)
    rw [List.drop_zero] at hlen
    have hlen2 : (mip t (2 ^ N - 1) ps).2.length = v := by simpa [mip] using hlen
    have hperf := pm_perfect N hN ps (adj_self hG) T t hT ht (N + 1) (List.replicate N false) (2 ^ N - 1) v (by simp) hlt hbit (by rw [frees_rep0]; omega) hv
    rw [hbl] at hperf
    have htwo := hv.two (Nat.lt_of_lt_of_le hlt (Nat.pow_le_pow_right (n := 2) (by decide) (by omega : N ≤ 16)))
    rw [hbl] at htwo
    have hcnt := pm_len T (N + 1) (List.replicate N false) (by simpa using hN)
    have h13 : 13 ^ (N + 1) ≤ 13 ^ 13 := Nat.pow_le_pow_right (by decide) (by omega)
    have hb : 0 + (pm T (N + 1) (List.replicate N false)).length ≤ 4611686018427387904 := by
      have : (13 : Nat) ^ 13 = 302875106592253 := by decide
      omega
    have htp := tp_pm T (N + 1) (List.replicate N false) [] (0, []) 0 rfl hb
    rw [Nat.zero_add, if_pos rfl, hd_nil] at htp
    have hspec : ∀ r g, tp T (N + 1) (List.replicate N false) [] (0, []) = r → g = decide (r.1 > 0) → Ev (fun k => spec_FirstPairing.f k (N : Int) ps) (r.2, g) := by
      intro r g hr hg9
      unfold spec_FirstPairing.f
      refine Ev.bind h1 (Ev.ifp rfl (Ev.bind (v := r) ?_ ?_))
      · unfold spec_taPairs.f
        refine Ev.bind hTE (Ev.ifp ⟨by rw [hT.len], by rw [hT.len]; omega, fun x hx => ?_⟩ ?_)
        · obtain ⟨i, hi, rfl⟩ := List.getElem_of_mem hx
          have := hT.row i (by rw [← hT.len]; exact hi)
          rw [List.getD_eq_getElem?_getD, List.getElem?_eq_getElem hi, Option.getD_some] at this
          rw [this, hT.len]
        · rw [hT.len, hr]; exact Ev.pure _
      · rw [hg9]; exact Ev.pure _
    have himpl : Ev (fun k => impl_MostInPairs.f k (N : Int) ps) ((mip t (2 ^ N - 1) ps).2, true) := by
      unfold impl_MostInPairs.f
      exact Ev.bind h2 (Ev.ifp rfl (Ev.bind e2 (Ev.pure _)))
    have hw : Aside0 (wrap64 (2 * ((mip t (2 ^ N - 1) ps).2.length : Int)) = ((2 * v : Nat) : Int)) := ⟨by
      have := hv.le
      rw [hlen2, w64 (by omega) (by omega)]; omega⟩
    cases hP : pm T (N + 1) (List.replicate N false) with
    | nil =>
      rw [hP] at htp
      have hne : 2 * v ≠ N := fun e => absurd hP (hperf.2 e)
      refine ⟨[], false, hspec _ false htp (by simp), ?_, by simp⟩
      unfold impl_FirstPairing.f
      refine Ev.bind himpl (Ev.ifp rfl (Ev.ifp ?_ (Ev.pure _)))
      rw [hw.out]
      omega
    | cons l P =>
      rw [hP] at htp
      have hee : 2 * v = N := hperf.1 (by rw [hP]; simp)
      have hgr := pm_greedy N ps hG T t hT ht (N + 1) (List.replicate N false) (2 ^ N - 1) v 0 [] l P (by simp) hlt hbit (by rw [frees_rep0]; omega) hv (ji_zero _ _ _) (Nat.zero_le _) hP
      rw [List.drop_zero, List.nil_append] at hgr
      have hgr2 : (mip t (2 ^ N - 1) ps).2 = l := hgr
      refine ⟨l, true, hspec _ true htp (by simp only [List.length_cons]; rw [eq_comm, decide_eq_true_iff]; omega), ?_, by rw [← hgr2, hlen2]; have := hv.le; omega⟩
      unfold impl_FirstPairing.f
      refine Ev.bind himpl (Ev.ifp rfl (Ev.ifn ?_ ?_))
      · rw [hw.out]; omega
      · rw [hgr2]; exact Ev.pure _
theorem FnExactFirstPairing_true (n : Int) (l : List S144) (hl : l.length ≤ 9223372036854775807) : ∃ k, laws_FnExactFirstPairing.f k n l = some true := by
  refine Ev.one ?_
  unfold laws_FnExactFirstPairing.f
  refine Ev.bindC (szParty_eq n l hl) ?_
  by_cases h : l.length ≤ 1048576
  · rw [if_pos h]
    have hp : (l.map toP).length < 4611686018427387904 := by rw [List.length_map]; omega
    have hp2 : (l.map toP).length ≤ 1048576 := by rw [List.length_map]; exact h
    obtain ⟨r, g, h1, h2, hr⟩ := FirstPairing_eq n (l.map toP) hp
    have hr2 : r.length < 4611686018427387904 := by omega
    refine Ev.ifn (by omega) (Ev.bind (toParty_eq n l h) (Ev.bind h1 (Ev.bind (toParty_eq n l h) (Ev.bind h2 (Ev.bind (eqPairS_refl r hr2) (Ev.ifp rfl ?_))))))
    refine Ev.step (fun k => laws_FnExactFirstPairing.j0.eq_2 ..) (Ev.ifn (by simp) ?_)
    refine Ev.bind (toParty_eq n l h) (Ev.bind (eqParty_refl n _ hp) (Ev.ifp rfl (Ev.bind (markParty_eq n _ hp2) (Ev.ifn (by omega) (Ev.bind (eqPairS_refl r hr2) (Ev.ifp rfl ?_))))))
    refine Ev.step (fun k => laws_FnExactFirstPairing.j1.eq_2 ..) (Ev.ifn (by simp) ?_)
    refine Ev.bind (markPairS_eq r hr) (Ev.bind (heldPairS_eq r.length hr) (Ev.ifn (by omega) (Ev.ifp rfl (Ev.bind (toParty_eq n l h) (Ev.bind h2 (Ev.bind (eqPairS_refl r hr2) (Ev.ifp rfl ?_)))))))
    refine Ev.step (fun k => laws_FnExactFirstPairing.j2.eq_2 ..) (Ev.ifn (by simp) ?_)
    exact Ev.bind (heldPairS_eq r.length hr) (Ev.ifn (by omega) (Ev.ifp rfl (Ev.pure _)))
  · rw [if_neg h]
    exact Ev.ifp (by decide) (Ev.pure _)
end Go.Proofs.YtopahhcojncgaaaDoor.G
