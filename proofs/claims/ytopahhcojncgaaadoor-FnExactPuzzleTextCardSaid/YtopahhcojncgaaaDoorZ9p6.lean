/- Part 6 of the proof: texts merged. Conditions: those that each theorem states. -/
import Derived.Test.YtopahhcojncgaaaDoorZ9p2
import Derived.Test.YtopahhcojncgaaaDoorZ9p4
import Derived.Test.YtopahhcojncgaaaDoorZ9p5
namespace Go.Proofs.YtopahhcojncgaaaDoor.G
open Go.RowKit Go.Proofs.YtopahhcojncgaaaDoorW.PrintWords Go.Proofs.YtopahhcojncgaaaDoorW.PrintLast Go.Proofs.YtopahhcojncgaaaDoorW.PrintMore
attribute [local go_sem] max2_int min2_int max_two min_two max_three min_three max_four min_four
set_option linter.unusedVariables false
set_option linter.unusedSimpArgs false
def laws_eqClue.f (a0_0 : Int) (a0_1 : Int) (a0_2 : Int) (a1_0 : Int) (a1_1 : Int) (a1_2 : Int) : Option (Bool) := if a0_0 = a1_0 then (if a0_1 = a1_1 then (if a0_2 = a1_2 then (some true) else (some false)) else (some false)) else (some false)
set_option maxHeartbeats 8000000 in
set_option maxRecDepth 100000 in
theorem laws_eqClue.calls (a0_0 : Int) (a0_1 : Int) (a0_2 : Int) (a1_0 : Int) (a1_1 : Int) (a1_2 : Int) (r : Bool) (w : World) (h : laws_eqClue.f a0_0 a0_1 a0_2 a1_0 a1_1 a1_2 = some r) :
  Calls Tryd.prog 148 #[.agg #[.int .i64 a0_0, .int .i64 a0_1, .int .i64 a0_2], .agg #[.int .i64 a1_0, .int .i64 a1_1, .int .i64 a1_2]] w fun e w' => e = .returned (.bool r) ∧ Below w.heap.size w w' := by
 have hu130 := Tryd.underlying130
 have HB := Aside0.mk (Below.refl w.heap.size w)
 have H : (if a0_0 = a1_0 then (if a0_1 = a1_1 then (if a0_2 = a1_2 then (some true) else (some false)) else (some false)) else (some false)) = some r := h
 clear h
 by_cases c3 : a0_0 = a1_0
 ·rw [if_pos c3] at H
  have c3b0 : (a0_0 == a1_0) = true := beq_iff_eq.mpr c3
  have c3b1 : (a0_0 != a1_0) = false := bne_eq_false_iff_eq.mpr c3
  clear c3
  by_cases c4 : a0_1 = a1_1
  ·rw [if_pos c4] at H
   have c4b0 : (a0_1 == a1_1) = true := beq_iff_eq.mpr c4
   have c4b1 : (a0_1 != a1_1) = false := bne_eq_false_iff_eq.mpr c4
   clear c4
   by_cases c5 : a0_2 = a1_2
   ·rw [if_pos c5] at H
    have c5b0 : (a0_2 == a1_2) = true := beq_iff_eq.mpr c5
    have c5b1 : (a0_2 != a1_2) = false := bne_eq_false_iff_eq.mpr c5
    clear c5
    obtain rfl := Option.some.inj H
    go_enter Tryd.func148, Tryd.ntmps148
    go_wp2_with (first | ((with_reducible refine gate_dst (N := 2) rfl ?_); refine box_event ?hg (N := 2) ?hd (cs := #[.int .i64 a0_0, .int .i64 a0_1, .int .i64 a0_2]) (t := 130) ?hr ?_; (case hd => rfl); (case hg => rfl); (case hr => first | (go_simp; done) | (go_simp; rfl)); intro gb643 hg w6 hbox hb; have n0_ := Aside0.mk (below_step (by repeat (first | (with_reducible first | exact HB.out | apply below_alloc | apply pw_below_drewN | apply below_drew1) | exact HB.out)) hb); have n1_ := Aside0.mk (hbox); have n2_ := Aside0.mk ((by rw [hg]; exact (below_size (by repeat (first | (with_reducible first | exact HB.out | apply below_alloc | apply pw_below_drewN | apply below_drew1) | exact HB.out))) : w.heap.size ≤ gb643)); have n3_ := Aside0.mk ((by rw [hg]; exact (below_size (by repeat (first | (with_reducible first | exact HB.out | apply below_alloc | apply pw_below_drewN | apply below_drew1) | exact HB.out))) : w.heap.size ≤ gb643)); clear HB; have HB := n0_; have BK643 := n1_; have GW643 := n2_; have GE643 := n3_; clear n0_ n1_ n2_ n3_; clear hb hbox hg) | ((with_reducible refine gate_dst (N := 3) rfl ?_); refine box_event ?hg (N := 3) ?hd (cs := #[.int .i64 a1_0, .int .i64 a1_1, .int .i64 a1_2]) (t := 130) ?hr ?_; (case hd => rfl); (case hg => rfl); (case hr => first | (go_simp; done) | (go_simp; rfl)); intro gb644 hg w7 hbox hb; have n0_ := Aside0.mk (blk_below (g := gb643) (o := .cells #[.int .i64 a0_0, .int .i64 a0_1, .int .i64 a0_2] 130 (0, 0)) (by (with_reducible repeat (first | refine blk_drewN ?_ _ | refine blk_drew ?_ | refine blk_alloc ?_ _)); exact BK643.out) hb); have n1_ := Aside0.mk (below_step (by repeat (first | (with_reducible first | exact HB.out | apply below_alloc | apply pw_below_drewN | apply below_drew1 | refine below_set ?_ GE643.out) | exact HB.out)) hb); have n2_ := Aside0.mk (hbox); have n3_ := Aside0.mk ((by rw [hg]; exact (below_size (by repeat (first | (with_reducible first | exact HB.out | apply below_alloc | apply pw_below_drewN | apply below_drew1 | refine below_set ?_ GE643.out) | exact HB.out))) : w.heap.size ≤ gb644)); have n4_ := Aside0.mk ((by rw [hg]; exact (below_size (by repeat (first | (with_reducible first | exact HB.out | apply below_alloc | apply pw_below_drewN | apply below_drew1 | refine below_set ?_ GE643.out) | exact HB.out))) : w.heap.size ≤ gb644)); have n5_ := Aside0.mk ((by rw [hg]; exact Nat.ne_of_lt (blk_lt (g := gb643) (o := .cells #[.int .i64 a0_0, .int .i64 a0_1, .int .i64 a0_2] 130 (0, 0)) (by (with_reducible repeat (first | refine blk_drewN ?_ _ | refine blk_drew ?_ | refine blk_alloc ?_ _)); exact BK643.out)) : gb643 ≠ gb644)); have n6_ := Aside0.mk ((by rw [hg]; exact Nat.ne_of_gt (blk_lt (g := gb643) (o := .cells #[.int .i64 a0_0, .int .i64 a0_1, .int .i64 a0_2] 130 (0, 0)) (by (with_reducible repeat (first | refine blk_drewN ?_ _ | refine blk_drew ?_ | refine blk_alloc ?_ _)); exact BK643.out)) : gb644 ≠ gb643)); clear BK643; clear HB; have BK643 := n0_; have HB := n1_; have BK644 := n2_; have GW644 := n3_; have GE644 := n4_; have NB643_644 := n5_; have NB644_643 := n6_; clear n0_ n1_ n2_ n3_ n4_ n5_ n6_; clear hb hbox hg; have hnb8 := NB643_644.out; have hnc8 := NB644_643.out; have hcz9_0 : w7.cell? ⟨gb643, 0, none⟩ = some (.int .i64 a0_0) := (blk_cell BK643.out 0).trans rfl; have hcz9_1 : w7.cell? ⟨gb643, 1, none⟩ = some (.int .i64 a0_1) := (blk_cell BK643.out 1).trans rfl; have hcz9_2 : w7.cell? ⟨gb643, 2, none⟩ = some (.int .i64 a0_2) := (blk_cell BK643.out 2).trans rfl; have hfz9_0 := blk_frozen BK643.out 0; have hfz9_1 := blk_frozen BK643.out 1; have hfz9_2 := blk_frozen BK643.out 2; have hcz10_0 : w7.cell? ⟨gb644, 0, none⟩ = some (.int .i64 a1_0) := (blk_cell BK644.out 0).trans rfl; have hcz10_1 : w7.cell? ⟨gb644, 1, none⟩ = some (.int .i64 a1_1) := (blk_cell BK644.out 1).trans rfl; have hcz10_2 : w7.cell? ⟨gb644, 2, none⟩ = some (.int .i64 a1_2) := (blk_cell BK644.out 2).trans rfl; have hfz10_0 := blk_frozen BK644.out 0; have hfz10_1 := blk_frozen BK644.out 1; have hfz10_2 := blk_frozen BK644.out 2))
    go_ret
    exact ⟨by first | rfl | (simp [errW_none, errW_some] <;> rfl) | (simp [*, errW_none, errW_some] <;> rfl), by repeat (first | (with_reducible first | exact HB.out | apply below_alloc | apply pw_below_drewN | apply below_drew1 | refine below_set ?_ GE643.out | refine below_set ?_ GE644.out) | exact HB.out)⟩
   ·rw [if_neg c5] at H
    have c5b0 : (a0_2 == a1_2) = false := beq_eq_false_iff_ne.mpr c5
    have c5b1 : (a0_2 != a1_2) = true := bne_iff_ne.mpr c5
    obtain rfl := Option.some.inj H
    go_enter Tryd.func148, Tryd.ntmps148
    go_wp2_with (first | ((with_reducible refine gate_dst (N := 2) rfl ?_); refine box_event ?hg (N := 2) ?hd (cs := #[.int .i64 a0_0, .int .i64 a0_1, .int .i64 a0_2]) (t := 130) ?hr ?_; (case hd => rfl); (case hg => rfl); (case hr => first | (go_simp; done) | (go_simp; rfl)); intro gb643 hg w11 hbox hb; have n0_ := Aside0.mk (below_step (by repeat (first | (with_reducible first | exact HB.out | apply below_alloc | apply pw_below_drewN | apply below_drew1) | exact HB.out)) hb); have n1_ := Aside0.mk (hbox); have n2_ := Aside0.mk ((by rw [hg]; exact (below_size (by repeat (first | (with_reducible first | exact HB.out | apply below_alloc | apply pw_below_drewN | apply below_drew1) | exact HB.out))) : w.heap.size ≤ gb643)); have n3_ := Aside0.mk ((by rw [hg]; exact (below_size (by repeat (first | (with_reducible first | exact HB.out | apply below_alloc | apply pw_below_drewN | apply below_drew1) | exact HB.out))) : w.heap.size ≤ gb643)); clear HB; have HB := n0_; have BK643 := n1_; have GW643 := n2_; have GE643 := n3_; clear n0_ n1_ n2_ n3_; clear hb hbox hg) | ((with_reducible refine gate_dst (N := 3) rfl ?_); refine box_event ?hg (N := 3) ?hd (cs := #[.int .i64 a1_0, .int .i64 a1_1, .int .i64 a1_2]) (t := 130) ?hr ?_; (case hd => rfl); (case hg => rfl); (case hr => first | (go_simp; done) | (go_simp; rfl)); intro gb644 hg w12 hbox hb; have n0_ := Aside0.mk (blk_below (g := gb643) (o := .cells #[.int .i64 a0_0, .int .i64 a0_1, .int .i64 a0_2] 130 (0, 0)) (by (with_reducible repeat (first | refine blk_drewN ?_ _ | refine blk_drew ?_ | refine blk_alloc ?_ _)); exact BK643.out) hb); have n1_ := Aside0.mk (below_step (by repeat (first | (with_reducible first | exact HB.out | apply below_alloc | apply pw_below_drewN | apply below_drew1 | refine below_set ?_ GE643.out) | exact HB.out)) hb); have n2_ := Aside0.mk (hbox); have n3_ := Aside0.mk ((by rw [hg]; exact (below_size (by repeat (first | (with_reducible first | exact HB.out | apply below_alloc | apply pw_below_drewN | apply below_drew1 | refine below_set ?_ GE643.out) | exact HB.out))) : w.heap.size ≤ gb644)); have n4_ := Aside0.mk ((by rw [hg]; exact (below_size (by repeat (first | (with_reducible first | exact HB.out | apply below_alloc | apply pw_below_drewN | apply below_drew1 | refine below_set ?_ GE643.out) | exact HB.out))) : w.heap.size ≤ gb644)); have n5_ := Aside0.mk ((by rw [hg]; exact Nat.ne_of_lt (blk_lt (g := gb643) (o := .cells #[.int .i64 a0_0, .int .i64 a0_1, .int .i64 a0_2] 130 (0, 0)) (by (with_reducible repeat (first | refine blk_drewN ?_ _ | refine blk_drew ?_ | refine blk_alloc ?_ _)); exact BK643.out)) : gb643 ≠ gb644)); have n6_ := Aside0.mk ((by rw [hg]; exact Nat.ne_of_gt (blk_lt (g := gb643) (o := .cells #[.int .i64 a0_0, .int .i64 a0_1, .int .i64 a0_2] 130 (0, 0)) (by (with_reducible repeat (first | refine blk_drewN ?_ _ | refine blk_drew ?_ | refine blk_alloc ?_ _)); exact BK643.out)) : gb644 ≠ gb643)); clear BK643; clear HB; have BK643 := n0_; have HB := n1_; have BK644 := n2_; have GW644 := n3_; have GE644 := n4_; have NB643_644 := n5_; have NB644_643 := n6_; clear n0_ n1_ n2_ n3_ n4_ n5_ n6_; clear hb hbox hg; have hnb13 := NB643_644.out; have hnc13 := NB644_643.out; have hcz14_0 : w12.cell? ⟨gb643, 0, none⟩ = some (.int .i64 a0_0) := (blk_cell BK643.out 0).trans rfl; have hcz14_1 : w12.cell? ⟨gb643, 1, none⟩ = some (.int .i64 a0_1) := (blk_cell BK643.out 1).trans rfl; have hcz14_2 : w12.cell? ⟨gb643, 2, none⟩ = some (.int .i64 a0_2) := (blk_cell BK643.out 2).trans rfl; have hfz14_0 := blk_frozen BK643.out 0; have hfz14_1 := blk_frozen BK643.out 1; have hfz14_2 := blk_frozen BK643.out 2; have hcz15_0 : w12.cell? ⟨gb644, 0, none⟩ = some (.int .i64 a1_0) := (blk_cell BK644.out 0).trans rfl; have hcz15_1 : w12.cell? ⟨gb644, 1, none⟩ = some (.int .i64 a1_1) := (blk_cell BK644.out 1).trans rfl; have hcz15_2 : w12.cell? ⟨gb644, 2, none⟩ = some (.int .i64 a1_2) := (blk_cell BK644.out 2).trans rfl; have hfz15_0 := blk_frozen BK644.out 0; have hfz15_1 := blk_frozen BK644.out 1; have hfz15_2 := blk_frozen BK644.out 2))
    go_ret
    exact ⟨by first | rfl | (simp [errW_none, errW_some] <;> rfl) | (simp [*, errW_none, errW_some] <;> rfl), by repeat (first | (with_reducible first | exact HB.out | apply below_alloc | apply pw_below_drewN | apply below_drew1 | refine below_set ?_ GE643.out | refine below_set ?_ GE644.out) | exact HB.out)⟩
  ·rw [if_neg c4] at H
   have c4b0 : (a0_1 == a1_1) = false := beq_eq_false_iff_ne.mpr c4
   have c4b1 : (a0_1 != a1_1) = true := bne_iff_ne.mpr c4
   obtain rfl := Option.some.inj H
   go_enter Tryd.func148, Tryd.ntmps148
   go_wp2_with (first | ((with_reducible refine gate_dst (N := 2) rfl ?_); refine box_event ?hg (N := 2) ?hd (cs := #[.int .i64 a0_0, .int .i64 a0_1, .int .i64 a0_2]) (t := 130) ?hr ?_; (case hd => rfl); (case hg => rfl); (case hr => first | (go_simp; done) | (go_simp; rfl)); intro gb643 hg w16 hbox hb; have n0_ := Aside0.mk (below_step (by repeat (first | (with_reducible first | exact HB.out | apply below_alloc | apply pw_below_drewN | apply below_drew1) | exact HB.out)) hb); have n1_ := Aside0.mk (hbox); have n2_ := Aside0.mk ((by rw [hg]; exact (below_size (by repeat (first | (with_reducible first | exact HB.out | apply below_alloc | apply pw_below_drewN | apply below_drew1) | exact HB.out))) : w.heap.size ≤ gb643)); have n3_ := Aside0.mk ((by rw [hg]; exact (below_size (by repeat (first | (with_reducible first | exact HB.out | apply below_alloc | apply pw_below_drewN | apply below_drew1) | exact HB.out))) : w.heap.size ≤ gb643)); clear HB; have HB := n0_; have BK643 := n1_; have GW643 := n2_; have GE643 := n3_; clear n0_ n1_ n2_ n3_; clear hb hbox hg) | ((with_reducible refine gate_dst (N := 3) rfl ?_); refine box_event ?hg (N := 3) ?hd (cs := #[.int .i64 a1_0, .int .i64 a1_1, .int .i64 a1_2]) (t := 130) ?hr ?_; (case hd => rfl); (case hg => rfl); (case hr => first | (go_simp; done) | (go_simp; rfl)); intro gb644 hg w17 hbox hb; have n0_ := Aside0.mk (blk_below (g := gb643) (o := .cells #[.int .i64 a0_0, .int .i64 a0_1, .int .i64 a0_2] 130 (0, 0)) (by (with_reducible repeat (first | refine blk_drewN ?_ _ | refine blk_drew ?_ | refine blk_alloc ?_ _)); exact BK643.out) hb); have n1_ := Aside0.mk (below_step (by repeat (first | (with_reducible first | exact HB.out | apply below_alloc | apply pw_below_drewN | apply below_drew1 | refine below_set ?_ GE643.out) | exact HB.out)) hb); have n2_ := Aside0.mk (hbox); have n3_ := Aside0.mk ((by rw [hg]; exact (below_size (by repeat (first | (with_reducible first | exact HB.out | apply below_alloc | apply pw_below_drewN | apply below_drew1 | refine below_set ?_ GE643.out) | exact HB.out))) : w.heap.size ≤ gb644)); have n4_ := Aside0.mk ((by rw [hg]; exact (below_size (by repeat (first | (with_reducible first | exact HB.out | apply below_alloc | apply pw_below_drewN | apply below_drew1 | refine below_set ?_ GE643.out) | exact HB.out))) : w.heap.size ≤ gb644)); have n5_ := Aside0.mk ((by rw [hg]; exact Nat.ne_of_lt (blk_lt (g := gb643) (o := .cells #[.int .i64 a0_0, .int .i64 a0_1, .int .i64 a0_2] 130 (0, 0)) (by (with_reducible repeat (first | refine blk_drewN ?_ _ | refine blk_drew ?_ | refine blk_alloc ?_ _)); exact BK643.out)) : gb643 ≠ gb644)); have n6_ := Aside0.mk ((by rw [hg]; exact Nat.ne_of_gt (blk_lt (g := gb643) (o := .cells #[.int .i64 a0_0, .int .i64 a0_1, .int .i64 a0_2] 130 (0, 0)) (by (with_reducible repeat (first | refine blk_drewN ?_ _ | refine blk_drew ?_ | refine blk_alloc ?_ _)); exact BK643.out)) : gb644 ≠ gb643)); clear BK643; clear HB; have BK643 := n0_; have HB := n1_; have BK644 := n2_; have GW644 := n3_; have GE644 := n4_; have NB643_644 := n5_; have NB644_643 := n6_; clear n0_ n1_ n2_ n3_ n4_ n5_ n6_; clear hb hbox hg; have hnb18 := NB643_644.out; have hnc18 := NB644_643.out; have hcz19_0 : w17.cell? ⟨gb643, 0, none⟩ = some (.int .i64 a0_0) := (blk_cell BK643.out 0).trans rfl; have hcz19_1 : w17.cell? ⟨gb643, 1, none⟩ = some (.int .i64 a0_1) := (blk_cell BK643.out 1).trans rfl; have hcz19_2 : w17.cell? ⟨gb643, 2, none⟩ = some (.int .i64 a0_2) := (blk_cell BK643.out 2).trans rfl; have hfz19_0 := blk_frozen BK643.out 0; have hfz19_1 := blk_frozen BK643.out 1; have hfz19_2 := blk_frozen BK643.out 2; have hcz20_0 : w17.cell? ⟨gb644, 0, none⟩ = some (.int .i64 a1_0) := (blk_cell BK644.out 0).trans rfl; have hcz20_1 : w17.cell? ⟨gb644, 1, none⟩ = some (.int .i64 a1_1) := (blk_cell BK644.out 1).trans rfl; have hcz20_2 : w17.cell? ⟨gb644, 2, none⟩ = some (.int .i64 a1_2) := (blk_cell BK644.out 2).trans rfl; have hfz20_0 := blk_frozen BK644.out 0; have hfz20_1 := blk_frozen BK644.out 1; have hfz20_2 := blk_frozen BK644.out 2))
   go_ret
   exact ⟨by first | rfl | (simp [errW_none, errW_some] <;> rfl) | (simp [*, errW_none, errW_some] <;> rfl), by repeat (first | (with_reducible first | exact HB.out | apply below_alloc | apply pw_below_drewN | apply below_drew1 | refine below_set ?_ GE643.out | refine below_set ?_ GE644.out) | exact HB.out)⟩
 ·rw [if_neg c3] at H
  have c3b0 : (a0_0 == a1_0) = false := beq_eq_false_iff_ne.mpr c3
  have c3b1 : (a0_0 != a1_0) = true := bne_iff_ne.mpr c3
  obtain rfl := Option.some.inj H
  go_enter Tryd.func148, Tryd.ntmps148
  go_wp2_with (first | ((with_reducible refine gate_dst (N := 2) rfl ?_); refine box_event ?hg (N := 2) ?hd (cs := #[.int .i64 a0_0, .int .i64 a0_1, .int .i64 a0_2]) (t := 130) ?hr ?_; (case hd => rfl); (case hg => rfl); (case hr => first | (go_simp; done) | (go_simp; rfl)); intro gb643 hg w21 hbox hb; have n0_ := Aside0.mk (below_step (by repeat (first | (with_reducible first | exact HB.out | apply below_alloc | apply pw_below_drewN | apply below_drew1) | exact HB.out)) hb); have n1_ := Aside0.mk (hbox); have n2_ := Aside0.mk ((by rw [hg]; exact (below_size (by repeat (first | (with_reducible first | exact HB.out | apply below_alloc | apply pw_below_drewN | apply below_drew1) | exact HB.out))) : w.heap.size ≤ gb643)); have n3_ := Aside0.mk ((by rw [hg]; exact (below_size (by repeat (first | (with_reducible first | exact HB.out | apply below_alloc | apply pw_below_drewN | apply below_drew1) | exact HB.out))) : w.heap.size ≤ gb643)); clear HB; have HB := n0_; have BK643 := n1_; have GW643 := n2_; have GE643 := n3_; clear n0_ n1_ n2_ n3_; clear hb hbox hg) | ((with_reducible refine gate_dst (N := 3) rfl ?_); refine box_event ?hg (N := 3) ?hd (cs := #[.int .i64 a1_0, .int .i64 a1_1, .int .i64 a1_2]) (t := 130) ?hr ?_; (case hd => rfl); (case hg => rfl); (case hr => first | (go_simp; done) | (go_simp; rfl)); intro gb644 hg w22 hbox hb; have n0_ := Aside0.mk (blk_below (g := gb643) (o := .cells #[.int .i64 a0_0, .int .i64 a0_1, .int .i64 a0_2] 130 (0, 0)) (by (with_reducible repeat (first | refine blk_drewN ?_ _ | refine blk_drew ?_ | refine blk_alloc ?_ _)); exact BK643.out) hb); have n1_ := Aside0.mk (below_step (by repeat (first | (with_reducible first | exact HB.out | apply below_alloc | apply pw_below_drewN | apply below_drew1 | refine below_set ?_ GE643.out) | exact HB.out)) hb); have n2_ := Aside0.mk (hbox); have n3_ := Aside0.mk ((by rw [hg]; exact (below_size (by repeat (first | (with_reducible first | exact HB.out | apply below_alloc | apply pw_below_drewN | apply below_drew1 | refine below_set ?_ GE643.out) | exact HB.out))) : w.heap.size ≤ gb644)); have n4_ := Aside0.mk ((by rw [hg]; exact (below_size (by repeat (first | (with_reducible first | exact HB.out | apply below_alloc | apply pw_below_drewN | apply below_drew1 | refine below_set ?_ GE643.out) | exact HB.out))) : w.heap.size ≤ gb644)); have n5_ := Aside0.mk ((by rw [hg]; exact Nat.ne_of_lt (blk_lt (g := gb643) (o := .cells #[.int .i64 a0_0, .int .i64 a0_1, .int .i64 a0_2] 130 (0, 0)) (by (with_reducible repeat (first | refine blk_drewN ?_ _ | refine blk_drew ?_ | refine blk_alloc ?_ _)); exact BK643.out)) : gb643 ≠ gb644)); have n6_ := Aside0.mk ((by rw [hg]; exact Nat.ne_of_gt (blk_lt (g := gb643) (o := .cells #[.int .i64 a0_0, .int .i64 a0_1, .int .i64 a0_2] 130 (0, 0)) (by (with_reducible repeat (first | refine blk_drewN ?_ _ | refine blk_drew ?_ | refine blk_alloc ?_ _)); exact BK643.out)) : gb644 ≠ gb643)); clear BK643; clear HB; have BK643 := n0_; have HB := n1_; have BK644 := n2_; have GW644 := n3_; have GE644 := n4_; have NB643_644 := n5_; have NB644_643 := n6_; clear n0_ n1_ n2_ n3_ n4_ n5_ n6_; clear hb hbox hg; have hnb23 := NB643_644.out; have hnc23 := NB644_643.out; have hcz24_0 : w22.cell? ⟨gb643, 0, none⟩ = some (.int .i64 a0_0) := (blk_cell BK643.out 0).trans rfl; have hcz24_1 : w22.cell? ⟨gb643, 1, none⟩ = some (.int .i64 a0_1) := (blk_cell BK643.out 1).trans rfl; have hcz24_2 : w22.cell? ⟨gb643, 2, none⟩ = some (.int .i64 a0_2) := (blk_cell BK643.out 2).trans rfl; have hfz24_0 := blk_frozen BK643.out 0; have hfz24_1 := blk_frozen BK643.out 1; have hfz24_2 := blk_frozen BK643.out 2; have hcz25_0 : w22.cell? ⟨gb644, 0, none⟩ = some (.int .i64 a1_0) := (blk_cell BK644.out 0).trans rfl; have hcz25_1 : w22.cell? ⟨gb644, 1, none⟩ = some (.int .i64 a1_1) := (blk_cell BK644.out 1).trans rfl; have hcz25_2 : w22.cell? ⟨gb644, 2, none⟩ = some (.int .i64 a1_2) := (blk_cell BK644.out 2).trans rfl; have hfz25_0 := blk_frozen BK644.out 0; have hfz25_1 := blk_frozen BK644.out 1; have hfz25_2 := blk_frozen BK644.out 2))
  go_ret
  exact ⟨by first | rfl | (simp [errW_none, errW_some] <;> rfl) | (simp [*, errW_none, errW_some] <;> rfl), by repeat (first | (with_reducible first | exact HB.out | apply below_alloc | apply pw_below_drewN | apply below_drew1 | refine below_set ?_ GE643.out | refine below_set ?_ GE644.out) | exact HB.out)⟩
end Go.Proofs.YtopahhcojncgaaaDoor.G
namespace Go.Proofs.YtopahhcojncgaaaDoor.G
open Go.RowKit Go.Proofs.YtopahhcojncgaaaDoorW.PrintWords Go.Proofs.YtopahhcojncgaaaDoorW.PrintLast Go.Proofs.YtopahhcojncgaaaDoorW.PrintMore
attribute [local go_sem] max2_int min2_int max_two min_two max_three min_three max_four min_four
set_option linter.unusedVariables false
set_option linter.unusedSimpArgs false
def laws_eqClueS.l0 : Nat → List (S130) → List (S130) → Int → Option (Bool)
 | 0, _, _, _ => none
 | k + 1, x0, x1, x5 => if x5 < (x0.length : Int) then (if 0 ≤ x5 then (if x5 < (x1.length : Int) then ((laws_eqClue.f ((rd_T130 x0 x5).f0) ((rd_T130 x0 x5).f1) ((rd_T130 x0 x5).f2) ((rd_T130 x1 x5).f0) ((rd_T130 x1 x5).f1) ((rd_T130 x1 x5).f2)).bind fun t647 => (if t647 = true then (laws_eqClueS.l0 k x0 x1 (wrap64 (x5 + 1))) else (some false))) else (none)) else (none)) else (some true)
def laws_eqClueS.f (k : Nat) (l0 : List (S130)) (l1 : List (S130)) : Option (Bool) := if (l0.length : Int) = (l1.length : Int) then (laws_eqClueS.l0 k l0 l1 0) else (some false)
theorem laws_eqClueS.mono_l : ∀ k, (∀ y0 y1 y2, LeO (laws_eqClueS.l0 k y0 y1 y2) (laws_eqClueS.l0 (k + 1) y0 y1 y2))
 | 0 => fun _ _ _ r h => by simp [laws_eqClueS.l0] at h
 | k + 1 => by
  have ih0 := laws_eqClueS.mono_l k
  ·intro y0 y1 y2
   unfold laws_eqClueS.l0
   repeat' first
   | (with_reducible exact ih0 _ _ _)
   | (with_reducible exact LeO.refl _)
   | (with_reducible exact LeO.none _)
   | (with_reducible refine LeO.ite ?_ ?_)
   | (with_reducible refine LeO.bind ?_ (fun _ => ?_))
   | exact ih0 _ _ _
   | exact LeO.none _
   | refine LeO.ite ?_ ?_
   | refine LeO.bind ?_ (fun _ => ?_)
theorem laws_eqClueS.mono : ∀ a0 a1 k, LeO (laws_eqClueS.f k a0 a1) (laws_eqClueS.f (k + 1) a0 a1) := by
 intro a0 a1 k
 have ih0 := laws_eqClueS.mono_l k
 unfold laws_eqClueS.f
 repeat' first
   | (with_reducible exact ih0 _ _ _)
   | (with_reducible exact LeO.refl _)
   | (with_reducible exact LeO.none _)
   | (with_reducible refine LeO.ite ?_ ?_)
   | (with_reducible refine LeO.bind ?_ (fun _ => ?_))
   | exact ih0 _ _ _
   | exact LeO.none _
   | refine LeO.ite ?_ ?_
   | refine LeO.bind ?_ (fun _ => ?_)
def laws_eqClueS.T6 : Bool × List (List Nat × List Nat) := (true, [([], []), ([], []), ([0, 1], [0, 1]), ([2], [2]), ([], []), ([], []), ([4, 5], [4, 5]), ([6], [6]), ([3, 7], [3, 7]), ([8], [8])])
def laws_eqClueS.B6 : List Nat := [0, 0, 3, 7, 0, 0, 48, 112, 255, 511]
theorem laws_eqClueS.tab6 : rtab .any (opsOf Tryd.f95 6) = laws_eqClueS.T6 := by kernel_rfl
theorem laws_eqClueS.bits6 : waitsOk laws_eqClueS.T6.2 laws_eqClueS.B6 = true := by kernel_rfl
set_option maxHeartbeats 8000000 in
set_option maxRecDepth 100000 in
theorem laws_eqClueS.calls (k : Nat) (A0 : Option Addr) (c0 : Nat) (l0 : List (S130)) (A1 : Option Addr) (c1 : Nat) (l1 : List (S130)) (r : Bool) (w : World) (hr0 : Kd.C k130 w A0 l0.length l0) (hc0 : l0.length ≤ c0) (hr1 : Kd.C k130 w A1 l1.length l1) (hc1 : l1.length ≤ c1) (h : laws_eqClueS.f k l0 l1 = some r) :
  Calls Tryd.prog 95 #[.slice A0 l0.length c0, .slice A1 l1.length c1] w fun e w' => e = .returned (.bool r) ∧ Below w.heap.size w w' := by
 have hu130 := Tryd.underlying130
 have HR0 := Aside0.mk hr0
 have HC0 := Aside0.mk hc0
 clear hr0 hc0
 have HR1 := Aside0.mk hr1
 have HC1 := Aside0.mk hc1
 clear hr1 hc1
 have HB := Aside0.mk (Below.refl w.heap.size w)
 have H : (if (l0.length : Int) = (l1.length : Int) then (laws_eqClueS.l0 k l0 l1 0) else (some false)) = some r := h
 clear h
 by_cases c3 : (l0.length : Int) = (l1.length : Int)
 ·rw [if_pos c3] at H
  have c3b0 : ((l0.length : Int) == (l1.length : Int)) = true := beq_iff_eq.mpr c3
  have c3b1 : ((l0.length : Int) != (l1.length : Int)) = false := bne_eq_false_iff_eq.mpr c3
  have c3b2 : (l0.length == l1.length) = true := by first | simpa using c3 | (simp at c3 ⊢; omega)
  clear c3
  have H' := Aside0.mk H
  clear H
  go_enter Tryd.func95, Tryd.ntmps95
  go_wp2
  go_loopg [5] k (fun kq v5 w' => ∃ (x5_1 : Int), v5 = .int .i64 x5_1 ∧ Aside0 (laws_eqClueS.l0 kq l0 l1 x5_1 = some r) ∧ Aside0 (kq ≤ k) ∧ Aside0 (Below w.heap.size w w'))
  case atStart => exact ⟨(0), (by first | rfl | (simp; done) | (simp [*]; done)), H', ⟨Nat.le_refl _⟩, ⟨by repeat (first | (with_reducible first | exact HB.out | apply below_alloc | apply pw_below_drewN | apply below_drew1) | exact HB.out)⟩⟩
  case round =>
   clear H'
   try clear c1
   try clear p2
   try clear c3
   try clear c3b0
   try clear c3b1
   try clear c3b2
   obtain ⟨x5_1, rfl, HA, HK1, HB⟩ := hrel
   cases gk with
   | zero => exact absurd HA.out (by simp [laws_eqClueS.l0])
   | succ k1 =>
    have H := HA.out
    clear HA
    simp only [laws_eqClueS.l0] at H
    by_cases c4 : x5_1 < (l0.length : Int)
    ·rw [if_pos c4] at H
     have c4b0 : decide (x5_1 < (l0.length : Int)) = true := decide_eq_true c4
     clear c4
     by_cases c5 : 0 ≤ x5_1
     ·rw [if_pos c5] at H
      have c5b0 : decide (0 ≤ x5_1) = true := decide_eq_true c5
      clear c5
      by_cases c6 : x5_1 < (l1.length : Int)
      ·rw [if_pos c6] at H
       have c6b0 : decide (x5_1 < (l1.length : Int)) = true := decide_eq_true c6
       clear c6
       replace H := Option.bind_eq_some_iff.mp H
       obtain ⟨t647, A70, H⟩ := H
       replace H : (if t647 = true then (laws_eqClueS.l0 k1 l0 l1 (wrap64 (x5_1 + 1))) else (some false)) = some r := H
       have A7 := Aside0.mk A70
       clear A70
       by_cases c8 : t647 = true
       ·subst c8
        have H1 : (laws_eqClueS.l0 k1 l0 l1 (wrap64 (x5_1 + 1))) = some r := by rw [if_pos rfl] at H; exact H
        clear H
        have H := H1
        clear H1
        have H' := Aside0.mk H
        clear H
        try go_wp2
        have n0_ := Aside0.mk (below_drew1 HB.out)
        clear HB
        have HB := n0_
        clear n0_
        have p645 : 0 ≤ (x5_1 : Int) := of_decide_eq_true (by first | (with_reducible assumption) | assumption)
        have q645 : x5_1 < (l0.length : Int) := of_decide_eq_true (by first | (with_reducible assumption) | assumption)
        obtain ⟨ad645, e645, hx645_0, hx645_1, hx645_2⟩ := at_T130 HR0.out x5_1 p645 q645
        have hw645_2 := hx645_2
        have hw645_1 := hx645_1
        have hw645_0 := hx645_0
        cases e645
        replace hx645_0 := (HB.out.cell (World.block_lt_of_cell? w _ hx645_0)).trans hx645_0
        replace hx645_1 := (HB.out.cell (World.block_lt_of_cell? w _ hx645_1)).trans hx645_1
        replace hx645_2 := (HB.out.cell (World.block_lt_of_cell? w _ hx645_2)).trans hx645_2
        replace p645 := eq_true p645
        replace q645 := eq_true q645
        have p646 : 0 ≤ (x5_1 : Int) := of_decide_eq_true (by first | (with_reducible assumption) | assumption)
        have q646 : x5_1 < (l1.length : Int) := of_decide_eq_true (by first | (with_reducible assumption) | assumption)
        obtain ⟨ad646, e646, hx646_0, hx646_1, hx646_2⟩ := at_T130 HR1.out x5_1 p646 q646
        have hw646_2 := hx646_2
        have hw646_1 := hx646_1
        have hw646_0 := hx646_0
        cases e646
        replace hx646_0 := (HB.out.cell (World.block_lt_of_cell? w _ hx646_0)).trans hx646_0
        replace hx646_1 := (HB.out.cell (World.block_lt_of_cell? w _ hx646_1)).trans hx646_1
        replace hx646_2 := (HB.out.cell (World.block_lt_of_cell? w _ hx646_2)).trans hx646_2
        replace p646 := eq_true p646
        replace q646 := eq_true q646
        refine start_ (n := 10) (S := fun w' => w'.cell? (ad645.add ((x5_1).toNat * 3)) = some (.int .i64 ((rd_T130 l0 x5_1).f0)) ∧ w'.cell? ⟨(ad645.add ((x5_1).toNat * 3)).block, (ad645.add ((x5_1).toNat * 3)).off + 1, none⟩ = some (.int .i64 ((rd_T130 l0 x5_1).f1)) ∧ w'.cell? ⟨(ad645.add ((x5_1).toNat * 3)).block, (ad645.add ((x5_1).toNat * 3)).off + 2, none⟩ = some (.int .i64 ((rd_T130 l0 x5_1).f2)) ∧ w'.cell? (ad646.add ((x5_1).toNat * 3)) = some (.int .i64 ((rd_T130 l1 x5_1).f0)) ∧ w'.cell? ⟨(ad646.add ((x5_1).toNat * 3)).block, (ad646.add ((x5_1).toNat * 3)).off + 1, none⟩ = some (.int .i64 ((rd_T130 l1 x5_1).f1)) ∧ w'.cell? ⟨(ad646.add ((x5_1).toNat * 3)).block, (ad646.add ((x5_1).toNat * 3)).off + 2, none⟩ = some (.int .i64 ((rd_T130 l1 x5_1).f2))) (ds := []) #[false, false, false, false, false, false, false, false, false, false] (by kernel_rfl) rfl rfl ⟨((HB.out.cell (World.block_lt_of_cell? w _ hw645_0)).trans hw645_0), ((HB.out.cell (World.block_lt_of_cell? w _ hw645_1)).trans hw645_1), ((HB.out.cell (World.block_lt_of_cell? w _ hw645_2)).trans hw645_2), ((HB.out.cell (World.block_lt_of_cell? w _ hw646_0)).trans hw646_0), ((HB.out.cell (World.block_lt_of_cell? w _ hw646_1)).trans hw646_1), ((HB.out.cell (World.block_lt_of_cell? w _ hw646_2)).trans hw646_2)⟩ (fun hHeld => ?_); refine with_tabW laws_eqClueS.tab6 laws_eqClueS.bits6 (fun HT_ HW_ => ?_)
        generalize wr.drew = w9 at HB hx645_0 hx645_1 hx645_2 hx646_0 hx646_1 hx646_2 hHeld ⊢
        refine pure_ (i := 0) (N := some 17) (v := ?_) (a' := ?_) #[true, false, false, false, false, false, false, false, false, false] rfl rfl (any_of HT_.out (by kernel_rfl)) (fun _ _ _ h => h) (Or.inl ⟨by rfl, ?_⟩) ?_ ?_
        rotate_left
        ·intro w'
         go_simp
         with_reducible rfl
        rotate_left
        ·simp only [Act.put, List.setIfInBounds_toArray, List.set_cons_zero, List.set_cons_succ, i64_w, i32_w]
         rfl
        refine pure_ (i := 1) (N := some 18) (v := ?_) (a' := ?_) #[true, true, false, false, false, false, false, false, false, false] rfl rfl (any_of HT_.out (by kernel_rfl)) (fun _ _ _ h => h) (Or.inl ⟨by rfl, ?_⟩) ?_ ?_
        rotate_left
        ·intro w'
         go_simp
         with_reducible rfl
        rotate_left
        ·simp only [Act.put, List.setIfInBounds_toArray, List.set_cons_zero, List.set_cons_succ, i64_w, i32_w]
         rfl
        refine pure_ (i := 2) (N := some 19) (v := ?_) (a' := ?_) #[true, true, true, false, false, false, false, false, false, false] rfl rfl (any_of HT_.out (by kernel_rfl)) (fun _ _ _ h => h) (Or.inl ⟨by rfl, ?_⟩) ?_ ?_
        rotate_left
        ·intro w'
         go_simp
         with_reducible rfl
        rotate_left
        ·simp only [Act.put, List.setIfInBounds_toArray, List.set_cons_zero, List.set_cons_succ, i64_w, i32_w]
         rfl
        refine pure_ (i := 4) (N := some 21) (v := ?_) (a' := ?_) #[true, true, true, false, true, false, false, false, false, false] rfl rfl (any_of HT_.out (by kernel_rfl)) (fun _ _ _ h => h) (Or.inl ⟨by rfl, ?_⟩) ?_ ?_
        rotate_left
        ·intro w'
         go_simp
         with_reducible rfl
        rotate_left
        ·simp only [Act.put, List.setIfInBounds_toArray, List.set_cons_zero, List.set_cons_succ, i64_w, i32_w]
         rfl
        refine pure_ (i := 5) (N := some 22) (v := ?_) (a' := ?_) #[true, true, true, false, true, true, false, false, false, false] rfl rfl (any_of HT_.out (by kernel_rfl)) (fun _ _ _ h => h) (Or.inl ⟨by rfl, ?_⟩) ?_ ?_
        rotate_left
        ·intro w'
         go_simp
         with_reducible rfl
        rotate_left
        ·simp only [Act.put, List.setIfInBounds_toArray, List.set_cons_zero, List.set_cons_succ, i64_w, i32_w]
         rfl
        refine pure_ (i := 6) (N := some 23) (v := ?_) (a' := ?_) #[true, true, true, false, true, true, true, false, false, false] rfl rfl (any_of HT_.out (by kernel_rfl)) (fun _ _ _ h => h) (Or.inl ⟨by rfl, ?_⟩) ?_ ?_
        rotate_left
        ·intro w'
         go_simp
         with_reducible rfl
        rotate_left
        ·simp only [Act.put, List.setIfInBounds_toArray, List.set_cons_zero, List.set_cons_succ, i64_w, i32_w]
         rfl
        refine take_ (i := 3) (N := some 20) (v := ?_) (a' := ?_) #[true, true, true, true, true, true, true, false, false, false] rfl rfl (take_ofW HT_.out HW_.out (by kernel_rfl)) (fun _ _ _ h => h) (Or.inl ⟨by rfl, ?_⟩) hHeld ?_ ?_
        rotate_left
        ·rintro w' ⟨s0, s1, s2, s3, s4, s5⟩
         go_simp
         with_reducible rfl
        rotate_left
        ·simp only [Act.put, List.setIfInBounds_toArray, List.set_cons_zero, List.set_cons_succ, i64_w, i32_w]
         rfl
        refine take_ (i := 7) (N := some 24) (v := ?_) (a' := ?_) #[true, true, true, true, true, true, true, true, false, false] rfl rfl (take_ofW HT_.out HW_.out (by kernel_rfl)) (fun _ _ _ h => h) (Or.inl ⟨by rfl, ?_⟩) hHeld ?_ ?_
        rotate_left
        ·rintro w' ⟨s0, s1, s2, s3, s4, s5⟩
         go_simp
         with_reducible rfl
        rotate_left
        ·simp only [Act.put, List.setIfInBounds_toArray, List.set_cons_zero, List.set_cons_succ, i64_w, i32_w]
         rfl
        refine one_ (i := 8) (N := some 25) #[true, true, true, true, true, true, true, true, true, false] rfl rfl (one_of HT_.out (by kernel_rfl)) (by decide) (fun K hK => ?_)
        refine goes_ Tryd.func148 (by kernel_rfl) rfl #[.agg #[.int .i64 ((rd_T130 l0 x5_1).f0), .int .i64 ((rd_T130 l0 x5_1).f1), .int .i64 ((rd_T130 l0 x5_1).f2)], .agg #[.int .i64 ((rd_T130 l1 x5_1).f0), .int .i64 ((rd_T130 l1 x5_1).f1), .int .i64 ((rd_T130 l1 x5_1).f2)]] (by rfl) rfl rfl (by (try simp only [List.map_toArray, List.map_cons, List.map_nil]); first | done | rfl | (simp only [List.length_drop, List.length_take]; rfl)) ?_
        with_reducible refine (laws_eqClue.calls ((rd_T130 l0 x5_1).f0) ((rd_T130 l0 x5_1).f1) ((rd_T130 l0 x5_1).f2) ((rd_T130 l1 x5_1).f0) ((rd_T130 l1 x5_1).f1) ((rd_T130 l1 x5_1).f2) true _ A7.out).mono ?_
        rintro e w10 ⟨rfl, hb⟩
        refine ⟨_, rfl, ?_⟩
        have n0_ := Aside0.mk (below_step (by repeat (first | (with_reducible first | exact HB.out | apply below_alloc | apply pw_below_drewN | apply below_drew1) | exact HB.out)) hb)
        clear HB
        have HB := n0_
        clear n0_
        (try clear hb)
        (try clear hb2)
        (try clear hk)
        (try clear hi)
        refine hK.out _ _ ⟨((HB.out.cell (World.block_lt_of_cell? w _ hw645_0)).trans hw645_0), ((HB.out.cell (World.block_lt_of_cell? w _ hw645_1)).trans hw645_1), ((HB.out.cell (World.block_lt_of_cell? w _ hw645_2)).trans hw645_2), ((HB.out.cell (World.block_lt_of_cell? w _ hw646_0)).trans hw646_0), ((HB.out.cell (World.block_lt_of_cell? w _ hw646_1)).trans hw646_1), ((HB.out.cell (World.block_lt_of_cell? w _ hw646_2)).trans hw646_2)⟩ (fun hHeld => ?_)
        clear hK K
        refine norm_ (a' := ?_) ?_ ?_
        rotate_left
        ·show Act.put _ (some 25) _ = _
         simp only [Act.put, List.setIfInBounds_toArray, List.set_cons_zero, List.set_cons_succ, i64_w, i32_w]
         rfl
        refine pure_ (i := 9) (N := some 26) (v := ?_) (a' := ?_) #[true, true, true, true, true, true, true, true, true, true] rfl rfl (any_of HT_.out (by kernel_rfl)) (fun _ _ _ h => h) (Or.inl ⟨by rfl, ?_⟩) ?_ ?_
        rotate_left
        ·intro w'
         go_simp
         with_reducible rfl
        rotate_left
        ·simp only [Act.put, List.setIfInBounds_toArray, List.set_cons_zero, List.set_cons_succ, i64_w, i32_w]
         rfl
        refine done_ (done_of HT_.out (by kernel_rfl)) ?_
        try go_wp2
        go_roundg k1
        case measure => have := HK1.out; omega
        case rel => exact ⟨(wrap64 (x5_1 + 1)), (by first | rfl | (simp; done) | (simp [*]; done)), H', ⟨by have := HK1.out; omega⟩, ⟨by repeat (first | (with_reducible first | exact HB.out | apply below_alloc | apply pw_below_drewN | apply below_drew1) | exact HB.out)⟩⟩
       ·replace c8 := Bool.eq_false_iff.mpr c8
        subst c8
        have H1 : (some false) = some r := by rw [if_neg (show ¬ (false = true) by decide)] at H; exact H
        clear H
        have H := H1
        clear H1
        obtain rfl := Option.some.inj H
        try go_wp2
        have n0_ := Aside0.mk (below_drew1 HB.out)
        clear HB
        have HB := n0_
        clear n0_
        have p645 : 0 ≤ (x5_1 : Int) := of_decide_eq_true (by first | (with_reducible assumption) | assumption)
        have q645 : x5_1 < (l0.length : Int) := of_decide_eq_true (by first | (with_reducible assumption) | assumption)
        obtain ⟨ad645, e645, hx645_0, hx645_1, hx645_2⟩ := at_T130 HR0.out x5_1 p645 q645
        have hw645_2 := hx645_2
        have hw645_1 := hx645_1
        have hw645_0 := hx645_0
        cases e645
        replace hx645_0 := (HB.out.cell (World.block_lt_of_cell? w _ hx645_0)).trans hx645_0
        replace hx645_1 := (HB.out.cell (World.block_lt_of_cell? w _ hx645_1)).trans hx645_1
        replace hx645_2 := (HB.out.cell (World.block_lt_of_cell? w _ hx645_2)).trans hx645_2
        replace p645 := eq_true p645
        replace q645 := eq_true q645
        have p646 : 0 ≤ (x5_1 : Int) := of_decide_eq_true (by first | (with_reducible assumption) | assumption)
        have q646 : x5_1 < (l1.length : Int) := of_decide_eq_true (by first | (with_reducible assumption) | assumption)
        obtain ⟨ad646, e646, hx646_0, hx646_1, hx646_2⟩ := at_T130 HR1.out x5_1 p646 q646
        have hw646_2 := hx646_2
        have hw646_1 := hx646_1
        have hw646_0 := hx646_0
        cases e646
        replace hx646_0 := (HB.out.cell (World.block_lt_of_cell? w _ hx646_0)).trans hx646_0
        replace hx646_1 := (HB.out.cell (World.block_lt_of_cell? w _ hx646_1)).trans hx646_1
        replace hx646_2 := (HB.out.cell (World.block_lt_of_cell? w _ hx646_2)).trans hx646_2
        replace p646 := eq_true p646
        replace q646 := eq_true q646
        refine start_ (n := 10) (S := fun w' => w'.cell? (ad645.add ((x5_1).toNat * 3)) = some (.int .i64 ((rd_T130 l0 x5_1).f0)) ∧ w'.cell? ⟨(ad645.add ((x5_1).toNat * 3)).block, (ad645.add ((x5_1).toNat * 3)).off + 1, none⟩ = some (.int .i64 ((rd_T130 l0 x5_1).f1)) ∧ w'.cell? ⟨(ad645.add ((x5_1).toNat * 3)).block, (ad645.add ((x5_1).toNat * 3)).off + 2, none⟩ = some (.int .i64 ((rd_T130 l0 x5_1).f2)) ∧ w'.cell? (ad646.add ((x5_1).toNat * 3)) = some (.int .i64 ((rd_T130 l1 x5_1).f0)) ∧ w'.cell? ⟨(ad646.add ((x5_1).toNat * 3)).block, (ad646.add ((x5_1).toNat * 3)).off + 1, none⟩ = some (.int .i64 ((rd_T130 l1 x5_1).f1)) ∧ w'.cell? ⟨(ad646.add ((x5_1).toNat * 3)).block, (ad646.add ((x5_1).toNat * 3)).off + 2, none⟩ = some (.int .i64 ((rd_T130 l1 x5_1).f2))) (ds := []) #[false, false, false, false, false, false, false, false, false, false] (by kernel_rfl) rfl rfl ⟨((HB.out.cell (World.block_lt_of_cell? w _ hw645_0)).trans hw645_0), ((HB.out.cell (World.block_lt_of_cell? w _ hw645_1)).trans hw645_1), ((HB.out.cell (World.block_lt_of_cell? w _ hw645_2)).trans hw645_2), ((HB.out.cell (World.block_lt_of_cell? w _ hw646_0)).trans hw646_0), ((HB.out.cell (World.block_lt_of_cell? w _ hw646_1)).trans hw646_1), ((HB.out.cell (World.block_lt_of_cell? w _ hw646_2)).trans hw646_2)⟩ (fun hHeld => ?_); refine with_tabW laws_eqClueS.tab6 laws_eqClueS.bits6 (fun HT_ HW_ => ?_)
        generalize wr.drew = w11 at HB hx645_0 hx645_1 hx645_2 hx646_0 hx646_1 hx646_2 hHeld ⊢
        refine pure_ (i := 0) (N := some 17) (v := ?_) (a' := ?_) #[true, false, false, false, false, false, false, false, false, false] rfl rfl (any_of HT_.out (by kernel_rfl)) (fun _ _ _ h => h) (Or.inl ⟨by rfl, ?_⟩) ?_ ?_
        rotate_left
        ·intro w'
         go_simp
         with_reducible rfl
        rotate_left
        ·simp only [Act.put, List.setIfInBounds_toArray, List.set_cons_zero, List.set_cons_succ, i64_w, i32_w]
         rfl
        refine pure_ (i := 1) (N := some 18) (v := ?_) (a' := ?_) #[true, true, false, false, false, false, false, false, false, false] rfl rfl (any_of HT_.out (by kernel_rfl)) (fun _ _ _ h => h) (Or.inl ⟨by rfl, ?_⟩) ?_ ?_
        rotate_left
        ·intro w'
         go_simp
         with_reducible rfl
        rotate_left
        ·simp only [Act.put, List.setIfInBounds_toArray, List.set_cons_zero, List.set_cons_succ, i64_w, i32_w]
         rfl
        refine pure_ (i := 2) (N := some 19) (v := ?_) (a' := ?_) #[true, true, true, false, false, false, false, false, false, false] rfl rfl (any_of HT_.out (by kernel_rfl)) (fun _ _ _ h => h) (Or.inl ⟨by rfl, ?_⟩) ?_ ?_
        rotate_left
        ·intro w'
         go_simp
         with_reducible rfl
        rotate_left
        ·simp only [Act.put, List.setIfInBounds_toArray, List.set_cons_zero, List.set_cons_succ, i64_w, i32_w]
         rfl
        refine pure_ (i := 4) (N := some 21) (v := ?_) (a' := ?_) #[true, true, true, false, true, false, false, false, false, false] rfl rfl (any_of HT_.out (by kernel_rfl)) (fun _ _ _ h => h) (Or.inl ⟨by rfl, ?_⟩) ?_ ?_
        rotate_left
        ·intro w'
         go_simp
         with_reducible rfl
        rotate_left
        ·simp only [Act.put, List.setIfInBounds_toArray, List.set_cons_zero, List.set_cons_succ, i64_w, i32_w]
         rfl
        refine pure_ (i := 5) (N := some 22) (v := ?_) (a' := ?_) #[true, true, true, false, true, true, false, false, false, false] rfl rfl (any_of HT_.out (by kernel_rfl)) (fun _ _ _ h => h) (Or.inl ⟨by rfl, ?_⟩) ?_ ?_
        rotate_left
        ·intro w'
         go_simp
         with_reducible rfl
        rotate_left
        ·simp only [Act.put, List.setIfInBounds_toArray, List.set_cons_zero, List.set_cons_succ, i64_w, i32_w]
         rfl
        refine pure_ (i := 6) (N := some 23) (v := ?_) (a' := ?_) #[true, true, true, false, true, true, true, false, false, false] rfl rfl (any_of HT_.out (by kernel_rfl)) (fun _ _ _ h => h) (Or.inl ⟨by rfl, ?_⟩) ?_ ?_
        rotate_left
        ·intro w'
         go_simp
         with_reducible rfl
        rotate_left
        ·simp only [Act.put, List.setIfInBounds_toArray, List.set_cons_zero, List.set_cons_succ, i64_w, i32_w]
         rfl
        refine take_ (i := 3) (N := some 20) (v := ?_) (a' := ?_) #[true, true, true, true, true, true, true, false, false, false] rfl rfl (take_ofW HT_.out HW_.out (by kernel_rfl)) (fun _ _ _ h => h) (Or.inl ⟨by rfl, ?_⟩) hHeld ?_ ?_
        rotate_left
        ·rintro w' ⟨s0, s1, s2, s3, s4, s5⟩
         go_simp
         with_reducible rfl
        rotate_left
        ·simp only [Act.put, List.setIfInBounds_toArray, List.set_cons_zero, List.set_cons_succ, i64_w, i32_w]
         rfl
        refine take_ (i := 7) (N := some 24) (v := ?_) (a' := ?_) #[true, true, true, true, true, true, true, true, false, false] rfl rfl (take_ofW HT_.out HW_.out (by kernel_rfl)) (fun _ _ _ h => h) (Or.inl ⟨by rfl, ?_⟩) hHeld ?_ ?_
        rotate_left
        ·rintro w' ⟨s0, s1, s2, s3, s4, s5⟩
         go_simp
         with_reducible rfl
        rotate_left
        ·simp only [Act.put, List.setIfInBounds_toArray, List.set_cons_zero, List.set_cons_succ, i64_w, i32_w]
         rfl
        refine one_ (i := 8) (N := some 25) #[true, true, true, true, true, true, true, true, true, false] rfl rfl (one_of HT_.out (by kernel_rfl)) (by decide) (fun K hK => ?_)
        refine goes_ Tryd.func148 (by kernel_rfl) rfl #[.agg #[.int .i64 ((rd_T130 l0 x5_1).f0), .int .i64 ((rd_T130 l0 x5_1).f1), .int .i64 ((rd_T130 l0 x5_1).f2)], .agg #[.int .i64 ((rd_T130 l1 x5_1).f0), .int .i64 ((rd_T130 l1 x5_1).f1), .int .i64 ((rd_T130 l1 x5_1).f2)]] (by rfl) rfl rfl (by (try simp only [List.map_toArray, List.map_cons, List.map_nil]); first | done | rfl | (simp only [List.length_drop, List.length_take]; rfl)) ?_
        with_reducible refine (laws_eqClue.calls ((rd_T130 l0 x5_1).f0) ((rd_T130 l0 x5_1).f1) ((rd_T130 l0 x5_1).f2) ((rd_T130 l1 x5_1).f0) ((rd_T130 l1 x5_1).f1) ((rd_T130 l1 x5_1).f2) false _ A7.out).mono ?_
        rintro e w12 ⟨rfl, hb⟩
        refine ⟨_, rfl, ?_⟩
        have n0_ := Aside0.mk (below_step (by repeat (first | (with_reducible first | exact HB.out | apply below_alloc | apply pw_below_drewN | apply below_drew1) | exact HB.out)) hb)
        clear HB
        have HB := n0_
        clear n0_
        (try clear hb)
        (try clear hb2)
        (try clear hk)
        (try clear hi)
        refine hK.out _ _ ⟨((HB.out.cell (World.block_lt_of_cell? w _ hw645_0)).trans hw645_0), ((HB.out.cell (World.block_lt_of_cell? w _ hw645_1)).trans hw645_1), ((HB.out.cell (World.block_lt_of_cell? w _ hw645_2)).trans hw645_2), ((HB.out.cell (World.block_lt_of_cell? w _ hw646_0)).trans hw646_0), ((HB.out.cell (World.block_lt_of_cell? w _ hw646_1)).trans hw646_1), ((HB.out.cell (World.block_lt_of_cell? w _ hw646_2)).trans hw646_2)⟩ (fun hHeld => ?_)
        clear hK K
        refine norm_ (a' := ?_) ?_ ?_
        rotate_left
        ·show Act.put _ (some 25) _ = _
         simp only [Act.put, List.setIfInBounds_toArray, List.set_cons_zero, List.set_cons_succ, i64_w, i32_w]
         rfl
        refine pure_ (i := 9) (N := some 26) (v := ?_) (a' := ?_) #[true, true, true, true, true, true, true, true, true, true] rfl rfl (any_of HT_.out (by kernel_rfl)) (fun _ _ _ h => h) (Or.inl ⟨by rfl, ?_⟩) ?_ ?_
        rotate_left
        ·intro w'
         go_simp
         with_reducible rfl
        rotate_left
        ·simp only [Act.put, List.setIfInBounds_toArray, List.set_cons_zero, List.set_cons_succ, i64_w, i32_w]
         rfl
        refine done_ (done_of HT_.out (by kernel_rfl)) ?_
        try go_wp2
        go_ret
        exact ⟨by first | rfl | (simp [errW_none, errW_some] <;> rfl) | (simp [*, errW_none, errW_some] <;> rfl), by repeat (first | (with_reducible first | exact HB.out | apply below_alloc | apply pw_below_drewN | apply below_drew1) | exact HB.out)⟩
      ·rw [if_neg c6] at H
       exact absurd H (by simp)
     ·rw [if_neg c5] at H
      exact absurd H (by simp)
    ·rw [if_neg c4] at H
     have c4b0 : decide (x5_1 < (l0.length : Int)) = false := decide_eq_false c4
     clear c4
     obtain rfl := Option.some.inj H
     go_wp2
     go_ret
     exact ⟨by first | rfl | (simp [errW_none, errW_some] <;> rfl) | (simp [*, errW_none, errW_some] <;> rfl), by repeat (first | (with_reducible first | exact HB.out | apply below_alloc | apply pw_below_drewN | apply below_drew1) | exact HB.out)⟩
 ·rw [if_neg c3] at H
  have c3b0 : ((l0.length : Int) == (l1.length : Int)) = false := beq_eq_false_iff_ne.mpr c3
  have c3b1 : ((l0.length : Int) != (l1.length : Int)) = true := bne_iff_ne.mpr c3
  have c3b2 : (l0.length == l1.length) = false := by first | simpa using c3 | (simp at c3 ⊢; omega)
  obtain rfl := Option.some.inj H
  go_enter Tryd.func95, Tryd.ntmps95
  go_wp2
  go_ret
  exact ⟨by first | rfl | (simp [errW_none, errW_some] <;> rfl) | (simp [*, errW_none, errW_some] <;> rfl), by repeat (first | (with_reducible first | exact HB.out | apply below_alloc | apply pw_below_drewN | apply below_drew1) | exact HB.out)⟩
end Go.Proofs.YtopahhcojncgaaaDoor.G
namespace Go.Proofs.YtopahhcojncgaaaDoor.G
open Go.RowKit Go.Proofs.YtopahhcojncgaaaDoorW.PrintWords Go.Proofs.YtopahhcojncgaaaDoorW.PrintLast Go.Proofs.YtopahhcojncgaaaDoorW.PrintMore
attribute [local go_sem] max2_int min2_int max_two min_two max_three min_three max_four min_four
set_option linter.unusedVariables false
set_option linter.unusedSimpArgs false
def laws_eqPuzzle.f (k : Nat) (a0_0 : Int) (l0_1 : List (S130)) (a1_0 : Int) (l1_1 : List (S130)) : Option (Bool) := if a0_0 = a1_0 then ((laws_eqClueS.f k l0_1 l1_1).bind fun t650 => (if t650 = true then (some true) else (some false))) else (some false)
theorem laws_eqPuzzle.mono : ∀ a0 a1 a2 a3 k, LeO (laws_eqPuzzle.f k a0 a1 a2 a3) (laws_eqPuzzle.f (k + 1) a0 a1 a2 a3) := by
 intro a0 a1 a2 a3 k
 unfold laws_eqPuzzle.f
 repeat' first
   | (with_reducible exact laws_eqClueS.mono _ _ _)
   | (with_reducible exact LeO.refl _)
   | (with_reducible exact LeO.none _)
   | (with_reducible refine LeO.ite ?_ ?_)
   | (with_reducible refine LeO.bind ?_ (fun _ => ?_))
   | exact laws_eqClueS.mono _ _ _
   | exact LeO.none _
   | refine LeO.ite ?_ ?_
   | refine LeO.bind ?_ (fun _ => ?_)
set_option maxHeartbeats 8000000 in
set_option maxRecDepth 100000 in
theorem laws_eqPuzzle.calls (k : Nat) (a0_0 : Int) (A0_1 : Option Addr) (c0_1 : Nat) (l0_1 : List (S130)) (a1_0 : Int) (A1_1 : Option Addr) (c1_1 : Nat) (l1_1 : List (S130)) (r : Bool) (w : World) (hr0_1 : Kd.C k130 w A0_1 l0_1.length l0_1) (hc0_1 : l0_1.length ≤ c0_1) (hr1_1 : Kd.C k130 w A1_1 l1_1.length l1_1) (hc1_1 : l1_1.length ≤ c1_1) (h : laws_eqPuzzle.f k a0_0 l0_1 a1_0 l1_1 = some r) :
  Calls Tryd.prog 39 #[.agg #[.int .i64 a0_0, .slice A0_1 l0_1.length c0_1], .agg #[.int .i64 a1_0, .slice A1_1 l1_1.length c1_1]] w fun e w' => e = .returned (.bool r) ∧ Below w.heap.size w w' := by
 have hu52 := Tryd.underlying52
 have HR0_1 := Aside0.mk hr0_1
 have HC0_1 := Aside0.mk hc0_1
 clear hr0_1 hc0_1
 have HR1_1 := Aside0.mk hr1_1
 have HC1_1 := Aside0.mk hc1_1
 clear hr1_1 hc1_1
 have HB := Aside0.mk (Below.refl w.heap.size w)
 have H : (if a0_0 = a1_0 then ((laws_eqClueS.f k l0_1 l1_1).bind fun t650 => (if t650 = true then (some true) else (some false))) else (some false)) = some r := h
 clear h
 by_cases c3 : a0_0 = a1_0
 ·rw [if_pos c3] at H
  have c3b0 : (a0_0 == a1_0) = true := beq_iff_eq.mpr c3
  have c3b1 : (a0_0 != a1_0) = false := bne_eq_false_iff_eq.mpr c3
  clear c3
  replace H := Option.bind_eq_some_iff.mp H
  obtain ⟨t650, A40, H⟩ := H
  replace H : (if t650 = true then (some true) else (some false)) = some r := H
  have A4 := Aside0.mk A40
  clear A40
  by_cases c5 : t650 = true
  ·subst c5
   have H1 : (some true) = some r := by rw [if_pos rfl] at H; exact H
   clear H
   have H := H1
   clear H1
   obtain rfl := Option.some.inj H
   go_enter Tryd.func39, Tryd.ntmps39
   go_wp2_with (first | ((with_reducible refine gate_dst (N := 2) rfl ?_); refine box_event ?hg (N := 2) ?hd (cs := #[.int .i64 a0_0, .slice A0_1 l0_1.length c0_1]) (t := 52) ?hr ?_; (case hd => rfl); (case hg => rfl); (case hr => first | (go_simp; done) | (go_simp; rfl)); intro gb648 hg w6 hbox hb; have n0_ := Aside0.mk (below_step (by repeat (first | (with_reducible first | exact HB.out | apply below_alloc | apply pw_below_drewN | apply below_drew1) | exact HB.out)) hb); have n1_ := Aside0.mk (hbox); have n2_ := Aside0.mk ((by rw [hg]; exact (below_size (by repeat (first | (with_reducible first | exact HB.out | apply below_alloc | apply pw_below_drewN | apply below_drew1) | exact HB.out))) : w.heap.size ≤ gb648)); have n3_ := Aside0.mk ((by rw [hg]; exact (below_size (by repeat (first | (with_reducible first | exact HB.out | apply below_alloc | apply pw_below_drewN | apply below_drew1) | exact HB.out))) : w.heap.size ≤ gb648)); clear HB; have HB := n0_; have BK648 := n1_; have GW648 := n2_; have GE648 := n3_; clear n0_ n1_ n2_ n3_; clear hb hbox hg) | ((with_reducible refine gate_dst (N := 3) rfl ?_); refine box_event ?hg (N := 3) ?hd (cs := #[.int .i64 a1_0, .slice A1_1 l1_1.length c1_1]) (t := 52) ?hr ?_; (case hd => rfl); (case hg => rfl); (case hr => first | (go_simp; done) | (go_simp; rfl)); intro gb649 hg w7 hbox hb; have n0_ := Aside0.mk (blk_below (g := gb648) (o := .cells #[.int .i64 a0_0, .slice A0_1 l0_1.length c0_1] 52 (0, 0)) (by (with_reducible repeat (first | refine blk_drewN ?_ _ | refine blk_drew ?_ | refine blk_alloc ?_ _)); exact BK648.out) hb); have n1_ := Aside0.mk (below_step (by repeat (first | (with_reducible first | exact HB.out | apply below_alloc | apply pw_below_drewN | apply below_drew1 | refine below_set ?_ GE648.out) | exact HB.out)) hb); have n2_ := Aside0.mk (hbox); have n3_ := Aside0.mk ((by rw [hg]; exact (below_size (by repeat (first | (with_reducible first | exact HB.out | apply below_alloc | apply pw_below_drewN | apply below_drew1 | refine below_set ?_ GE648.out) | exact HB.out))) : w.heap.size ≤ gb649)); have n4_ := Aside0.mk ((by rw [hg]; exact (below_size (by repeat (first | (with_reducible first | exact HB.out | apply below_alloc | apply pw_below_drewN | apply below_drew1 | refine below_set ?_ GE648.out) | exact HB.out))) : w.heap.size ≤ gb649)); have n5_ := Aside0.mk ((by rw [hg]; exact Nat.ne_of_lt (blk_lt (g := gb648) (o := .cells #[.int .i64 a0_0, .slice A0_1 l0_1.length c0_1] 52 (0, 0)) (by (with_reducible repeat (first | refine blk_drewN ?_ _ | refine blk_drew ?_ | refine blk_alloc ?_ _)); exact BK648.out)) : gb648 ≠ gb649)); have n6_ := Aside0.mk ((by rw [hg]; exact Nat.ne_of_gt (blk_lt (g := gb648) (o := .cells #[.int .i64 a0_0, .slice A0_1 l0_1.length c0_1] 52 (0, 0)) (by (with_reducible repeat (first | refine blk_drewN ?_ _ | refine blk_drew ?_ | refine blk_alloc ?_ _)); exact BK648.out)) : gb649 ≠ gb648)); clear BK648; clear HB; have BK648 := n0_; have HB := n1_; have BK649 := n2_; have GW649 := n3_; have GE649 := n4_; have NB648_649 := n5_; have NB649_648 := n6_; clear n0_ n1_ n2_ n3_ n4_ n5_ n6_; clear hb hbox hg; have hnb8 := NB648_649.out; have hnc8 := NB649_648.out; have hcz9_0 : w7.cell? ⟨gb648, 0, none⟩ = some (.int .i64 a0_0) := (blk_cell BK648.out 0).trans rfl; have hcz9_1 : w7.cell? ⟨gb648, 1, none⟩ = some (.slice A0_1 l0_1.length c0_1) := (blk_cell BK648.out 1).trans rfl; have hfz9_0 := blk_frozen BK648.out 0; have hfz9_1 := blk_frozen BK648.out 1; have hcz10_0 : w7.cell? ⟨gb649, 0, none⟩ = some (.int .i64 a1_0) := (blk_cell BK649.out 0).trans rfl; have hcz10_1 : w7.cell? ⟨gb649, 1, none⟩ = some (.slice A1_1 l1_1.length c1_1) := (blk_cell BK649.out 1).trans rfl; have hfz10_0 := blk_frozen BK649.out 0; have hfz10_1 := blk_frozen BK649.out 1) | ((with_reducible refine gate_callee (f := 95) rfl ?_); refine goesL_ (some 14) rfl rfl Tryd.func95 (by kernel_rfl) rfl #[.slice A0_1 l0_1.length c0_1, .slice A1_1 l1_1.length c1_1] rfl (by (try simp only [List.map_toArray, List.map_cons, List.map_nil]); first | done | rfl | (simp only [List.length_drop, List.length_take]; rfl)) ?_; (with_reducible refine (laws_eqClueS.calls k _ _ l0_1 _ _ l1_1 true _ ?side1 ?side2 ?side3 ?side4 A4.out).mono ?_); (case side1 => repeat (first | exact (Kd.C_below HR0_1.out HB.out) | (with_reducible refine Kd.C_alloc ?_ _) | (with_reducible refine Kd.C_drewN ?_ _) | (with_reducible refine Kd.C_drew ?_))); (case side2 => exact HC0_1.out); (case side3 => repeat (first | exact (Kd.C_below HR1_1.out HB.out) | (with_reducible refine Kd.C_alloc ?_ _) | (with_reducible refine Kd.C_drewN ?_ _) | (with_reducible refine Kd.C_drew ?_))); (case side4 => exact HC1_1.out); rintro e w11 ⟨rfl, hb⟩; refine ⟨_, rfl, ?_⟩; have n0_ := Aside0.mk (blk_below (g := gb648) (o := .cells #[.int .i64 a0_0, .slice A0_1 l0_1.length c0_1] 52 (0, 0)) (by (with_reducible repeat (first | refine blk_drewN ?_ _ | refine blk_drew ?_ | refine blk_alloc ?_ _)); exact BK648.out) hb); have n1_ := Aside0.mk (blk_below (g := gb649) (o := .cells #[.int .i64 a1_0, .slice A1_1 l1_1.length c1_1] 52 (0, 0)) (by (with_reducible repeat (first | refine blk_drewN ?_ _ | refine blk_drew ?_ | refine blk_alloc ?_ _)); exact BK649.out) hb); have n2_ := Aside0.mk (below_step (by repeat (first | (with_reducible first | exact HB.out | apply below_alloc | apply pw_below_drewN | apply below_drew1 | refine below_set ?_ GE648.out | refine below_set ?_ GE649.out) | exact HB.out)) hb); clear BK648; clear BK649; clear HB; have BK648 := n0_; have BK649 := n1_; have HB := n2_; clear n0_ n1_ n2_; (try clear hb); (try clear hb2); (try clear hk); (try clear hi)))
   go_ret
   exact ⟨by first | rfl | (simp [errW_none, errW_some] <;> rfl) | (simp [*, errW_none, errW_some] <;> rfl), by repeat (first | (with_reducible first | exact HB.out | apply below_alloc | apply pw_below_drewN | apply below_drew1 | refine below_set ?_ GE648.out | refine below_set ?_ GE649.out) | exact HB.out)⟩
  ·replace c5 := Bool.eq_false_iff.mpr c5
   subst c5
   have H1 : (some false) = some r := by rw [if_neg (show ¬ (false = true) by decide)] at H; exact H
   clear H
   have H := H1
   clear H1
   obtain rfl := Option.some.inj H
   go_enter Tryd.func39, Tryd.ntmps39
   go_wp2_with (first | ((with_reducible refine gate_dst (N := 2) rfl ?_); refine box_event ?hg (N := 2) ?hd (cs := #[.int .i64 a0_0, .slice A0_1 l0_1.length c0_1]) (t := 52) ?hr ?_; (case hd => rfl); (case hg => rfl); (case hr => first | (go_simp; done) | (go_simp; rfl)); intro gb648 hg w12 hbox hb; have n0_ := Aside0.mk (below_step (by repeat (first | (with_reducible first | exact HB.out | apply below_alloc | apply pw_below_drewN | apply below_drew1) | exact HB.out)) hb); have n1_ := Aside0.mk (hbox); have n2_ := Aside0.mk ((by rw [hg]; exact (below_size (by repeat (first | (with_reducible first | exact HB.out | apply below_alloc | apply pw_below_drewN | apply below_drew1) | exact HB.out))) : w.heap.size ≤ gb648)); have n3_ := Aside0.mk ((by rw [hg]; exact (below_size (by repeat (first | (with_reducible first | exact HB.out | apply below_alloc | apply pw_below_drewN | apply below_drew1) | exact HB.out))) : w.heap.size ≤ gb648)); clear HB; have HB := n0_; have BK648 := n1_; have GW648 := n2_; have GE648 := n3_; clear n0_ n1_ n2_ n3_; clear hb hbox hg) | ((with_reducible refine gate_dst (N := 3) rfl ?_); refine box_event ?hg (N := 3) ?hd (cs := #[.int .i64 a1_0, .slice A1_1 l1_1.length c1_1]) (t := 52) ?hr ?_; (case hd => rfl); (case hg => rfl); (case hr => first | (go_simp; done) | (go_simp; rfl)); intro gb649 hg w13 hbox hb; have n0_ := Aside0.mk (blk_below (g := gb648) (o := .cells #[.int .i64 a0_0, .slice A0_1 l0_1.length c0_1] 52 (0, 0)) (by (with_reducible repeat (first | refine blk_drewN ?_ _ | refine blk_drew ?_ | refine blk_alloc ?_ _)); exact BK648.out) hb); have n1_ := Aside0.mk (below_step (by repeat (first | (with_reducible first | exact HB.out | apply below_alloc | apply pw_below_drewN | apply below_drew1 | refine below_set ?_ GE648.out) | exact HB.out)) hb); have n2_ := Aside0.mk (hbox); have n3_ := Aside0.mk ((by rw [hg]; exact (below_size (by repeat (first | (with_reducible first | exact HB.out | apply below_alloc | apply pw_below_drewN | apply below_drew1 | refine below_set ?_ GE648.out) | exact HB.out))) : w.heap.size ≤ gb649)); have n4_ := Aside0.mk ((by rw [hg]; exact (below_size (by repeat (first | (with_reducible first | exact HB.out | apply below_alloc | apply pw_below_drewN | apply below_drew1 | refine below_set ?_ GE648.out) | exact HB.out))) : w.heap.size ≤ gb649)); have n5_ := Aside0.mk ((by rw [hg]; exact Nat.ne_of_lt (blk_lt (g := gb648) (o := .cells #[.int .i64 a0_0, .slice A0_1 l0_1.length c0_1] 52 (0, 0)) (by (with_reducible repeat (first | refine blk_drewN ?_ _ | refine blk_drew ?_ | refine blk_alloc ?_ _)); exact BK648.out)) : gb648 ≠ gb649)); have n6_ := Aside0.mk ((by rw [hg]; exact Nat.ne_of_gt (blk_lt (g := gb648) (o := .cells #[.int .i64 a0_0, .slice A0_1 l0_1.length c0_1] 52 (0, 0)) (by (with_reducible repeat (first | refine blk_drewN ?_ _ | refine blk_drew ?_ | refine blk_alloc ?_ _)); exact BK648.out)) : gb649 ≠ gb648)); clear BK648; clear HB; have BK648 := n0_; have HB := n1_; have BK649 := n2_; have GW649 := n3_; have GE649 := n4_; have NB648_649 := n5_; have NB649_648 := n6_; clear n0_ n1_ n2_ n3_ n4_ n5_ n6_; clear hb hbox hg; have hnb14 := NB648_649.out; have hnc14 := NB649_648.out; have hcz15_0 : w13.cell? ⟨gb648, 0, none⟩ = some (.int .i64 a0_0) := (blk_cell BK648.out 0).trans rfl; have hcz15_1 : w13.cell? ⟨gb648, 1, none⟩ = some (.slice A0_1 l0_1.length c0_1) := (blk_cell BK648.out 1).trans rfl; have hfz15_0 := blk_frozen BK648.out 0; have hfz15_1 := blk_frozen BK648.out 1; have hcz16_0 : w13.cell? ⟨gb649, 0, none⟩ = some (.int .i64 a1_0) := (blk_cell BK649.out 0).trans rfl; have hcz16_1 : w13.cell? ⟨gb649, 1, none⟩ = some (.slice A1_1 l1_1.length c1_1) := (blk_cell BK649.out 1).trans rfl; have hfz16_0 := blk_frozen BK649.out 0; have hfz16_1 := blk_frozen BK649.out 1) | ((with_reducible refine gate_callee (f := 95) rfl ?_); refine goesL_ (some 14) rfl rfl Tryd.func95 (by kernel_rfl) rfl #[.slice A0_1 l0_1.length c0_1, .slice A1_1 l1_1.length c1_1] rfl (by (try simp only [List.map_toArray, List.map_cons, List.map_nil]); first | done | rfl | (simp only [List.length_drop, List.length_take]; rfl)) ?_; (with_reducible refine (laws_eqClueS.calls k _ _ l0_1 _ _ l1_1 false _ ?side1 ?side2 ?side3 ?side4 A4.out).mono ?_); (case side1 => repeat (first | exact (Kd.C_below HR0_1.out HB.out) | (with_reducible refine Kd.C_alloc ?_ _) | (with_reducible refine Kd.C_drewN ?_ _) | (with_reducible refine Kd.C_drew ?_))); (case side2 => exact HC0_1.out); (case side3 => repeat (first | exact (Kd.C_below HR1_1.out HB.out) | (with_reducible refine Kd.C_alloc ?_ _) | (with_reducible refine Kd.C_drewN ?_ _) | (with_reducible refine Kd.C_drew ?_))); (case side4 => exact HC1_1.out); rintro e w17 ⟨rfl, hb⟩; refine ⟨_, rfl, ?_⟩; have n0_ := Aside0.mk (blk_below (g := gb648) (o := .cells #[.int .i64 a0_0, .slice A0_1 l0_1.length c0_1] 52 (0, 0)) (by (with_reducible repeat (first | refine blk_drewN ?_ _ | refine blk_drew ?_ | refine blk_alloc ?_ _)); exact BK648.out) hb); have n1_ := Aside0.mk (blk_below (g := gb649) (o := .cells #[.int .i64 a1_0, .slice A1_1 l1_1.length c1_1] 52 (0, 0)) (by (with_reducible repeat (first | refine blk_drewN ?_ _ | refine blk_drew ?_ | refine blk_alloc ?_ _)); exact BK649.out) hb); have n2_ := Aside0.mk (below_step (by repeat (first | (with_reducible first | exact HB.out | apply below_alloc | apply pw_below_drewN | apply below_drew1 | refine below_set ?_ GE648.out | refine below_set ?_ GE649.out) | exact HB.out)) hb); clear BK648; clear BK649; clear HB; have BK648 := n0_; have BK649 := n1_; have HB := n2_; clear n0_ n1_ n2_; (try clear hb); (try clear hb2); (try clear hk); (try clear hi)))
   go_ret
   exact ⟨by first | rfl | (simp [errW_none, errW_some] <;> rfl) | (simp [*, errW_none, errW_some] <;> rfl), by repeat (first | (with_reducible first | exact HB.out | apply below_alloc | apply pw_below_drewN | apply below_drew1 | refine below_set ?_ GE648.out | refine below_set ?_ GE649.out) | exact HB.out)⟩
 ·rw [if_neg c3] at H
  have c3b0 : (a0_0 == a1_0) = false := beq_eq_false_iff_ne.mpr c3
  have c3b1 : (a0_0 != a1_0) = true := bne_iff_ne.mpr c3
  obtain rfl := Option.some.inj H
  go_enter Tryd.func39, Tryd.ntmps39
  go_wp2_with (first | ((with_reducible refine gate_dst (N := 2) rfl ?_); refine box_event ?hg (N := 2) ?hd (cs := #[.int .i64 a0_0, .slice A0_1 l0_1.length c0_1]) (t := 52) ?hr ?_; (case hd => rfl); (case hg => rfl); (case hr => first | (go_simp; done) | (go_simp; rfl)); intro gb648 hg w18 hbox hb; have n0_ := Aside0.mk (below_step (by repeat (first | (with_reducible first | exact HB.out | apply below_alloc | apply pw_below_drewN | apply below_drew1) | exact HB.out)) hb); have n1_ := Aside0.mk (hbox); have n2_ := Aside0.mk ((by rw [hg]; exact (below_size (by repeat (first | (with_reducible first | exact HB.out | apply below_alloc | apply pw_below_drewN | apply below_drew1) | exact HB.out))) : w.heap.size ≤ gb648)); have n3_ := Aside0.mk ((by rw [hg]; exact (below_size (by repeat (first | (with_reducible first | exact HB.out | apply below_alloc | apply pw_below_drewN | apply below_drew1) | exact HB.out))) : w.heap.size ≤ gb648)); clear HB; have HB := n0_; have BK648 := n1_; have GW648 := n2_; have GE648 := n3_; clear n0_ n1_ n2_ n3_; clear hb hbox hg) | ((with_reducible refine gate_dst (N := 3) rfl ?_); refine box_event ?hg (N := 3) ?hd (cs := #[.int .i64 a1_0, .slice A1_1 l1_1.length c1_1]) (t := 52) ?hr ?_; (case hd => rfl); (case hg => rfl); (case hr => first | (go_simp; done) | (go_simp; rfl)); intro gb649 hg w19 hbox hb; have n0_ := Aside0.mk (blk_below (g := gb648) (o := .cells #[.int .i64 a0_0, .slice A0_1 l0_1.length c0_1] 52 (0, 0)) (by (with_reducible repeat (first | refine blk_drewN ?_ _ | refine blk_drew ?_ | refine blk_alloc ?_ _)); exact BK648.out) hb); have n1_ := Aside0.mk (below_step (by repeat (first | (with_reducible first | exact HB.out | apply below_alloc | apply pw_below_drewN | apply below_drew1 | refine below_set ?_ GE648.out) | exact HB.out)) hb); have n2_ := Aside0.mk (hbox); have n3_ := Aside0.mk ((by rw [hg]; exact (below_size (by repeat (first | (with_reducible first | exact HB.out | apply below_alloc | apply pw_below_drewN | apply below_drew1 | refine below_set ?_ GE648.out) | exact HB.out))) : w.heap.size ≤ gb649)); have n4_ := Aside0.mk ((by rw [hg]; exact (below_size (by repeat (first | (with_reducible first | exact HB.out | apply below_alloc | apply pw_below_drewN | apply below_drew1 | refine below_set ?_ GE648.out) | exact HB.out))) : w.heap.size ≤ gb649)); have n5_ := Aside0.mk ((by rw [hg]; exact Nat.ne_of_lt (blk_lt (g := gb648) (o := .cells #[.int .i64 a0_0, .slice A0_1 l0_1.length c0_1] 52 (0, 0)) (by (with_reducible repeat (first | refine blk_drewN ?_ _ | refine blk_drew ?_ | refine blk_alloc ?_ _)); exact BK648.out)) : gb648 ≠ gb649)); have n6_ := Aside0.mk ((by rw [hg]; exact Nat.ne_of_gt (blk_lt (g := gb648) (o := .cells #[.int .i64 a0_0, .slice A0_1 l0_1.length c0_1] 52 (0, 0)) (by (with_reducible repeat (first | refine blk_drewN ?_ _ | refine blk_drew ?_ | refine blk_alloc ?_ _)); exact BK648.out)) : gb649 ≠ gb648)); clear BK648; clear HB; have BK648 := n0_; have HB := n1_; have BK649 := n2_; have GW649 := n3_; have GE649 := n4_; have NB648_649 := n5_; have NB649_648 := n6_; clear n0_ n1_ n2_ n3_ n4_ n5_ n6_; clear hb hbox hg; have hnb20 := NB648_649.out; have hnc20 := NB649_648.out; have hcz21_0 : w19.cell? ⟨gb648, 0, none⟩ = some (.int .i64 a0_0) := (blk_cell BK648.out 0).trans rfl; have hcz21_1 : w19.cell? ⟨gb648, 1, none⟩ = some (.slice A0_1 l0_1.length c0_1) := (blk_cell BK648.out 1).trans rfl; have hfz21_0 := blk_frozen BK648.out 0; have hfz21_1 := blk_frozen BK648.out 1; have hcz22_0 : w19.cell? ⟨gb649, 0, none⟩ = some (.int .i64 a1_0) := (blk_cell BK649.out 0).trans rfl; have hcz22_1 : w19.cell? ⟨gb649, 1, none⟩ = some (.slice A1_1 l1_1.length c1_1) := (blk_cell BK649.out 1).trans rfl; have hfz22_0 := blk_frozen BK649.out 0; have hfz22_1 := blk_frozen BK649.out 1))
  go_ret
  exact ⟨by first | rfl | (simp [errW_none, errW_some] <;> rfl) | (simp [*, errW_none, errW_some] <;> rfl), by repeat (first | (with_reducible first | exact HB.out | apply below_alloc | apply pw_below_drewN | apply below_drew1 | refine below_set ?_ GE648.out | refine below_set ?_ GE649.out) | exact HB.out)⟩
end Go.Proofs.YtopahhcojncgaaaDoor.G
namespace Go.Proofs.YtopahhcojncgaaaDoor.G
open Go.RowKit Go.Proofs.YtopahhcojncgaaaDoorW.PrintWords Go.Proofs.YtopahhcojncgaaaDoorW.PrintLast Go.Proofs.YtopahhcojncgaaaDoorW.PrintMore
attribute [local go_sem] max2_int min2_int max_two min_two max_three min_three max_four min_four
set_option linter.unusedVariables false
set_option linter.unusedSimpArgs false
def laws_FnExactPuzzleText.j0 : Nat → Bool → Int → List (S158) → Int → List (S130) → Option (Bool)
 | 0, _, _, _, _, _ => none
 | k + 1, x34, x652000, x652001, x664000, x664001 => if x34 = true then (some false) else ((laws_toPuzzle.f k x652000 x652001).bind fun bt666 => ((laws_eqPuzzle.f k x664000 x664001 bt666.1 bt666.2).bind fun t670 => (if t670 = true then (some true) else (some false))))
def laws_FnExactPuzzleText.f (k : Nat) (a0_0 : Int) (l0_1 : List (S158)) : Option (Bool) := (laws_szPuzzle.f a0_0 l0_1 1048576).bind fun t652 => (if t652 < 0 then (some true) else ((laws_toPuzzle.f k a0_0 l0_1).bind fun bt653 => ((spec_PuzzleText.f k bt653.1 bt653.2).bind fun bt657 => ((laws_toPuzzle.f k a0_0 l0_1).bind fun bt659 => ((impl_PuzzleText.f k bt659.1 bt659.2).bind fun bt664 => (if bt664.1.toList = bt657.1.toList then (laws_FnExactPuzzleText.j0 k (bt664.2 != bt657.2) a0_0 l0_1 bt659.1 bt659.2) else (laws_FnExactPuzzleText.j0 k true a0_0 l0_1 bt659.1 bt659.2)))))))
theorem laws_FnExactPuzzleText.mono_l : ∀ k, (∀ y0 y1 y2 y3 y4, LeO (laws_FnExactPuzzleText.j0 k y0 y1 y2 y3 y4) (laws_FnExactPuzzleText.j0 (k + 1) y0 y1 y2 y3 y4))
 | 0 => fun _ _ _ _ _ r h => by simp [laws_FnExactPuzzleText.j0] at h
 | k + 1 => by
  have ih0 := laws_FnExactPuzzleText.mono_l k
  ·intro y0 y1 y2 y3 y4
   unfold laws_FnExactPuzzleText.j0
   repeat' first
   | (with_reducible exact ih0 _ _ _ _ _)
   | (with_reducible exact impl_PuzzleText.mono _ _ _)
   | (with_reducible exact laws_eqPuzzle.mono _ _ _ _ _)
   | (with_reducible exact laws_toPuzzle.mono _ _ _)
   | (with_reducible exact spec_PuzzleText.mono _ _ _)
   | (with_reducible exact LeO.refl _)
   | (with_reducible exact LeO.none _)
   | (with_reducible refine LeO.ite ?_ ?_)
   | (with_reducible refine LeO.bind ?_ (fun _ => ?_))
   | exact ih0 _ _ _ _ _
   | exact impl_PuzzleText.mono _ _ _
   | exact laws_eqPuzzle.mono _ _ _ _ _
   | exact laws_toPuzzle.mono _ _ _
   | exact spec_PuzzleText.mono _ _ _
   | exact LeO.none _
   | refine LeO.ite ?_ ?_
   | refine LeO.bind ?_ (fun _ => ?_)
theorem laws_FnExactPuzzleText.mono : ∀ a0 a1 k, LeO (laws_FnExactPuzzleText.f k a0 a1) (laws_FnExactPuzzleText.f (k + 1) a0 a1) := by
 intro a0 a1 k
 have ih0 := laws_FnExactPuzzleText.mono_l k
 unfold laws_FnExactPuzzleText.f
 repeat' first
   | (with_reducible exact ih0 _ _ _ _ _)
   | (with_reducible exact impl_PuzzleText.mono _ _ _)
   | (with_reducible exact laws_eqPuzzle.mono _ _ _ _ _)
   | (with_reducible exact laws_toPuzzle.mono _ _ _)
   | (with_reducible exact spec_PuzzleText.mono _ _ _)
   | (with_reducible exact LeO.refl _)
   | (with_reducible exact LeO.none _)
   | (with_reducible refine LeO.ite ?_ ?_)
   | (with_reducible refine LeO.bind ?_ (fun _ => ?_))
   | exact ih0 _ _ _ _ _
   | exact impl_PuzzleText.mono _ _ _
   | exact laws_eqPuzzle.mono _ _ _ _ _
   | exact laws_toPuzzle.mono _ _ _
   | exact spec_PuzzleText.mono _ _ _
   | exact LeO.none _
   | refine LeO.ite ?_ ?_
   | refine LeO.bind ?_ (fun _ => ?_)
set_option maxHeartbeats 8000000 in
set_option maxRecDepth 100000 in
theorem laws_FnExactPuzzleText.calls (k : Nat) (a0_0 : Int) (A0_1 : Option Addr) (c0_1 : Nat) (l0_1 : List (S158)) (r : Bool) (w : World) (hr0_1 : Kd.C k158 w A0_1 l0_1.length l0_1) (hc0_1 : l0_1.length ≤ c0_1) (h : laws_FnExactPuzzleText.f k a0_0 l0_1 = some r) :
  Calls Tryd.prog 9 #[.agg #[.int .i64 a0_0, .slice A0_1 l0_1.length c0_1]] w fun e w' => e = .returned (.bool r) ∧ Below w.heap.size w w' := by
 have hu46 := Tryd.underlying46
 have hu52 := Tryd.underlying52
 have HR0_1 := Aside0.mk hr0_1
 have HC0_1 := Aside0.mk hc0_1
 clear hr0_1 hc0_1
 have HB := Aside0.mk (Below.refl w.heap.size w)
 have H : ((laws_szPuzzle.f a0_0 l0_1 1048576).bind fun t652 => (if t652 < 0 then (some true) else ((laws_toPuzzle.f k a0_0 l0_1).bind fun bt653 => ((spec_PuzzleText.f k bt653.1 bt653.2).bind fun bt657 => ((laws_toPuzzle.f k a0_0 l0_1).bind fun bt659 => ((impl_PuzzleText.f k bt659.1 bt659.2).bind fun bt664 => (if bt664.1.toList = bt657.1.toList then (laws_FnExactPuzzleText.j0 k (bt664.2 != bt657.2) a0_0 l0_1 bt659.1 bt659.2) else (laws_FnExactPuzzleText.j0 k true a0_0 l0_1 bt659.1 bt659.2)))))))) = some r := h
 clear h
 replace H := Option.bind_eq_some_iff.mp H
 obtain ⟨t652, A20, H⟩ := H
 replace H : (if t652 < 0 then (some true) else ((laws_toPuzzle.f k a0_0 l0_1).bind fun bt653 => ((spec_PuzzleText.f k bt653.1 bt653.2).bind fun bt657 => ((laws_toPuzzle.f k a0_0 l0_1).bind fun bt659 => ((impl_PuzzleText.f k bt659.1 bt659.2).bind fun bt664 => (if bt664.1.toList = bt657.1.toList then (laws_FnExactPuzzleText.j0 k (bt664.2 != bt657.2) a0_0 l0_1 bt659.1 bt659.2) else (laws_FnExactPuzzleText.j0 k true a0_0 l0_1 bt659.1 bt659.2))))))) = some r := H
 have A2 := Aside0.mk A20
 clear A20
 by_cases c3 : t652 < 0
 ·rw [if_pos c3] at H
  have c3b0 : decide (t652 < 0) = true := decide_eq_true c3
  clear c3
  obtain rfl := Option.some.inj H
  go_enter Tryd.func9, Tryd.ntmps9
  go_wp2_with (first | ((with_reducible refine gate_dst (N := 1) rfl ?_); refine box_event ?hg (N := 1) ?hd (cs := #[.int .i64 a0_0, .slice A0_1 l0_1.length c0_1]) (t := 46) ?hr ?_; (case hd => rfl); (case hg => rfl); (case hr => first | (go_simp; done) | (go_simp; rfl)); intro gb651 hg w4 hbox hb; have n0_ := Aside0.mk (below_step (by repeat (first | (with_reducible first | exact HB.out | apply below_alloc | apply pw_below_drewN | apply below_drew1) | exact HB.out)) hb); have n1_ := Aside0.mk (hbox); have n2_ := Aside0.mk ((by rw [hg]; exact (below_size (by repeat (first | (with_reducible first | exact HB.out | apply below_alloc | apply pw_below_drewN | apply below_drew1) | exact HB.out))) : w.heap.size ≤ gb651)); have n3_ := Aside0.mk ((by rw [hg]; exact (below_size (by repeat (first | (with_reducible first | exact HB.out | apply below_alloc | apply pw_below_drewN | apply below_drew1) | exact HB.out))) : w.heap.size ≤ gb651)); clear HB; have HB := n0_; have BK651 := n1_; have GW651 := n2_; have GE651 := n3_; clear n0_ n1_ n2_ n3_; clear hb hbox hg; have hcz5_0 : w4.cell? ⟨gb651, 0, none⟩ = some (.int .i64 a0_0) := (blk_cell BK651.out 0).trans rfl; have hcz5_1 : w4.cell? ⟨gb651, 1, none⟩ = some (.slice A0_1 l0_1.length c0_1) := (blk_cell BK651.out 1).trans rfl; have hfz5_0 := blk_frozen BK651.out 0; have hfz5_1 := blk_frozen BK651.out 1) | ((with_reducible refine gate_callee (f := 35) rfl ?_); refine goesL_ (some 11) rfl rfl Tryd.func35 (by kernel_rfl) rfl #[.agg #[.int .i64 a0_0, .slice A0_1 l0_1.length c0_1], .int .i64 1048576] rfl (by (try simp only [List.map_toArray, List.map_cons, List.map_nil]); first | done | rfl | (simp only [List.length_drop, List.length_take]; rfl)) ?_; (with_reducible refine (laws_szPuzzle.calls a0_0 _ _ l0_1 1048576 t652 _ ?side1 ?side2 A2.out).mono ?_); (case side1 => repeat (first | exact (Kd.C_below HR0_1.out HB.out) | (with_reducible refine Kd.C_alloc ?_ _) | (with_reducible refine Kd.C_drewN ?_ _) | (with_reducible refine Kd.C_drew ?_))); (case side2 => exact HC0_1.out); rintro e w6 ⟨rfl, hb⟩; refine ⟨_, rfl, ?_⟩; have n0_ := Aside0.mk (blk_below (g := gb651) (o := .cells #[.int .i64 a0_0, .slice A0_1 l0_1.length c0_1] 46 (0, 0)) (by (with_reducible repeat (first | refine blk_drewN ?_ _ | refine blk_drew ?_ | refine blk_alloc ?_ _)); exact BK651.out) hb); have n1_ := Aside0.mk (below_step (by repeat (first | (with_reducible first | exact HB.out | apply below_alloc | apply pw_below_drewN | apply below_drew1 | refine below_set ?_ GE651.out) | exact HB.out)) hb); clear BK651; clear HB; have BK651 := n0_; have HB := n1_; clear n0_ n1_; (try clear hb); (try clear hb2); (try clear hk); (try clear hi)))
  go_ret
  exact ⟨by first | rfl | (simp [errW_none, errW_some] <;> rfl) | (simp [*, errW_none, errW_some] <;> rfl), by repeat (first | (with_reducible first | exact HB.out | apply below_alloc | apply pw_below_drewN | apply below_drew1 | refine below_set ?_ GE651.out) | exact HB.out)⟩
 ·rw [if_neg c3] at H
  have c3b0 : decide (t652 < 0) = false := decide_eq_false c3
  clear c3
  replace H := Option.bind_eq_some_iff.mp H
  obtain ⟨⟨t653, t654⟩, A70, H⟩ := H
  replace H : ((spec_PuzzleText.f k t653 t654).bind fun bt657 => ((laws_toPuzzle.f k a0_0 l0_1).bind fun bt659 => ((impl_PuzzleText.f k bt659.1 bt659.2).bind fun bt664 => (if bt664.1.toList = bt657.1.toList then (laws_FnExactPuzzleText.j0 k (bt664.2 != bt657.2) a0_0 l0_1 bt659.1 bt659.2) else (laws_FnExactPuzzleText.j0 k true a0_0 l0_1 bt659.1 bt659.2))))) = some r := H
  have A7 := Aside0.mk A70
  clear A70
  replace H := Option.bind_eq_some_iff.mp H
  obtain ⟨⟨t657, t658⟩, A80, H⟩ := H
  replace H : ((laws_toPuzzle.f k a0_0 l0_1).bind fun bt659 => ((impl_PuzzleText.f k bt659.1 bt659.2).bind fun bt664 => (if bt664.1.toList = t657.toList then (laws_FnExactPuzzleText.j0 k (bt664.2 != t658) a0_0 l0_1 bt659.1 bt659.2) else (laws_FnExactPuzzleText.j0 k true a0_0 l0_1 bt659.1 bt659.2)))) = some r := H
  have A8 := Aside0.mk A80
  clear A80
  replace H := Option.bind_eq_some_iff.mp H
  obtain ⟨⟨t659, t660⟩, A90, H⟩ := H
  replace H : ((impl_PuzzleText.f k t659 t660).bind fun bt664 => (if bt664.1.toList = t657.toList then (laws_FnExactPuzzleText.j0 k (bt664.2 != t658) a0_0 l0_1 t659 t660) else (laws_FnExactPuzzleText.j0 k true a0_0 l0_1 t659 t660))) = some r := H
  have A9 := Aside0.mk A90
  clear A90
  replace H := Option.bind_eq_some_iff.mp H
  obtain ⟨⟨t664, t665⟩, A100, H⟩ := H
  replace H : (if t664.toList = t657.toList then (laws_FnExactPuzzleText.j0 k (t665 != t658) a0_0 l0_1 t659 t660) else (laws_FnExactPuzzleText.j0 k true a0_0 l0_1 t659 t660)) = some r := H
  have A10 := Aside0.mk A100
  clear A100
  have HC11 := Aside0.mk H
  clear H
  go_enter Tryd.func9, Tryd.ntmps9
  go_upto_region 8 with (first | ((with_reducible refine gate_dst (N := 1) rfl ?_); refine box_event ?hg (N := 1) ?hd (cs := #[.int .i64 a0_0, .slice A0_1 l0_1.length c0_1]) (t := 46) ?hr ?_; (case hd => rfl); (case hg => rfl); (case hr => first | (go_simp; done) | (go_simp; rfl)); intro gb651 hg w12 hbox hb; have n0_ := Aside0.mk (below_step (by repeat (first | (with_reducible first | exact HB.out | apply below_alloc | apply pw_below_drewN | apply below_drew1) | exact HB.out)) hb); have n1_ := Aside0.mk (hbox); have n2_ := Aside0.mk ((by rw [hg]; exact (below_size (by repeat (first | (with_reducible first | exact HB.out | apply below_alloc | apply pw_below_drewN | apply below_drew1) | exact HB.out))) : w.heap.size ≤ gb651)); have n3_ := Aside0.mk ((by rw [hg]; exact (below_size (by repeat (first | (with_reducible first | exact HB.out | apply below_alloc | apply pw_below_drewN | apply below_drew1) | exact HB.out))) : w.heap.size ≤ gb651)); clear HB; have HB := n0_; have BK651 := n1_; have GW651 := n2_; have GE651 := n3_; clear n0_ n1_ n2_ n3_; clear hb hbox hg; have hcz13_0 : w12.cell? ⟨gb651, 0, none⟩ = some (.int .i64 a0_0) := (blk_cell BK651.out 0).trans rfl; have hcz13_1 : w12.cell? ⟨gb651, 1, none⟩ = some (.slice A0_1 l0_1.length c0_1) := (blk_cell BK651.out 1).trans rfl; have hfz13_0 := blk_frozen BK651.out 0; have hfz13_1 := blk_frozen BK651.out 1) | ((with_reducible refine gate_callee (f := 35) rfl ?_); refine goesL_ (some 11) rfl rfl Tryd.func35 (by kernel_rfl) rfl #[.agg #[.int .i64 a0_0, .slice A0_1 l0_1.length c0_1], .int .i64 1048576] rfl (by (try simp only [List.map_toArray, List.map_cons, List.map_nil]); first | done | rfl | (simp only [List.length_drop, List.length_take]; rfl)) ?_; (with_reducible refine (laws_szPuzzle.calls a0_0 _ _ l0_1 1048576 t652 _ ?side1 ?side2 A2.out).mono ?_); (case side1 => repeat (first | exact (Kd.C_below HR0_1.out HB.out) | (with_reducible refine Kd.C_alloc ?_ _) | (with_reducible refine Kd.C_drewN ?_ _) | (with_reducible refine Kd.C_drew ?_))); (case side2 => exact HC0_1.out); rintro e w14 ⟨rfl, hb⟩; refine ⟨_, rfl, ?_⟩; have n0_ := Aside0.mk (blk_below (g := gb651) (o := .cells #[.int .i64 a0_0, .slice A0_1 l0_1.length c0_1] 46 (0, 0)) (by (with_reducible repeat (first | refine blk_drewN ?_ _ | refine blk_drew ?_ | refine blk_alloc ?_ _)); exact BK651.out) hb); have n1_ := Aside0.mk (below_step (by repeat (first | (with_reducible first | exact HB.out | apply below_alloc | apply pw_below_drewN | apply below_drew1 | refine below_set ?_ GE651.out) | exact HB.out)) hb); clear BK651; clear HB; have BK651 := n0_; have HB := n1_; clear n0_ n1_; (try clear hb); (try clear hb2); (try clear hk); (try clear hi); have hcz15_0 : w14.cell? ⟨gb651, 0, none⟩ = some (.int .i64 a0_0) := (blk_cell BK651.out 0).trans rfl; have hcz15_1 : w14.cell? ⟨gb651, 1, none⟩ = some (.slice A0_1 l0_1.length c0_1) := (blk_cell BK651.out 1).trans rfl; have hfz15_0 := blk_frozen BK651.out 0; have hfz15_1 := blk_frozen BK651.out 1) | ((with_reducible refine gate_callee (f := 37) rfl ?_); refine goesL_ (some 16) rfl rfl Tryd.func37 (by kernel_rfl) rfl #[.agg #[.int .i64 a0_0, .slice A0_1 l0_1.length c0_1]] rfl (by (try simp only [List.map_toArray, List.map_cons, List.map_nil]); first | done | rfl | (simp only [List.length_drop, List.length_take]; rfl)) ?_; (with_reducible refine (laws_toPuzzle.calls k a0_0 _ _ l0_1 t653 t654 _ ?side1 ?side2 A7.out).mono ?_); (case side1 => repeat (first | exact (Kd.C_below HR0_1.out HB.out) | (with_reducible refine Kd.C_alloc ?_ _) | (with_reducible refine Kd.C_drewN ?_ _) | (with_reducible refine Kd.C_drew ?_))); (case side2 => exact HC0_1.out); rintro e w16 ⟨v655, rfl, ho0, hb⟩; refine ⟨_, rfl, ?_⟩; have n0_ := Aside0.mk (Kd.R_lower ho0 (below_size (by repeat (first | (with_reducible first | exact HB.out | apply below_alloc | apply pw_below_drewN | apply below_drew1 | refine below_set ?_ GE651.out) | exact HB.out)))); have n1_ := Aside0.mk (blk_below (g := gb651) (o := .cells #[.int .i64 a0_0, .slice A0_1 l0_1.length c0_1] 46 (0, 0)) (by (with_reducible repeat (first | refine blk_drewN ?_ _ | refine blk_drew ?_ | refine blk_alloc ?_ _)); exact BK651.out) hb); have n2_ := Aside0.mk (below_step (by repeat (first | (with_reducible first | exact HB.out | apply below_alloc | apply pw_below_drewN | apply below_drew1 | refine below_set ?_ GE651.out) | exact HB.out)) hb); clear BK651; clear HB; have HO656 := n0_; have BK651 := n1_; have HB := n2_; clear n0_ n1_ n2_; (try clear hb); (try clear hb2); (try clear hk); (try clear hi); (try clear ho0); obtain ⟨Ao17, co17, eo17⟩ := Kd.R_slice HO656.out; subst eo17) | ((with_reducible refine gate_callee (f := 36) rfl ?_); refine goesL_ (some 17) rfl rfl Tryd.func36 (by kernel_rfl) rfl #[.agg #[.int .i64 t653, .slice Ao17 t654.length co17]] rfl (by (try simp only [List.map_toArray, List.map_cons, List.map_nil]); first | done | rfl | (simp only [List.length_drop, List.length_take]; rfl)) ?_; (with_reducible refine (spec_PuzzleText.calls k t653 _ _ t654 t657 t658 _ ?side1 ?side2 A8.out).mono ?_); (case side1 => repeat (first | exact (Kd.R_reads' HO656.out).2.2 | (with_reducible refine Kd.C_alloc ?_ _) | (with_reducible refine Kd.C_drewN ?_ _) | (with_reducible refine Kd.C_drew ?_))); (case side2 => exact (Kd.R_reads' HO656.out).2.1); rintro e w18 ⟨rfl, hb⟩; refine ⟨_, rfl, ?_⟩; have n0_ := Aside0.mk (Kd.R_below (by (with_reducible repeat (first | apply Kd.R_alloc | apply Kd.R_drewN | apply Kd.R_drew)); exact HO656.out) hb); have n1_ := Aside0.mk (blk_below (g := gb651) (o := .cells #[.int .i64 a0_0, .slice A0_1 l0_1.length c0_1] 46 (0, 0)) (by (with_reducible repeat (first | refine blk_drewN ?_ _ | refine blk_drew ?_ | refine blk_alloc ?_ _)); exact BK651.out) hb); have n2_ := Aside0.mk (below_step (by repeat (first | (with_reducible first | exact HB.out | apply below_alloc | apply pw_below_drewN | apply below_drew1 | refine below_set ?_ GE651.out) | exact HB.out)) hb); clear HO656; clear BK651; clear HB; have HO656 := n0_; have BK651 := n1_; have HB := n2_; clear n0_ n1_ n2_; (try clear hb); (try clear hb2); (try clear hk); (try clear hi); have hcz19_0 : w18.cell? ⟨gb651, 0, none⟩ = some (.int .i64 a0_0) := (blk_cell BK651.out 0).trans rfl; have hcz19_1 : w18.cell? ⟨gb651, 1, none⟩ = some (.slice A0_1 l0_1.length c0_1) := (blk_cell BK651.out 1).trans rfl; have hfz19_0 := blk_frozen BK651.out 0; have hfz19_1 := blk_frozen BK651.out 1) | ((with_reducible refine gate_callee (f := 37) rfl ?_); refine goesL_ (some 21) rfl rfl Tryd.func37 (by kernel_rfl) rfl #[.agg #[.int .i64 a0_0, .slice A0_1 l0_1.length c0_1]] rfl (by (try simp only [List.map_toArray, List.map_cons, List.map_nil]); first | done | rfl | (simp only [List.length_drop, List.length_take]; rfl)) ?_; (with_reducible refine (laws_toPuzzle.calls k a0_0 _ _ l0_1 t659 t660 _ ?side1 ?side2 A9.out).mono ?_); (case side1 => repeat (first | exact (Kd.C_below HR0_1.out HB.out) | (with_reducible refine Kd.C_alloc ?_ _) | (with_reducible refine Kd.C_drewN ?_ _) | (with_reducible refine Kd.C_drew ?_))); (case side2 => exact HC0_1.out); rintro e w20 ⟨v661, rfl, ho0, hb⟩; refine ⟨_, rfl, ?_⟩; have n0_ := Aside0.mk (Kd.R_elder' (by (with_reducible repeat (first | apply Kd.R_alloc | apply Kd.R_drewN | apply Kd.R_drew)); exact HO656.out) (Kd.R_base ho0) hb); have n1_ := Aside0.mk (Kd.R_lower (Kd.R_new' ho0 (Kd.R_lt (by (with_reducible repeat (first | apply Kd.R_alloc | apply Kd.R_drewN | apply Kd.R_drew)); exact HO656.out))) (below_size (by repeat (first | (with_reducible first | exact HB.out | apply below_alloc | apply pw_below_drewN | apply below_drew1 | refine below_set ?_ GE651.out) | exact HB.out)))); have n2_ := Aside0.mk (blk_below (g := gb651) (o := .cells #[.int .i64 a0_0, .slice A0_1 l0_1.length c0_1] 46 (0, 0)) (by (with_reducible repeat (first | refine blk_drewN ?_ _ | refine blk_drew ?_ | refine blk_alloc ?_ _)); exact BK651.out) hb); have n3_ := Aside0.mk (below_step (by repeat (first | (with_reducible first | exact HB.out | apply below_alloc | apply pw_below_drewN | apply below_drew1 | refine below_set ?_ GE651.out) | exact HB.out)) hb); clear HO656; clear BK651; clear HB; have HO656 := n0_; have HO662 := n1_; have BK651 := n2_; have HB := n3_; clear n0_ n1_ n2_ n3_; (try clear hb); (try clear hb2); (try clear hk); (try clear hi); (try clear ho0)) | ((with_reducible refine gate_dst (N := 6) rfl ?_); refine box_event ?hg (N := 6) ?hd (cs := #[.int .i64 0, .slice none 0 0]) (t := 52) ?hr ?_; (case hd => rfl); (case hg => rfl); (case hr => first | (go_simp; done) | (go_simp; rfl)); intro gb663 hg w21 hbox hb; have n0_ := Aside0.mk (Kd.R_below (by (with_reducible repeat (first | apply Kd.R_alloc | apply Kd.R_drewN | apply Kd.R_drew)); exact HO656.out) hb); have n1_ := Aside0.mk (Kd.R_below (by (with_reducible repeat (first | apply Kd.R_alloc | apply Kd.R_drewN | apply Kd.R_drew)); exact HO662.out) hb); have n2_ := Aside0.mk (blk_below (g := gb651) (o := .cells #[.int .i64 a0_0, .slice A0_1 l0_1.length c0_1] 46 (0, 0)) (by (with_reducible repeat (first | refine blk_drewN ?_ _ | refine blk_drew ?_ | refine blk_alloc ?_ _)); exact BK651.out) hb); have n3_ := Aside0.mk (below_step (by repeat (first | (with_reducible first | exact HB.out | apply below_alloc | apply pw_below_drewN | apply below_drew1 | refine below_set ?_ GE651.out) | exact HB.out)) hb); have n4_ := Aside0.mk (hbox); have n5_ := Aside0.mk ((by rw [hg]; exact (below_size (by repeat (first | (with_reducible first | exact HB.out | apply below_alloc | apply pw_below_drewN | apply below_drew1 | refine below_set ?_ GE651.out) | exact HB.out))) : w.heap.size ≤ gb663)); have n6_ := Aside0.mk ((by rw [hg]; exact (below_size (by repeat (first | (with_reducible first | exact HB.out | apply below_alloc | apply pw_below_drewN | apply below_drew1 | refine below_set ?_ GE651.out) | exact HB.out))) : w.heap.size ≤ gb663)); have n7_ := Aside0.mk ((by rw [hg]; exact Nat.ne_of_lt (blk_lt (g := gb651) (o := .cells #[.int .i64 a0_0, .slice A0_1 l0_1.length c0_1] 46 (0, 0)) (by (with_reducible repeat (first | refine blk_drewN ?_ _ | refine blk_drew ?_ | refine blk_alloc ?_ _)); exact BK651.out)) : gb651 ≠ gb663)); have n8_ := Aside0.mk ((by rw [hg]; exact Nat.ne_of_gt (blk_lt (g := gb651) (o := .cells #[.int .i64 a0_0, .slice A0_1 l0_1.length c0_1] 46 (0, 0)) (by (with_reducible repeat (first | refine blk_drewN ?_ _ | refine blk_drew ?_ | refine blk_alloc ?_ _)); exact BK651.out)) : gb663 ≠ gb651)); clear HO656; clear HO662; clear BK651; clear HB; have HO656 := n0_; have HO662 := n1_; have BK651 := n2_; have HB := n3_; have BK663 := n4_; have GW663 := n5_; have GE663 := n6_; have NB651_663 := n7_; have NB663_651 := n8_; clear n0_ n1_ n2_ n3_ n4_ n5_ n6_ n7_ n8_; clear hb hbox hg; have hnb22 := NB663_651.out; have hnc22 := NB651_663.out; have hcz23_0 : w21.cell? ⟨gb663, 0, none⟩ = some (.int .i64 0) := (blk_cell BK663.out 0).trans rfl; have hcz23_1 : w21.cell? ⟨gb663, 1, none⟩ = some (.slice none 0 0) := (blk_cell BK663.out 1).trans rfl; have hfz23_0 := blk_frozen BK663.out 0; have hfz23_1 := blk_frozen BK663.out 1; obtain ⟨Ao24, co24, eo24⟩ := Kd.R_slice HO662.out; subst eo24) | ((with_reducible refine gate_callee (f := 38) rfl ?_); refine goesL_ (some 24) rfl rfl Tryd.func38 (by kernel_rfl) rfl #[.agg #[.int .i64 t659, .slice Ao24 t660.length co24]] rfl (by (try simp only [List.map_toArray, List.map_cons, List.map_nil]); first | done | rfl | (simp only [List.length_drop, List.length_take]; rfl)) ?_; (with_reducible refine (impl_PuzzleText.calls k t659 _ _ t660 t664 t665 _ ?side1 ?side2 A10.out).mono ?_); (case side1 => refine (Kd.R_reads' (e := 130) (base := w.heap.size) (ok := fun k_ => (True ∧ some k_ ≠ (.slice Ao17 t654.length co17 : Value).ownBlock)) (n := t660.length) (c := co24) ?_).2.2; exact (by (with_reducible repeat (first | apply Kd.R_alloc | apply Kd.R_drewN | apply Kd.R_drew)); exact (Kd.R_mono (Kd.R_far (p := ⟨gb663, 1, none⟩) (Kd.R_far (p := ⟨gb663, 0, none⟩) (Kd.R_types HO662.out BK663.out (by decide)) (fun _ hk => hk.2) (.int .i64 t659)) (fun _ hk => hk.2) (.slice Ao24 t660.length co24)) (fun _ h_ => h_.1)))); (case side2 => exact (Kd.R_reads' HO662.out).2.1); rintro e w25 ⟨rfl, hb⟩; refine ⟨_, rfl, ?_⟩; have n0_ := Aside0.mk (Kd.R_below (by (with_reducible repeat (first | apply Kd.R_alloc | apply Kd.R_drewN | apply Kd.R_drew)); exact (Kd.R_mono (Kd.R_far (p := ⟨gb663, 1, none⟩) (Kd.R_far (p := ⟨gb663, 0, none⟩) (Kd.R_types HO656.out BK663.out (by decide)) (fun _ hk => hk.2) (.int .i64 t659)) (fun _ hk => hk.2) (.slice Ao24 t660.length co24)) (fun _ h_ => h_.1))) hb); have n1_ := Aside0.mk (Kd.R_below (by (with_reducible repeat (first | apply Kd.R_alloc | apply Kd.R_drewN | apply Kd.R_drew)); exact (Kd.R_mono (Kd.R_far (p := ⟨gb663, 1, none⟩) (Kd.R_far (p := ⟨gb663, 0, none⟩) (Kd.R_types HO662.out BK663.out (by decide)) (fun _ hk => hk.2) (.int .i64 t659)) (fun _ hk => hk.2) (.slice Ao24 t660.length co24)) (fun _ h_ => h_.1))) hb); have n2_ := Aside0.mk (blk_below (g := gb651) (o := .cells #[.int .i64 a0_0, .slice A0_1 l0_1.length c0_1] 46 (0, 0)) (by (with_reducible repeat (first | refine blk_drewN ?_ _ | refine blk_drew ?_ | refine blk_alloc ?_ _)); refine blk_far ?_ NB651_663.out _; (with_reducible repeat (first | refine blk_drewN ?_ _ | refine blk_drew ?_ | refine blk_alloc ?_ _)); refine blk_far ?_ NB651_663.out _; (with_reducible repeat (first | refine blk_drewN ?_ _ | refine blk_drew ?_ | refine blk_alloc ?_ _)); exact BK651.out) hb); have n3_ := Aside0.mk (blk_below (g := gb663) (o := .cells #[.int .i64 t659, .slice Ao24 t660.length co24] 52 (0, 0)) (by (with_reducible repeat (first | refine blk_drewN ?_ _ | refine blk_drew ?_ | refine blk_alloc ?_ _)); refine blk_put (cs := #[.int .i64 t659, .slice none 0 0]) ?_ 1 _ rfl; (with_reducible repeat (first | refine blk_drewN ?_ _ | refine blk_drew ?_ | refine blk_alloc ?_ _)); refine blk_put (cs := #[.int .i64 0, .slice none 0 0]) ?_ 0 _ rfl; (with_reducible repeat (first | refine blk_drewN ?_ _ | refine blk_drew ?_ | refine blk_alloc ?_ _)); exact BK663.out) hb); have n4_ := Aside0.mk (below_step (by repeat (first | (with_reducible first | exact HB.out | apply below_alloc | apply pw_below_drewN | apply below_drew1 | refine below_set ?_ GE651.out | refine below_set ?_ GE663.out) | exact HB.out)) hb); clear HO656; clear HO662; clear BK651; clear BK663; clear HB; have HO656 := n0_; have HO662 := n1_; have BK651 := n2_; have BK663 := n3_; have HB := n4_; clear n0_ n1_ n2_ n3_ n4_; (try clear hb); (try clear hb2); (try clear hk); (try clear hi)))
  (try simp only [Act.put, List.setIfInBounds_toArray, List.set_cons_zero, List.set_cons_succ])
  go_cut [34] (fun v34 wc => ∃ (kq : Nat) (x34_10 : Bool), v34 = .bool x34_10 ∧ Aside0 (laws_FnExactPuzzleText.j0 kq x34_10 a0_0 l0_1 t659 t660 = some r) ∧ Aside0 (kq ≤ k) ∧ Aside0 (Kd.R k130 130 wc w.heap.size (fun _ => True) (.slice Ao24 t660.length co24) t660) ∧ Aside0 (wc.heap[gb651]? = some (.cells #[.int .i64 a0_0, (.slice A0_1 l0_1.length c0_1)] 46 (0, 0))) ∧ Aside0 (wc.heap[gb663]? = some (.cells #[.int .i64 t659, (.slice Ao24 t660.length co24)] 52 (0, 0))) ∧ Aside0 (Below w.heap.size w wc))
  case first =>
   have H := HC11.out
   clear HC11
   by_cases c26 : t664.toList = t657.toList
   ·rw [if_pos c26] at H
    have c26b0 : (t664.toList == t657.toList) = true := beq_iff_eq.mpr c26
    have c26b1 : (t664.toList != t657.toList) = false := bne_eq_false_iff_eq.mpr c26
    clear c26
    (first | rw [c26b0] | (simp only [i64_w, i32_w]; rw [c26b0]) | skip)
    have H' := Aside0.mk H
    clear H
    go_wp2
    go_meet
    case rel => exact ⟨_, ((t665 != t658)), (by first | rfl | (simp; done) | (simp [*]; done)), H', ⟨by first | omega | exact Nat.le_refl _⟩, ⟨by (with_reducible repeat (first | apply Kd.R_alloc | apply Kd.R_drewN | apply Kd.R_drew)); exact Kd.R_mono HO662.out (fun _ hk => trivial)⟩, ⟨by (with_reducible repeat (first | refine blk_drewN ?_ _ | refine blk_drew ?_ | refine blk_alloc ?_ _)); exact BK651.out⟩, ⟨by (with_reducible repeat (first | refine blk_drewN ?_ _ | refine blk_drew ?_ | refine blk_alloc ?_ _)); exact BK663.out⟩, ⟨by repeat (first | (with_reducible first | exact HB.out | apply below_alloc | apply pw_below_drewN | apply below_drew1 | refine below_set ?_ GE651.out | refine below_set ?_ GE663.out) | exact HB.out)⟩⟩
   ·rw [if_neg c26] at H
    have c26b0 : (t664.toList == t657.toList) = false := beq_eq_false_iff_ne.mpr c26
    have c26b1 : (t664.toList != t657.toList) = true := bne_iff_ne.mpr c26
    (first | rw [c26b0] | (simp only [i64_w, i32_w]; rw [c26b0]) | skip)
    have H' := Aside0.mk H
    clear H
    go_wp2
    go_meet
    case rel => exact ⟨_, (true), (by first | rfl | (simp; done) | (simp [*]; done)), H', ⟨by first | omega | exact Nat.le_refl _⟩, ⟨by (with_reducible repeat (first | apply Kd.R_alloc | apply Kd.R_drewN | apply Kd.R_drew)); exact Kd.R_mono HO662.out (fun _ hk => trivial)⟩, ⟨by (with_reducible repeat (first | refine blk_drewN ?_ _ | refine blk_drew ?_ | refine blk_alloc ?_ _)); exact BK651.out⟩, ⟨by (with_reducible repeat (first | refine blk_drewN ?_ _ | refine blk_drew ?_ | refine blk_alloc ?_ _)); exact BK663.out⟩, ⟨by repeat (first | (with_reducible first | exact HB.out | apply below_alloc | apply pw_below_drewN | apply below_drew1 | refine below_set ?_ GE651.out | refine below_set ?_ GE663.out) | exact HB.out)⟩⟩
  case rest =>
   clear HC11
   try clear c2
   try clear p2
   try clear c3
   try clear c3b0
   try clear c9
   try clear c22
   try clear c26
   try clear c26b0
   try clear c26b1
   try clear hcz13_0
   try clear hcz13_1
   try clear hcz15_0
   try clear hcz15_1
   try clear hcz19_0
   try clear hcz19_1
   try clear hcz23_0
   try clear hcz23_1
   try clear hcz5_0
   try clear hcz5_1
   try clear hfz13_0
   try clear hfz13_1
   try clear hfz15_0
   try clear hfz15_1
   try clear hfz19_0
   try clear hfz19_1
   try clear hfz23_0
   try clear hfz23_1
   try clear hfz5_0
   try clear hfz5_1
   obtain ⟨kq, x34_10, rfl, HA, HJ10, HO_664001, BK651, BK663, HB⟩ := hcut
   cases kq with
   | zero => exact absurd HA.out (by simp [laws_FnExactPuzzleText.j0])
   | succ kj10 =>
    have H := HA.out
    clear HA
    simp only [laws_FnExactPuzzleText.j0] at H
    by_cases c27 : x34_10 = true
    ·subst c27
     have H1 : (some false) = some r := by rw [if_pos rfl] at H; exact H
     clear H
     have H := H1
     clear H1
     obtain rfl := Option.some.inj H
     go_wp2
     go_ret
     exact ⟨by first | rfl | (simp [errW_none, errW_some] <;> rfl) | (simp [*, errW_none, errW_some] <;> rfl), by repeat (first | (with_reducible first | exact HB.out | apply below_alloc | apply pw_below_drewN | apply below_drew1 | refine below_set ?_ GE651.out | refine below_set ?_ GE663.out) | exact HB.out)⟩
    ·replace c27 := Bool.eq_false_iff.mpr c27
     subst c27
     have H1 : ((laws_toPuzzle.f kj10 a0_0 l0_1).bind fun bt666 => ((laws_eqPuzzle.f kj10 t659 t660 bt666.1 bt666.2).bind fun t670 => (if t670 = true then (some true) else (some false)))) = some r := by rw [if_neg (show ¬ (false = true) by decide)] at H; exact H
     clear H
     have H := H1
     clear H1
     replace H := Option.bind_eq_some_iff.mp H
     obtain ⟨⟨t666, t667⟩, A280, H⟩ := H
     replace H : ((laws_eqPuzzle.f kj10 t659 t660 t666 t667).bind fun t670 => (if t670 = true then (some true) else (some false))) = some r := H
     have A28 := Aside0.mk A280
     clear A280
     replace H := Option.bind_eq_some_iff.mp H
     obtain ⟨t670, A290, H⟩ := H
     replace H : (if t670 = true then (some true) else (some false)) = some r := H
     have A29 := Aside0.mk A290
     clear A290
     by_cases c30 : t670 = true
     ·subst c30
      have H1 : (some true) = some r := by rw [if_pos rfl] at H; exact H
      clear H
      have H := H1
      clear H1
      obtain rfl := Option.some.inj H
      try go_wp2
      have n0_ := Aside0.mk (Kd.R_drew HO_664001.out)
      have n1_ := Aside0.mk (blk_drew BK651.out)
      have n2_ := Aside0.mk (blk_drew BK663.out)
      have n3_ := Aside0.mk (below_drew1 HB.out)
      clear HO_664001
      clear BK651
      clear BK663
      clear HB
      have HO_664001 := n0_
      have BK651 := n1_
      have BK663 := n2_
      have HB := n3_
      clear n0_ n1_ n2_ n3_
      refine start_ (n := 5) (S := fun w' => w'.cell? ⟨gb663, 0, none⟩ = some (.int .i64 t659) ∧ w'.cell? ⟨gb663, 1, none⟩ = some (.slice Ao24 t660.length co24) ∧ w'.cell? ⟨gb651, 0, none⟩ = some (.int .i64 a0_0) ∧ w'.cell? ⟨gb651, 1, none⟩ = some (.slice A0_1 l0_1.length c0_1)) (ds := []) #[false, false, false, false, false] (by kernel_rfl) rfl rfl ⟨(blk_cell BK663.out 0).trans rfl, (blk_cell BK663.out 1).trans rfl, (blk_cell BK651.out 0).trans rfl, (blk_cell BK651.out 1).trans rfl⟩ (fun hHeld => ?_)
      generalize wc.drew = w31 at HO_664001 BK651 BK663 HB hHeld ⊢
      refine take_ (i := 0) (N := some 35) (v := ?_) (a' := ?_) #[true, false, false, false, false] rfl rfl (by kernel_rfl) (fun _ _ _ h => h) (Or.inl ⟨by rfl, ?_⟩) hHeld ?_ ?_
      rotate_left
      ·rintro w' ⟨s0, s1, s2, s3⟩
       go_simp
       with_reducible rfl
      rotate_left
      ·simp only [Act.put, List.setIfInBounds_toArray, List.set_cons_zero, List.set_cons_succ, i64_w, i32_w]
       rfl
      refine take_ (i := 1) (N := some 36) (v := ?_) (a' := ?_) #[true, true, false, false, false] rfl rfl (by kernel_rfl) (fun _ _ _ h => h) (Or.inl ⟨by rfl, ?_⟩) hHeld ?_ ?_
      rotate_left
      ·rintro w' ⟨s0, s1, s2, s3⟩
       go_simp
       with_reducible rfl
      rotate_left
      ·simp only [Act.put, List.setIfInBounds_toArray, List.set_cons_zero, List.set_cons_succ, i64_w, i32_w]
       rfl
      refine one_ (i := 2) (N := some 37) #[true, true, true, false, false] rfl rfl (by kernel_rfl) (by decide) (fun K hK => ?_)
      refine goes_ Tryd.func37 (by kernel_rfl) rfl #[.agg #[.int .i64 a0_0, .slice A0_1 l0_1.length c0_1]] (by rfl) rfl rfl (by (try simp only [List.map_toArray, List.map_cons, List.map_nil]); first | done | rfl | (simp only [List.length_drop, List.length_take]; rfl)) ?_
      with_reducible refine (laws_toPuzzle.calls kj10 a0_0 _ _ l0_1 t666 t667 _ ?side1 ?side2 A28.out).mono ?_
      (case side1 => repeat (first | exact (Kd.C_below HR0_1.out HB.out) | (with_reducible refine Kd.C_alloc ?_ _) | (with_reducible refine Kd.C_drewN ?_ _) | (with_reducible refine Kd.C_drew ?_)))
      (case side2 => exact HC0_1.out)
      rintro e w32 ⟨v668, rfl, ho0, hb⟩
      refine ⟨_, rfl, ?_⟩
      have n0_ := Aside0.mk (Kd.R_elder' (by (with_reducible repeat (first | apply Kd.R_alloc | apply Kd.R_drewN | apply Kd.R_drew)); exact HO_664001.out) (Kd.R_base ho0) hb)
      have n1_ := Aside0.mk (Kd.R_lower (Kd.R_new' ho0 (Kd.R_lt (by (with_reducible repeat (first | apply Kd.R_alloc | apply Kd.R_drewN | apply Kd.R_drew)); exact HO_664001.out))) (below_size (by repeat (first | (with_reducible first | exact HB.out | apply below_alloc | apply pw_below_drewN | apply below_drew1 | refine below_set ?_ GE651.out | refine below_set ?_ GE663.out) | exact HB.out))))
      have n2_ := Aside0.mk (blk_below (g := gb651) (o := .cells #[.int .i64 a0_0, .slice A0_1 l0_1.length c0_1] 46 (0, 0)) (by (with_reducible repeat (first | refine blk_drewN ?_ _ | refine blk_drew ?_ | refine blk_alloc ?_ _)); exact BK651.out) hb)
      have n3_ := Aside0.mk (blk_below (g := gb663) (o := .cells #[.int .i64 t659, .slice Ao24 t660.length co24] 52 (0, 0)) (by (with_reducible repeat (first | refine blk_drewN ?_ _ | refine blk_drew ?_ | refine blk_alloc ?_ _)); exact BK663.out) hb)
      have n4_ := Aside0.mk (below_step (by repeat (first | (with_reducible first | exact HB.out | apply below_alloc | apply pw_below_drewN | apply below_drew1 | refine below_set ?_ GE651.out | refine below_set ?_ GE663.out) | exact HB.out)) hb)
      clear HO_664001
      clear BK651
      clear BK663
      clear HB
      have HO_664001 := n0_
      have HO669 := n1_
      have BK651 := n2_
      have BK663 := n3_
      have HB := n4_
      clear n0_ n1_ n2_ n3_ n4_
      (try clear hb)
      (try clear hb2)
      (try clear hk)
      (try clear hi)
      (try clear ho0)
      obtain ⟨Ao33, co33, eo33⟩ := Kd.R_slice HO669.out
      (first | subst eo33 | (injection eo33 with f1_ f2_ f3_; have f4_ := f1_.symm; have f5_ := f3_.symm; clear f1_ f2_ f3_; subst f4_; subst f5_))
      refine hK.out _ _ ⟨(blk_cell BK663.out 0).trans rfl, (blk_cell BK663.out 1).trans rfl, (blk_cell BK651.out 0).trans rfl, (blk_cell BK651.out 1).trans rfl⟩ (fun hHeld => ?_)
      clear hK K
      refine norm_ (a' := ?_) ?_ ?_
      rotate_left
      ·show Act.put _ (some 37) _ = _
       simp only [Act.put, List.setIfInBounds_toArray, List.set_cons_zero, List.set_cons_succ, i64_w, i32_w]
       rfl
      refine one_ (i := 3) (N := some 38) #[true, true, true, true, false] rfl rfl (by kernel_rfl) (by decide) (fun K hK => ?_)
      refine goes_ Tryd.func39 (by kernel_rfl) rfl #[.agg #[.int .i64 t659, .slice Ao24 t660.length co24], .agg #[.int .i64 t666, .slice Ao33 t667.length co33]] (by rfl) rfl rfl (by (try simp only [List.map_toArray, List.map_cons, List.map_nil]); first | done | rfl | (simp only [List.length_drop, List.length_take]; rfl)) ?_
      with_reducible refine (laws_eqPuzzle.calls kj10 t659 _ _ t660 t666 _ _ t667 true _ ?side1 ?side2 ?side3 ?side4 A29.out).mono ?_
      (case side1 => repeat (first | exact (Kd.R_reads' HO_664001.out).2.2 | (with_reducible refine Kd.C_alloc ?_ _) | (with_reducible refine Kd.C_drewN ?_ _) | (with_reducible refine Kd.C_drew ?_)))
      (case side2 => exact (Kd.R_reads' HO_664001.out).2.1)
      (case side3 => repeat (first | exact (Kd.R_reads' HO669.out).2.2 | (with_reducible refine Kd.C_alloc ?_ _) | (with_reducible refine Kd.C_drewN ?_ _) | (with_reducible refine Kd.C_drew ?_)))
      (case side4 => exact (Kd.R_reads' HO669.out).2.1)
      rintro e w34 ⟨rfl, hb⟩
      refine ⟨_, rfl, ?_⟩
      have n0_ := Aside0.mk (Kd.R_below (by (with_reducible repeat (first | apply Kd.R_alloc | apply Kd.R_drewN | apply Kd.R_drew)); exact HO_664001.out) hb)
      have n1_ := Aside0.mk (Kd.R_below (by (with_reducible repeat (first | apply Kd.R_alloc | apply Kd.R_drewN | apply Kd.R_drew)); exact HO669.out) hb)
      have n2_ := Aside0.mk (blk_below (g := gb651) (o := .cells #[.int .i64 a0_0, .slice A0_1 l0_1.length c0_1] 46 (0, 0)) (by (with_reducible repeat (first | refine blk_drewN ?_ _ | refine blk_drew ?_ | refine blk_alloc ?_ _)); exact BK651.out) hb)
      have n3_ := Aside0.mk (blk_below (g := gb663) (o := .cells #[.int .i64 t659, .slice Ao24 t660.length co24] 52 (0, 0)) (by (with_reducible repeat (first | refine blk_drewN ?_ _ | refine blk_drew ?_ | refine blk_alloc ?_ _)); exact BK663.out) hb)
      have n4_ := Aside0.mk (below_step (by repeat (first | (with_reducible first | exact HB.out | apply below_alloc | apply pw_below_drewN | apply below_drew1 | refine below_set ?_ GE651.out | refine below_set ?_ GE663.out) | exact HB.out)) hb)
      clear HO_664001
      clear HO669
      clear BK651
      clear BK663
      clear HB
      have HO_664001 := n0_
      have HO669 := n1_
      have BK651 := n2_
      have BK663 := n3_
      have HB := n4_
      clear n0_ n1_ n2_ n3_ n4_
      (try clear hb)
      (try clear hb2)
      (try clear hk)
      (try clear hi)
      refine hK.out _ _ ⟨(blk_cell BK663.out 0).trans rfl, (blk_cell BK663.out 1).trans rfl, (blk_cell BK651.out 0).trans rfl, (blk_cell BK651.out 1).trans rfl⟩ (fun hHeld => ?_)
      clear hK K
      refine norm_ (a' := ?_) ?_ ?_
      rotate_left
      ·show Act.put _ (some 38) _ = _
       simp only [Act.put, List.setIfInBounds_toArray, List.set_cons_zero, List.set_cons_succ, i64_w, i32_w]
       rfl
      refine pure_ (i := 4) (N := some 39) (v := ?_) (a' := ?_) #[true, true, true, true, true] rfl rfl (by kernel_rfl) (fun _ _ _ h => h) (Or.inl ⟨by rfl, ?_⟩) ?_ ?_
      rotate_left
      ·intro w'
       go_simp
       with_reducible rfl
      rotate_left
      ·simp only [Act.put, List.setIfInBounds_toArray, List.set_cons_zero, List.set_cons_succ, i64_w, i32_w]
       rfl
      refine done_ (by kernel_rfl) ?_
      try go_wp2
      go_ret
      exact ⟨by first | rfl | (simp [errW_none, errW_some] <;> rfl) | (simp [*, errW_none, errW_some] <;> rfl), by repeat (first | (with_reducible first | exact HB.out | apply below_alloc | apply pw_below_drewN | apply below_drew1 | refine below_set ?_ GE651.out | refine below_set ?_ GE663.out) | exact HB.out)⟩
     ·replace c30 := Bool.eq_false_iff.mpr c30
      subst c30
      have H1 : (some false) = some r := by rw [if_neg (show ¬ (false = true) by decide)] at H; exact H
      clear H
      have H := H1
      clear H1
      obtain rfl := Option.some.inj H
      try go_wp2
      have n0_ := Aside0.mk (Kd.R_drew HO_664001.out)
      have n1_ := Aside0.mk (blk_drew BK651.out)
      have n2_ := Aside0.mk (blk_drew BK663.out)
      have n3_ := Aside0.mk (below_drew1 HB.out)
      clear HO_664001
      clear BK651
      clear BK663
      clear HB
      have HO_664001 := n0_
      have BK651 := n1_
      have BK663 := n2_
      have HB := n3_
      clear n0_ n1_ n2_ n3_
      refine start_ (n := 5) (S := fun w' => w'.cell? ⟨gb663, 0, none⟩ = some (.int .i64 t659) ∧ w'.cell? ⟨gb663, 1, none⟩ = some (.slice Ao24 t660.length co24) ∧ w'.cell? ⟨gb651, 0, none⟩ = some (.int .i64 a0_0) ∧ w'.cell? ⟨gb651, 1, none⟩ = some (.slice A0_1 l0_1.length c0_1)) (ds := []) #[false, false, false, false, false] (by kernel_rfl) rfl rfl ⟨(blk_cell BK663.out 0).trans rfl, (blk_cell BK663.out 1).trans rfl, (blk_cell BK651.out 0).trans rfl, (blk_cell BK651.out 1).trans rfl⟩ (fun hHeld => ?_)
      generalize wc.drew = w35 at HO_664001 BK651 BK663 HB hHeld ⊢
      refine take_ (i := 0) (N := some 35) (v := ?_) (a' := ?_) #[true, false, false, false, false] rfl rfl (by kernel_rfl) (fun _ _ _ h => h) (Or.inl ⟨by rfl, ?_⟩) hHeld ?_ ?_
      rotate_left
      ·rintro w' ⟨s0, s1, s2, s3⟩
       go_simp
       with_reducible rfl
      rotate_left
      ·simp only [Act.put, List.setIfInBounds_toArray, List.set_cons_zero, List.set_cons_succ, i64_w, i32_w]
       rfl
      refine take_ (i := 1) (N := some 36) (v := ?_) (a' := ?_) #[true, true, false, false, false] rfl rfl (by kernel_rfl) (fun _ _ _ h => h) (Or.inl ⟨by rfl, ?_⟩) hHeld ?_ ?_
      rotate_left
      ·rintro w' ⟨s0, s1, s2, s3⟩
       go_simp
       with_reducible rfl
      rotate_left
      ·simp only [Act.put, List.setIfInBounds_toArray, List.set_cons_zero, List.set_cons_succ, i64_w, i32_w]
       rfl
      refine one_ (i := 2) (N := some 37) #[true, true, true, false, false] rfl rfl (by kernel_rfl) (by decide) (fun K hK => ?_)
      refine goes_ Tryd.func37 (by kernel_rfl) rfl #[.agg #[.int .i64 a0_0, .slice A0_1 l0_1.length c0_1]] (by rfl) rfl rfl (by (try simp only [List.map_toArray, List.map_cons, List.map_nil]); first | done | rfl | (simp only [List.length_drop, List.length_take]; rfl)) ?_
      with_reducible refine (laws_toPuzzle.calls kj10 a0_0 _ _ l0_1 t666 t667 _ ?side1 ?side2 A28.out).mono ?_
      (case side1 => repeat (first | exact (Kd.C_below HR0_1.out HB.out) | (with_reducible refine Kd.C_alloc ?_ _) | (with_reducible refine Kd.C_drewN ?_ _) | (with_reducible refine Kd.C_drew ?_)))
      (case side2 => exact HC0_1.out)
      rintro e w36 ⟨v668, rfl, ho0, hb⟩
      refine ⟨_, rfl, ?_⟩
      have n0_ := Aside0.mk (Kd.R_elder' (by (with_reducible repeat (first | apply Kd.R_alloc | apply Kd.R_drewN | apply Kd.R_drew)); exact HO_664001.out) (Kd.R_base ho0) hb)
      have n1_ := Aside0.mk (Kd.R_lower (Kd.R_new' ho0 (Kd.R_lt (by (with_reducible repeat (first | apply Kd.R_alloc | apply Kd.R_drewN | apply Kd.R_drew)); exact HO_664001.out))) (below_size (by repeat (first | (with_reducible first | exact HB.out | apply below_alloc | apply pw_below_drewN | apply below_drew1 | refine below_set ?_ GE651.out | refine below_set ?_ GE663.out) | exact HB.out))))
      have n2_ := Aside0.mk (blk_below (g := gb651) (o := .cells #[.int .i64 a0_0, .slice A0_1 l0_1.length c0_1] 46 (0, 0)) (by (with_reducible repeat (first | refine blk_drewN ?_ _ | refine blk_drew ?_ | refine blk_alloc ?_ _)); exact BK651.out) hb)
      have n3_ := Aside0.mk (blk_below (g := gb663) (o := .cells #[.int .i64 t659, .slice Ao24 t660.length co24] 52 (0, 0)) (by (with_reducible repeat (first | refine blk_drewN ?_ _ | refine blk_drew ?_ | refine blk_alloc ?_ _)); exact BK663.out) hb)
      have n4_ := Aside0.mk (below_step (by repeat (first | (with_reducible first | exact HB.out | apply below_alloc | apply pw_below_drewN | apply below_drew1 | refine below_set ?_ GE651.out | refine below_set ?_ GE663.out) | exact HB.out)) hb)
      clear HO_664001
      clear BK651
      clear BK663
      clear HB
      have HO_664001 := n0_
      have HO669 := n1_
      have BK651 := n2_
      have BK663 := n3_
      have HB := n4_
      clear n0_ n1_ n2_ n3_ n4_
      (try clear hb)
      (try clear hb2)
      (try clear hk)
      (try clear hi)
      (try clear ho0)
      obtain ⟨Ao37, co37, eo37⟩ := Kd.R_slice HO669.out
      (first | subst eo37 | (injection eo37 with f1_ f2_ f3_; have f4_ := f1_.symm; have f5_ := f3_.symm; clear f1_ f2_ f3_; subst f4_; subst f5_))
      refine hK.out _ _ ⟨(blk_cell BK663.out 0).trans rfl, (blk_cell BK663.out 1).trans rfl, (blk_cell BK651.out 0).trans rfl, (blk_cell BK651.out 1).trans rfl⟩ (fun hHeld => ?_)
      clear hK K
      refine norm_ (a' := ?_) ?_ ?_
      rotate_left
      ·show Act.put _ (some 37) _ = _
       simp only [Act.put, List.setIfInBounds_toArray, List.set_cons_zero, List.set_cons_succ, i64_w, i32_w]
       rfl
      refine one_ (i := 3) (N := some 38) #[true, true, true, true, false] rfl rfl (by kernel_rfl) (by decide) (fun K hK => ?_)
      refine goes_ Tryd.func39 (by kernel_rfl) rfl #[.agg #[.int .i64 t659, .slice Ao24 t660.length co24], .agg #[.int .i64 t666, .slice Ao37 t667.length co37]] (by rfl) rfl rfl (by (try simp only [List.map_toArray, List.map_cons, List.map_nil]); first | done | rfl | (simp only [List.length_drop, List.length_take]; rfl)) ?_
      with_reducible refine (laws_eqPuzzle.calls kj10 t659 _ _ t660 t666 _ _ t667 false _ ?side1 ?side2 ?side3 ?side4 A29.out).mono ?_
      (case side1 => repeat (first | exact (Kd.R_reads' HO_664001.out).2.2 | (with_reducible refine Kd.C_alloc ?_ _) | (with_reducible refine Kd.C_drewN ?_ _) | (with_reducible refine Kd.C_drew ?_)))
      (case side2 => exact (Kd.R_reads' HO_664001.out).2.1)
      (case side3 => repeat (first | exact (Kd.R_reads' HO669.out).2.2 | (with_reducible refine Kd.C_alloc ?_ _) | (with_reducible refine Kd.C_drewN ?_ _) | (with_reducible refine Kd.C_drew ?_)))
      (case side4 => exact (Kd.R_reads' HO669.out).2.1)
      rintro e w38 ⟨rfl, hb⟩
      refine ⟨_, rfl, ?_⟩
      have n0_ := Aside0.mk (Kd.R_below (by (with_reducible repeat (first | apply Kd.R_alloc | apply Kd.R_drewN | apply Kd.R_drew)); exact HO_664001.out) hb)
      have n1_ := Aside0.mk (Kd.R_below (by (with_reducible repeat (first | apply Kd.R_alloc | apply Kd.R_drewN | apply Kd.R_drew)); exact HO669.out) hb)
      have n2_ := Aside0.mk (blk_below (g := gb651) (o := .cells #[.int .i64 a0_0, .slice A0_1 l0_1.length c0_1] 46 (0, 0)) (by (with_reducible repeat (first | refine blk_drewN ?_ _ | refine blk_drew ?_ | refine blk_alloc ?_ _)); exact BK651.out) hb)
      have n3_ := Aside0.mk (blk_below (g := gb663) (o := .cells #[.int .i64 t659, .slice Ao24 t660.length co24] 52 (0, 0)) (by (with_reducible repeat (first | refine blk_drewN ?_ _ | refine blk_drew ?_ | refine blk_alloc ?_ _)); exact BK663.out) hb)
      have n4_ := Aside0.mk (below_step (by repeat (first | (with_reducible first | exact HB.out | apply below_alloc | apply pw_below_drewN | apply below_drew1 | refine below_set ?_ GE651.out | refine below_set ?_ GE663.out) | exact HB.out)) hb)
      clear HO_664001
      clear HO669
      clear BK651
      clear BK663
      clear HB
      have HO_664001 := n0_
      have HO669 := n1_
      have BK651 := n2_
      have BK663 := n3_
      have HB := n4_
      clear n0_ n1_ n2_ n3_ n4_
      (try clear hb)
      (try clear hb2)
      (try clear hk)
      (try clear hi)
      refine hK.out _ _ ⟨(blk_cell BK663.out 0).trans rfl, (blk_cell BK663.out 1).trans rfl, (blk_cell BK651.out 0).trans rfl, (blk_cell BK651.out 1).trans rfl⟩ (fun hHeld => ?_)
      clear hK K
      refine norm_ (a' := ?_) ?_ ?_
      rotate_left
      ·show Act.put _ (some 38) _ = _
       simp only [Act.put, List.setIfInBounds_toArray, List.set_cons_zero, List.set_cons_succ, i64_w, i32_w]
       rfl
      refine pure_ (i := 4) (N := some 39) (v := ?_) (a' := ?_) #[true, true, true, true, true] rfl rfl (by kernel_rfl) (fun _ _ _ h => h) (Or.inl ⟨by rfl, ?_⟩) ?_ ?_
      rotate_left
      ·intro w'
       go_simp
       with_reducible rfl
      rotate_left
      ·simp only [Act.put, List.setIfInBounds_toArray, List.set_cons_zero, List.set_cons_succ, i64_w, i32_w]
       rfl
      refine done_ (by kernel_rfl) ?_
      try go_wp2
      go_ret
      exact ⟨by first | rfl | (simp [errW_none, errW_some] <;> rfl) | (simp [*, errW_none, errW_some] <;> rfl), by repeat (first | (with_reducible first | exact HB.out | apply below_alloc | apply pw_below_drewN | apply below_drew1 | refine below_set ?_ GE651.out | refine below_set ?_ GE663.out) | exact HB.out)⟩
end Go.Proofs.YtopahhcojncgaaaDoor.G
namespace Go.Proofs.YtopahhcojncgaaaDoor.G
open Go.RowKit Go.Proofs.YtopahhcojncgaaaDoorW.PrintWords Go.Proofs.YtopahhcojncgaaaDoorW.PrintLast Go.Proofs.YtopahhcojncgaaaDoorW.PrintMore
set_option linter.unusedVariables false
set_option linter.unusedSimpArgs false
def okClue (n : Int) (c : S130) : Prop :=
  ((c.f0 = 0 ∨ c.f0 = 1) ∧ 0 ≤ c.f1 ∧ c.f1 < c.f2 ∧ c.f2 < n) ∨ (c.f0 = 2 ∧ 0 ≤ c.f1 ∧ c.f1 < n ∧ 0 ≤ c.f2 ∧ c.f2 < n) ∨ (c.f0 = 3 ∧ 0 ≤ c.f1 ∧ c.f1 ≤ n * (n - 1) / 2 ∧ c.f2 = 0) ∨
  (c.f0 = 4 ∧ 0 ≤ c.f1 ∧ c.f1 ≤ 10 ∧ c.f2 = 0) ∨ (c.f0 = 5 ∧ 1 ≤ c.f1 ∧ c.f1 ≤ n ∧ c.f2 = 0)
instance (n : Int) (c : S130) : Decidable (okClue n c) := by unfold okClue; infer_instance
theorem within9_eq (x lo hi : Int) : impl_within.f x lo hi = some (decide (lo ≤ x ∧ x ≤ hi)) := by
  unfold impl_within.f
  by_cases h : lo ≤ x
  · rw [if_pos h]; congr 1; simp [h]
  · rw [if_neg h]; congr 1; simp [h]
theorem pzPeople_eq (n : Int) : spec_pzPeople.f n = some (decide (1 ≤ n ∧ n ≤ 5)) := by
  unfold spec_pzPeople.f; rw [l1In_eq]; rfl
theorem areGuests_eq (n : Int) : impl_areGuests.f n = some (decide (1 ≤ n ∧ n ≤ 5)) := by
  unfold impl_areGuests.f; rw [within9_eq]; rfl
theorem Ev.is_ {α : Type} {v u : α} (h : v = u) : Ev (fun _ => some v) u := by subst h; exact Ev.pure _
theorem choose2_eq (n : Int) (h : 1 ≤ n ∧ n ≤ 5) : Ev (fun k => impl_choose.f k n 2) (n * (n - 1) / 2) := by
  have hn : n = 1 ∨ n = 2 ∨ n = 3 ∨ n = 4 ∨ n = 5 := by omega
  refine ⟨5, fun k hk => ?_⟩
  obtain ⟨m, rfl⟩ : ∃ m, k = m + 5 := ⟨k - 5, by omega⟩
  rcases hn with rfl | rfl | rfl | rfl | rfl <;> simp [impl_choose.f, impl_within.f, impl_choose.l0, wrap64] <;> rfl
theorem pzClue_eq (n : Int) (h : 1 ≤ n ∧ n ≤ 5) (c : S130) : Ev (fun k => spec_pzClue.f k n c.f0 c.f1 c.f2) (decide (okClue n c)) := by
  have e1 : wrap64 (n - 1) = n - 1 := w64 (by omega) (by omega)
  obtain ⟨x, hx⟩ : ∃ x, n * (n - 1) / 2 = x ∧ wrap64 (Int.tdiv (wrap64 (n * (n - 1))) 2) = x := by
    have hn : n = 1 ∨ n = 2 ∨ n = 3 ∨ n = 4 ∨ n = 5 := by omega
    rcases hn with rfl | rfl | rfl | rfl | rfl <;> exact ⟨_, rfl, by decide +kernel⟩
  obtain ⟨k0, f1, f2⟩ := c
  simp only
  unfold okClue
  simp only [hx.1]
  unfold spec_pzClue.f
  have big : ∀ b : Bool, b = decide (k0 = 0 ∨ k0 = 1) → Ev (fun k => spec_pzClue.j0 k n k0 b k0 f1 f2) (decide (((k0 = 0 ∨ k0 = 1) ∧ 0 ≤ f1 ∧ f1 < f2 ∧ f2 < n) ∨ (k0 = 2 ∧ 0 ≤ f1 ∧ f1 < n ∧ 0 ≤ f2 ∧ f2 < n) ∨ (k0 = 3 ∧ 0 ≤ f1 ∧ f1 ≤ x ∧ f2 = 0) ∨ (k0 = 4 ∧ 0 ≤ f1 ∧ f1 ≤ 10 ∧ f2 = 0) ∨ (k0 = 5 ∧ 1 ≤ f1 ∧ f1 ≤ n ∧ f2 = 0))) := by
    intro b hb
    refine Ev.step (fun k => spec_pzClue.j0.eq_2 ..) ?_
    subst hb
    simp only [l1In_eq, Option.bind_some, e1, hx.2, decide_eq_true_eq]
    by_cases h01 : k0 = 0 ∨ k0 = 1
    · refine Ev.ifp h01 ?_
      by_cases hr : 0 ≤ f1 ∧ f1 ≤ n - 1
      · refine Ev.ifp hr (Ev.is_ ?_)
        rw [w64 (by omega) (by omega), decide_eq_decide]
        omega
      · refine Ev.ifn hr (Ev.is_ ?_)
        rw [eq_comm, decide_eq_false_iff_not]
        omega
    · refine Ev.ifn h01 ?_
      by_cases h2 : k0 = 2
      · refine Ev.ifp h2 ?_
        by_cases hr : 0 ≤ f1 ∧ f1 ≤ n - 1
        · refine Ev.ifp hr (Ev.is_ ?_)
          rw [decide_eq_decide]; omega
        · refine Ev.ifn hr (Ev.is_ ?_)
          rw [eq_comm, decide_eq_false_iff_not]; omega
      · refine Ev.ifn h2 ?_
        by_cases h3 : k0 = 3
        · refine Ev.ifp h3 ?_
          by_cases hr : 0 ≤ f1 ∧ f1 ≤ x
          · refine Ev.ifp hr (Ev.is_ ?_)
            rw [show (f2 == 0) = decide (f2 = 0) from rfl, decide_eq_decide]; omega
          · refine Ev.ifn hr (Ev.is_ ?_)
            rw [eq_comm, decide_eq_false_iff_not]; omega
        · refine Ev.ifn h3 ?_
          by_cases h4 : k0 = 4
          · refine Ev.ifp h4 ?_
            by_cases hr : 0 ≤ f1 ∧ f1 ≤ 10
            · refine Ev.ifp hr (Ev.is_ ?_)
              rw [show (f2 == 0) = decide (f2 = 0) from rfl, decide_eq_decide]; omega
            · refine Ev.ifn hr (Ev.is_ ?_)
              rw [eq_comm, decide_eq_false_iff_not]; omega
          · refine Ev.ifn h4 ?_
            by_cases h5 : k0 = 5
            · refine Ev.ifp h5 ?_
              by_cases hr : 1 ≤ f1 ∧ f1 ≤ n
              · refine Ev.ifp hr (Ev.is_ ?_)
                rw [show (f2 == 0) = decide (f2 = 0) from rfl, decide_eq_decide]; omega
              · refine Ev.ifn hr (Ev.is_ ?_)
                rw [eq_comm, decide_eq_false_iff_not]; omega
            · refine Ev.ifn h5 (Ev.is_ ?_)
              rw [eq_comm, decide_eq_false_iff_not]; omega
  by_cases h0 : k0 = 0
  · exact Ev.ifp h0 (big _ (by subst h0; rfl))
  · refine Ev.ifn h0 (big _ ?_)
    rw [show (k0 == 1) = decide (k0 = 1) from rfl, decide_eq_decide]; omega
theorem isClue_eq (n : Int) (h : 1 ≤ n ∧ n ≤ 5) (c : S130) : Ev (fun k => impl_IsClue.f k n c.f0 c.f1 c.f2) (decide (okClue n c)) := by
  have e1 : wrap64 (n - 1) = n - 1 := w64 (by omega) (by omega)
  obtain ⟨K, hK⟩ := choose2_eq n h
  obtain ⟨x, hx⟩ : ∃ x, n * (n - 1) / 2 = x := ⟨_, rfl⟩
  rw [hx] at hK
  obtain ⟨k0, f1, f2⟩ := c
  simp only
  unfold okClue
  simp only [hx]
  unfold impl_IsClue.f
  rw [areGuests_eq]
  simp only [Option.bind_some]
  refine Ev.ifp (by simpa using h) ?_
  have big : ∀ b : Bool, b = decide (k0 = 0 ∨ k0 = 1) → Ev (fun k => impl_IsClue.j0 k n k0 b k0 f1 f2) (decide (((k0 = 0 ∨ k0 = 1) ∧ 0 ≤ f1 ∧ f1 < f2 ∧ f2 < n) ∨ (k0 = 2 ∧ 0 ≤ f1 ∧ f1 < n ∧ 0 ≤ f2 ∧ f2 < n) ∨ (k0 = 3 ∧ 0 ≤ f1 ∧ f1 ≤ x ∧ f2 = 0) ∨ (k0 = 4 ∧ 0 ≤ f1 ∧ f1 ≤ 10 ∧ f2 = 0) ∨ (k0 = 5 ∧ 1 ≤ f1 ∧ f1 ≤ n ∧ f2 = 0))) := by
    intro b hb
    refine Ev.step (fun k => impl_IsClue.j0.eq_2 ..) ?_
    subst hb
    simp only [within9_eq, Option.bind_some, e1, decide_eq_true_eq]
    by_cases h01 : k0 = 0 ∨ k0 = 1
    · refine Ev.ifp h01 ?_
      by_cases hr : 0 ≤ f1 ∧ f1 ≤ n - 1
      · refine Ev.ifp hr ?_
        by_cases hr2 : 0 ≤ f2 ∧ f2 ≤ n - 1
        · refine Ev.ifp hr2 (Ev.is_ ?_)
          rw [decide_eq_decide]; omega
        · refine Ev.ifn hr2 (Ev.is_ ?_)
          rw [eq_comm, decide_eq_false_iff_not]; omega
      · refine Ev.ifn hr (Ev.is_ ?_)
        rw [eq_comm, decide_eq_false_iff_not]; omega
    · refine Ev.ifn h01 ?_
      by_cases h2 : k0 = 2
      · refine Ev.ifp h2 ?_
        by_cases hr : 0 ≤ f1 ∧ f1 ≤ n - 1
        · refine Ev.ifp hr (Ev.is_ ?_)
          rw [decide_eq_decide]; omega
        · refine Ev.ifn hr (Ev.is_ ?_)
          rw [eq_comm, decide_eq_false_iff_not]; omega
      · refine Ev.ifn h2 ?_
        by_cases h3 : k0 = 3
        · refine Ev.ifp h3 (Ev.bind ⟨K, hK⟩ ?_)
          by_cases hr : 0 ≤ f1 ∧ f1 ≤ x
          · refine Ev.ifp hr (Ev.is_ ?_)
            rw [show (f2 == 0) = decide (f2 = 0) from rfl, decide_eq_decide]; omega
          · refine Ev.ifn hr (Ev.is_ ?_)
            rw [eq_comm, decide_eq_false_iff_not]; omega
        · refine Ev.ifn h3 ?_
          by_cases h4 : k0 = 4
          · refine Ev.ifp h4 ?_
            by_cases hr : 0 ≤ f1 ∧ f1 ≤ 10
            · refine Ev.ifp hr (Ev.is_ ?_)
              rw [show (f2 == 0) = decide (f2 = 0) from rfl, decide_eq_decide]; omega
            · refine Ev.ifn hr (Ev.is_ ?_)
              rw [eq_comm, decide_eq_false_iff_not]; omega
          · refine Ev.ifn h4 ?_
            by_cases h5 : k0 = 5
            · refine Ev.ifp h5 ?_
              by_cases hr : 1 ≤ f1 ∧ f1 ≤ n
              · refine Ev.ifp hr (Ev.is_ ?_)
                rw [show (f2 == 0) = decide (f2 = 0) from rfl, decide_eq_decide]; omega
              · refine Ev.ifn hr (Ev.is_ ?_)
                rw [eq_comm, decide_eq_false_iff_not]; omega
            · refine Ev.ifn h5 (Ev.is_ ?_)
              rw [eq_comm, decide_eq_false_iff_not]; omega
  by_cases h0 : k0 = 0
  · exact Ev.ifp h0 (big _ (by subst h0; rfl))
  · refine Ev.ifn h0 (big _ ?_)
    rw [show (k0 == 1) = decide (k0 = 1) from rfl, decide_eq_decide]; omega
def goodP (n : Int) (l : List S130) : Prop := (1 ≤ n ∧ n ≤ 5) ∧ l.length ≤ 8 ∧ ∀ c ∈ l, okClue n c
theorem rd130 (l : List S130) (i : Nat) (h : i < l.length) : rd_T130 l (i : Int) = l[i] := by
  simp [rd_T130, List.getD_eq_getElem?_getD, h]
theorem pzGood_l0 (n : Int) (h : 1 ≤ n ∧ n ≤ 5) (l : List S130) (hl : l.length ≤ 8) : ∀ (d i : Nat), i + d = l.length →
    Ev (fun k => spec_pzGood.l0 k l (l.length : Int) (i : Int) n l) ((l.drop i).all (fun c => decide (okClue n c))) := by
  intro d
  induction d with
  | zero =>
    intro i hi
    rw [List.drop_of_length_le (by omega)]
    exact Ev.step (fun k => spec_pzGood.l0.eq_2 ..) (Ev.ifn (by omega) (Ev.pure _))
  | succ d ih =>
    intro i hi
    have hil : i < l.length := by omega
    refine Ev.step (fun k => spec_pzGood.l0.eq_2 ..) (Ev.ifp (by omega) (Ev.ifp (by omega) (Ev.ifp (by omega) (Ev.bind (pzClue_eq n h _) ?_))))
    rw [rd130 l i hil, List.drop_eq_getElem_cons hil, List.all_cons]
    by_cases hc : okClue n l[i]
    · refine Ev.ifp (by simpa using hc) ?_
      rw [w64 (by omega) (by omega), show ((i : Int) + 1) = ((i + 1 : Nat) : Int) by omega, decide_eq_true hc, Bool.true_and]
      exact ih (i + 1) (by omega)
    · refine Ev.ifn (by simpa using hc) (Ev.is_ ?_)
      rw [decide_eq_false hc, Bool.false_and]
theorem pzGood_eq (n : Int) (l : List S130) (hll : l.length < 4611686018427387904) : ∃ b : Bool, (b = true ↔ goodP n l) ∧ Ev (fun k => spec_pzGood.f k n l) b := by
  unfold spec_pzGood.f
  rw [pzPeople_eq]
  simp only [Option.bind_some]
  by_cases h : 1 ≤ n ∧ n ≤ 5
  · by_cases hl : l.length ≤ 8
    · refine ⟨l.all (fun c => decide (okClue n c)), ?_, Ev.ifp (by simpa using h) (Ev.step (fun k => spec_pzGood.j0.eq_2 ..) (Ev.ifn (by simp; omega) ?_))⟩
      · rw [List.all_eq_true]
        exact ⟨fun hc => ⟨h, hl, fun c hm => of_decide_eq_true (hc c hm)⟩, fun hg c hm => decide_eq_true (hg.2.2 c hm)⟩
      · have := pzGood_l0 n h l hl l.length 0 (by omega)
        exact this
    · exact ⟨false, ⟨fun h => absurd h (by decide), fun hg => absurd hg.2.1 hl⟩, Ev.ifp (by simpa using h) (Ev.step (fun k => spec_pzGood.j0.eq_2 ..) (Ev.ifp (by simp; omega) (Ev.pure _)))⟩
  · exact ⟨false, ⟨fun h => absurd h (by decide), fun hg => absurd hg.1 h⟩, Ev.ifn (by simpa using h) (Ev.step (fun k => spec_pzGood.j0.eq_2 ..) (Ev.ifp rfl (Ev.pure _)))⟩
theorem Ev.all {α β : Type} (F : Nat → α → Option β) (v : α → β) : ∀ (l : List α), (∀ x ∈ l, Ev (fun k => F k x) (v x)) → ∃ K, ∀ k, K ≤ k → ∀ x ∈ l, F k x = some (v x) := by
  intro l
  induction l with
  | nil => intro _; exact ⟨0, fun k _ x hx => absurd hx List.not_mem_nil⟩
  | cons a l ih =>
    intro h
    obtain ⟨K1, h1⟩ := h a (List.mem_cons_self ..)
    obtain ⟨K2, h2⟩ := ih (fun x hx => h x (List.mem_cons_of_mem _ hx))
    refine ⟨max K1 K2, fun k hk x hx => ?_⟩
    rcases List.mem_cons.1 hx with rfl | hx
    · exact h1 k (by omega)
    · exact h2 k (by omega) x hx
theorem isPuzzle_eq (n : Int) (l : List S130) : ∃ b : Bool, (b = true ↔ goodP n l) ∧ Ev (fun k => impl_IsPuzzle.f k n l) b := by
  unfold impl_IsPuzzle.f
  rw [areGuests_eq]
  simp only [Option.bind_some]
  by_cases h : 1 ≤ n ∧ n ≤ 5
  · by_cases hl : l.length ≤ 8
    · obtain ⟨K, hK⟩ := Ev.all (fun k (c : S130) => impl_IsClue.f k n c.f0 c.f1 c.f2) (fun c => decide (okClue n c)) l (fun c _ => isClue_eq n h c)
      refine ⟨l.all (fun c => decide (okClue n c)), ?_, Ev.ifp (by simpa using h) (Ev.ifp hl ⟨K, fun k hk => ?_⟩)⟩
      · rw [List.all_eq_true]
        exact ⟨fun hc => ⟨h, hl, fun c hm => of_decide_eq_true (hc c hm)⟩, fun hg c hm => decide_eq_true (hg.2.2 c hm)⟩
      · dsimp only
        rw [if_pos (fun x hx => by rw [hK k hk x hx]; rfl), any_congr l _ (fun c => !decide (okClue n c)) (fun x hx => by rw [hK k hk x hx]; rfl)]
        congr 1
        rw [List.all_eq_not_any_not]
    · exact ⟨false, ⟨fun h => absurd h (by decide), fun hg => absurd hg.2.1 hl⟩, Ev.ifp (by simpa using h) (Ev.ifn hl (Ev.pure _))⟩
  · exact ⟨false, ⟨fun h => absurd h (by decide), fun hg => absurd hg.1 h⟩, Ev.ifn (by simpa using h) (Ev.pure _)⟩
end Go.Proofs.YtopahhcojncgaaaDoor.G
namespace Go.Proofs.YtopahhcojncgaaaDoor.G
open Go.RowKit Go.Proofs.YtopahhcojncgaaaDoorW.PrintWords Go.Proofs.YtopahhcojncgaaaDoorW.PrintLast Go.Proofs.YtopahhcojncgaaaDoorW.PrintMore
set_option linter.unusedVariables false
set_option linter.unusedSimpArgs false
def dg (x : Int) : ByteArray := ⟨(Go.Lib.decDigits x.toNat).toArray⟩
theorem digits_lt (u : Nat) (h : u < 10) : Go.Lib.decDigits u = [UInt8.ofNat (48 + u)] := by unfold Go.Lib.decDigits; rw [dif_pos h]
theorem digits_10 : Go.Lib.decDigits 10 = [49, 48] := by
  unfold Go.Lib.decDigits
  rw [dif_neg (by decide), digits_lt (10 / 10) (by decide)]; rfl
theorem itoa_eq (x : Int) (h : 0 ≤ x ∧ x ≤ 10) : strconv_Itoa_146.f x = some (dg x) := by
  unfold strconv_Itoa_146.f dg
  rw [if_pos (by omega)]
theorem l1Num_eq (x : Int) (h : 0 ≤ x ∧ x ≤ 10) : Ev (fun k => spec_l1Num.f k x) (dg x) := by
  have hx : x = 0 ∨ x = 1 ∨ x = 2 ∨ x = 3 ∨ x = 4 ∨ x = 5 ∨ x = 6 ∨ x = 7 ∨ x = 8 ∨ x = 9 ∨ x = 10 := by omega
  have small : ∀ u : Nat, u < 10 → strOfNums (([(wrap64 (48 + (u : Int))) % 256] : List Int)) = dg (u : Int) := by
    intro u hu
    unfold dg
    rw [Int.toNat_natCast, digits_lt u hu]
    rw [show (wrap64 (48 + (u : Int))) % 256 = ((48 + u : Nat) : Int) by rw [w64 (by omega) (by omega)]; omega]
    rfl
  by_cases h10 : x < 10
  · refine Ev.step (fun k => spec_l1Num.f.eq_2 ..) (Ev.ifp h10 (Ev.is_ ?_))
    have := small x.toNat (by omega)
    rw [Int.toNat_of_nonneg h.1] at this
    exact this
  · obtain rfl : x = 10 := by omega
    refine Ev.step (fun k => spec_l1Num.f.eq_2 ..) (Ev.ifn h10 (Ev.bind (v := dg 1) ?_ ?_))
    · rw [show wrap64 (Int.tdiv 10 10) = 1 by decide +kernel]
      refine Ev.step (fun k => spec_l1Num.f.eq_2 ..) (Ev.ifp (by decide) (Ev.is_ ?_))
      exact small 1 (by decide)
    · simp only [Option.bind_some]
      rw [show (wrap64 (48 + Int.tmod 10 10)) % 256 = (wrap64 (48 + ((0 : Nat) : Int))) % 256 by decide +kernel, small 0 (by decide)]
      have e1 : dg 1 = ⟨#[49]⟩ := by unfold dg; rw [show (1 : Int).toNat = 1 from rfl, digits_lt 1 (by decide)]; rfl
      have e0 : dg ((0 : Nat) : Int) = ⟨#[48]⟩ := by unfold dg; rw [Int.toNat_natCast, digits_lt 0 (by decide)]; rfl
      have e10 : dg 10 = ⟨#[49, 48]⟩ := by unfold dg; rw [show (10 : Int).toNat = 10 from rfl, digits_10]
      rw [e1, e0, e10]
      exact Ev.ifp (by decide) (Ev.is_ rfl)
theorem dg_size (x : Int) (h : 0 ≤ x ∧ x ≤ 10) : (dg x).size ≤ 2 := by
  unfold dg
  by_cases h10 : x < 10
  · rw [digits_lt _ (by omega)]; show [_].toArray.size ≤ 2; simp
  · obtain rfl : x = 10 := by omega
    rw [show (10 : Int).toNat = 10 from rfl, digits_10]; decide
def dot : ByteArray := ⟨#[46]⟩
def comma : ByteArray := ⟨#[44]⟩
def colon : ByteArray := ⟨#[58]⟩
def ct (c : S130) : ByteArray := (((dg c.f0 ++ dot) ++ dg c.f1) ++ dot) ++ dg c.f2
def smallC (c : S130) : Prop := (0 ≤ c.f0 ∧ c.f0 ≤ 10) ∧ (0 ≤ c.f1 ∧ c.f1 ≤ 10) ∧ (0 ≤ c.f2 ∧ c.f2 ≤ 10)
theorem small_of {n : Int} {c : S130} (h : 1 ≤ n ∧ n ≤ 5) (hc : okClue n c) : smallC c := by
  have hx : n * (n - 1) / 2 ≤ 10 := by
    have hn : n = 1 ∨ n = 2 ∨ n = 3 ∨ n = 4 ∨ n = 5 := by omega
    rcases hn with rfl | rfl | rfl | rfl | rfl <;> decide
  unfold okClue at hc
  unfold smallC
  generalize n * (n - 1) / 2 = x at hx hc
  omega
theorem ct_size (c : S130) (h : smallC c) : (ct c).size ≤ 8 := by
  have h0 := dg_size _ h.1
  have h1 := dg_size _ h.2.1
  have h2 := dg_size _ h.2.2
  have hd : dot.size = 1 := rfl
  unfold ct
  simp only [ByteArray.size_append, hd]
  omega
theorem sz4 (a b c : ByteArray) (ha : a.size ≤ 2) (hb : b.size ≤ 2) (hc : c.size ≤ 2) : a.size + 1 ≤ 9223372036854775807 ∧ (a ++ (⟨#[46]⟩ : ByteArray)).size + b.size ≤ 9223372036854775807 ∧ ((a ++ (⟨#[46]⟩ : ByteArray)) ++ b).size + 1 ≤ 9223372036854775807 ∧
    (((a ++ (⟨#[46]⟩ : ByteArray)) ++ b) ++ (⟨#[46]⟩ : ByteArray)).size + c.size ≤ 9223372036854775807 ∧ ((((a ++ (⟨#[46]⟩ : ByteArray)) ++ b) ++ (⟨#[46]⟩ : ByteArray)) ++ c).size ≤ 8 := by
  simp only [ByteArray.size_append]
  rw [show (⟨#[46]⟩ : ByteArray).size = 1 from rfl]
  generalize a.size = x at *
  generalize b.size = y at *
  generalize c.size = z at *
  omega
theorem sz_acc (a x : ByteArray) (m : Nat) (ha : a.size ≤ m) (hx : x.size ≤ 8) (hm : m ≤ 1000) : a.size + x.size ≤ 9223372036854775807 ∧ a.size + 1 ≤ 9223372036854775807 ∧ (a ++ x).size ≤ m + 10 ∧ (a ++ (⟨#[44]⟩ : ByteArray)).size + x.size ≤ 9223372036854775807 ∧ ((a ++ (⟨#[44]⟩ : ByteArray)) ++ x).size ≤ m + 10 := by
  simp only [ByteArray.size_append]
  rw [show (⟨#[44]⟩ : ByteArray).size = 1 from rfl]
  generalize a.size = y at *
  generalize x.size = z at *
  omega
def specT : Nat → ByteArray → List S130 → ByteArray
  | _, a, [] => a
  | 0, a, c :: r => specT 1 (a ++ ct c) r
  | i + 1, a, c :: r => specT (i + 2) ((a ++ comma) ++ ct c) r
theorem pzText_l0 (l : List S130) (hl : l.length ≤ 8) (hs : ∀ c ∈ l, smallC c) : ∀ (d i : Nat) (a : ByteArray), i + d = l.length → a.size ≤ 10 + 10 * i → Ev (fun k => spec_pzText.l0 k a l (l.length : Int) (i : Int)) (specT i a (l.drop i)) := by
  intro d
  induction d with
  | zero =>
    intro i a hi ha
    rw [List.drop_of_length_le (by omega)]
    refine Ev.step (fun k => spec_pzText.l0.eq_2 ..) (Ev.ifn (by omega) (Ev.is_ ?_))
    cases i <;> rfl
  | succ d ih =>
    intro i a hi ha
    have hil : i < l.length := by omega
    have hc := hs _ (List.getElem_mem hil)
    have g1 : (i : Int) < (l.length : Int) := by omega
    have g2 : 0 ≤ (i : Int) := by omega
    have g3 : i = 0 → ¬ (i : Int) > 0 := by omega
    have g4 : i ≠ 0 → (i : Int) > 0 := by omega
    have g5 : 10 + 10 * i ≤ 1000 := by omega
    have g6 : (i + 1) + d = l.length := by omega
    have ew : wrap64 ((i : Int) + 1) = ((i + 1 : Nat) : Int) := by rw [w64 (by omega) (by omega)]; omega
    obtain ⟨b0, b1, b2, b3, b4⟩ := sz4 (dg l[i].f0) (dg l[i].f1) (dg l[i].f2) (dg_size _ hc.1) (dg_size _ hc.2.1) (dg_size _ hc.2.2)
    obtain ⟨s0, s1, s2, s3, s4⟩ := sz_acc a _ (10 + 10 * i) ha b4 g5
    have IH := ih (i + 1)
    rw [List.drop_eq_getElem_cons hil]
    refine Ev.step (fun k => spec_pzText.l0.eq_2 ..) ?_
    refine Ev.ifp g1 ?_
    refine Ev.ifp g2 ?_
    refine Ev.ifp g1 ?_
    rw [rd130 l i hil, ew]
    by_cases h0 : i = 0
    · refine Ev.ifn (g3 h0) ?_
      refine Ev.bind (l1Num_eq _ hc.1) ?_
      refine Ev.ifp b0 ?_
      refine Ev.bind (l1Num_eq _ hc.2.1) ?_
      refine Ev.ifp b1 ?_
      refine Ev.ifp b2 ?_
      refine Ev.bind (l1Num_eq _ hc.2.2) ?_
      refine Ev.ifp b3 ?_
      refine Ev.ifp s0 ?_
      refine Ev.cong ?_ (IH _ g6 s2)
      subst h0
      rfl
    · refine Ev.ifp (g4 h0) ?_
      refine Ev.ifp s1 ?_
      refine Ev.bind (l1Num_eq _ hc.1) ?_
      refine Ev.ifp b0 ?_
      refine Ev.bind (l1Num_eq _ hc.2.1) ?_
      refine Ev.ifp b1 ?_
      refine Ev.ifp b2 ?_
      refine Ev.bind (l1Num_eq _ hc.2.2) ?_
      refine Ev.ifp b3 ?_
      refine Ev.ifp s3 ?_
      refine Ev.cong ?_ (IH _ g6 s4)
      obtain ⟨j, rfl⟩ : ∃ j, i = j + 1 := ⟨i - 1, (Nat.succ_pred_eq_of_pos (Nat.pos_of_ne_zero h0)).symm⟩
      rfl
def jn (xs : List ByteArray) : ByteArray := ⟨(Go.Lib.join (xs.map (·.data.toList)) comma.data.toList).toArray⟩
theorem lens_le (xs : List (List UInt8)) (h : ∀ x ∈ xs, x.length ≤ 8) : Go.Lib.lens xs ≤ 8 * xs.length := by
  induction xs with
  | nil => exact Nat.zero_le _
  | cons x xs ih =>
    have h1 := h x (List.mem_cons_self ..)
    have h2 := ih (fun y hy => h y (List.mem_cons_of_mem _ hy))
    have e : Go.Lib.lens (x :: xs) = x.length + Go.Lib.lens xs := by simp [Go.Lib.lens]
    rw [e, List.length_cons]
    omega
theorem jn_len (xs : List ByteArray) (h : ∀ x ∈ xs, x.size ≤ 8) : (Go.Lib.join (xs.map (·.data.toList)) comma.data.toList).length ≤ 9 * xs.length := by
  cases xs with
  | nil => exact Nat.zero_le _
  | cons x xs =>
    rw [List.map_cons, Go.Lib.join_length]
    have := lens_le ((x :: xs).map (·.data.toList)) (fun y hy => by
      obtain ⟨z, hz, rfl⟩ := List.mem_map.1 hy
      have := h z hz
      rw [Array.length_toList]; exact this)
    rw [List.map_cons] at this
    have e : comma.data.toList.length = 1 := rfl
    rw [e]
    simp only [List.length_cons, List.length_map] at this ⊢
    omega
theorem jn_size (l : List S130) (hs : ∀ c ∈ l, smallC c) : (jn (l.map ct)).size ≤ 9 * l.length ∧ (Go.Lib.join ((l.map ct).map (·.data.toList)) comma.data.toList).length ≤ 9 * l.length := by
  have hj := jn_len (l.map ct) (fun x hx => by obtain ⟨c, hc, rfl⟩ := List.mem_map.1 hx; exact ct_size c (hs c hc))
  rw [List.length_map] at hj
  refine ⟨?_, hj⟩
  unfold jn
  show (List.toArray _).size ≤ _
  rw [List.size_toArray]; exact hj
theorem sz_end (a j : ByteArray) (m : Nat) (ha : a.size ≤ 2) (hj : j.size ≤ m) (hm : m ≤ 1000) : a.size + 1 ≤ 9223372036854775807 ∧ (a ++ (⟨#[58]⟩ : ByteArray)).size + j.size ≤ 9223372036854775807 ∧ (a ++ (⟨#[58]⟩ : ByteArray)).size ≤ 10 := by
  simp only [ByteArray.size_append]
  rw [show (⟨#[58]⟩ : ByteArray).size = 1 from rfl]
  generalize a.size = y at *
  generalize j.size = z at *
  omega
theorem puzzleText_l0 (n : Int) (h : 1 ≤ n ∧ n ≤ 5) (l : List S130) (hl : l.length ≤ 8) (hs : ∀ c ∈ l, smallC c) : ∀ (d i : Nat), i + d = l.length → Ev (fun k => impl_puzzleText.l0 k ((l.take i).map ct) l (l.length : Int) (i : Int) n l) ((dg n ++ colon) ++ jn (l.map ct)) := by
  intro d
  induction d with
  | zero =>
    intro i hi
    have g1 : ¬ (i : Int) < (l.length : Int) := by omega
    have g2 : 0 ≤ n ∧ n ≤ 10 := by omega
    have g3 : 9 * l.length ≤ 1000 := by omega
    have g4 : (l.map ct).length ≤ 140737488355328 := by rw [List.length_map]; omega
    have g5 : 9 * l.length ≤ 140737488355328 := by omega
    rw [List.take_of_length_le (by omega)]
    obtain ⟨hjs, hj⟩ := jn_size l hs
    obtain ⟨s0, s1, _⟩ := sz_end (dg n) _ _ (dg_size n g2) hjs g3
    have hJ : strings_Join.f (l.map ct) (⟨#[44]⟩ : ByteArray) = some (jn (l.map ct)) := by
      unfold strings_Join.f
      rw [if_pos ⟨g4, Nat.le_trans hj g5⟩]; rfl
    refine Ev.step (fun k => impl_puzzleText.l0.eq_2 ..) ?_
    refine Ev.ifn g1 ?_
    refine Ev.bindC (itoa_eq n g2) ?_
    refine Ev.ifp s0 ?_
    refine Ev.bindC hJ ?_
    refine Ev.ifp s1 ?_
    exact Ev.is_ rfl
  | succ d ih =>
    intro i hi
    have hil : i < l.length := by omega
    have hc := hs _ (List.getElem_mem hil)
    have g1 : (i : Int) < (l.length : Int) := by omega
    have g2 : 0 ≤ (i : Int) := by omega
    have g6 : (i + 1) + d = l.length := by omega
    have g7 : ((l.take i).map ct).length < 8796093022208 := by rw [List.length_map, List.length_take]; omega
    have ew : wrap64 ((i : Int) + 1) = ((i + 1 : Nat) : Int) := by rw [w64 (by omega) (by omega)]; omega
    obtain ⟨b0, b1, b2, b3, b4⟩ := sz4 (dg l[i].f0) (dg l[i].f1) (dg l[i].f2) (dg_size _ hc.1) (dg_size _ hc.2.1) (dg_size _ hc.2.2)
    have IH := ih (i + 1) g6
    rw [List.take_succ_eq_append_getElem hil, List.map_append] at IH
    refine Ev.step (fun k => impl_puzzleText.l0.eq_2 ..) ?_
    refine Ev.ifp g1 ?_
    refine Ev.ifp g2 ?_
    refine Ev.ifp g1 ?_
    rw [rd130 l i hil, ew]
    refine Ev.bindC (itoa_eq _ hc.1) ?_
    refine Ev.ifp b0 ?_
    refine Ev.bindC (itoa_eq _ hc.2.1) ?_
    refine Ev.ifp b1 ?_
    refine Ev.ifp b2 ?_
    refine Ev.bindC (itoa_eq _ hc.2.2) ?_
    refine Ev.ifp b3 ?_
    refine Ev.ifp g7 ?_
    exact IH
theorem ba_ext {a b : ByteArray} (h : a.data.toList = b.data.toList) : a = b := by
  obtain ⟨a⟩ := a
  obtain ⟨b⟩ := b
  congr 1
  exact Array.toList_inj.1 h
theorem data_app (a b : ByteArray) : (a ++ b).data.toList = a.data.toList ++ b.data.toList := by
  rw [ByteArray.data_append, Array.toList_append]
theorem specT_succ (l : List S130) : ∀ (i : Nat) (a : ByteArray), (specT (i + 1) a l).data.toList = a.data.toList ++ Go.Lib.joinTail comma.data.toList ((l.map ct).map (·.data.toList)) := by
  induction l with
  | nil => intro i a; show a.data.toList = _; simp [Go.Lib.joinTail]
  | cons c l ih =>
    intro i a
    show (specT (i + 2) ((a ++ comma) ++ ct c) l).data.toList = _
    rw [ih (i + 1), data_app, data_app]
    simp [Go.Lib.joinTail, List.append_assoc]
theorem texts_eq (n : Int) (l : List S130) : specT 0 (dg n ++ colon) l = (dg n ++ colon) ++ jn (l.map ct) := by
  apply ba_ext
  rw [data_app]
  cases l with
  | nil => show (dg n ++ colon).data.toList = _; simp [jn, Go.Lib.join_nil]
  | cons c l =>
    show (specT 1 ((dg n ++ colon) ++ ct c) l).data.toList = _
    rw [specT_succ l 0, data_app (dg n ++ colon), List.append_assoc]
    congr 1
    unfold jn
    rw [List.map_cons, List.map_cons, Go.Lib.join_cons]
theorem puzzleText_eq (n : Int) (l : List S130) (hll : l.length < 4611686018427387904) : ∃ (t : ByteArray) (b : Bool), Ev (fun k => spec_PuzzleText.f k n l) (t, b) ∧ Ev (fun k => impl_PuzzleText.f k n l) (t, b) := by
  obtain ⟨b1, hb1, e1⟩ := pzGood_eq n l hll
  obtain ⟨b2, hb2, e2⟩ := isPuzzle_eq n l
  have hb : b1 = b2 := by
    rw [Bool.eq_iff_iff, hb1, hb2]
  subst hb
  cases b1 with
  | false => exact ⟨_, false, Ev.bind e1 (Ev.ifn (by decide) (Ev.pure _)), Ev.bind e2 (Ev.ifn (by decide) (Ev.pure _))⟩
  | true =>
    obtain ⟨h, hl, hc⟩ := hb1.1 rfl
    have hs : ∀ c ∈ l, smallC c := fun c hm => small_of h (hc c hm)
    have g2 : 0 ≤ n ∧ n ≤ 10 := by omega
    have g3 : 0 + l.length = l.length := by omega
    obtain ⟨s0, _, s2⟩ := sz_end (dg n) (⟨#[]⟩ : ByteArray) 0 (dg_size n g2) (Nat.le_refl _) (by decide)
    have hS := pzText_l0 l hl hs l.length 0 (dg n ++ colon) g3 s2
    rw [List.drop_zero, texts_eq] at hS
    have hI := puzzleText_l0 n h l hl hs l.length 0 g3
    refine ⟨(dg n ++ colon) ++ jn (l.map ct), true, Ev.bind e1 (Ev.ifp rfl (Ev.bind (v := (dg n ++ colon) ++ jn (l.map ct)) ?_ (Ev.pure _))), Ev.bind e2 (Ev.ifp rfl (Ev.bind (v := (dg n ++ colon) ++ jn (l.map ct)) ?_ (Ev.pure _)))⟩
    · unfold spec_pzText.f
      refine Ev.bind (l1Num_eq n g2) ?_
      exact Ev.ifp s0 hS
    · unfold impl_puzzleText.f
      exact hI
def toC (x : S158) : S130 := ⟨x.f0, x.f1, x.f2⟩
theorem toClueS_l0 (l : List S158) (hl : l.length < 4611686018427387904) : ∀ (d i : Nat) (x : List S130), i + d = l.length → x.length = l.length → x.take i = (l.take i).map toC →
    Ev (fun k => laws_toClueS.l0 k l x (i : Int)) (l.map toC) := by
  intro d
  induction d with
  | zero =>
    intro i x hi hx ht
    have : x = l.map toC := by
      rw [List.take_of_length_le (by omega), List.take_of_length_le (by omega)] at ht
      exact ht
    subst this
    exact Ev.step (fun k => laws_toClueS.l0.eq_2 ..) (Ev.ifn (by omega) (Ev.pure _))
  | succ d ih =>
    intro i x hi hx ht
    refine Ev.step (fun k => laws_toClueS.l0.eq_2 ..) (Ev.ifp (by omega) (Ev.ifp (by omega) (Ev.bindC (v := ((rd_T158 l (i : Int)).f0, (rd_T158 l (i : Int)).f1, (rd_T158 l (i : Int)).f2)) rfl (Ev.ifp (by omega) ?_))))
    have hi1 : wrap64 ((i : Int) + 1) = ((i + 1 : Nat) : Int) := by rw [w64 (by omega) (by omega)]; omega
    rw [hi1]
    refine ih (i + 1) _ (by omega) (by rw [List.length_set]; exact hx) ?_
    have hil : i < l.length := by omega
    rw [Int.toNat_natCast, List.take_succ_eq_append_getElem (by rw [List.length_set]; omega), List.take_set_of_le (Nat.le_refl _), ht, List.take_succ_eq_append_getElem hil, List.map_append]
    congr 1
    rw [List.getElem_set_self]
    simp only [rd_T158, Int.toNat_natCast, List.getD_eq_getElem?_getD, List.getElem?_eq_getElem hil, Option.getD_some, List.map_cons, List.map_nil, toC]
theorem toPuzzle_eq (n : Int) (l : List S158) (hl : l.length ≤ 1048576) : Ev (fun k => laws_toPuzzle.f k n l) (n, l.map toC) := by
  unfold laws_toPuzzle.f laws_toClueS.f
  refine Ev.bind (v := l.map toC) (Ev.ifp (by omega) (Ev.ifp (by omega) ?_)) (Ev.pure _)
  exact toClueS_l0 l (by omega) l.length 0 _ (by omega) (by simp) (by simp)
theorem eqClueS_l0 (ps : List S130) (hl : ps.length < 4611686018427387904) : ∀ (d i : Nat), i + d = ps.length → Ev (fun k => laws_eqClueS.l0 k ps ps (i : Int)) true := by
  intro d
  induction d with
  | zero => intro i hi; exact Ev.step (fun k => laws_eqClueS.l0.eq_2 ..) (Ev.ifn (by omega) (Ev.pure _))
  | succ d ih =>
    intro i hi
    refine Ev.step (fun k => laws_eqClueS.l0.eq_2 ..) (Ev.ifp (by omega) (Ev.ifp (by omega) (Ev.ifp (by omega) (Ev.bindC (v := true) (by simp [laws_eqClue.f]) (Ev.ifp rfl ?_)))))
    have hi1 : wrap64 ((i : Int) + 1) = ((i + 1 : Nat) : Int) := by rw [w64 (by omega) (by omega)]; omega
    rw [hi1]
    exact ih (i + 1) (by omega)
theorem eqPuzzle_refl (n : Int) (ps : List S130) (hl : ps.length < 4611686018427387904) : Ev (fun k => laws_eqPuzzle.f k n ps n ps) true := by
  unfold laws_eqPuzzle.f laws_eqClueS.f
  exact Ev.ifp rfl (Ev.bind (v := true) (Ev.ifp rfl (eqClueS_l0 ps hl ps.length 0 (by omega))) (Ev.ifp rfl (Ev.pure _)))
theorem szPuzzle_eq (n : Int) (l : List S158) (hl : l.length ≤ 9223372036854775807) : laws_szPuzzle.f n l 1048576 = some (if l.length ≤ 1048576 then 1048576 - (l.length : Int) else -1) := by
  unfold laws_szPuzzle.f laws_szClueS.f
  rw [w64 (by omega) (by omega)]
  by_cases h : l.length ≤ 1048576
  · rw [if_neg (by omega), if_pos h, Option.bind_some, if_neg (by omega)]
  · rw [if_pos (by omega), if_neg h, Option.bind_some, if_pos (by omega)]
theorem FnExactPuzzleText_true (n : Int) (l : List S158) (hl : l.length ≤ 9223372036854775807) : ∃ k, laws_FnExactPuzzleText.f k n l = some true := by
  refine Ev.one ?_
  unfold laws_FnExactPuzzleText.f
  refine Ev.bindC (szPuzzle_eq n l hl) ?_
  by_cases h : l.length ≤ 1048576
  · rw [if_pos h]
    have hp : (l.map toC).length < 4611686018427387904 := by rw [List.length_map]; omega
    obtain ⟨t, b, h1, h2⟩ := puzzleText_eq n (l.map toC) hp
    have h3 := toPuzzle_eq n l h
    refine Ev.ifn (by omega) ?_
    refine Ev.bind h3 ?_
    refine Ev.bind h1 ?_
    refine Ev.bind h3 ?_
    refine Ev.bind h2 ?_
    refine Ev.ifp rfl ?_
    refine Ev.step (fun k => laws_FnExactPuzzleText.j0.eq_2 ..) ?_
    refine Ev.ifn (by simp) ?_
    refine Ev.bind h3 ?_
    refine Ev.bind (eqPuzzle_refl n _ hp) ?_
    exact Ev.ifp rfl (Ev.pure _)
  · rw [if_neg h]
    exact Ev.ifp (by decide) (Ev.pure _)
end Go.Proofs.YtopahhcojncgaaaDoor.G
