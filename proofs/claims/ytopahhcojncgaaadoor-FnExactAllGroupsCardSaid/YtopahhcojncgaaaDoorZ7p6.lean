/- Part 6 of the proof: texts merged. Conditions: those that each theorem states. -/
import Derived.Test.YtopahhcojncgaaaDoorZ7p2
import Derived.Test.YtopahhcojncgaaaDoorZ7p4
import Derived.Test.YtopahhcojncgaaaDoorZ7p5
namespace Go.Proofs.YtopahhcojncgaaaDoor.G
open Go.RowKit Go.Proofs.YtopahhcojncgaaaDoorW.PrintWords Go.Proofs.YtopahhcojncgaaaDoorW.PrintLast Go.Proofs.YtopahhcojncgaaaDoorW.PrintMore
attribute [local go_sem] max2_int min2_int max_two min_two max_three min_three max_four min_four
set_option linter.unusedVariables false
set_option linter.unusedSimpArgs false
def impl_AllGroups.f (k : Nat) (a0_0 : Int) (l0_1 : List (S98)) : Option ((List (List Int)) × Bool) := (impl_IsParty.f k a0_0 l0_1).bind fun t433 => (if t433 = true then ((impl_Party_table.f k a0_0 l0_1).bind fun t434 => ((impl_table_full.f t434).bind fun t437 => (some (t437, true)))) else (some (([] : List (List Int)), false)))
theorem impl_AllGroups.mono : ∀ a0 a1 k, LeO (impl_AllGroups.f k a0 a1) (impl_AllGroups.f (k + 1) a0 a1) := by
 intro a0 a1 k
 unfold impl_AllGroups.f
 repeat' first
   | (with_reducible exact impl_IsParty.mono _ _ _)
   | (with_reducible exact impl_Party_table.mono _ _ _)
   | (with_reducible exact LeO.refl _)
   | (with_reducible exact LeO.none _)
   | (with_reducible refine LeO.ite ?_ ?_)
   | (with_reducible refine LeO.bind ?_ (fun _ => ?_))
   | exact impl_IsParty.mono _ _ _
   | exact impl_Party_table.mono _ _ _
   | exact LeO.none _
   | refine LeO.ite ?_ ?_
   | refine LeO.bind ?_ (fun _ => ?_)
set_option maxHeartbeats 8000000 in
set_option maxRecDepth 100000 in
theorem impl_AllGroups.calls (k : Nat) (a0_0 : Int) (A0_1 : Option Addr) (c0_1 : Nat) (l0_1 : List (S98)) (r1 : List (List Int)) (r2 : Bool) (w : World) (hG : Laid32 w) (hr0_1 : Kd.C k98 w A0_1 l0_1.length l0_1) (hc0_1 : l0_1.length ≤ c0_1) (h : impl_AllGroups.f k a0_0 l0_1 = some (r1, r2)) :
  Calls Tryd.prog 29 #[.agg #[.int .i64 a0_0, .slice A0_1 l0_1.length c0_1]] w fun e w' => ∃ v0_ : Value, e = .returned (.tuple #[v0_, .bool r2]) ∧ Kd.S (Kd.slice 3 (Kd.int .i64)) 58 w' w.heap.size (fun _ => True) v0_ r1 ∧ Below w.heap.size w w' := by
 have hu30 := Tryd.underlying30
 have HG := Aside0.mk hG
 clear hG
 have HR0_1 := Aside0.mk hr0_1
 have HC0_1 := Aside0.mk hc0_1
 clear hr0_1 hc0_1
 have HB := Aside0.mk (Below.refl w.heap.size w)
 have H : ((impl_IsParty.f k a0_0 l0_1).bind fun t433 => (if t433 = true then ((impl_Party_table.f k a0_0 l0_1).bind fun t434 => ((impl_table_full.f t434).bind fun t437 => (some (t437, true)))) else (some (([] : List (List Int)), false)))) = some (r1, r2) := h
 clear h
 replace H := Option.bind_eq_some_iff.mp H
 obtain ⟨t433, A20, H⟩ := H
 replace H : (if t433 = true then ((impl_Party_table.f k a0_0 l0_1).bind fun t434 => ((impl_table_full.f t434).bind fun t437 => (some (t437, true)))) else (some (([] : List (List Int)), false))) = some (r1, r2) := H
 have A2 := Aside0.mk A20
 clear A20
 by_cases c3 : t433 = true
 ·subst c3
  have H1 : ((impl_Party_table.f k a0_0 l0_1).bind fun t434 => ((impl_table_full.f t434).bind fun t437 => (some (t437, true)))) = some (r1, r2) := by rw [if_pos rfl] at H; exact H
  clear H
  have H := H1
  clear H1
  replace H := Option.bind_eq_some_iff.mp H
  obtain ⟨t434, A40, H⟩ := H
  replace H : ((impl_table_full.f t434).bind fun t437 => (some (t437, true))) = some (r1, r2) := H
  have A4 := Aside0.mk A40
  clear A40
  replace H := Option.bind_eq_some_iff.mp H
  obtain ⟨t437, A50, H⟩ := H
  replace H : (some (t437, true)) = some (r1, r2) := H
  have A5 := Aside0.mk A50
  clear A50
  simp only [Option.some.injEq, Prod.mk.injEq] at H
  obtain ⟨rfl, rfl⟩ := H
  go_enter Tryd.func29, Tryd.ntmps29
  go_wp2_with (first | ((with_reducible refine gate_dst (N := 1) rfl ?_); refine box_event ?hg (N := 1) ?hd (cs := #[.int .i64 a0_0, .slice A0_1 l0_1.length c0_1]) (t := 30) ?hr ?_; (case hd => rfl); (case hg => rfl); (case hr => first | (go_simp; done) | (go_simp; rfl)); intro gb432 hg w6 hbox hb; have n0_ := Aside0.mk (below_step (by repeat (first | (with_reducible first | exact HB.out | apply below_alloc | apply pw_below_drewN | apply below_drew1) | exact HB.out)) hb); have n1_ := Aside0.mk (hbox); have n2_ := Aside0.mk ((by rw [hg]; exact (below_size (by repeat (first | (with_reducible first | exact HB.out | apply below_alloc | apply pw_below_drewN | apply below_drew1) | exact HB.out))) : w.heap.size ≤ gb432)); have n3_ := Aside0.mk ((by rw [hg]; exact (below_size (by repeat (first | (with_reducible first | exact HB.out | apply below_alloc | apply pw_below_drewN | apply below_drew1) | exact HB.out))) : w.heap.size ≤ gb432)); clear HB; have HB := n0_; have BK432 := n1_; have GW432 := n2_; have GE432 := n3_; clear n0_ n1_ n2_ n3_; clear hb hbox hg; have hcz7_0 : w6.cell? ⟨gb432, 0, none⟩ = some (.int .i64 a0_0) := (blk_cell BK432.out 0).trans rfl; have hcz7_1 : w6.cell? ⟨gb432, 1, none⟩ = some (.slice A0_1 l0_1.length c0_1) := (blk_cell BK432.out 1).trans rfl; have hfz7_0 := blk_frozen BK432.out 0; have hfz7_1 := blk_frozen BK432.out 1) | ((with_reducible refine gate_callee (f := 47) rfl ?_); refine goesL_ (some 5) rfl rfl Tryd.func47 (by kernel_rfl) rfl #[.agg #[.int .i64 a0_0, .slice A0_1 l0_1.length c0_1]] rfl (by (try simp only [List.map_toArray, List.map_cons, List.map_nil]); first | done | rfl | (simp only [List.length_drop, List.length_take]; rfl)) ?_; (with_reducible refine (impl_IsParty.calls k a0_0 _ _ l0_1 true _ ?side1 ?side2 A2.out).mono ?_); (case side1 => repeat (first | exact (Kd.C_below HR0_1.out HB.out) | (with_reducible refine Kd.C_alloc ?_ _) | (with_reducible refine Kd.C_drewN ?_ _) | (with_reducible refine Kd.C_drew ?_))); (case side2 => exact HC0_1.out); rintro e w8 ⟨rfl, hb⟩; refine ⟨_, rfl, ?_⟩; have n0_ := Aside0.mk (blk_below (g := gb432) (o := .cells #[.int .i64 a0_0, .slice A0_1 l0_1.length c0_1] 30 (0, 0)) (by (with_reducible repeat (first | refine blk_drewN ?_ _ | refine blk_drew ?_ | refine blk_alloc ?_ _)); exact BK432.out) hb); have n1_ := Aside0.mk (below_step (by repeat (first | (with_reducible first | exact HB.out | apply below_alloc | apply pw_below_drewN | apply below_drew1 | refine below_set ?_ GE432.out) | exact HB.out)) hb); clear BK432; clear HB; have BK432 := n0_; have HB := n1_; clear n0_ n1_; (try clear hb); (try clear hb2); (try clear hk); (try clear hi); have hcz9_0 : w8.cell? ⟨gb432, 0, none⟩ = some (.int .i64 a0_0) := (blk_cell BK432.out 0).trans rfl; have hcz9_1 : w8.cell? ⟨gb432, 1, none⟩ = some (.slice A0_1 l0_1.length c0_1) := (blk_cell BK432.out 1).trans rfl; have hfz9_0 := blk_frozen BK432.out 0; have hfz9_1 := blk_frozen BK432.out 1) | ((with_reducible refine gate_callee (f := 69) rfl ?_); refine goesL_ (some 8) rfl rfl Tryd.func69 (by kernel_rfl) rfl #[.agg #[.int .i64 a0_0, .slice A0_1 l0_1.length c0_1]] rfl (by (try simp only [List.map_toArray, List.map_cons, List.map_nil]); first | done | rfl | (simp only [List.length_drop, List.length_take]; rfl)) ?_; (with_reducible refine (impl_Party_table.calls k a0_0 _ _ l0_1 t434 _ ?side1 ?side2 A4.out).mono ?_); (case side1 => repeat (first | exact (Kd.C_below HR0_1.out HB.out) | (with_reducible refine Kd.C_alloc ?_ _) | (with_reducible refine Kd.C_drewN ?_ _) | (with_reducible refine Kd.C_drew ?_))); (case side2 => exact HC0_1.out); rintro e w10 ⟨v435, rfl, ho0, hb⟩; refine ⟨_, rfl, ?_⟩; have n0_ := Aside0.mk (Kd.R_lower ho0 (below_size (by repeat (first | (with_reducible first | exact HB.out | apply below_alloc | apply pw_below_drewN | apply below_drew1 | refine below_set ?_ GE432.out) | exact HB.out)))); have n1_ := Aside0.mk (blk_below (g := gb432) (o := .cells #[.int .i64 a0_0, .slice A0_1 l0_1.length c0_1] 30 (0, 0)) (by (with_reducible repeat (first | refine blk_drewN ?_ _ | refine blk_drew ?_ | refine blk_alloc ?_ _)); exact BK432.out) hb); have n2_ := Aside0.mk (below_step (by repeat (first | (with_reducible first | exact HB.out | apply below_alloc | apply pw_below_drewN | apply below_drew1 | refine below_set ?_ GE432.out) | exact HB.out)) hb); clear BK432; clear HB; have HO436 := n0_; have BK432 := n1_; have HB := n2_; clear n0_ n1_ n2_; (try clear hb); (try clear hb2); (try clear hk); (try clear hi); (try clear ho0); obtain ⟨Ao11, co11, eo11⟩ := Kd.R_slice HO436.out; subst eo11) | ((with_reducible refine gate_callee (f := 83) rfl ?_); refine goesL_ (some 9) rfl rfl Tryd.func83 (by kernel_rfl) rfl #[.slice Ao11 t434.length co11] rfl (by (try simp only [List.map_toArray, List.map_cons, List.map_nil]); first | done | rfl | (simp only [List.length_drop, List.length_take]; rfl)) ?_; (with_reducible refine (impl_table_full.calls _ _ t434 t437 _ ?side1 ?side2 ?side3 A5.out).mono ?_); (case side1 => first | exact HG.out | exact Laid32.drewN HG.out _ | exact Laid32.drew HG.out | exact (Laid32.drewN HG.out _).drewN _ | exact Laid32.below HG.out (by repeat (first | (with_reducible first | exact HB.out | apply below_alloc | apply pw_below_drewN | apply below_drew1 | refine below_set ?_ GE432.out) | exact HB.out))); (case side2 => repeat (first | exact (Kd.R_reads' HO436.out).2.2 | (with_reducible refine Kd.C_alloc ?_ _) | (with_reducible refine Kd.C_drewN ?_ _) | (with_reducible refine Kd.C_drew ?_))); (case side3 => exact (Kd.R_reads' HO436.out).2.1); rintro e w12 ⟨v438, rfl, ho0, hb⟩; refine ⟨_, rfl, ?_⟩; have n0_ := Aside0.mk (Kd.R_below (by (with_reducible repeat (first | apply Kd.R_alloc | apply Kd.R_drewN | apply Kd.R_drew)); exact HO436.out) hb); have n1_ := Aside0.mk (Kd.S_lower ho0 (below_size (by repeat (first | (with_reducible first | exact HB.out | apply below_alloc | apply pw_below_drewN | apply below_drew1 | refine below_set ?_ GE432.out) | exact HB.out)))); have n2_ := Aside0.mk (blk_below (g := gb432) (o := .cells #[.int .i64 a0_0, .slice A0_1 l0_1.length c0_1] 30 (0, 0)) (by (with_reducible repeat (first | refine blk_drewN ?_ _ | refine blk_drew ?_ | refine blk_alloc ?_ _)); exact BK432.out) hb); have n3_ := Aside0.mk (below_step (by repeat (first | (with_reducible first | exact HB.out | apply below_alloc | apply pw_below_drewN | apply below_drew1 | refine below_set ?_ GE432.out) | exact HB.out)) hb); clear HO436; clear BK432; clear HB; have HO436 := n0_; have HO439 := n1_; have BK432 := n2_; have HB := n3_; clear n0_ n1_ n2_ n3_; (try clear hb); (try clear hb2); (try clear hk); (try clear hi); (try clear ho0)))
  go_ret2
  exact ⟨_, by first | rfl | (simp [errW_none, errW_some] <;> rfl) | (simp [*, errW_none, errW_some] <;> rfl), by (with_reducible repeat (first | apply Kd.S_alloc | apply Kd.S_drewN | apply Kd.S_drew)); exact HO439.out, by repeat (first | (with_reducible first | exact HB.out | apply below_alloc | apply pw_below_drewN | apply below_drew1 | refine below_set ?_ GE432.out) | exact HB.out)⟩
 ·replace c3 := Bool.eq_false_iff.mpr c3
  subst c3
  have H1 : (some (([] : List (List Int)), false)) = some (r1, r2) := by rw [if_neg (show ¬ (false = true) by decide)] at H; exact H
  clear H
  have H := H1
  clear H1
  simp only [Option.some.injEq, Prod.mk.injEq] at H
  obtain ⟨rfl, rfl⟩ := H
  go_enter Tryd.func29, Tryd.ntmps29
  go_wp2_with (first | ((with_reducible refine gate_dst (N := 1) rfl ?_); refine box_event ?hg (N := 1) ?hd (cs := #[.int .i64 a0_0, .slice A0_1 l0_1.length c0_1]) (t := 30) ?hr ?_; (case hd => rfl); (case hg => rfl); (case hr => first | (go_simp; done) | (go_simp; rfl)); intro gb432 hg w13 hbox hb; have n0_ := Aside0.mk (below_step (by repeat (first | (with_reducible first | exact HB.out | apply below_alloc | apply pw_below_drewN | apply below_drew1) | exact HB.out)) hb); have n1_ := Aside0.mk (hbox); have n2_ := Aside0.mk ((by rw [hg]; exact (below_size (by repeat (first | (with_reducible first | exact HB.out | apply below_alloc | apply pw_below_drewN | apply below_drew1) | exact HB.out))) : w.heap.size ≤ gb432)); have n3_ := Aside0.mk ((by rw [hg]; exact (below_size (by repeat (first | (with_reducible first | exact HB.out | apply below_alloc | apply pw_below_drewN | apply below_drew1) | exact HB.out))) : w.heap.size ≤ gb432)); clear HB; have HB := n0_; have BK432 := n1_; have GW432 := n2_; have GE432 := n3_; clear n0_ n1_ n2_ n3_; clear hb hbox hg; have hcz14_0 : w13.cell? ⟨gb432, 0, none⟩ = some (.int .i64 a0_0) := (blk_cell BK432.out 0).trans rfl; have hcz14_1 : w13.cell? ⟨gb432, 1, none⟩ = some (.slice A0_1 l0_1.length c0_1) := (blk_cell BK432.out 1).trans rfl; have hfz14_0 := blk_frozen BK432.out 0; have hfz14_1 := blk_frozen BK432.out 1) | ((with_reducible refine gate_callee (f := 47) rfl ?_); refine goesL_ (some 5) rfl rfl Tryd.func47 (by kernel_rfl) rfl #[.agg #[.int .i64 a0_0, .slice A0_1 l0_1.length c0_1]] rfl (by (try simp only [List.map_toArray, List.map_cons, List.map_nil]); first | done | rfl | (simp only [List.length_drop, List.length_take]; rfl)) ?_; (with_reducible refine (impl_IsParty.calls k a0_0 _ _ l0_1 false _ ?side1 ?side2 A2.out).mono ?_); (case side1 => repeat (first | exact (Kd.C_below HR0_1.out HB.out) | (with_reducible refine Kd.C_alloc ?_ _) | (with_reducible refine Kd.C_drewN ?_ _) | (with_reducible refine Kd.C_drew ?_))); (case side2 => exact HC0_1.out); rintro e w15 ⟨rfl, hb⟩; refine ⟨_, rfl, ?_⟩; have n0_ := Aside0.mk (blk_below (g := gb432) (o := .cells #[.int .i64 a0_0, .slice A0_1 l0_1.length c0_1] 30 (0, 0)) (by (with_reducible repeat (first | refine blk_drewN ?_ _ | refine blk_drew ?_ | refine blk_alloc ?_ _)); exact BK432.out) hb); have n1_ := Aside0.mk (below_step (by repeat (first | (with_reducible first | exact HB.out | apply below_alloc | apply pw_below_drewN | apply below_drew1 | refine below_set ?_ GE432.out) | exact HB.out)) hb); clear BK432; clear HB; have BK432 := n0_; have HB := n1_; clear n0_ n1_; (try clear hb); (try clear hb2); (try clear hk); (try clear hi)))
  go_ret2
  exact ⟨_, by first | rfl | (simp [errW_none, errW_some] <;> rfl) | (simp [*, errW_none, errW_some] <;> rfl), by first | exact Kd.S_nil _ _ _ _ _ | exact Kd.N_nil _ _ _ _ _ | exact Kd.V_nil _ _ _ _ _ | exact Kd.Q_nil _ _ _ _ _ | exact Kd.R_nil _ _ _ _ _, by repeat (first | (with_reducible first | exact HB.out | apply below_alloc | apply pw_below_drewN | apply below_drew1 | refine below_set ?_ GE432.out) | exact HB.out)⟩
end Go.Proofs.YtopahhcojncgaaaDoor.G
namespace Go.Proofs.YtopahhcojncgaaaDoor.G
open Go.RowKit Go.Proofs.YtopahhcojncgaaaDoorW.PrintWords Go.Proofs.YtopahhcojncgaaaDoorW.PrintLast Go.Proofs.YtopahhcojncgaaaDoorW.PrintMore
set_option linter.unusedVariables false
set_option linter.unusedSimpArgs false
def laws_FnExactAllGroups.f (k : Nat) (n : Int) (l : List S144) : Option Bool :=
 (laws_szParty.f n l 1048576).bind fun lf => if lf < 0 then some true else (laws_toParty.f k n l).bind fun p => (spec_AllGroups.f k p.1 p.2).bind fun s => (impl_AllGroups.f k p.1 p.2).bind fun i => (laws_markParty.f k p.1 p.2 1).bind fun q =>
  if i = s ∧ laws_eqIntSS.f k s.1 s.1 = some true ∧ laws_eqParty.f k p.1 p.2 p.1 p.2 = some true ∧ 0 ≤ q.1 ∧ szSS s.1 < 1000000000000 ∧ s.1.length ≤ 1000000 ∧ laws_heldIntSS.f k (mkSS s.1 1) 1 = some (1 + (szSS s.1 : Int)) then some true else none
theorem rd_two (a b : Value) : (#[a, b] : Array Value)[0]? = some a ∧ (#[a, b] : Array Value)[1]? = some b := ⟨rfl, rfl⟩
set_option maxHeartbeats 8000000 in
set_option maxRecDepth 100000 in
theorem laws_FnExactAllGroups.calls (k : Nat) (a0_0 : Int) (A0_1 : Option Addr) (c0_1 : Nat) (l0_1 : List (S144)) (r : Bool) (w : World) (hG : Laid32 w) (hr0_1 : Kd.C k144 w A0_1 l0_1.length l0_1) (hc0_1 : l0_1.length ≤ c0_1) (h : laws_FnExactAllGroups.f k a0_0 l0_1 = some r) :
  Calls Tryd.prog 7 #[.agg #[.int .i64 a0_0, .slice A0_1 l0_1.length c0_1]] w fun e w' => e = .returned (.bool r) ∧ Below w.heap.size w w' := by
 have hu24 := Tryd.underlying24
 have hu30 := Tryd.underlying30
 have HG := Aside0.mk hG
 have HR0 := Aside0.mk hr0_1
 have HC0 := Aside0.mk hc0_1
 clear hG hr0_1 hc0_1
 unfold laws_FnExactAllGroups.f at h
 obtain ⟨lf, hsz, h⟩ := Option.bind_eq_some_iff.mp h
 have HSZ := Aside0.mk hsz
 clear hsz
 by_cases hlf : lf < 0
 ·rw [if_pos hlf] at h
  obtain rfl := Option.some.inj h
  have hlfb : decide (lf < 0) = true := decide_eq_true hlf
  clear h hlf
  go_enter Tryd.func7, Tryd.ntmps7
  go_wp2_with (first | ((with_reducible refine gate_dst (N := 1) rfl ?_); refine box_event ?hg (N := 1) ?hd (cs := #[.int .i64 a0_0, .slice A0_1 l0_1.length c0_1]) (t := 24) ?hr ?_; (case hd => rfl); (case hg => rfl); (case hr => first | (go_simp; done) | (go_simp; rfl)); intro gb hg w1 hbox hb; have B1 := Aside0.mk hb; have BK := Aside0.mk hbox; have hk0 : w1.cell? ⟨gb, 0, none⟩ = some (.int .i64 a0_0) := (blk_cell BK.out 0).trans rfl; have hk1 : w1.cell? ⟨gb, 1, none⟩ = some (.slice A0_1 l0_1.length c0_1) := (blk_cell BK.out 1).trans rfl; clear hg hbox hb) | ((with_reducible refine gate_callee (f := 13) rfl ?_); (with_reducible refine gate_dst (N := 16) rfl ?_); refine goesL_ (some 16) rfl rfl Tryd.func13 (by kernel_rfl) rfl #[.agg #[.int .i64 a0_0, .slice A0_1 l0_1.length c0_1], .int .i64 1048576] rfl (by (try simp only [List.map_toArray, List.map_cons, List.map_nil]); first | done | rfl) ?_; (with_reducible refine (laws_szParty.calls a0_0 A0_1 c0_1 l0_1 1048576 lf w1 (Kd.C_below HR0.out B1.out) HC0.out HSZ.out).mono ?_); rintro e w2_ ⟨rfl, hb⟩; refine ⟨_, rfl, ?_⟩; have B2 := Aside0.mk (below_step B1.out hb); replace BK := Aside0.mk (blk_below BK.out hb); clear hk0 hk1; have hk0 : w2_.cell? ⟨gb, 0, none⟩ = some (.int .i64 a0_0) := (blk_cell BK.out 0).trans rfl; have hk1 : w2_.cell? ⟨gb, 1, none⟩ = some (.slice A0_1 l0_1.length c0_1) := (blk_cell BK.out 1).trans rfl; clear hb B1))
  go_ret
  exact ⟨rfl, B2.out⟩
 ·rw [if_neg hlf] at h
  have hlfb : decide (lf < 0) = false := decide_eq_false hlf
  clear hlf
  obtain ⟨⟨n, ps⟩, hto, h2⟩ := Option.bind_eq_some_iff.mp h
  obtain ⟨⟨rr, bb⟩, hsp, h3⟩ := Option.bind_eq_some_iff.mp h2
  obtain ⟨⟨ri, bi⟩, him, h4⟩ := Option.bind_eq_some_iff.mp h3
  obtain ⟨⟨q, pq⟩, hmp, h5⟩ := Option.bind_eq_some_iff.mp h4
  clear h h2 h3 h4
  split at h5
  ·rename_i hc
   obtain ⟨e1, heq, hep, hq0, hsz2, hrl, hheld⟩ := hc
   injection e1 with e1 e2
   subst e1 e2
   obtain rfl := Option.some.inj h5
   have HTO := Aside0.mk hto
   have HSP := Aside0.mk hsp
   have HIM := Aside0.mk him
   have HMP := Aside0.mk hmp
   have HEQ := Aside0.mk heq
   have HEP := Aside0.mk hep
   have HHELD := Aside0.mk hheld
   have hqb : decide (q < 0) = false := decide_eq_false (by simp only at hq0; omega)
   have hbb : (bi != bi) = false := by simp
   obtain ⟨M, hM⟩ : ∃ M : Int, 1 + (szSS ri : Int) = M := ⟨_, rfl⟩
   have HM := Aside0.mk hM
   have hMb : decide (M < 0) = false := decide_eq_false (by omega)
   have hMM : (M != M) = false := by simp
   have Hsz2 := Aside0.mk (show szSS ri < 1000000000000 from hsz2)
   simp only at hrl
   clear h5 hto hsp him hmp heq hep hheld hq0 hM hsz2
   go_enter Tryd.func7, Tryd.ntmps7
   go_upto_region 10 with (first | ((with_reducible refine gate_dst (N := 1) rfl ?_); refine box_event ?hg (N := 1) ?hd (cs := #[.int .i64 a0_0, .slice A0_1 l0_1.length c0_1]) (t := 24) ?hr ?_; (case hd => rfl); (case hg => rfl); (case hr => first | (go_simp; done) | (go_simp; rfl)); intro gb hg w1 hbox hb; have B1 := Aside0.mk hb; have BK := Aside0.mk hbox; have hk0 : w1.cell? ⟨gb, 0, none⟩ = some (.int .i64 a0_0) := (blk_cell BK.out 0).trans rfl; have hk1 : w1.cell? ⟨gb, 1, none⟩ = some (.slice A0_1 l0_1.length c0_1) := (blk_cell BK.out 1).trans rfl; clear hg hbox hb) | ((with_reducible refine gate_callee (f := 13) rfl ?_); (with_reducible refine gate_dst (N := 16) rfl ?_); refine goesL_ (some 16) rfl rfl Tryd.func13 (by kernel_rfl) rfl #[.agg #[.int .i64 a0_0, .slice A0_1 l0_1.length c0_1], .int .i64 1048576] rfl (by (try simp only [List.map_toArray, List.map_cons, List.map_nil]); first | done | rfl) ?_; (with_reducible refine (laws_szParty.calls a0_0 A0_1 c0_1 l0_1 1048576 lf w1 (Kd.C_below HR0.out B1.out) HC0.out HSZ.out).mono ?_); rintro e w2_ ⟨rfl, hb⟩; refine ⟨_, rfl, ?_⟩; have B2 := Aside0.mk (below_step B1.out hb); replace BK := Aside0.mk (blk_below BK.out hb); clear hk0 hk1; have hk0 : w2_.cell? ⟨gb, 0, none⟩ = some (.int .i64 a0_0) := (blk_cell BK.out 0).trans rfl; have hk1 : w2_.cell? ⟨gb, 1, none⟩ = some (.slice A0_1 l0_1.length c0_1) := (blk_cell BK.out 1).trans rfl; clear hb B1) | ((with_reducible refine gate_callee (f := 15) rfl ?_); (with_reducible refine gate_dst (N := 21) rfl ?_); refine goesL_ (some 21) rfl rfl Tryd.func15 (by kernel_rfl) rfl #[.agg #[.int .i64 a0_0, .slice A0_1 l0_1.length c0_1]] rfl (by (try simp only [List.map_toArray, List.map_cons, List.map_nil]); first | done | rfl) ?_; (with_reducible refine (laws_toParty.calls k a0_0 A0_1 c0_1 l0_1 n ps w2_ (Kd.C_below HR0.out B2.out) HC0.out HTO.out).mono ?_); rintro e w3_ ⟨v_, rfl, ho, hb⟩; refine ⟨_, rfl, ?_⟩; obtain ⟨A3, c3, e3⟩ := Kd.R_slice ho; subst e3; have R3 := Aside0.mk ho; have B3 := Aside0.mk (below_step B2.out hb); replace BK := Aside0.mk (blk_below BK.out hb); clear hk0 hk1; have hk0 : w3_.cell? ⟨gb, 0, none⟩ = some (.int .i64 a0_0) := (blk_cell BK.out 0).trans rfl; have hk1 : w3_.cell? ⟨gb, 1, none⟩ = some (.slice A0_1 l0_1.length c0_1) := (blk_cell BK.out 1).trans rfl; clear ho hb B2) | ((with_reducible refine gate_callee (f := 28) rfl ?_); (with_reducible refine gate_dst (N := 22) rfl ?_); refine goesL_ (some 22) rfl rfl Tryd.func28 (by kernel_rfl) rfl #[.agg #[.int .i64 n, .slice A3 ps.length c3]] rfl (by (try simp only [List.map_toArray, List.map_cons, List.map_nil]); first | done | rfl) ?_; (with_reducible refine (spec_AllGroups.calls k n A3 c3 ps ri bi w3_ (Kd.R_reads' R3.out).2.2 (Kd.R_reads' R3.out).2.1 HSP.out).mono ?_); rintro e w4_ ⟨v_, rfl, hro, hb⟩; refine ⟨_, rfl, ?_⟩; obtain ⟨A4, c4, e4, hl4, hC4⟩ := hro; subst e4; have C4 := Aside0.mk (And.intro hl4 hC4); clear hl4 hC4; have B4 := Aside0.mk (below_step B3.out hb); replace BK := Aside0.mk (blk_below BK.out hb); clear hk0 hk1; have hk0 : w4_.cell? ⟨gb, 0, none⟩ = some (.int .i64 a0_0) := (blk_cell BK.out 0).trans rfl; have hk1 : w4_.cell? ⟨gb, 1, none⟩ = some (.slice A0_1 l0_1.length c0_1) := (blk_cell BK.out 1).trans rfl; clear hb B3 R3; have GB4 := Aside0.mk (blk_lt BK.out); have B44 := Aside0.mk (Below.refl w4_.heap.size w4_)) | ((with_reducible refine gate_callee (f := 15) rfl ?_); (with_reducible refine gate_dst (N := 26) rfl ?_); refine goesL_ (some 26) rfl rfl Tryd.func15 (by kernel_rfl) rfl #[.agg #[.int .i64 a0_0, .slice A0_1 l0_1.length c0_1]] rfl (by (try simp only [List.map_toArray, List.map_cons, List.map_nil]); first | done | rfl) ?_; (with_reducible refine (laws_toParty.calls k a0_0 A0_1 c0_1 l0_1 n ps w4_ (Kd.C_below HR0.out B4.out) HC0.out HTO.out).mono ?_); rintro e w5_ ⟨v_, rfl, ho, hb⟩; refine ⟨_, rfl, ?_⟩; obtain ⟨A5, c5, e5⟩ := Kd.R_slice ho; subst e5; have R5 := Aside0.mk ho; have B45 := Aside0.mk hb; have LW5 := Aside0.mk hb.size; replace BK := Aside0.mk (blk_below BK.out hb); clear hk0 hk1; have hk0 : w5_.cell? ⟨gb, 0, none⟩ = some (.int .i64 a0_0) := (blk_cell BK.out 0).trans rfl; have hk1 : w5_.cell? ⟨gb, 1, none⟩ = some (.slice A0_1 l0_1.length c0_1) := (blk_cell BK.out 1).trans rfl; clear ho hb B44; have B55 := Aside0.mk (Below.refl w5_.heap.size w5_)) | ((with_reducible refine gate_dst (N := 6) rfl ?_); refine box_event ?hg (N := 6) ?hd (cs := #[.int .i64 0, .slice none 0 0]) (t := 30) ?hr ?_; (case hd => rfl); (case hg => rfl); (case hr => first | (go_simp; done) | (go_simp; rfl)); intro gx hg w6 hbox hb; have R6 := Aside0.mk (Kd.R_below (Kd.R_mono (Kd.R_bound R5.out) (ok' := fun k => k < w5_.heap.size) (fun k hk => hk.2.2.1)) hb); have B46 := Aside0.mk (below_step B45.out hb); have XK := Aside0.mk hbox; have GX := Aside0.mk (show w5_.heap.size = gx from hg.symm); have NBX := Aside0.mk (show gb ≠ gx from by rw [hg]; exact Nat.ne_of_lt (blk_lt BK.out)); replace BK := Aside0.mk (blk_below BK.out hb); clear hk0 hk1; have hz0 : w6.cell? ⟨gx, 0, none⟩ = some (.int .i64 0) := (blk_cell XK.out 0).trans rfl; have hz1 : w6.cell? ⟨gx, 1, none⟩ = some (.slice none 0 0) := (blk_cell XK.out 1).trans rfl; have hy0 := blk_frozen XK.out 0; have hy1 := blk_frozen XK.out 1; clear R5 B45; clear hg hbox hb) | ((with_reducible refine gate_callee (f := 29) rfl ?_); (with_reducible refine gate_dst (N := 29) rfl ?_); have W6 : Aside0 (∃ W6, W6 = (w6.setCell ⟨gx, 0, none⟩ (.int .i64 n)).setCell ⟨gx, 1, none⟩ (.slice A5 ps.length c5)) := ⟨⟨_, rfl⟩⟩; obtain ⟨W6, hW6⟩ := W6.out; rw [← hW6]; have R7 : Aside0 (Kd.R k98 98 W6 w4_.heap.size (fun k => k < w5_.heap.size) (.slice A5 ps.length c5) ps) := ⟨by rw [hW6]; exact Kd.R_far (Kd.R_far R6.out (fun k hk e => by have h_ := GX.out; simp only at e; omega) _) (fun k hk e => by have h_ := GX.out; simp only at e; omega) _⟩; have X7 : Aside0 (W6.heap[gx]? = some (.cells #[.int .i64 n, .slice A5 ps.length c5] 30 (0, 0))) := ⟨by rw [hW6]; exact blk_put (cs := #[.int .i64 n, .slice none 0 0]) (blk_put (cs := #[.int .i64 0, .slice none 0 0]) XK.out 0 _ rfl) 1 _ rfl⟩; have B7 : Aside0 (Below w4_.heap.size w4_ W6) := ⟨by rw [hW6]; exact below_set (below_set B46.out (by have h_ := GX.out; have h2_ := LW5.out; (try simp only); omega)) (by have h_ := GX.out; have h2_ := LW5.out; (try simp only); omega)⟩; have K7 : Aside0 (W6.heap[gb]? = some (.cells #[.int .i64 a0_0, .slice A0_1 l0_1.length c0_1] 24 (0, 0))) := ⟨by rw [hW6]; exact blk_far (blk_far BK.out NBX.out _) NBX.out _⟩; have hn6 : w5_.heap.size < W6.heap.size := (by have h_ := blk_lt X7.out; rw [← GX.out] at h_; exact h_); clear hW6 R6 XK B46 BK hz0 hz1 hy0 hy1 B55; refine goesL_ (some 29) rfl rfl Tryd.func29 (by kernel_rfl) rfl #[.agg #[.int .i64 n, .slice A5 ps.length c5]] rfl (by (try simp only [List.map_toArray, List.map_cons, List.map_nil]); first | done | rfl) ?_; (with_reducible refine (impl_AllGroups.calls k n A5 c5 ps ri bi W6 (HG.out.below (below_then B4.out B4.out.size B7.out)) (Kd.R_reads' R7.out).2.2 (Kd.R_reads' R7.out).2.1 HIM.out).mono ?_); rintro e w7_ ⟨v_, rfl, ho, hb⟩; refine ⟨_, rfl, ?_⟩; obtain ⟨A7, c7, e7⟩ := Kd.S_slice ho; subst e7; have S8 := Aside0.mk (Kd.S_mono (Kd.S_bound ho) (ok' := fun k => W6.heap.size ≤ k ∧ k < w7_.heap.size) (fun k hk => ⟨hk.2.1, hk.2.2.1⟩)); have R8 := Aside0.mk (Kd.R_below R7.out hb); have X8 := Aside0.mk (blk_below X7.out hb); have K8 := Aside0.mk (blk_below K7.out hb); have B8 := Aside0.mk (below_step B7.out hb); have T8 := Aside0.mk hb.size; clear ho hb R7 X7 K7 B7) | ((with_reducible refine gate_callee (f := 30) rfl ?_); (with_reducible refine gate_dst (N := 34) rfl ?_); (try (refine gate_guard (by rfl) ?_; dsimp only)); refine goesL_ (some 34) rfl rfl Tryd.func30 (by kernel_rfl) rfl #[.slice A7 ri.length c7, .slice A4 ri.length c4] rfl (by (try simp only [List.map_toArray, List.map_cons, List.map_nil]); first | done | rfl) ?_; (with_reducible refine (laws_eqIntSS.calls k A7 c7 ri A4 c4 ri true w7_ (Kd.S_reads' S8.out).2.2 (Kd.S_reads' S8.out).2.1 (Kd.C_below C4.out.2 B8.out) C4.out.1 HEQ.out).mono ?_); rintro e w8_ ⟨rfl, hd⟩; refine ⟨_, rfl, ?_⟩; have S9 := Aside0.mk (Kd.S_below S8.out hd.below); have R9 := Aside0.mk (Kd.R_below R8.out hd.below); have X9 := Aside0.mk (blk_below X8.out hd.below); have K9 := Aside0.mk (blk_below K8.out hd.below); have B9 := Aside0.mk (below_step B8.out hd.below); have T9 := Aside0.mk hd.below.size; clear hd S8 R8 X8 K8 B8))
   (try simp only [Act.put, List.setIfInBounds_toArray, List.set_cons_zero, List.set_cons_succ])
   refine start_ (n := 5) (S := fun w' => (w'.cell? ⟨gx, 0, none⟩ = some (.int .i64 n) ∧ w'.cell? ⟨gx, 1, none⟩ = some (.slice A5 ps.length c5)) ∧ (w'.cell? ⟨gb, 0, none⟩ = some (.int .i64 a0_0) ∧ w'.cell? ⟨gb, 1, none⟩ = some (.slice A0_1 l0_1.length c0_1))) (ds := []) #[false, false, false, false, false] (by kernel_rfl) rfl rfl ⟨⟨(blk_cell (blk_drew X9.out) 0).trans rfl, (blk_cell (blk_drew X9.out) 1).trans rfl⟩, ⟨(blk_cell (blk_drew K9.out) 0).trans rfl, (blk_cell (blk_drew K9.out) 1).trans rfl⟩⟩ (fun hHeld => ?_)
   replace S9 := Aside0.mk (Kd.S_drew S9.out)
   replace R9 := Aside0.mk (Kd.R_drew R9.out)
   replace X9 := Aside0.mk (blk_drew X9.out)
   replace K9 := Aside0.mk (blk_drew K9.out)
   replace B9 := Aside0.mk (below_drew1 B9.out)
   replace T9 := Aside0.mk (show w7_.heap.size ≤ w8_.drew.heap.size from T9.out)
   generalize w8_.drew = w9 at S9 R9 X9 K9 B9 T9 hHeld ⊢
   refine take_ (i := 0) (N := some 41) (v := ?_) (a' := ?_) #[true, false, false, false, false] rfl rfl (by kernel_rfl) (fun _ _ _ h => h) (Or.inl ⟨by rfl, ?_⟩) hHeld ?_ ?_
   rotate_left
   ·rintro w' ⟨⟨s0, s1⟩, ⟨s2, s3⟩⟩
    go_simp
    with_reducible rfl
   rotate_left
   ·simp only [Act.put, List.setIfInBounds_toArray, List.set_cons_zero, List.set_cons_succ, i64_w, i32_w]
    rfl
   refine take_ (i := 1) (N := some 42) (v := ?_) (a' := ?_) #[true, true, false, false, false] rfl rfl (by kernel_rfl) (fun _ _ _ h => h) (Or.inl ⟨by rfl, ?_⟩) hHeld ?_ ?_
   rotate_left
   ·rintro w' ⟨⟨s0, s1⟩, ⟨s2, s3⟩⟩
    go_simp
    with_reducible rfl
   rotate_left
   ·simp only [Act.put, List.setIfInBounds_toArray, List.set_cons_zero, List.set_cons_succ, i64_w, i32_w]
    rfl
   refine one_ (i := 2) (N := some 43) #[true, true, true, false, false] rfl rfl (by kernel_rfl) (by decide) (fun K hK => ?_)
   refine goes_ Tryd.func15 (by kernel_rfl) rfl #[.agg #[.int .i64 a0_0, .slice A0_1 l0_1.length c0_1]] (by rfl) rfl rfl (by (try simp only [List.map_toArray, List.map_cons, List.map_nil]); first | done | rfl) ?_
   refine (laws_toParty.calls k a0_0 A0_1 c0_1 l0_1 n ps w9 (Kd.C_below HR0.out (below_then B4.out B4.out.size B9.out)) HC0.out HTO.out).mono ?_
   rintro e w10_ ⟨v_, rfl, ho, hb⟩
   refine ⟨_, rfl, ?_⟩
   obtain ⟨A10, c10, e10⟩ := Kd.R_slice ho
   subst e10
   have P10 := Aside0.mk ho
   have S10 := Aside0.mk (Kd.S_below S9.out hb)
   have R10 := Aside0.mk (Kd.R_below R9.out hb)
   have X10 := Aside0.mk (blk_below X9.out hb)
   have K10 := Aside0.mk (blk_below K9.out hb)
   have B10 := Aside0.mk (below_step B9.out hb)
   have T10 := Aside0.mk (Nat.le_trans T9.out hb.size)
   clear ho hb S9 R9 X9 K9 B9
   refine hK.out _ _ (⟨⟨(blk_cell X10.out 0).trans rfl, (blk_cell X10.out 1).trans rfl⟩, ⟨(blk_cell K10.out 0).trans rfl, (blk_cell K10.out 1).trans rfl⟩⟩) (fun hHeld => ?_)
   clear hK K
   refine norm_ (a' := ?_) ?_ ?_
   rotate_left
   ·show Act.put _ (some 43) _ = _
    simp only [Act.put, List.setIfInBounds_toArray, List.set_cons_zero, List.set_cons_succ, i64_w, i32_w]
    rfl
   refine one_ (i := 3) (N := some 44) #[true, true, true, true, false] rfl rfl (by kernel_rfl) (by decide) (fun K hK => ?_)
   refine goes_ Tryd.func17 (by kernel_rfl) rfl #[.agg #[.int .i64 n, .slice A5 ps.length c5], .agg #[.int .i64 n, .slice A10 ps.length c10]] (by rfl) rfl rfl (by (try simp only [List.map_toArray, List.map_cons, List.map_nil]); first | done | rfl) ?_
   refine (laws_eqParty.calls k n A5 c5 ps n A10 c10 ps true w10_ (Kd.R_reads' R10.out).2.2 (Kd.R_reads' R10.out).2.1 (Kd.R_reads' P10.out).2.2 (Kd.R_reads' P10.out).2.1 HEP.out).mono ?_
   rintro e w11_ ⟨rfl, hb⟩
   refine ⟨_, rfl, ?_⟩
   have S11 := Aside0.mk (Kd.S_below S10.out hb)
   have R11 := Aside0.mk (Kd.R_below R10.out hb)
   have X11 := Aside0.mk (blk_below X10.out hb)
   have K11 := Aside0.mk (blk_below K10.out hb)
   have B11 := Aside0.mk (below_step B10.out hb)
   have T11 := Aside0.mk (Nat.le_trans T10.out hb.size)
   clear hb S10 R10 X10 K10 B10 P10
   refine hK.out _ _ (⟨⟨(blk_cell X11.out 0).trans rfl, (blk_cell X11.out 1).trans rfl⟩, ⟨(blk_cell K11.out 0).trans rfl, (blk_cell K11.out 1).trans rfl⟩⟩) (fun hHeld => ?_)
   clear hK K
   refine norm_ (a' := ?_) ?_ ?_
   rotate_left
   ·show Act.put _ (some 44) _ = _
    simp only [Act.put, List.setIfInBounds_toArray, List.set_cons_zero, List.set_cons_succ, i64_w, i32_w]
    rfl
   refine pure_ (i := 4) (N := some 45) (v := ?_) (a' := ?_) #[true, true, true, true, true] rfl rfl (by kernel_rfl) (fun _ _ _ h => h) (Or.inl ⟨by rfl, ?_⟩) ?_ ?_
   rotate_left
   ·intro w'
    go_simp
    with_reducible rfl
   rotate_left
   ·simp only [Act.put, List.setIfInBounds_toArray, List.set_cons_zero, List.set_cons_succ, i64_w, i32_w]
    rfl
   refine done_ (by kernel_rfl) ?_
   have hx0 : w11_.cell? ⟨gx, 0, none⟩ = some (.int .i64 n) := (blk_cell X11.out 0).trans rfl
   have hx1 : w11_.cell? ⟨gx, 1, none⟩ = some (.slice A5 ps.length c5) := (blk_cell X11.out 1).trans rfl
   have HLEN : (mkSS ri 1).length = ri.length := mkSS_len ri 1
   have HHM := Aside0.mk (show laws_heldIntSS.f k (mkSS ri 1) 1 = some M from by rw [← HM.out]; exact HHELD.out)
   have KB := Aside0.mk (show gb < w4_.heap.size from GB4.out)
   have LW := Aside0.mk (show w4_.heap.size ≤ W6.heap.size from by have h_ := LW5.out; omega)
   go_wp2_with (first | ((with_reducible refine gate_callee (f := 23) rfl ?_); (with_reducible refine gate_dst (N := 48) rfl ?_); refine goesL_ (some 48) rfl rfl Tryd.func23 (by kernel_rfl) rfl #[.agg #[.int .i64 n, .slice A5 ps.length c5], .int .i64 1] rfl (by (try simp only [List.map_toArray, List.map_cons, List.map_nil]); first | done | rfl) ?_; (with_reducible refine (laws_markParty.calls k n (fun k => k < w5_.heap.size ∧ w4_.heap.size ≤ k) (.slice A5 ps.length c5) ps 1 q pq w4_ w11_ B11.out ?p1 HMP.out).mono ?_); (case p1 => exact Kd.R_mono (Kd.R_bound R11.out) (fun k hk => ⟨hk.1, hk.2.1⟩)); rintro e w12_ ⟨rfl, hR, hB, hk⟩; refine ⟨_, rfl, ?_⟩; have B12 := Aside0.mk hB; have K12 := Aside0.mk (blk_kept K11.out hk (fun h => by have h1 := KB.out; omega)); have S12 := Aside0.mk (Kd.S_kept S11.out hk (fun k hk h => by omega)); have T12 := Aside0.mk (Nat.le_trans T11.out hk.1); clear hR hB hk S11 R11 X11 K11 B11 hx0 hx1) | ((with_reducible refine gate_callee (f := 30) rfl ?_); (with_reducible refine gate_dst (N := 54) rfl ?_); (try (refine gate_guard (by rfl) ?_; dsimp only)); refine goesL_ (some 54) rfl rfl Tryd.func30 (by kernel_rfl) rfl #[.slice A7 ri.length c7, .slice A4 ri.length c4] rfl (by (try simp only [List.map_toArray, List.map_cons, List.map_nil]); first | done | rfl) ?_; (with_reducible refine (laws_eqIntSS.calls k A7 c7 ri A4 c4 ri true w12_ (Kd.S_reads' S12.out).2.2 (Kd.S_reads' S12.out).2.1 (Kd.C_below C4.out.2 B12.out) C4.out.1 HEQ.out).mono ?_); rintro e w13_ ⟨rfl, hd⟩; refine ⟨_, rfl, ?_⟩; have S13 := Aside0.mk (Kd.S_below S12.out hd.below); have K13 := Aside0.mk (blk_below K12.out hd.below); have B13 := Aside0.mk (below_step B12.out hd.below); have T13 := Aside0.mk (Nat.le_trans T12.out hd.below.size); clear hd S12 K12 B12) | ((with_reducible refine gate_callee (f := 31) rfl ?_); (with_reducible refine gate_dst (N := 64) rfl ?_); refine goesL_ (some 64) rfl rfl Tryd.func31 (by kernel_rfl) rfl #[.slice A7 ri.length c7, .int .i64 1] rfl (by (try simp only [List.map_toArray, List.map_cons, List.map_nil]); first | done | rfl) ?_; (with_reducible refine (laws_markIntSS.walk w4_ w13_ (fun k => W6.heap.size ≤ k ∧ k < w7_.heap.size) A7 c7 ri 1 ri.length rfl (by decide) (by have h_ := Hsz2.out; omega) B13.out ?p1 hrl).mono ?_); (case p1 => exact Kd.S_lower S13.out LW.out); rintro e w14_ ⟨rfl, hS, hB, hk⟩; refine ⟨_, rfl, ?_⟩; rw [HM.out]; have S14 := Aside0.mk hS; have B14 := Aside0.mk hB; have K14 := Aside0.mk (blk_kept K13.out hk (fun h => by have h1 := KB.out; have h2 := LW.out; omega)); have T14 := Aside0.mk (Nat.le_trans T13.out hk.1); clear hS hB hk S13 K13 B13) | ((with_reducible refine gate_callee (f := 32) rfl ?_); (with_reducible refine gate_dst (N := 67) rfl ?_); refine goesL_ (some 67) rfl rfl Tryd.func32 (by kernel_rfl) rfl #[.slice A7 ri.length c7, .int .i64 1] rfl (by (try simp only [List.map_toArray, List.map_cons, List.map_nil]); first | done | rfl) ?_; (with_reducible refine ((HLEN ▸ laws_heldIntSS.calls k A7 c7 (mkSS ri 1) 1 M w14_ (Kd.S_reads' S14.out).2.2 (by rw [mkSS_len]; exact (Kd.S_reads' S14.out).2.1) HHM.out)).mono ?_); rintro e w15_ ⟨rfl, hd⟩; refine ⟨_, rfl, ?_⟩; have S15 := Aside0.mk (Kd.S_below S14.out hd.below); have K15 := Aside0.mk (blk_below K14.out hd.below); have B15 := Aside0.mk (below_step B14.out hd.below); clear hd S14 K14 B14; have hk0 : w15_.cell? ⟨gb, 0, none⟩ = some (.int .i64 a0_0) := (blk_cell K15.out 0).trans rfl; have hk1 : w15_.cell? ⟨gb, 1, none⟩ = some (.slice A0_1 l0_1.length c0_1) := (blk_cell K15.out 1).trans rfl) | ((with_reducible refine gate_callee (f := 15) rfl ?_); (with_reducible refine gate_dst (N := 75) rfl ?_); refine goesL_ (some 75) rfl rfl Tryd.func15 (by kernel_rfl) rfl #[.agg #[.int .i64 a0_0, .slice A0_1 l0_1.length c0_1]] rfl (by (try simp only [List.map_toArray, List.map_cons, List.map_nil]); first | done | rfl) ?_; (with_reducible refine (laws_toParty.calls k a0_0 A0_1 c0_1 l0_1 n ps w15_ (Kd.C_below HR0.out (below_then B4.out B4.out.size B15.out)) HC0.out HTO.out).mono ?_); rintro e w16_ ⟨v_, rfl, ho, hb⟩; refine ⟨_, rfl, ?_⟩; obtain ⟨A16, c16, e16⟩ := Kd.R_slice ho; subst e16; have R16 := Aside0.mk ho; have S16 := Aside0.mk (Kd.S_below S15.out hb); have B16 := Aside0.mk (below_step B15.out hb); clear ho hb S15 B15 K15 hk0 hk1) | ((with_reducible refine gate_callee (f := 29) rfl ?_); (with_reducible refine gate_dst (N := 76) rfl ?_); refine goesL_ (some 76) rfl rfl Tryd.func29 (by kernel_rfl) rfl #[.agg #[.int .i64 n, .slice A16 ps.length c16]] rfl (by (try simp only [List.map_toArray, List.map_cons, List.map_nil]); first | done | rfl) ?_; (with_reducible refine (impl_AllGroups.calls k n A16 c16 ps ri bi w16_ (HG.out.below (below_then B4.out B4.out.size B16.out)) (Kd.R_reads' R16.out).2.2 (Kd.R_reads' R16.out).2.1 HIM.out).mono ?_); rintro e w17_ ⟨v_, rfl, ho, hb⟩; refine ⟨_, rfl, ?_⟩; obtain ⟨A17, c17, e17⟩ := Kd.S_slice ho; subst e17; have P17 := Aside0.mk ho; have S17 := Aside0.mk (Kd.S_below S16.out hb); have B17 := Aside0.mk (below_step B16.out hb); clear ho hb S16 B16 R16) | ((with_reducible refine gate_callee (f := 30) rfl ?_); (with_reducible refine gate_dst (N := 81) rfl ?_); (try (refine gate_guard (by rfl) ?_; dsimp only)); refine goesL_ (some 81) rfl rfl Tryd.func30 (by kernel_rfl) rfl #[.slice A17 ri.length c17, .slice A4 ri.length c4] rfl (by (try simp only [List.map_toArray, List.map_cons, List.map_nil]); first | done | rfl) ?_; (with_reducible refine (laws_eqIntSS.calls k A17 c17 ri A4 c4 ri true w17_ (Kd.S_reads' P17.out).2.2 (Kd.S_reads' P17.out).2.1 (Kd.C_below C4.out.2 B17.out) C4.out.1 HEQ.out).mono ?_); rintro e w18_ ⟨rfl, hd⟩; refine ⟨_, rfl, ?_⟩; replace S17 := Aside0.mk (Kd.S_below S17.out hd.below); replace B17 := Aside0.mk (below_step B17.out hd.below); clear hd P17) | ((with_reducible refine gate_callee (f := 32) rfl ?_); (with_reducible refine gate_dst (N := 90) rfl ?_); refine goesL_ (some 90) rfl rfl Tryd.func32 (by kernel_rfl) rfl #[.slice A7 ri.length c7, .int .i64 1] rfl (by (try simp only [List.map_toArray, List.map_cons, List.map_nil]); first | done | rfl) ?_; (with_reducible refine ((HLEN ▸ laws_heldIntSS.calls k A7 c7 (mkSS ri 1) 1 M w18_ (Kd.S_reads' S17.out).2.2 (by rw [mkSS_len]; exact (Kd.S_reads' S17.out).2.1) HHM.out)).mono ?_); rintro e w19_ ⟨rfl, hd⟩; refine ⟨_, rfl, ?_⟩; replace B17 := Aside0.mk (below_step B17.out hd.below); clear hd S17))
   go_ret
   exact ⟨rfl, below_then B4.out B4.out.size B17.out⟩
  ·cases h5
end Go.Proofs.YtopahhcojncgaaaDoor.G
namespace Go.Proofs.YtopahhcojncgaaaDoor.G
open Go.RowKit Go.Proofs.YtopahhcojncgaaaDoorW.PrintWords Go.Proofs.YtopahhcojncgaaaDoorW.PrintLast Go.Proofs.YtopahhcojncgaaaDoorW.PrintMore
set_option linter.unusedVariables false
set_option linter.unusedSimpArgs false
theorem flatMap_cong {α β : Type} (L : List α) (f g : α → List β) (h : ∀ a ∈ L, f a = g a) : L.flatMap f = L.flatMap g := by
  induction L with
  | nil => rfl
  | cons a L ih => rw [List.flatMap_cons, List.flatMap_cons, h a (List.mem_cons_self ..), ih (fun b hb => h b (List.mem_cons_of_mem _ hb))]
theorem glF_fuel (T : List (List Bool)) : ∀ (m : Nat) (p : List Nat) (i : Nat), 0 < m → T.length < i + m → glF T (m + 1) p i = glF T m p i := by
  intro m
  induction m with
  | zero => intro p i h; omega
  | succ m ih =>
    intro p i _ h
    show p :: _ = p :: _
    congr 1
    refine flatMap_cong _ _ _ (fun a ha => ?_)
    obtain ⟨h1, h2⟩ := List.mem_filter.1 ha
    have h3 := List.mem_range.1 h1
    have h4 : i ≤ a := by simp at h2; exact h2.1
    exact ih _ _ (by omega) (by omega)
theorem glF_fuel_le (T : List (List Bool)) (m d : Nat) (hm : 0 < m) (h : T.length < m) : glF T (m + d) [] 0 = glF T m [] 0 := by
  induction d with
  | zero => rfl
  | succ d ih => rw [← ih, ← Nat.add_assoc]; exact glF_fuel T (m + d) [] 0 (by omega) (by omega)
theorem szSS_le (c : Nat) (l : List (List Int)) (h : ∀ r ∈ l, r.length ≤ c) : szSS l ≤ l.length * c := by
  induction l with
  | nil => exact Nat.zero_le _
  | cons r l ih =>
    have h1 := ih (fun x hx => h x (List.mem_cons_of_mem _ hx))
    have h2 := h r (List.mem_cons_self ..)
    have : szSS (r :: l) = r.length + szSS l := by simp [szSS]
    rw [this, List.length_cons, Nat.add_mul]
    omega
theorem fulls_both (N : Nat) (hN : N < 16) (A : Nat → Nat → Bool) (hs : ∀ a b, A a b = A b a) (hi : ∀ a, A a a = false) (T : List (List Bool)) (t : List Int) (hTl : T.length = N) (hT : ∀ a b, a < N → b < N → tab T a b = A a b)
    (htl : t.length = N) (ht : ∀ a b, a < N → b < N → (t.getD a 0).toNat.testBit b = A a b) (htr : ∀ a, 0 ≤ t.getD a 0 ∧ t.getD a 0 < 2 ^ N) :
    impl_table_full.f t = some (grFl T (glF T (T.length + 1) [] 0)) ∧ (grFl T (glF T (T.length + 1) [] 0)).length ≤ 65536 ∧ ∀ r ∈ grFl T (glF T (T.length + 1) [] 0), r.length ≤ 100 := by
  have hp16 : 2 ^ N < 65536 := Nat.pow_lt_pow_right (by decide) hN (n := 16)
  have htr2 : ∀ a, (t.getD a 0).toNat < 2 ^ N := by
    intro a
    obtain ⟨q0, q1⟩ := htr a
    have : (((t.getD a 0).toNat : Nat) : Int) < ((2 ^ N : Nat) : Int) := by rw [Int.toNat_of_nonneg q0]; exact_mod_cast q1
    exact_mod_cast this
  have hcond : t.length < 16 ∧ (∀ i, i < t.length → 0 ≤ t.getD i 0 ∧ t.getD i 0 < 65536) ∧ (∀ a, a < t.length → (t.getD a 0).toNat.testBit a = false) := by
    refine ⟨by omega, fun i _ => ⟨(htr i).1, ?_⟩, fun a ha => ?_⟩
    · have h1 := htr2 i
      have h2 := (htr i).1
      omega
    · rw [ht a a (by omega) (by omega)]; exact hi a
  have hmem := glF_mem8 T N hTl (T.length + 1) [] 0 (fun x hx => absurd hx List.not_mem_nil)
  refine ⟨?_, ?_, fun r hr => ?_⟩
  · unfold impl_table_full.f
    rw [if_pos hcond, htl, fulls_same t T N (by omega) hTl A hT ht hs hi 17]
    unfold grFl
    rw [hTl, show (17 : Nat) = (N + 1) + (16 - N) by omega, glF_fuel_le T (N + 1) (16 - N) (by omega) (by omega)]
  · have h1 := grFl_len T (glF T (T.length + 1) [] 0)
    have h2 := (glF_both T T.length rfl (T.length + 1) [] 0 (Nat.zero_le _)).1
    have h3 : 2 ^ (T.length - 0) ≤ 65536 := Nat.pow_le_pow_right (n := 2) (by decide) (show T.length - 0 ≤ 16 by omega)
    omega
  · unfold grFl at hr
    obtain ⟨g, hg, rfl⟩ := List.mem_map.1 hr
    have := (hmem g (List.mem_filter.1 hg).1).2
    rw [ints_len]
    rw [List.length_nil] at this
    omega
theorem allGroups_eq (n : Int) (ps : List S98) (hl : ps.length < 4611686018427387904) :
    ∃ (r : List (List Int)) (b : Bool), Ev (fun k => spec_AllGroups.f k n ps) (r, b) ∧ Ev (fun k => impl_AllGroups.f k n ps) (r, b) ∧ r.length ≤ 65536 ∧ ∀ x ∈ r, x.length ≤ 100 := by
  have h1 := paGood_eq n ps hl
  have h2 := isParty_eq n ps hl
  cases hg : good n ps
  · rw [hg] at h1 h2
    exact ⟨[], false, Ev.bind h1 (Ev.ifn (by decide) (Ev.pure _)), Ev.bind h2 (Ev.ifn (by decide) (Ev.pure _)), by simp, fun x hx => absurd hx List.not_mem_nil⟩
  · rw [hg] at h1 h2
    have hG := good_iff.1 hg
    obtain ⟨N, rfl⟩ : ∃ N : Nat, n = (N : Int) := ⟨n.toNat, by have := hG.1; omega⟩
    have hN := hG.2.1
    obtain ⟨T, hT, hTE⟩ := paTable_eq N ps hG hl
    obtain ⟨t, ht, htE⟩ := table_eq N ps hG hl
    obtain ⟨e1, e2, e3⟩ := fulls_both N (by omega) (adj ps) (adj_comm ps) (adj_self hG) T t hT.len hT.at_ ht.len ht.at_ ht.lt
    refine ⟨_, true, Ev.bind h1 (Ev.ifp rfl (Ev.bind (v := grFl T (glF T (T.length + 1) [] 0)) ?_ (Ev.pure _))), Ev.bind h2 (Ev.ifp rfl (Ev.bind htE (Ev.bindC e1 (Ev.pure _)))), e2, e3⟩
    refine Ev.bind hTE (Ev.ifp ⟨by rw [hT.len]; omega, fun r hr => ?_⟩ (Ev.pure _))
    obtain ⟨i, hi, rfl⟩ := List.getElem_of_mem hr
    have := hT.row i (by rw [← hT.len]; exact hi)
    rw [List.getD_eq_getElem?_getD, List.getElem?_eq_getElem hi, Option.getD_some] at this
    rw [this, hT.len]
theorem FnExactAllGroups_true (n : Int) (l : List S144) (hl : l.length ≤ 9223372036854775807) : ∃ k, laws_FnExactAllGroups.f k n l = some true := by
  refine Ev.one ?_
  unfold laws_FnExactAllGroups.f
  refine Ev.bindC (szParty_eq n l hl) ?_
  by_cases h : l.length ≤ 1048576
  · rw [if_pos h]
    have hp : (l.map toP).length < 4611686018427387904 := by rw [List.length_map]; omega
    have hp2 : (l.map toP).length ≤ 1048576 := by rw [List.length_map]; exact h
    obtain ⟨r, b, h1, h2, hr, hx⟩ := allGroups_eq n (l.map toP) hp
    have hsz := szSS_le 100 r hx
    refine Ev.ifn (by omega) (Ev.bind (toParty_eq n l h) (Ev.bind h1 (Ev.bind h2 (Ev.bind (markParty_eq n _ hp2) ?_))))
    obtain ⟨K1, k1⟩ := eqIntSS_refl r (by omega) (fun x hx2 => by have := hx x hx2; omega)
    obtain ⟨K2, k2⟩ := eqParty_refl n _ hp
    obtain ⟨K3, k3⟩ := heldIntSS_eq r 1 (by decide) (by omega) (by omega)
    refine ⟨K1 + K2 + K3, fun k hk => ?_⟩
    have e1 := k1 k (by omega)
    have e2 := k2 k (by omega)
    have e3 := k3 k (by omega)
    exact if_pos ⟨rfl, e1, e2, by simp only; omega, by simp only; omega, by simp only; omega, e3⟩
  · rw [if_neg h]
    exact Ev.ifp (by decide) (Ev.pure _)
end Go.Proofs.YtopahhcojncgaaaDoor.G
