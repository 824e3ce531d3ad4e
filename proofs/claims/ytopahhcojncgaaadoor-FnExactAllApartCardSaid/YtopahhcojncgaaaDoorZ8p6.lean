/- Part 6 of the proof: texts merged. Conditions: those that each theorem states. -/
import Derived.Test.YtopahhcojncgaaaDoorZ8p2
import Derived.Test.YtopahhcojncgaaaDoorZ8p4
import Derived.Test.YtopahhcojncgaaaDoorZ8p5
namespace Go.Proofs.YtopahhcojncgaaaDoor.G
open Go.RowKit Go.Proofs.YtopahhcojncgaaaDoorW.PrintWords Go.Proofs.YtopahhcojncgaaaDoorW.PrintLast Go.Proofs.YtopahhcojncgaaaDoorW.PrintMore
attribute [local go_sem] max2_int min2_int max_two min_two max_three min_three max_four min_four
set_option linter.unusedVariables false
set_option linter.unusedSimpArgs false
def impl_AllGroups.f (k : Nat) (a0_0 : Int) (l0_1 : List (S98)) : Option ((List (List Int)) × Bool) := (impl_IsParty.f k a0_0 l0_1).bind fun t433 => (if t433 = true then ((impl_Party_table.f k a0_0 l0_1).bind fun t434 => ((impl_table_full.f t434).bind fun t437 => (some (t437, true)))) else (some (([] : List (List Int)), false)))
theorem impl_AllGroups.mono : ∀ a0 a1 k, LeO (impl_AllGroups.f k a0 a1) (impl_AllGroups.f (k + 1) a0 a1) := by
 intro a0 a1 k
 unfold impl_AllGroups.f
 repeat' first
   | (with_reducible exact impl_IsParty.mono _ _ _)
   | (with_reducible exact impl_Party_table.mono _ _ _)
   | (with_reducible exact LeO.refl _)
   | (with_reducible exact LeO.none _)
   | (with_reducible refine LeO.ite ?_ ?_)
   | (with_reducible refine LeO.bind ?_ (fun _ => ?_))
   | exact impl_IsParty.mono _ _ _
   | exact impl_Party_table.mono _ _ _
   | exact LeO.none _
   | refine LeO.ite ?_ ?_
   | refine LeO.bind ?_ (fun _ => ?_)
set_option maxHeartbeats 8000000 in
set_option maxRecDepth 100000 in
theorem impl_AllGroups.calls (k : Nat) (a0_0 : Int) (A0_1 : Option Addr) (c0_1 : Nat) (l0_1 : List (S98)) (r1 : List (List Int)) (r2 : Bool) (w : World) (hG : Laid32 w) (hr0_1 : Kd.C k98 w A0_1 l0_1.length l0_1) (hc0_1 : l0_1.length ≤ c0_1) (h : impl_AllGroups.f k a0_0 l0_1 = some (r1, r2)) :
  Calls Tryd.prog 29 #[.agg #[.int .i64 a0_0, .slice A0_1 l0_1.length c0_1]] w fun e w' => ∃ v0_ : Value, e = .returned (.tuple #[v0_, .bool r2]) ∧ Kd.S (Kd.slice 3 (Kd.int .i64)) 58 w' w.heap.size (fun _ => True) v0_ r1 ∧ Below w.heap.size w w' := by
 have hu30 := Tryd.underlying30
 have HG := Aside0.mk hG
 clear hG
 have HR0_1 := Aside0.mk hr0_1
 have HC0_1 := Aside0.mk hc0_1
 clear hr0_1 hc0_1
 have HB := Aside0.mk (Below.refl w.heap.size w)
 have H : ((impl_IsParty.f k a0_0 l0_1).bind fun t433 => (if t433 = true then ((impl_Party_table.f k a0_0 l0_1).bind fun t434 => ((impl_table_full.f t434).bind fun t437 => (some (t437, true)))) else (some (([] : List (List Int)), false)))) = some (r1, r2) := h
 clear h
 replace H := Option.bind_eq_some_iff.mp H
 obtain ⟨t433, A20, H⟩ := H
 replace H : (if t433 = true then ((impl_Party_table.f k a0_0 l0_1).bind fun t434 => ((impl_table_full.f t434).bind fun t437 => (some (t437, true)))) else (some (([] : List (List Int)), false))) = some (r1, r2) := H
 have A2 := Aside0.mk A20
 clear A20
 by_cases c3 : t433 = true
 ·subst c3
  have H1 : ((impl_Party_table.f k a0_0 l0_1).bind fun t434 => ((impl_table_full.f t434).bind fun t437 => (some (t437, true)))) = some (r1, r2) := by rw [if_pos rfl] at H; exact H
  clear H
  have H := H1
  clear H1
  replace H := Option.bind_eq_some_iff.mp H
  obtain ⟨t434, A40, H⟩ := H
  replace H : ((impl_table_full.f t434).bind fun t437 => (some (t437, true))) = some (r1, r2) := H
  have A4 := Aside0.mk A40
  clear A40
  replace H := Option.bind_eq_some_iff.mp H
  obtain ⟨t437, A50, H⟩ := H
  replace H : (some (t437, true)) = some (r1, r2) := H
  have A5 := Aside0.mk A50
  clear A50
  simp only [Option.some.injEq, Prod.mk.injEq] at H
  obtain ⟨rfl, rfl⟩ := H
  go_enter Tryd.func29, Tryd.ntmps29
  go_wp2_with (first | ((with_reducible refine gate_dst (N := 1) rfl ?_); refine box_event ?hg (N := 1) ?hd (cs := #[.int .i64 a0_0, .slice A0_1 l0_1.length c0_1]) (t := 30) ?hr ?_; (case hd => rfl); (case hg => rfl); (case hr => first | (go_simp; done) | (go_simp; rfl)); intro gb432 hg w6 hbox hb; have n0_ := Aside0.mk (below_step (by repeat (first | (with_reducible first | exact HB.out | apply below_alloc | apply pw_below_drewN | apply below_drew1) | exact HB.out)) hb); have n1_ := Aside0.mk (hbox); have n2_ := Aside0.mk ((by rw [hg]; exact (below_size (by repeat (first | (with_reducible first | exact HB.out | apply below_alloc | apply pw_below_drewN | apply below_drew1) | exact HB.out))) : w.heap.size ≤ gb432)); have n3_ := Aside0.mk ((by rw [hg]; exact (below_size (by repeat (first | (with_reducible first | exact HB.out | apply below_alloc | apply pw_below_drewN | apply below_drew1) | exact HB.out))) : w.heap.size ≤ gb432)); clear HB; have HB := n0_; have BK432 := n1_; have GW432 := n2_; have GE432 := n3_; clear n0_ n1_ n2_ n3_; clear hb hbox hg; have hcz7_0 : w6.cell? ⟨gb432, 0, none⟩ = some (.int .i64 a0_0) := (blk_cell BK432.out 0).trans rfl; have hcz7_1 : w6.cell? ⟨gb432, 1, none⟩ = some (.slice A0_1 l0_1.length c0_1) := (blk_cell BK432.out 1).trans rfl; have hfz7_0 := blk_frozen BK432.out 0; have hfz7_1 := blk_frozen BK432.out 1) | ((with_reducible refine gate_callee (f := 47) rfl ?_); refine goesL_ (some 5) rfl rfl Tryd.func47 (by kernel_rfl) rfl #[.agg #[.int .i64 a0_0, .slice A0_1 l0_1.length c0_1]] rfl (by (try simp only [List.map_toArray, List.map_cons, List.map_nil]); first | done | rfl | (simp only [List.length_drop, List.length_take]; rfl)) ?_; (with_reducible refine (impl_IsParty.calls k a0_0 _ _ l0_1 true _ ?side1 ?side2 A2.out).mono ?_); (case side1 => repeat (first | exact (Kd.C_below HR0_1.out HB.out) | (with_reducible refine Kd.C_alloc ?_ _) | (with_reducible refine Kd.C_drewN ?_ _) | (with_reducible refine Kd.C_drew ?_))); (case side2 => exact HC0_1.out); rintro e w8 ⟨rfl, hb⟩; refine ⟨_, rfl, ?_⟩; have n0_ := Aside0.mk (blk_below (g := gb432) (o := .cells #[.int .i64 a0_0, .slice A0_1 l0_1.length c0_1] 30 (0, 0)) (by (with_reducible repeat (first | refine blk_drewN ?_ _ | refine blk_drew ?_ | refine blk_alloc ?_ _)); exact BK432.out) hb); have n1_ := Aside0.mk (below_step (by repeat (first | (with_reducible first | exact HB.out | apply below_alloc | apply pw_below_drewN | apply below_drew1 | refine below_set ?_ GE432.out) | exact HB.out)) hb); clear BK432; clear HB; have BK432 := n0_; have HB := n1_; clear n0_ n1_; (try clear hb); (try clear hb2); (try clear hk); (try clear hi); have hcz9_0 : w8.cell? ⟨gb432, 0, none⟩ = some (.int .i64 a0_0) := (blk_cell BK432.out 0).trans rfl; have hcz9_1 : w8.cell? ⟨gb432, 1, none⟩ = some (.slice A0_1 l0_1.length c0_1) := (blk_cell BK432.out 1).trans rfl; have hfz9_0 := blk_frozen BK432.out 0; have hfz9_1 := blk_frozen BK432.out 1) | ((with_reducible refine gate_callee (f := 69) rfl ?_); refine goesL_ (some 8) rfl rfl Tryd.func69 (by kernel_rfl) rfl #[.agg #[.int .i64 a0_0, .slice A0_1 l0_1.length c0_1]] rfl (by (try simp only [List.map_toArray, List.map_cons, List.map_nil]); first | done | rfl | (simp only [List.length_drop, List.length_take]; rfl)) ?_; (with_reducible refine (impl_Party_table.calls k a0_0 _ _ l0_1 t434 _ ?side1 ?side2 A4.out).mono ?_); (case side1 => repeat (first | exact (Kd.C_below HR0_1.out HB.out) | (with_reducible refine Kd.C_alloc ?_ _) | (with_reducible refine Kd.C_drewN ?_ _) | (with_reducible refine Kd.C_drew ?_))); (case side2 => exact HC0_1.out); rintro e w10 ⟨v435, rfl, ho0, hb⟩; refine ⟨_, rfl, ?_⟩; have n0_ := Aside0.mk (Kd.R_lower ho0 (below_size (by repeat (first | (with_reducible first | exact HB.out | apply below_alloc | apply pw_below_drewN | apply below_drew1 | refine below_set ?_ GE432.out) | exact HB.out)))); have n1_ := Aside0.mk (blk_below (g := gb432) (o := .cells #[.int .i64 a0_0, .slice A0_1 l0_1.length c0_1] 30 (0, 0)) (by (with_reducible repeat (first | refine blk_drewN ?_ _ | refine blk_drew ?_ | refine blk_alloc ?_ _)); exact BK432.out) hb); have n2_ := Aside0.mk (below_step (by repeat (first | (with_reducible first | exact HB.out | apply below_alloc | apply pw_below_drewN | apply below_drew1 | refine below_set ?_ GE432.out) | exact HB.out)) hb); clear BK432; clear HB; have HO436 := n0_; have BK432 := n1_; have HB := n2_; clear n0_ n1_ n2_; (try clear hb); (try clear hb2); (try clear hk); (try clear hi); (try clear ho0); obtain ⟨Ao11, co11, eo11⟩ := Kd.R_slice HO436.out; subst eo11) | ((with_reducible refine gate_callee (f := 83) rfl ?_); refine goesL_ (some 9) rfl rfl Tryd.func83 (by kernel_rfl) rfl #[.slice Ao11 t434.length co11] rfl (by (try simp only [List.map_toArray, List.map_cons, List.map_nil]); first | done | rfl | (simp only [List.length_drop, List.length_take]; rfl)) ?_; (with_reducible refine (impl_table_full.calls _ _ t434 t437 _ ?side1 ?side2 ?side3 A5.out).mono ?_); (case side1 => first | exact HG.out | exact Laid32.drewN HG.out _ | exact Laid32.drew HG.out | exact (Laid32.drewN HG.out _).drewN _ | exact Laid32.below HG.out (by repeat (first | (with_reducible first | exact HB.out | apply below_alloc | apply pw_below_drewN | apply below_drew1 | refine below_set ?_ GE432.out) | exact HB.out))); (case side2 => repeat (first | exact (Kd.R_reads' HO436.out).2.2 | (with_reducible refine Kd.C_alloc ?_ _) | (with_reducible refine Kd.C_drewN ?_ _) | (with_reducible refine Kd.C_drew ?_))); (case side3 => exact (Kd.R_reads' HO436.out).2.1); rintro e w12 ⟨v438, rfl, ho0, hb⟩; refine ⟨_, rfl, ?_⟩; have n0_ := Aside0.mk (Kd.R_below (by (with_reducible repeat (first | apply Kd.R_alloc | apply Kd.R_drewN | apply Kd.R_drew)); exact HO436.out) hb); have n1_ := Aside0.mk (Kd.S_lower ho0 (below_size (by repeat (first | (with_reducible first | exact HB.out | apply below_alloc | apply pw_below_drewN | apply below_drew1 | refine below_set ?_ GE432.out) | exact HB.out)))); have n2_ := Aside0.mk (blk_below (g := gb432) (o := .cells #[.int .i64 a0_0, .slice A0_1 l0_1.length c0_1] 30 (0, 0)) (by (with_reducible repeat (first | refine blk_drewN ?_ _ | refine blk_drew ?_ | refine blk_alloc ?_ _)); exact BK432.out) hb); have n3_ := Aside0.mk (below_step (by repeat (first | (with_reducible first | exact HB.out | apply below_alloc | apply pw_below_drewN | apply below_drew1 | refine below_set ?_ GE432.out) | exact HB.out)) hb); clear HO436; clear BK432; clear HB; have HO436 := n0_; have HO439 := n1_; have BK432 := n2_; have HB := n3_; clear n0_ n1_ n2_ n3_; (try clear hb); (try clear hb2); (try clear hk); (try clear hi); (try clear ho0)))
  go_ret2
  exact ⟨_, by first | rfl | (simp [errW_none, errW_some] <;> rfl) | (simp [*, errW_none, errW_some] <;> rfl), by (with_reducible repeat (first | apply Kd.S_alloc | apply Kd.S_drewN | apply Kd.S_drew)); exact HO439.out, by repeat (first | (with_reducible first | exact HB.out | apply below_alloc | apply pw_below_drewN | apply below_drew1 | refine below_set ?_ GE432.out) | exact HB.out)⟩
 ·replace c3 := Bool.eq_false_iff.mpr c3
  subst c3
  have H1 : (some (([] : List (List Int)), false)) = some (r1, r2) := by rw [if_neg (show ¬ (false = true) by decide)] at H; exact H
  clear H
  have H := H1
  clear H1
  simp only [Option.some.injEq, Prod.mk.injEq] at H
  obtain ⟨rfl, rfl⟩ := H
  go_enter Tryd.func29, Tryd.ntmps29
  go_wp2_with (first | ((with_reducible refine gate_dst (N := 1) rfl ?_); refine box_event ?hg (N := 1) ?hd (cs := #[.int .i64 a0_0, .slice A0_1 l0_1.length c0_1]) (t := 30) ?hr ?_; (case hd => rfl); (case hg => rfl); (case hr => first | (go_simp; done) | (go_simp; rfl)); intro gb432 hg w13 hbox hb; have n0_ := Aside0.mk (below_step (by repeat (first | (with_reducible first | exact HB.out | apply below_alloc | apply pw_below_drewN | apply below_drew1) | exact HB.out)) hb); have n1_ := Aside0.mk (hbox); have n2_ := Aside0.mk ((by rw [hg]; exact (below_size (by repeat (first | (with_reducible first | exact HB.out | apply below_alloc | apply pw_below_drewN | apply below_drew1) | exact HB.out))) : w.heap.size ≤ gb432)); have n3_ := Aside0.mk ((by rw [hg]; exact (below_size (by repeat (first | (with_reducible first | exact HB.out | apply below_alloc | apply pw_below_drewN | apply below_drew1) | exact HB.out))) : w.heap.size ≤ gb432)); clear HB; have HB := n0_; have BK432 := n1_; have GW432 := n2_; have GE432 := n3_; clear n0_ n1_ n2_ n3_; clear hb hbox hg; have hcz14_0 : w13.cell? ⟨gb432, 0, none⟩ = some (.int .i64 a0_0) := (blk_cell BK432.out 0).trans rfl; have hcz14_1 : w13.cell? ⟨gb432, 1, none⟩ = some (.slice A0_1 l0_1.length c0_1) := (blk_cell BK432.out 1).trans rfl; have hfz14_0 := blk_frozen BK432.out 0; have hfz14_1 := blk_frozen BK432.out 1) | ((with_reducible refine gate_callee (f := 47) rfl ?_); refine goesL_ (some 5) rfl rfl Tryd.func47 (by kernel_rfl) rfl #[.agg #[.int .i64 a0_0, .slice A0_1 l0_1.length c0_1]] rfl (by (try simp only [List.map_toArray, List.map_cons, List.map_nil]); first | done | rfl | (simp only [List.length_drop, List.length_take]; rfl)) ?_; (with_reducible refine (impl_IsParty.calls k a0_0 _ _ l0_1 false _ ?side1 ?side2 A2.out).mono ?_); (case side1 => repeat (first | exact (Kd.C_below HR0_1.out HB.out) | (with_reducible refine Kd.C_alloc ?_ _) | (with_reducible refine Kd.C_drewN ?_ _) | (with_reducible refine Kd.C_drew ?_))); (case side2 => exact HC0_1.out); rintro e w15 ⟨rfl, hb⟩; refine ⟨_, rfl, ?_⟩; have n0_ := Aside0.mk (blk_below (g := gb432) (o := .cells #[.int .i64 a0_0, .slice A0_1 l0_1.length c0_1] 30 (0, 0)) (by (with_reducible repeat (first | refine blk_drewN ?_ _ | refine blk_drew ?_ | refine blk_alloc ?_ _)); exact BK432.out) hb); have n1_ := Aside0.mk (below_step (by repeat (first | (with_reducible first | exact HB.out | apply below_alloc | apply pw_below_drewN | apply below_drew1 | refine below_set ?_ GE432.out) | exact HB.out)) hb); clear BK432; clear HB; have BK432 := n0_; have HB := n1_; clear n0_ n1_; (try clear hb); (try clear hb2); (try clear hk); (try clear hi)))
  go_ret2
  exact ⟨_, by first | rfl | (simp [errW_none, errW_some] <;> rfl) | (simp [*, errW_none, errW_some] <;> rfl), by first | exact Kd.S_nil _ _ _ _ _ | exact Kd.N_nil _ _ _ _ _ | exact Kd.V_nil _ _ _ _ _ | exact Kd.Q_nil _ _ _ _ _ | exact Kd.R_nil _ _ _ _ _, by repeat (first | (with_reducible first | exact HB.out | apply below_alloc | apply pw_below_drewN | apply below_drew1 | refine below_set ?_ GE432.out) | exact HB.out)⟩
end Go.Proofs.YtopahhcojncgaaaDoor.G
namespace Go.Proofs.YtopahhcojncgaaaDoor.G
open Go.RowKit Go.Proofs.YtopahhcojncgaaaDoorW.PrintWords Go.Proofs.YtopahhcojncgaaaDoorW.PrintLast Go.Proofs.YtopahhcojncgaaaDoorW.PrintMore
set_option linter.unusedVariables false
set_option linter.unusedSimpArgs false
def laws_FnExactAllGroups.f (k : Nat) (n : Int) (l : List S144) : Option Bool :=
 (laws_szParty.f n l 1048576).bind fun lf => if lf < 0 then some true else (laws_toParty.f k n l).bind fun p => (spec_AllGroups.f k p.1 p.2).bind fun s => (impl_AllGroups.f k p.1 p.2).bind fun i => (laws_markParty.f k p.1 p.2 1).bind fun q =>
  if i = s ∧ laws_eqIntSS.f k s.1 s.1 = some true ∧ laws_eqParty.f k p.1 p.2 p.1 p.2 = some true ∧ 0 ≤ q.1 ∧ szSS s.1 < 1000000000000 ∧ s.1.length ≤ 1000000 ∧ laws_heldIntSS.f k (mkSS s.1 1) 1 = some (1 + (szSS s.1 : Int)) then some true else none
theorem rd_two (a b : Value) : (#[a, b] : Array Value)[0]? = some a ∧ (#[a, b] : Array Value)[1]? = some b := ⟨rfl, rfl⟩
set_option maxHeartbeats 8000000 in
set_option maxRecDepth 100000 in
theorem laws_FnExactAllGroups.calls (k : Nat) (a0_0 : Int) (A0_1 : Option Addr) (c0_1 : Nat) (l0_1 : List (S144)) (r : Bool) (w : World) (hG : Laid32 w) (hr0_1 : Kd.C k144 w A0_1 l0_1.length l0_1) (hc0_1 : l0_1.length ≤ c0_1) (h : laws_FnExactAllGroups.f k a0_0 l0_1 = some r) :
  Calls Tryd.prog 7 #[.agg #[.int .i64 a0_0, .slice A0_1 l0_1.length c0_1]] w fun e w' => e = .returned (.bool r) ∧ Below w.heap.size w w' := by
 have hu24 := Tryd.underlying24
 have hu30 := Tryd.underlying30
 have HG := Aside0.mk hG
 have HR0 := Aside0.mk hr0_1
 have HC0 := Aside0.mk hc0_1
 clear hG hr0_1 hc0_1
 unfold laws_FnExactAllGroups.f at h
 obtain ⟨lf, hsz, h⟩ := Option.bind_eq_some_iff.mp h
 have HSZ := Aside0.mk hsz
 clear hsz
 by_cases hlf : lf < 0
 ·rw [if_pos hlf] at h
  obtain rfl := Option.some.inj h
  have hlfb : decide (lf < 0) = true := decide_eq_true hlf
  clear h hlf
  go_enter Tryd.func7, Tryd.ntmps7
  go_wp2_with (first | ((with_reducible refine gate_dst (N := 1) rfl ?_); refine box_event ?hg (N := 1) ?hd (cs := #[.int .i64 a0_0, .slice A0_1 l0_1.length c0_1]) (t := 24) ?hr ?_; (case hd => rfl); (case hg => rfl); (case hr => first | (go_simp; done) | (go_simp; rfl)); intro gb hg w1 hbox hb; have B1 := Aside0.mk hb; have BK := Aside0.mk hbox; have hk0 : w1.cell? ⟨gb, 0, none⟩ = some (.int .i64 a0_0) := (blk_cell BK.out 0).trans rfl; have hk1 : w1.cell? ⟨gb, 1, none⟩ = some (.slice A0_1 l0_1.length c0_1) := (blk_cell BK.out 1).trans rfl; clear hg hbox hb) | ((with_reducible refine gate_callee (f := 13) rfl ?_); (with_reducible refine gate_dst (N := 16) rfl ?_); refine goesL_ (some 16) rfl rfl Tryd.func13 (by kernel_rfl) rfl #[.agg #[.int .i64 a0_0, .slice A0_1 l0_1.length c0_1], .int .i64 1048576] rfl (by (try simp only [List.map_toArray, List.map_cons, List.map_nil]); first | done | rfl) ?_; (with_reducible refine (laws_szParty.calls a0_0 A0_1 c0_1 l0_1 1048576 lf w1 (Kd.C_below HR0.out B1.out) HC0.out HSZ.out).mono ?_); rintro e w2_ ⟨rfl, hb⟩; refine ⟨_, rfl, ?_⟩; have B2 := Aside0.mk (below_step B1.out hb); replace BK := Aside0.mk (blk_below BK.out hb); clear hk0 hk1; have hk0 : w2_.cell? ⟨gb, 0, none⟩ = some (.int .i64 a0_0) := (blk_cell BK.out 0).trans rfl; have hk1 : w2_.cell? ⟨gb, 1, none⟩ = some (.slice A0_1 l0_1.length c0_1) := (blk_cell BK.out 1).trans rfl; clear hb B1))
  go_ret
  exact ⟨rfl, B2.out⟩
 ·rw [if_neg hlf] at h
  have hlfb : decide (lf < 0) = false := decide_eq_false hlf
  clear hlf
  obtain ⟨⟨n, ps⟩, hto, h2⟩ := Option.bind_eq_some_iff.mp h
  obtain ⟨⟨rr, bb⟩, hsp, h3⟩ := Option.bind_eq_some_iff.mp h2
  obtain ⟨⟨ri, bi⟩, him, h4⟩ := Option.bind_eq_some_iff.mp h3
  obtain ⟨⟨q, pq⟩, hmp, h5⟩ := Option.bind_eq_some_iff.mp h4
  clear h h2 h3 h4
  split at h5
  ·rename_i hc
   obtain ⟨e1, heq, hep, hq0, hsz2, hrl, hheld⟩ := hc
   injection e1 with e1 e2
   subst e1 e2
   obtain rfl := Option.some.inj h5
   have HTO := Aside0.mk hto
   have HSP := Aside0.mk hsp
   have HIM := Aside0.mk him
   have HMP := Aside0.mk hmp
   have HEQ := Aside0.mk heq
   have HEP := Aside0.mk hep
   have HHELD := Aside0.mk hheld
   have hqb : decide (q < 0) = false := decide_eq_false (by simp only at hq0; omega)
   have hbb : (bi != bi) = false := by simp
   obtain ⟨M, hM⟩ : ∃ M : Int, 1 + (szSS ri : Int) = M := ⟨_, rfl⟩
   have HM := Aside0.mk hM
   have hMb : decide (M < 0) = false := decide_eq_false (by omega)
   have hMM : (M != M) = false := by simp
   have Hsz2 := Aside0.mk (show szSS ri < 1000000000000 from hsz2)
   simp only at hrl
   clear h5 hto hsp him hmp heq hep hheld hq0 hM hsz2
   go_enter Tryd.func7, Tryd.ntmps7
   go_upto_region 10 with (first | ((with_reducible refine gate_dst (N := 1) rfl ?_); refine box_event ?hg (N := 1) ?hd (cs := #[.int .i64 a0_0, .slice A0_1 l0_1.length c0_1]) (t := 24) ?hr ?_; (case hd => rfl); (case hg => rfl); (case hr => first | (go_simp; done) | (go_simp; rfl)); intro gb hg w1 hbox hb; have B1 := Aside0.mk hb; have BK := Aside0.mk hbox; have hk0 : w1.cell? ⟨gb, 0, none⟩ = some (.int .i64 a0_0) := (blk_cell BK.out 0).trans rfl; have hk1 : w1.cell? ⟨gb, 1, none⟩ = some (.slice A0_1 l0_1.length c0_1) := (blk_cell BK.out 1).trans rfl; clear hg hbox hb) | ((with_reducible refine gate_callee (f := 13) rfl ?_); (with_reducible refine gate_dst (N := 16) rfl ?_); refine goesL_ (some 16) rfl rfl Tryd.func13 (by kernel_rfl) rfl #[.agg #[.int .i64 a0_0, .slice A0_1 l0_1.length c0_1], .int .i64 1048576] rfl (by (try simp only [List.map_toArray, List.map_cons, List.map_nil]); first | done | rfl) ?_; (with_reducible refine (laws_szParty.calls a0_0 A0_1 c0_1 l0_1 1048576 lf w1 (Kd.C_below HR0.out B1.out) HC0.out HSZ.out).mono ?_); rintro e w2_ ⟨rfl, hb⟩; refine ⟨_, rfl, ?_⟩; have B2 := Aside0.mk (below_step B1.out hb); replace BK := Aside0.mk (blk_below BK.out hb); clear hk0 hk1; have hk0 : w2_.cell? ⟨gb, 0, none⟩ = some (.int .i64 a0_0) := (blk_cell BK.out 0).trans rfl; have hk1 : w2_.cell? ⟨gb, 1, none⟩ = some (.slice A0_1 l0_1.length c0_1) := (blk_cell BK.out 1).trans rfl; clear hb B1) | ((with_reducible refine gate_callee (f := 15) rfl ?_); (with_reducible refine gate_dst (N := 21) rfl ?_); refine goesL_ (some 21) rfl rfl Tryd.func15 (by kernel_rfl) rfl #[.agg #[.int .i64 a0_0, .slice A0_1 l0_1.length c0_1]] rfl (by (try simp only [List.map_toArray, List.map_cons, List.map_nil]); first | done | rfl) ?_; (with_reducible refine (laws_toParty.calls k a0_0 A0_1 c0_1 l0_1 n ps w2_ (Kd.C_below HR0.out B2.out) HC0.out HTO.out).mono ?_); rintro e w3_ ⟨v_, rfl, ho, hb⟩; refine ⟨_, rfl, ?_⟩; obtain ⟨A3, c3, e3⟩ := Kd.R_slice ho; subst e3; have R3 := Aside0.mk ho; have B3 := Aside0.mk (below_step B2.out hb); replace BK := Aside0.mk (blk_below BK.out hb); clear hk0 hk1; have hk0 : w3_.cell? ⟨gb, 0, none⟩ = some (.int .i64 a0_0) := (blk_cell BK.out 0).trans rfl; have hk1 : w3_.cell? ⟨gb, 1, none⟩ = some (.slice A0_1 l0_1.length c0_1) := (blk_cell BK.out 1).trans rfl; clear ho hb B2) | ((with_reducible refine gate_callee (f := 28) rfl ?_); (with_reducible refine gate_dst (N := 22) rfl ?_); refine goesL_ (some 22) rfl rfl Tryd.func28 (by kernel_rfl) rfl #[.agg #[.int .i64 n, .slice A3 ps.length c3]] rfl (by (try simp only [List.map_toArray, List.map_cons, List.map_nil]); first | done | rfl) ?_; (with_reducible refine (spec_AllGroups.calls k n A3 c3 ps ri bi w3_ (Kd.R_reads' R3.out).2.2 (Kd.R_reads' R3.out).2.1 HSP.out).mono ?_); rintro e w4_ ⟨v_, rfl, hro, hb⟩; refine ⟨_, rfl, ?_⟩; obtain ⟨A4, c4, e4, hl4, hC4⟩ := hro; subst e4; have C4 := Aside0.mk (And.intro hl4 hC4); clear hl4 hC4; have B4 := Aside0.mk (below_step B3.out hb); replace BK := Aside0.mk (blk_below BK.out hb); clear hk0 hk1; have hk0 : w4_.cell? ⟨gb, 0, none⟩ = some (.int .i64 a0_0) := (blk_cell BK.out 0).trans rfl; have hk1 : w4_.cell? ⟨gb, 1, none⟩ = some (.slice A0_1 l0_1.length c0_1) := (blk_cell BK.out 1).trans rfl; clear hb B3 R3; have GB4 := Aside0.mk (blk_lt BK.out); have B44 := Aside0.mk (Below.refl w4_.heap.size w4_)) | ((with_reducible refine gate_callee (f := 15) rfl ?_); (with_reducible refine gate_dst (N := 26) rfl ?_); refine goesL_ (some 26) rfl rfl Tryd.func15 (by kernel_rfl) rfl #[.agg #[.int .i64 a0_0, .slice A0_1 l0_1.length c0_1]] rfl (by (try simp only [List.map_toArray, List.map_cons, List.map_nil]); first | done | rfl) ?_; (with_reducible refine (laws_toParty.calls k a0_0 A0_1 c0_1 l0_1 n ps w4_ (Kd.C_below HR0.out B4.out) HC0.out HTO.out).mono ?_); rintro e w5_ ⟨v_, rfl, ho, hb⟩; refine ⟨_, rfl, ?_⟩; obtain ⟨A5, c5, e5⟩ := Kd.R_slice ho; subst e5; have R5 := Aside0.mk ho; have B45 := Aside0.mk hb; have LW5 := Aside0.mk hb.size; replace BK := Aside0.mk (blk_below BK.out hb); clear hk0 hk1; have hk0 : w5_.cell? ⟨gb, 0, none⟩ = some (.int .i64 a0_0) := (blk_cell BK.out 0).trans rfl; have hk1 : w5_.cell? ⟨gb, 1, none⟩ = some (.slice A0_1 l0_1.length c0_1) := (blk_cell BK.out 1).trans rfl; clear ho hb B44; have B55 := Aside0.mk (Below.refl w5_.heap.size w5_)) | ((with_reducible refine gate_dst (N := 6) rfl ?_); refine box_event ?hg (N := 6) ?hd (cs := #[.int .i64 0, .slice none 0 0]) (t := 30) ?hr ?_; (case hd => rfl); (case hg => rfl); (case hr => first | (go_simp; done) | (go_simp; rfl)); intro gx hg w6 hbox hb; have R6 := Aside0.mk (Kd.R_below (Kd.R_mono (Kd.R_bound R5.out) (ok' := fun k => k < w5_.heap.size) (fun k hk => hk.2.2.1)) hb); have B46 := Aside0.mk (below_step B45.out hb); have XK := Aside0.mk hbox; have GX := Aside0.mk (show w5_.heap.size = gx from hg.symm); have NBX := Aside0.mk (show gb ≠ gx from by rw [hg]; exact Nat.ne_of_lt (blk_lt BK.out)); replace BK := Aside0.mk (blk_below BK.out hb); clear hk0 hk1; have hz0 : w6.cell? ⟨gx, 0, none⟩ = some (.int .i64 0) := (blk_cell XK.out 0).trans rfl; have hz1 : w6.cell? ⟨gx, 1, none⟩ = some (.slice none 0 0) := (blk_cell XK.out 1).trans rfl; have hy0 := blk_frozen XK.out 0; have hy1 := blk_frozen XK.out 1; clear R5 B45; clear hg hbox hb) | ((with_reducible refine gate_callee (f := 29) rfl ?_); (with_reducible refine gate_dst (N := 29) rfl ?_); have W6 : Aside0 (∃ W6, W6 = (w6.setCell ⟨gx, 0, none⟩ (.int .i64 n)).setCell ⟨gx, 1, none⟩ (.slice A5 ps.length c5)) := ⟨⟨_, rfl⟩⟩; obtain ⟨W6, hW6⟩ := W6.out; rw [← hW6]; have R7 : Aside0 (Kd.R k98 98 W6 w4_.heap.size (fun k => k < w5_.heap.size) (.slice A5 ps.length c5) ps) := ⟨by rw [hW6]; exact Kd.R_far (Kd.R_far R6.out (fun k hk e => by have h_ := GX.out; simp only at e; omega) _) (fun k hk e => by have h_ := GX.out; simp only at e; omega) _⟩; have X7 : Aside0 (W6.heap[gx]? = some (.cells #[.int .i64 n, .slice A5 ps.length c5] 30 (0, 0))) := ⟨by rw [hW6]; exact blk_put (cs := #[.int .i64 n, .slice none 0 0]) (blk_put (cs := #[.int .i64 0, .slice none 0 0]) XK.out 0 _ rfl) 1 _ rfl⟩; have B7 : Aside0 (Below w4_.heap.size w4_ W6) := ⟨by rw [hW6]; exact below_set (below_set B46.out (by have h_ := GX.out; have h2_ := LW5.out; (try simp only); omega)) (by have h_ := GX.out; have h2_ := LW5.out; (try simp only); omega)⟩; have K7 : Aside0 (W6.heap[gb]? = some (.cells #[.int .i64 a0_0, .slice A0_1 l0_1.length c0_1] 24 (0, 0))) := ⟨by rw [hW6]; exact blk_far (blk_far BK.out NBX.out _) NBX.out _⟩; have hn6 : w5_.heap.size < W6.heap.size := (by have h_ := blk_lt X7.out; rw [← GX.out] at h_; exact h_); clear hW6 R6 XK B46 BK hz0 hz1 hy0 hy1 B55; refine goesL_ (some 29) rfl rfl Tryd.func29 (by kernel_rfl) rfl #[.agg #[.int .i64 n, .slice A5 ps.length c5]] rfl (by (try simp only [List.map_toArray, List.map_cons, List.map_nil]); first | done | rfl) ?_; (with_reducible refine (impl_AllGroups.calls k n A5 c5 ps ri bi W6 (HG.out.below (below_then B4.out B4.out.size B7.out)) (Kd.R_reads' R7.out).2.2 (Kd.R_reads' R7.out).2.1 HIM.out).mono ?_); rintro e w7_ ⟨v_, rfl, ho, hb⟩; refine ⟨_, rfl, ?_⟩; obtain ⟨A7, c7, e7⟩ := Kd.S_slice ho; subst e7; have S8 := Aside0.mk (Kd.S_mono (Kd.S_bound ho) (ok' := fun k => W6.heap.size ≤ k ∧ k < w7_.heap.size) (fun k hk => ⟨hk.2.1, hk.2.2.1⟩)); have R8 := Aside0.mk (Kd.R_below R7.out hb); have X8 := Aside0.mk (blk_below X7.out hb); have K8 := Aside0.mk (blk_below K7.out hb); have B8 := Aside0.mk (below_step B7.out hb); have T8 := Aside0.mk hb.size; clear ho hb R7 X7 K7 B7) | ((with_reducible refine gate_callee (f := 30) rfl ?_); (with_reducible refine gate_dst (N := 34) rfl ?_); (try (refine gate_guard (by rfl) ?_; dsimp only)); refine goesL_ (some 34) rfl rfl Tryd.func30 (by kernel_rfl) rfl #[.slice A7 ri.length c7, .slice A4 ri.length c4] rfl (by (try simp only [List.map_toArray, List.map_cons, List.map_nil]); first | done | rfl) ?_; (with_reducible refine (laws_eqIntSS.calls k A7 c7 ri A4 c4 ri true w7_ (Kd.S_reads' S8.out).2.2 (Kd.S_reads' S8.out).2.1 (Kd.C_below C4.out.2 B8.out) C4.out.1 HEQ.out).mono ?_); rintro e w8_ ⟨rfl, hd⟩; refine ⟨_, rfl, ?_⟩; have S9 := Aside0.mk (Kd.S_below S8.out hd.below); have R9 := Aside0.mk (Kd.R_below R8.out hd.below); have X9 := Aside0.mk (blk_below X8.out hd.below); have K9 := Aside0.mk (blk_below K8.out hd.below); have B9 := Aside0.mk (below_step B8.out hd.below); have T9 := Aside0.mk hd.below.size; clear hd S8 R8 X8 K8 B8))
   (try simp only [Act.put, List.setIfInBounds_toArray, List.set_cons_zero, List.set_cons_succ])
   refine start_ (n := 5) (S := fun w' => (w'.cell? ⟨gx, 0, none⟩ = some (.int .i64 n) ∧ w'.cell? ⟨gx, 1, none⟩ = some (.slice A5 ps.length c5)) ∧ (w'.cell? ⟨gb, 0, none⟩ = some (.int .i64 a0_0) ∧ w'.cell? ⟨gb, 1, none⟩ = some (.slice A0_1 l0_1.length c0_1))) (ds := []) #[false, false, false, false, false] (by kernel_rfl) rfl rfl ⟨⟨(blk_cell (blk_drew X9.out) 0).trans rfl, (blk_cell (blk_drew X9.out) 1).trans rfl⟩, ⟨(blk_cell (blk_drew K9.out) 0).trans rfl, (blk_cell (blk_drew K9.out) 1).trans rfl⟩⟩ (fun hHeld => ?_)
   replace S9 := Aside0.mk (Kd.S_drew S9.out)
   replace R9 := Aside0.mk (Kd.R_drew R9.out)
   replace X9 := Aside0.mk (blk_drew X9.out)
   replace K9 := Aside0.mk (blk_drew K9.out)
   replace B9 := Aside0.mk (below_drew1 B9.out)
   replace T9 := Aside0.mk (show w7_.heap.size ≤ w8_.drew.heap.size from T9.out)
   generalize w8_.drew = w9 at S9 R9 X9 K9 B9 T9 hHeld ⊢
   refine take_ (i := 0) (N := some 41) (v := ?_) (a' := ?_) #[true, false, false, false, false] rfl rfl (by kernel_rfl) (fun _ _ _ h => h) (Or.inl ⟨by rfl, ?_⟩) hHeld ?_ ?_
   rotate_left
   ·rintro w' ⟨⟨s0, s1⟩, ⟨s2, s3⟩⟩
    go_simp
    with_reducible rfl
   rotate_left
   ·simp only [Act.put, List.setIfInBounds_toArray, List.set_cons_zero, List.set_cons_succ, i64_w, i32_w]
    rfl
   refine take_ (i := 1) (N := some 42) (v := ?_) (a' := ?_) #[true, true, false, false, false] rfl rfl (by kernel_rfl) (fun _ _ _ h => h) (Or.inl ⟨by rfl, ?_⟩) hHeld ?_ ?_
   rotate_left
   ·rintro w' ⟨⟨s0, s1⟩, ⟨s2, s3⟩⟩
    go_simp
    with_reducible rfl
   rotate_left
   ·simp only [Act.put, List.setIfInBounds_toArray, List.set_cons_zero, List.set_cons_succ, i64_w, i32_w]
    rfl
   refine one_ (i := 2) (N := some 43) #[true, true, true, false, false] rfl rfl (by kernel_rfl) (by decide) (fun K hK => ?_)
   refine goes_ Tryd.func15 (by kernel_rfl) rfl #[.agg #[.int .i64 a0_0, .slice A0_1 l0_1.length c0_1]] (by rfl) rfl rfl (by (try simp only [List.map_toArray, List.map_cons, List.map_nil]); first | done | rfl) ?_
   refine (laws_toParty.calls k a0_0 A0_1 c0_1 l0_1 n ps w9 (Kd.C_below HR0.out (below_then B4.out B4.out.size B9.out)) HC0.out HTO.out).mono ?_
   rintro e w10_ ⟨v_, rfl, ho, hb⟩
   refine ⟨_, rfl, ?_⟩
   obtain ⟨A10, c10, e10⟩ := Kd.R_slice ho
   subst e10
   have P10 := Aside0.mk ho
   have S10 := Aside0.mk (Kd.S_below S9.out hb)
   have R10 := Aside0.mk (Kd.R_below R9.out hb)
   have X10 := Aside0.mk (blk_below X9.out hb)
   have K10 := Aside0.mk (blk_below K9.out hb)
   have B10 := Aside0.mk (below_step B9.out hb)
   have T10 := Aside0.mk (Nat.le_trans T9.out hb.size)
   clear ho hb S9 R9 X9 K9 B9
   refine hK.out _ _ (⟨⟨(blk_cell X10.out 0).trans rfl, (blk_cell X10.out 1).trans rfl⟩, ⟨(blk_cell K10.out 0).trans rfl, (blk_cell K10.out 1).trans rfl⟩⟩) (fun hHeld => ?_)
   clear hK K
   refine norm_ (a' := ?_) ?_ ?_
   rotate_left
   ·show Act.put _ (some 43) _ = _
    simp only [Act.put, List.setIfInBounds_toArray, List.set_cons_zero, List.set_cons_succ, i64_w, i32_w]
    rfl
   refine one_ (i := 3) (N := some 44) #[true, true, true, true, false] rfl rfl (by kernel_rfl) (by decide) (fun K hK => ?_)
   refine goes_ Tryd.func17 (by kernel_rfl) rfl #[.agg #[.int .i64 n, .slice A5 ps.length c5], .agg #[.int .i64 n, .slice A10 ps.length c10]] (by rfl) rfl rfl (by (try simp only [List.map_toArray, List.map_cons, List.map_nil]); first | done | rfl) ?_
   refine (laws_eqParty.calls k n A5 c5 ps n A10 c10 ps true w10_ (Kd.R_reads' R10.out).2.2 (Kd.R_reads' R10.out).2.1 (Kd.R_reads' P10.out).2.2 (Kd.R_reads' P10.out).2.1 HEP.out).mono ?_
   rintro e w11_ ⟨rfl, hb⟩
   refine ⟨_, rfl, ?_⟩
   have S11 := Aside0.mk (Kd.S_below S10.out hb)
   have R11 := Aside0.mk (Kd.R_below R10.out hb)
   have X11 := Aside0.mk (blk_below X10.out hb)
   have K11 := Aside0.mk (blk_below K10.out hb)
   have B11 := Aside0.mk (below_step B10.out hb)
   have T11 := Aside0.mk (Nat.le_trans T10.out hb.size)
   clear hb S10 R10 X10 K10 B10 P10
   refine hK.out _ _ (⟨⟨(blk_cell X11.out 0).trans rfl, (blk_cell X11.out 1).trans rfl⟩, ⟨(blk_cell K11.out 0).trans rfl, (blk_cell K11.out 1).trans rfl⟩⟩) (fun hHeld => ?_)
   clear hK K
   refine norm_ (a' := ?_) ?_ ?_
   rotate_left
   ·show Act.put _ (some 44) _ = _
    simp only [Act.put, List.setIfInBounds_toArray, List.set_cons_zero, List.set_cons_succ, i64_w, i32_w]
    rfl
   refine pure_ (i := 4) (N := some 45) (v := ?_) (a' := ?_) #[true, true, true, true, true] rfl rfl (by kernel_rfl) (fun _ _ _ h => h) (Or.inl ⟨by rfl, ?_⟩) ?_ ?_
   rotate_left
   ·intro w'
    go_simp
    with_reducible rfl
   rotate_left
   ·simp only [Act.put, List.setIfInBounds_toArray, List.set_cons_zero, List.set_cons_succ, i64_w, i32_w]
    rfl
   refine done_ (by kernel_rfl) ?_
   have hx0 : w11_.cell? ⟨gx, 0, none⟩ = some (.int .i64 n) := (blk_cell X11.out 0).trans rfl
   have hx1 : w11_.cell? ⟨gx, 1, none⟩ = some (.slice A5 ps.length c5) := (blk_cell X11.out 1).trans rfl
   have HLEN : (mkSS ri 1).length = ri.length := mkSS_len ri 1
   have HHM := Aside0.mk (show laws_heldIntSS.f k (mkSS ri 1) 1 = some M from by rw [← HM.out]; exact HHELD.out)
   have KB := Aside0.mk (show gb < w4_.heap.size from GB4.out)
   have LW := Aside0.mk (show w4_.heap.size ≤ W6.heap.size from by have h_ := LW5.out; omega)
   go_wp2_with (first | ((with_reducible refine gate_callee (f := 23) rfl ?_); (with_reducible refine gate_dst (N := 48) rfl ?_); refine goesL_ (some 48) rfl rfl Tryd.func23 (by kernel_rfl) rfl #[.agg #[.int .i64 n, .slice A5 ps.length c5], .int .i64 1] rfl (by (try simp only [List.map_toArray, List.map_cons, List.map_nil]); first | done | rfl) ?_; (with_reducible refine (laws_markParty.calls k n (fun k => k < w5_.heap.size ∧ w4_.heap.size ≤ k) (.slice A5 ps.length c5) ps 1 q pq w4_ w11_ B11.out ?p1 HMP.out).mono ?_); (case p1 => exact Kd.R_mono (Kd.R_bound R11.out) (fun k hk => ⟨hk.1, hk.2.1⟩)); rintro e w12_ ⟨rfl, hR, hB, hk⟩; refine ⟨_, rfl, ?_⟩; have B12 := Aside0.mk hB; have K12 := Aside0.mk (blk_kept K11.out hk (fun h => by have h1 := KB.out; omega)); have S12 := Aside0.mk (Kd.S_kept S11.out hk (fun k hk h => by omega)); have T12 := Aside0.mk (Nat.le_trans T11.out hk.1); clear hR hB hk S11 R11 X11 K11 B11 hx0 hx1) | ((with_reducible refine gate_callee (f := 30) rfl ?_); (with_reducible refine gate_dst (N := 54) rfl ?_); (try (refine gate_guard (by rfl) ?_; dsimp only)); refine goesL_ (some 54) rfl rfl Tryd.func30 (by kernel_rfl) rfl #[.slice A7 ri.length c7, .slice A4 ri.length c4] rfl (by (try simp only [List.map_toArray, List.map_cons, List.map_nil]); first | done | rfl) ?_; (with_reducible refine (laws_eqIntSS.calls k A7 c7 ri A4 c4 ri true w12_ (Kd.S_reads' S12.out).2.2 (Kd.S_reads' S12.out).2.1 (Kd.C_below C4.out.2 B12.out) C4.out.1 HEQ.out).mono ?_); rintro e w13_ ⟨rfl, hd⟩; refine ⟨_, rfl, ?_⟩; have S13 := Aside0.mk (Kd.S_below S12.out hd.below); have K13 := Aside0.mk (blk_below K12.out hd.below); have B13 := Aside0.mk (below_step B12.out hd.below); have T13 := Aside0.mk (Nat.le_trans T12.out hd.below.size); clear hd S12 K12 B12) | ((with_reducible refine gate_callee (f := 31) rfl ?_); (with_reducible refine gate_dst (N := 64) rfl ?_); refine goesL_ (some 64) rfl rfl Tryd.func31 (by kernel_rfl) rfl #[.slice A7 ri.length c7, .int .i64 1] rfl (by (try simp only [List.map_toArray, List.map_cons, List.map_nil]); first | done | rfl) ?_; (with_reducible refine (laws_markIntSS.walk w4_ w13_ (fun k => W6.heap.size ≤ k ∧ k < w7_.heap.size) A7 c7 ri 1 ri.length rfl (by decide) (by have h_ := Hsz2.out; omega) B13.out ?p1 hrl).mono ?_); (case p1 => exact Kd.S_lower S13.out LW.out); rintro e w14_ ⟨rfl, hS, hB, hk⟩; refine ⟨_, rfl, ?_⟩; rw [HM.out]; have S14 := Aside0.mk hS; have B14 := Aside0.mk hB; have K14 := Aside0.mk (blk_kept K13.out hk (fun h => by have h1 := KB.out; have h2 := LW.out; omega)); have T14 := Aside0.mk (Nat.le_trans T13.out hk.1); clear hS hB hk S13 K13 B13) | ((with_reducible refine gate_callee (f := 32) rfl ?_); (with_reducible refine gate_dst (N := 67) rfl ?_); refine goesL_ (some 67) rfl rfl Tryd.func32 (by kernel_rfl) rfl #[.slice A7 ri.length c7, .int .i64 1] rfl (by (try simp only [List.map_toArray, List.map_cons, List.map_nil]); first | done | rfl) ?_; (with_reducible refine ((HLEN ▸ laws_heldIntSS.calls k A7 c7 (mkSS ri 1) 1 M w14_ (Kd.S_reads' S14.out).2.2 (by rw [mkSS_len]; exact (Kd.S_reads' S14.out).2.1) HHM.out)).mono ?_); rintro e w15_ ⟨rfl, hd⟩; refine ⟨_, rfl, ?_⟩; have S15 := Aside0.mk (Kd.S_below S14.out hd.below); have K15 := Aside0.mk (blk_below K14.out hd.below); have B15 := Aside0.mk (below_step B14.out hd.below); clear hd S14 K14 B14; have hk0 : w15_.cell? ⟨gb, 0, none⟩ = some (.int .i64 a0_0) := (blk_cell K15.out 0).trans rfl; have hk1 : w15_.cell? ⟨gb, 1, none⟩ = some (.slice A0_1 l0_1.length c0_1) := (blk_cell K15.out 1).trans rfl) | ((with_reducible refine gate_callee (f := 15) rfl ?_); (with_reducible refine gate_dst (N := 75) rfl ?_); refine goesL_ (some 75) rfl rfl Tryd.func15 (by kernel_rfl) rfl #[.agg #[.int .i64 a0_0, .slice A0_1 l0_1.length c0_1]] rfl (by (try simp only [List.map_toArray, List.map_cons, List.map_nil]); first | done | rfl) ?_; (with_reducible refine (laws_toParty.calls k a0_0 A0_1 c0_1 l0_1 n ps w15_ (Kd.C_below HR0.out (below_then B4.out B4.out.size B15.out)) HC0.out HTO.out).mono ?_); rintro e w16_ ⟨v_, rfl, ho, hb⟩; refine ⟨_, rfl, ?_⟩; obtain ⟨A16, c16, e16⟩ := Kd.R_slice ho; subst e16; have R16 := Aside0.mk ho; have S16 := Aside0.mk (Kd.S_below S15.out hb); have B16 := Aside0.mk (below_step B15.out hb); clear ho hb S15 B15 K15 hk0 hk1) | ((with_reducible refine gate_callee (f := 29) rfl ?_); (with_reducible refine gate_dst (N := 76) rfl ?_); refine goesL_ (some 76) rfl rfl Tryd.func29 (by kernel_rfl) rfl #[.agg #[.int .i64 n, .slice A16 ps.length c16]] rfl (by (try simp only [List.map_toArray, List.map_cons, List.map_nil]); first | done | rfl) ?_; (with_reducible refine (impl_AllGroups.calls k n A16 c16 ps ri bi w16_ (HG.out.below (below_then B4.out B4.out.size B16.out)) (Kd.R_reads' R16.out).2.2 (Kd.R_reads' R16.out).2.1 HIM.out).mono ?_); rintro e w17_ ⟨v_, rfl, ho, hb⟩; refine ⟨_, rfl, ?_⟩; obtain ⟨A17, c17, e17⟩ := Kd.S_slice ho; subst e17; have P17 := Aside0.mk ho; have S17 := Aside0.mk (Kd.S_below S16.out hb); have B17 := Aside0.mk (below_step B16.out hb); clear ho hb S16 B16 R16) | ((with_reducible refine gate_callee (f := 30) rfl ?_); (with_reducible refine gate_dst (N := 81) rfl ?_); (try (refine gate_guard (by rfl) ?_; dsimp only)); refine goesL_ (some 81) rfl rfl Tryd.func30 (by kernel_rfl) rfl #[.slice A17 ri.length c17, .slice A4 ri.length c4] rfl (by (try simp only [List.map_toArray, List.map_cons, List.map_nil]); first | done | rfl) ?_; (with_reducible refine (laws_eqIntSS.calls k A17 c17 ri A4 c4 ri true w17_ (Kd.S_reads' P17.out).2.2 (Kd.S_reads' P17.out).2.1 (Kd.C_below C4.out.2 B17.out) C4.out.1 HEQ.out).mono ?_); rintro e w18_ ⟨rfl, hd⟩; refine ⟨_, rfl, ?_⟩; replace S17 := Aside0.mk (Kd.S_below S17.out hd.below); replace B17 := Aside0.mk (below_step B17.out hd.below); clear hd P17) | ((with_reducible refine gate_callee (f := 32) rfl ?_); (with_reducible refine gate_dst (N := 90) rfl ?_); refine goesL_ (some 90) rfl rfl Tryd.func32 (by kernel_rfl) rfl #[.slice A7 ri.length c7, .int .i64 1] rfl (by (try simp only [List.map_toArray, List.map_cons, List.map_nil]); first | done | rfl) ?_; (with_reducible refine ((HLEN ▸ laws_heldIntSS.calls k A7 c7 (mkSS ri 1) 1 M w18_ (Kd.S_reads' S17.out).2.2 (by rw [mkSS_len]; exact (Kd.S_reads' S17.out).2.1) HHM.out)).mono ?_); rintro e w19_ ⟨rfl, hd⟩; refine ⟨_, rfl, ?_⟩; replace B17 := Aside0.mk (below_step B17.out hd.below); clear hd S17))
   go_ret
   exact ⟨rfl, below_then B4.out B4.out.size B17.out⟩
  ·cases h5
end Go.Proofs.YtopahhcojncgaaaDoor.G
namespace Go.Proofs.YtopahhcojncgaaaDoor.G
open Go.RowKit Go.Proofs.YtopahhcojncgaaaDoorW.PrintWords Go.Proofs.YtopahhcojncgaaaDoorW.PrintLast Go.Proofs.YtopahhcojncgaaaDoorW.PrintMore
set_option linter.unusedVariables false
set_option linter.unusedSimpArgs false
theorem flatMap_cong {α β : Type} (L : List α) (f g : α → List β) (h : ∀ a ∈ L, f a = g a) : L.flatMap f = L.flatMap g := by
  induction L with
  | nil => rfl
  | cons a L ih => rw [List.flatMap_cons, List.flatMap_cons, h a (List.mem_cons_self ..), ih (fun b hb => h b (List.mem_cons_of_mem _ hb))]
theorem glF_fuel (T : List (List Bool)) : ∀ (m : Nat) (p : List Nat) (i : Nat), 0 < m → T.length < i + m → glF T (m + 1) p i = glF T m p i := by
  intro m
  induction m with
  | zero => intro p i h; omega
  | succ m ih =>
    intro p i _ h
    show p :: _ = p :: _
    congr 1
    refine flatMap_cong _ _ _ (fun a ha => ?_)
    obtain ⟨h1, h2⟩ := List.mem_filter.1 ha
    have h3 := List.mem_range.1 h1
    have h4 : i ≤ a := by simp at h2; exact h2.1
    exact ih _ _ (by omega) (by omega)
theorem glF_fuel_le (T : List (List Bool)) (m d : Nat) (hm : 0 < m) (h : T.length < m) : glF T (m + d) [] 0 = glF T m [] 0 := by
  induction d with
  | zero => rfl
  | succ d ih => rw [← ih, ← Nat.add_assoc]; exact glF_fuel T (m + d) [] 0 (by omega) (by omega)
theorem szSS_le (c : Nat) (l : List (List Int)) (h : ∀ r ∈ l, r.length ≤ c) : szSS l ≤ l.length * c := by
  induction l with
  | nil => exact Nat.zero_le _
  | cons r l ih =>
    have h1 := ih (fun x hx => h x (List.mem_cons_of_mem _ hx))
    have h2 := h r (List.mem_cons_self ..)
    have : szSS (r :: l) = r.length + szSS l := by simp [szSS]
    rw [this, List.length_cons, Nat.add_mul]
    omega
theorem fulls_both (N : Nat) (hN : N < 16) (A : Nat → Nat → Bool) (hs : ∀ a b, A a b = A b a) (hi : ∀ a, A a a = false) (T : List (List Bool)) (t : List Int) (hTl : T.length = N) (hT : ∀ a b, a < N → b < N → tab T a b = A a b)
    (htl : t.length = N) (ht : ∀ a b, a < N → b < N → (t.getD a 0).toNat.testBit b = A a b) (htr : ∀ a, 0 ≤ t.getD a 0 ∧ t.getD a 0 < 2 ^ N) :
    impl_table_full.f t = some (grFl T (glF T (T.length + 1) [] 0)) ∧ (grFl T (glF T (T.length + 1) [] 0)).length ≤ 65536 ∧ ∀ r ∈ grFl T (glF T (T.length + 1) [] 0), r.length ≤ 100 := by
  have hp16 : 2 ^ N < 65536 := Nat.pow_lt_pow_right (by decide) hN (n := 16)
  have htr2 : ∀ a, (t.getD a 0).toNat < 2 ^ N := by
    intro a
    obtain ⟨q0, q1⟩ := htr a
    have : (((t.getD a 0).toNat : Nat) : Int) < ((2 ^ N : Nat) : Int) := by rw [Int.toNat_of_nonneg q0]; exact_mod_cast q1
    exact_mod_cast this
  have hcond : t.length < 16 ∧ (∀ i, i < t.length → 0 ≤ t.getD i 0 ∧ t.getD i 0 < 65536) ∧ (∀ a, a < t.length → (t.getD a 0).toNat.testBit a = false) := by
    refine ⟨by omega, fun i _ => ⟨(htr i).1, ?_⟩, fun a ha => ?_⟩
    · have h1 := htr2 i
      have h2 := (htr i).1
      omega
    · rw [ht a a (by omega) (by omega)]; exact hi a
  have hmem := glF_mem8 T N hTl (T.length + 1) [] 0 (fun x hx => absurd hx List.not_mem_nil)
  refine ⟨?_, ?_, fun r hr => ?_⟩
  · unfold impl_table_full.f
    rw [if_pos hcond, htl, fulls_same t T N (by omega) hTl A hT ht hs hi 17]
    unfold grFl
    rw [hTl, show (17 : Nat) = (N + 1) + (16 - N) by omega, glF_fuel_le T (N + 1) (16 - N) (by omega) (by omega)]
  · have h1 := grFl_len T (glF T (T.length + 1) [] 0)
    have h2 := (glF_both T T.length rfl (T.length + 1) [] 0 (Nat.zero_le _)).1
    have h3 : 2 ^ (T.length - 0) ≤ 65536 := Nat.pow_le_pow_right (n := 2) (by decide) (show T.length - 0 ≤ 16 by omega)
    omega
  · unfold grFl at hr
    obtain ⟨g, hg, rfl⟩ := List.mem_map.1 hr
    have := (hmem g (List.mem_filter.1 hg).1).2
    rw [ints_len]
    rw [List.length_nil] at this
    omega
theorem allGroups_eq (n : Int) (ps : List S98) (hl : ps.length < 4611686018427387904) :
    ∃ (r : List (List Int)) (b : Bool), Ev (fun k => spec_AllGroups.f k n ps) (r, b) ∧ Ev (fun k => impl_AllGroups.f k n ps) (r, b) ∧ r.length ≤ 65536 ∧ ∀ x ∈ r, x.length ≤ 100 := by
  have h1 := paGood_eq n ps hl
  have h2 := isParty_eq n ps hl
  cases hg : good n ps
  · rw [hg] at h1 h2
    exact ⟨[], false, Ev.bind h1 (Ev.ifn (by decide) (Ev.pure _)), Ev.bind h2 (Ev.ifn (by decide) (Ev.pure _)), by simp, fun x hx => absurd hx List.not_mem_nil⟩
  · rw [hg] at h1 h2
    have hG := good_iff.1 hg
    obtain ⟨N, rfl⟩ : ∃ N : Nat, n = (N : Int) := ⟨n.toNat, by have := hG.1; omega⟩
    have hN := hG.2.1
    obtain ⟨T, hT, hTE⟩ := paTable_eq N ps hG hl
    obtain ⟨t, ht, htE⟩ := table_eq N ps hG hl
    obtain ⟨e1, e2, e3⟩ := fulls_both N (by omega) (adj ps) (adj_comm ps) (adj_self hG) T t hT.len hT.at_ ht.len ht.at_ ht.lt
    refine ⟨_, true, Ev.bind h1 (Ev.ifp rfl (Ev.bind (v := grFl T (glF T (T.length + 1) [] 0)) ?_ (Ev.pure _))), Ev.bind h2 (Ev.ifp rfl (Ev.bind htE (Ev.bindC e1 (Ev.pure _)))), e2, e3⟩
    refine Ev.bind hTE (Ev.ifp ⟨by rw [hT.len]; omega, fun r hr => ?_⟩ (Ev.pure _))
    obtain ⟨i, hi, rfl⟩ := List.getElem_of_mem hr
    have := hT.row i (by rw [← hT.len]; exact hi)
    rw [List.getD_eq_getElem?_getD, List.getElem?_eq_getElem hi, Option.getD_some] at this
    rw [this, hT.len]
theorem FnExactAllGroups_true (n : Int) (l : List S144) (hl : l.length ≤ 9223372036854775807) : ∃ k, laws_FnExactAllGroups.f k n l = some true := by
  refine Ev.one ?_
  unfold laws_FnExactAllGroups.f
  refine Ev.bindC (szParty_eq n l hl) ?_
  by_cases h : l.length ≤ 1048576
  · rw [if_pos h]
    have hp : (l.map toP).length < 4611686018427387904 := by rw [List.length_map]; omega
    have hp2 : (l.map toP).length ≤ 1048576 := by rw [List.length_map]; exact h
    obtain ⟨r, b, h1, h2, hr, hx⟩ := allGroups_eq n (l.map toP) hp
    have hsz := szSS_le 100 r hx
    refine Ev.ifn (by omega) (Ev.bind (toParty_eq n l h) (Ev.bind h1 (Ev.bind h2 (Ev.bind (markParty_eq n _ hp2) ?_))))
    obtain ⟨K1, k1⟩ := eqIntSS_refl r (by omega) (fun x hx2 => by have := hx x hx2; omega)
    obtain ⟨K2, k2⟩ := eqParty_refl n _ hp
    obtain ⟨K3, k3⟩ := heldIntSS_eq r 1 (by decide) (by omega) (by omega)
    refine ⟨K1 + K2 + K3, fun k hk => ?_⟩
    have e1 := k1 k (by omega)
    have e2 := k2 k (by omega)
    have e3 := k3 k (by omega)
    exact if_pos ⟨rfl, e1, e2, by simp only; omega, by simp only; omega, by simp only; omega, e3⟩
  · rw [if_neg h]
    exact Ev.ifp (by decide) (Ev.pure _)
end Go.Proofs.YtopahhcojncgaaaDoor.G
namespace Go.Proofs.YtopahhcojncgaaaDoor.G
open Go.RowKit Go.Proofs.YtopahhcojncgaaaDoorW.PrintWords Go.Proofs.YtopahhcojncgaaaDoorW.PrintLast Go.Proofs.YtopahhcojncgaaaDoorW.PrintMore
attribute [local go_sem] max2_int min2_int max_two min_two max_three min_three max_four min_four
set_option linter.unusedVariables false
set_option linter.unusedSimpArgs false
def impl_table_others.l0 : Nat → List Int → List Int → Int → Int → Option (List Int)
 | 0, _, _, _, _ => none
 | k + 1, x0, x3, x9, x10 => if x10 < x9 then (if 0 ≤ x10 then (if x10 < (x0.length : Int) then (if x10 < (x3.length : Int) then (impl_table_others.l0 k x0 (x3.set (x10 : Int).toNat (Go.bits .andNot .u16 (Go.bits .andNot .u16 (IntKind.u16.wrap ((shl .u16 1 (x0.length : Int)) - 1)) (rd x0 x10)) (shl .u16 1 x10))) x9 (wrap64 (x10 + 1))) else (none)) else (none)) else (none)) else (some x3)
def impl_table_others.f (k : Nat) (l0 : List Int) : Option (List Int) := if 0 ≤ (l0.length : Int) then (if ((l0.length : Int) : Int).toNat ≤ 140737488355328 then (impl_table_others.l0 k l0 (List.replicate ((l0.length : Int) : Int).toNat 0) (l0.length : Int) 0) else (none)) else (none)
theorem impl_table_others.mono_l : ∀ k, (∀ y0 y1 y2 y3, LeO (impl_table_others.l0 k y0 y1 y2 y3) (impl_table_others.l0 (k + 1) y0 y1 y2 y3))
 | 0 => fun _ _ _ _ r h => by simp [impl_table_others.l0] at h
 | k + 1 => by
  have ih0 := impl_table_others.mono_l k
  ·intro y0 y1 y2 y3
   unfold impl_table_others.l0
   repeat' first
   | (with_reducible exact ih0 _ _ _ _)
   | (with_reducible exact LeO.refl _)
   | (with_reducible exact LeO.none _)
   | (with_reducible refine LeO.ite ?_ ?_)
   | (with_reducible refine LeO.bind ?_ (fun _ => ?_))
   | exact ih0 _ _ _ _
   | exact LeO.none _
   | refine LeO.ite ?_ ?_
   | refine LeO.bind ?_ (fun _ => ?_)
theorem impl_table_others.mono : ∀ a0 k, LeO (impl_table_others.f k a0) (impl_table_others.f (k + 1) a0) := by
 intro a0 k
 have ih0 := impl_table_others.mono_l k
 unfold impl_table_others.f
 repeat' first
   | (with_reducible exact ih0 _ _ _ _)
   | (with_reducible exact LeO.refl _)
   | (with_reducible exact LeO.none _)
   | (with_reducible refine LeO.ite ?_ ?_)
   | (with_reducible refine LeO.bind ?_ (fun _ => ?_))
   | exact ih0 _ _ _ _
   | exact LeO.none _
   | refine LeO.ite ?_ ?_
   | refine LeO.bind ?_ (fun _ => ?_)
def impl_table_others.T5 : Bool × List (List Nat × List Nat) := (true, [([], []), ([], []), ([], []), ([2], [2]), ([3], [3]), ([4], [4]), ([], []), ([], []), ([6, 7], [6, 7]), ([8], [8]), ([5, 9], [5, 9]), ([], []), ([11], [11]), ([10, 12], [10, 12]), ([0, 1, 0, 1, 2, 3, 4, 5, 6, 7, 8, 9, 10, 11, 12, 13], [0, 1]), ([14, 13, 0, 1, 2, 3, 4, 5, 6, 7, 8, 9, 10, 11, 12, 13], [13, 14])])
def impl_table_others.B5 : List Nat := [0, 0, 0, 4, 12, 28, 0, 0, 192, 448, 1020, 0, 2048, 8188, 16383, 32767]
theorem impl_table_others.tab5 : rtab .any (opsOf Tryd.f88 5) = impl_table_others.T5 := by kernel_rfl
theorem impl_table_others.bits5 : waitsOk impl_table_others.T5.2 impl_table_others.B5 = true := by kernel_rfl
set_option maxHeartbeats 8000000 in
set_option maxRecDepth 100000 in
theorem impl_table_others.calls (k : Nat) (A0 : Option Addr) (c0 : Nat) (l0 : List Int) (r : List Int) (w : World) (hr0 : Kd.C (Kd.int .u16) w A0 l0.length l0) (hc0 : l0.length ≤ c0) (h : impl_table_others.f k l0 = some r) :
  Calls Tryd.prog 88 #[.slice A0 l0.length c0] w fun e w' => ∃ v0_ : Value, e = .returned (v0_) ∧ Kd.R (Kd.int .u16) 91 w' w.heap.size (fun _ => True) v0_ r ∧ Below w.heap.size w w' := by
 have HR0 := Aside0.mk hr0
 have HC0 := Aside0.mk hc0
 clear hr0 hc0
 have HB := Aside0.mk (Below.refl w.heap.size w)
 have H : (if 0 ≤ (l0.length : Int) then (if ((l0.length : Int) : Int).toNat ≤ 140737488355328 then (impl_table_others.l0 k l0 (List.replicate ((l0.length : Int) : Int).toNat 0) (l0.length : Int) 0) else (none)) else (none)) = some r := h
 clear h
 by_cases c2 : 0 ≤ (l0.length : Int)
 ·rw [if_pos c2] at H
  have c2b0 := eq_true c2
  have c2b1 : decide (0 ≤ (l0.length : Int)) = true := decide_eq_true c2
  clear c2
  by_cases c3 : ((l0.length : Int) : Int).toNat ≤ 140737488355328
  ·rw [if_pos c3] at H
   have c3b0 := eq_true c3
   have c3b1 : decide (((l0.length : Int) : Int).toNat ≤ 140737488355328) = true := decide_eq_true c3
   clear c3
   obtain ⟨y509, hy509⟩ : ∃ y_ : List Int, y_ = (List.replicate ((l0.length : Int) : Int).toNat 0) := ⟨_, rfl⟩
   replace H : (impl_table_others.l0 k l0 y509 (l0.length : Int) 0) = some r := by first | (rw [hy509]; with_reducible exact H) | (have H2_ := (Option.bind_some _ _).symm.trans H; rw [hy509]; with_reducible exact H2_) | (have H2_ := (Option.bind_some _ _).symm.trans H; with_reducible exact H2_) | with_reducible exact H | (rw [hy509]; exact H) | exact H
   have Ny509 := Aside0.mk hy509
   clear hy509
   have H' := Aside0.mk H
   clear H
   go_enter Tryd.func88, Tryd.ntmps88
   go_wp2_with (first | ((with_reducible refine gate_dst (N := 7) rfl ?_); refine Kd.R_make (Kd.int .u16) _ 91 rfl (N := 7) rfl 88 _ _ rfl (l0.length : Int) rfl rfl Tryd.underlying88 (.int .u16 0) 2 info91 rfl (by decide) (by omega) 0 (ok := fun _ => True) (okp := fun _ => True) rfl (fun _ hk => hk) trivial (of_decide_eq_true (by first | (with_reducible assumption) | assumption)) (Nat.le_trans (Nat.mul_le_mul_right _ (of_decide_eq_true (by first | (with_reducible assumption) | assumption) : (l0.length : Int).toNat ≤ 140737488355328)) (by omega)) (Below.refl _ _) (Nat.le_refl _) ?_; intro v510 w4 ho5 hb hg_ hnew_; clear hg_ hnew_; (first | rw [← Ny509.out] at ho5 | (simp only [Int.reduceToNat] at ho5; rw [← Ny509.out] at ho5)); have n0_ := Aside0.mk (Kd.R_lower ho5 (below_size (by repeat (first | (with_reducible first | exact HB.out | apply below_alloc | apply pw_below_drewN | apply below_drew1) | exact HB.out)))); have n1_ := Aside0.mk (below_step (by repeat (first | (with_reducible first | exact HB.out | apply below_alloc | apply pw_below_drewN | apply below_drew1) | exact HB.out)) hb); clear HB; have HO511 := n0_; have HB := n1_; clear n0_ n1_; clear hb ho5))
   go_loopg [10] k (fun kq v10 w' => ∃ (x3_1 : List Int) (x10_1 : Int), v10 = .int .i64 x10_1 ∧ Aside0 (impl_table_others.l0 kq l0 x3_1 (l0.length : Int) x10_1 = some r) ∧ Aside0 (kq ≤ k) ∧ Aside0 (Kd.R (Kd.int .u16) 91 w' w.heap.size (fun _ => True) v510 x3_1) ∧ Aside0 (Below w.heap.size w w'))
   case atStart => exact ⟨(y509), (0), (by first | rfl | (simp; done) | (simp [*]; done)), H', ⟨Nat.le_refl _⟩, ⟨by (with_reducible repeat (first | apply Kd.R_alloc | apply Kd.R_drewN | apply Kd.R_drew)); exact HO511.out⟩, ⟨by repeat (first | (with_reducible first | exact HB.out | apply below_alloc | apply pw_below_drewN | apply below_drew1) | exact HB.out)⟩⟩
   case round =>
    clear H'
    try clear c2
    try clear c2b0
    try clear c2b1
    try clear p2
    try clear c3
    try clear c3b0
    try clear c3b1
    obtain ⟨x3_1, x10_1, rfl, HA, HK1, HO_3, HB⟩ := hrel
    cases gk with
    | zero => exact absurd HA.out (by simp [impl_table_others.l0])
    | succ k1 =>
     have H := HA.out
     clear HA
     simp only [impl_table_others.l0] at H
     by_cases c6 : x10_1 < (l0.length : Int)
     ·rw [if_pos c6] at H
      have c6b0 : decide (x10_1 < (l0.length : Int)) = true := decide_eq_true c6
      clear c6
      obtain ⟨ji7, hji7⟩ : ∃ j_ : Int, (shl .u16 1 (l0.length : Int)) = j_ := ⟨_, rfl⟩
      replace H : (if 0 ≤ x10_1 then (if x10_1 < (l0.length : Int) then (if x10_1 < (x3_1.length : Int) then (impl_table_others.l0 k1 l0 (x3_1.set (x10_1 : Int).toNat (Go.bits .andNot .u16 (Go.bits .andNot .u16 (IntKind.u16.wrap ((ji7) - 1)) (rd l0 x10_1)) (shl .u16 1 x10_1))) (l0.length : Int) (wrap64 (x10_1 + 1))) else (none)) else (none)) else (none)) = some r := by first | (rw [hji7] at H; exact H) | (simp only [hji7] at H ⊢; exact H)
      have hji7_ : (IntKind.u16.wrap (1 * 2 ^ min (l0.length : Int).toNat 16)) = ji7 := hji7
      have hji7z : (l0.length : Int) ≤ 16 → (IntKind.u16.wrap (1 * 2 ^ (l0.length : Int).toNat)) = ji7 := shl_small hji7
      have hji7p : (IntKind.u16.wrap (1 * 2 ^ min l0.length 16)) = ji7 := hji7_
      have hji7q : (l0.length : Int) ≤ 16 → (IntKind.u16.wrap (1 * 2 ^ l0.length)) = ji7 := hji7z
      have hji7r : (IntKind.u16.wrap (2 ^ min l0.length 16)) = ji7 := by have h_ := hji7p; rw [Int.one_mul] at h_; exact h_
      have hji7s : (l0.length : Int) ≤ 16 → (IntKind.u16.wrap (2 ^ l0.length)) = ji7 := fun hle_ => by have h_ := hji7q hle_; rw [Int.one_mul] at h_; exact h_
      have hji7u : (IntKind.u16.wrap (2 ^ min (l0.length : Int).toNat 16)) = ji7 := by have h_ := hji7_; rw [Int.one_mul] at h_; exact h_
      have hji7v : (l0.length : Int) ≤ 16 → (IntKind.u16.wrap (2 ^ (l0.length : Int).toNat)) = ji7 := fun hle_ => by have h_ := hji7z hle_; rw [Int.one_mul] at h_; exact h_
      by_cases c8 : 0 ≤ x10_1
      ·rw [if_pos c8] at H
       have c8b0 : decide (0 ≤ x10_1) = true := decide_eq_true c8
       clear c8
       by_cases c9 : x10_1 < (l0.length : Int)
       ·rw [if_pos c9] at H
        have c9b0 : decide (x10_1 < (l0.length : Int)) = true := decide_eq_true c9
        clear c9
        have c10b0 := eq_true (of_decide_eq_true (by first | (with_reducible assumption) | assumption) : 0 ≤ x10_1)
        obtain ⟨ji11, hji11⟩ : ∃ j_ : Int, (shl .u16 1 x10_1) = j_ := ⟨_, rfl⟩
        replace H : (if x10_1 < (x3_1.length : Int) then (impl_table_others.l0 k1 l0 (x3_1.set (x10_1 : Int).toNat (Go.bits .andNot .u16 (Go.bits .andNot .u16 (IntKind.u16.wrap ((ji7) - 1)) (rd l0 x10_1)) (ji11))) (l0.length : Int) (wrap64 (x10_1 + 1))) else (none)) = some r := by first | (rw [hji11] at H; exact H) | (simp only [hji11] at H ⊢; exact H)
        have hji11_ : (IntKind.u16.wrap (1 * 2 ^ min x10_1.toNat 16)) = ji11 := hji11
        have hji11z : x10_1 ≤ 16 → (IntKind.u16.wrap (1 * 2 ^ x10_1.toNat)) = ji11 := shl_small hji11
        have hji11u : (IntKind.u16.wrap (2 ^ min x10_1.toNat 16)) = ji11 := by have h_ := hji11_; rw [Int.one_mul] at h_; exact h_
        have hji11v : x10_1 ≤ 16 → (IntKind.u16.wrap (2 ^ x10_1.toNat)) = ji11 := fun hle_ => by have h_ := hji11z hle_; rw [Int.one_mul] at h_; exact h_
        by_cases c12 : x10_1 < (x3_1.length : Int)
        ·rw [if_pos c12] at H
         have c12b0 : decide (x10_1 < (x3_1.length : Int)) = true := decide_eq_true c12
         clear c12
         obtain ⟨y513, hy513⟩ : ∃ y_ : List Int, y_ = (x3_1.set (x10_1 : Int).toNat (Go.bits .andNot .u16 (Go.bits .andNot .u16 (IntKind.u16.wrap ((ji7) - 1)) (rd l0 x10_1)) (ji11))) := ⟨_, rfl⟩
         replace H : (impl_table_others.l0 k1 l0 y513 (l0.length : Int) (wrap64 (x10_1 + 1))) = some r := by first | (rw [hy513]; with_reducible exact H) | (have H2_ := (Option.bind_some _ _).symm.trans H; rw [hy513]; with_reducible exact H2_) | (have H2_ := (Option.bind_some _ _).symm.trans H; with_reducible exact H2_) | with_reducible exact H | (rw [hy513]; exact H) | exact H
         have Ny513 := Aside0.mk hy513
         clear hy513
         have H' := Aside0.mk H
         clear H
         try go_wp2
         have n0_ := Aside0.mk (Kd.R_drew HO_3.out)
         have n1_ := Aside0.mk (below_drew1 HB.out)
         clear HO_3
         clear HB
         have HO_3 := n0_
         have HB := n1_
         clear n0_ n1_
         have p512 : 0 ≤ (x10_1 : Int) := of_decide_eq_true (by first | (with_reducible assumption) | assumption)
         have q512 : x10_1 < (l0.length : Int) := of_decide_eq_true (by first | (with_reducible assumption) | assumption)
         obtain ⟨ad512, e512, hx512_0⟩ := Kd.at_int HR0.out x10_1 p512 q512
         have hw512_0 := hx512_0
         cases e512
         replace hx512_0 := (HB.out.cell (World.block_lt_of_cell? w _ hx512_0)).trans hx512_0
         replace p512 := eq_true p512
         replace q512 := eq_true q512
         have p13 : 0 ≤ (x10_1 : Int) := of_decide_eq_true (by first | (with_reducible assumption) | assumption)
         have q13 : (x10_1 : Int) < ((x3_1.length : Int) : Int) := of_decide_eq_true (by first | (with_reducible assumption) | assumption)
         obtain ⟨go13, co13, eo13, gb13, gl13, cl13, HG13⟩ := Kd.R_form HO_3.out (by omega)
         (first | cases eo13 | (injection eo13 with ea_ en_ ec_; (first | subst ea_ | (injection ea_ with ea_; subst ea_)); subst ec_; clear en_))
         have GB13 := Aside0.mk gb13
         have GG13 := Aside0.mk HG13
         clear gb13 gl13 HG13
         obtain ⟨hx13_0, hf13_0⟩ := Kd.R_celln 0 HO_3.out (x10_1 : Int) p13 q13
         replace p13 := eq_true p13
         replace q13 := eq_true q13
         have HP15 := Kd.R_putn HO_3.out (x10_1 : Int) (Go.bits .andNot .u16 (Go.bits .andNot .u16 (IntKind.u16.wrap ((ji7) - 1)) (rd l0 x10_1)) (ji11))
         rw [← Ny513.out] at HP15
         have HQ15 := Aside0.mk HP15
         clear HP15
         refine start_ (n := 16) (S := fun w' => w'.cell? (ad512.add (x10_1).toNat) = some (.int .u16 (rd l0 x10_1))) (ds := [15]) #[false, false, false, false, false, false, false, false, false, false, false, false, false, false, false, false] (by kernel_rfl) rfl rfl (((HB.out.cell (World.block_lt_of_cell? w _ hw512_0)).trans hw512_0)) (fun hHeld => ?_); refine with_tabW impl_table_others.tab5 impl_table_others.bits5 (fun HT_ HW_ => ?_)
         generalize wr.drew = w14 at HO_3 HB GG13 HQ15 hf13_0 hx13_0 hx512_0 hHeld ⊢
         refine pure_ (i := 0) (N := some 13) (v := ?_) (a' := ?_) #[true, false, false, false, false, false, false, false, false, false, false, false, false, false, false, false] rfl rfl (any_of HT_.out (by kernel_rfl)) (fun _ _ _ h => h) (Or.inl ⟨by rfl, ?_⟩) ?_ ?_
         rotate_left
         ·intro w'
          go_simp
          with_reducible rfl
         rotate_left
         ·simp only [Act.put, List.setIfInBounds_toArray, List.set_cons_zero, List.set_cons_succ, i64_w, i32_w]
          rfl
         refine pure_ (i := 1) (N := some 14) (v := ?_) (a' := ?_) #[true, true, false, false, false, false, false, false, false, false, false, false, false, false, false, false] rfl rfl (any_of HT_.out (by kernel_rfl)) (fun _ _ _ h => h) (Or.inl ⟨by rfl, ?_⟩) ?_ ?_
         rotate_left
         ·intro w'
          go_simp
          with_reducible rfl
         rotate_left
         ·simp only [Act.put, List.setIfInBounds_toArray, List.set_cons_zero, List.set_cons_succ, i64_w, i32_w]
          rfl
         refine pure_ (i := 2) (N := some 15) (v := ?_) (a' := ?_) #[true, true, true, false, false, false, false, false, false, false, false, false, false, false, false, false] rfl rfl (any_of HT_.out (by kernel_rfl)) (fun _ _ _ h => h) (Or.inl ⟨by rfl, ?_⟩) ?_ ?_
         rotate_left
         ·intro w'
          go_simp
          with_reducible rfl
         rotate_left
         ·simp only [Act.put, List.setIfInBounds_toArray, List.set_cons_zero, List.set_cons_succ, i64_w, i32_w]
          rfl
         refine pure_ (i := 3) (N := some 16) (v := ?_) (a' := ?_) #[true, true, true, true, false, false, false, false, false, false, false, false, false, false, false, false] rfl rfl (any_of HT_.out (by kernel_rfl)) (fun _ _ _ h => h) (Or.inl ⟨by rfl, ?_⟩) ?_ ?_
         rotate_left
         ·intro w'
          go_simp
          with_reducible rfl
         rotate_left
         ·simp only [Act.put, List.setIfInBounds_toArray, List.set_cons_zero, List.set_cons_succ, i64_w, i32_w]
          rfl
         refine pure_ (i := 4) (N := some 17) (v := ?_) (a' := ?_) #[true, true, true, true, true, false, false, false, false, false, false, false, false, false, false, false] rfl rfl (any_of HT_.out (by kernel_rfl)) (fun _ _ _ h => h) (Or.inl ⟨by rfl, ?_⟩) ?_ ?_
         rotate_left
         ·intro w'
          go_simp
          with_reducible rfl
         rotate_left
         ·simp only [Act.put, List.setIfInBounds_toArray, List.set_cons_zero, List.set_cons_succ, i64_w, i32_w]
          rfl
         refine pure_ (i := 5) (N := some 18) (v := ?_) (a' := ?_) #[true, true, true, true, true, true, false, false, false, false, false, false, false, false, false, false] rfl rfl (any_of HT_.out (by kernel_rfl)) (fun _ _ _ h => h) (Or.inl ⟨by rfl, ?_⟩) ?_ ?_
         rotate_left
         ·intro w'
          go_simp
          with_reducible rfl
         rotate_left
         ·simp only [Act.put, List.setIfInBounds_toArray, List.set_cons_zero, List.set_cons_succ, i64_w, i32_w]
          rfl
         refine pure_ (i := 6) (N := some 19) (v := ?_) (a' := ?_) #[true, true, true, true, true, true, true, false, false, false, false, false, false, false, false, false] rfl rfl (any_of HT_.out (by kernel_rfl)) (fun _ _ _ h => h) (Or.inl ⟨by rfl, ?_⟩) ?_ ?_
         rotate_left
         ·intro w'
          go_simp
          with_reducible rfl
         rotate_left
         ·simp only [Act.put, List.setIfInBounds_toArray, List.set_cons_zero, List.set_cons_succ, i64_w, i32_w]
          rfl
         refine pure_ (i := 7) (N := some 20) (v := ?_) (a' := ?_) #[true, true, true, true, true, true, true, true, false, false, false, false, false, false, false, false] rfl rfl (any_of HT_.out (by kernel_rfl)) (fun _ _ _ h => h) (Or.inl ⟨by rfl, ?_⟩) ?_ ?_
         rotate_left
         ·intro w'
          go_simp
          with_reducible rfl
         rotate_left
         ·simp only [Act.put, List.setIfInBounds_toArray, List.set_cons_zero, List.set_cons_succ, i64_w, i32_w]
          rfl
         refine pure_ (i := 8) (N := some 21) (v := ?_) (a' := ?_) #[true, true, true, true, true, true, true, true, true, false, false, false, false, false, false, false] rfl rfl (any_of HT_.out (by kernel_rfl)) (fun _ _ _ h => h) (Or.inl ⟨by rfl, ?_⟩) ?_ ?_
         rotate_left
         ·intro w'
          go_simp
          with_reducible rfl
         rotate_left
         ·simp only [Act.put, List.setIfInBounds_toArray, List.set_cons_zero, List.set_cons_succ, i64_w, i32_w]
          rfl
         refine pure_ (i := 11) (N := some 24) (v := ?_) (a' := ?_) #[true, true, true, true, true, true, true, true, true, false, false, true, false, false, false, false] rfl rfl (any_of HT_.out (by kernel_rfl)) (fun _ _ _ h => h) (Or.inl ⟨by rfl, ?_⟩) ?_ ?_
         rotate_left
         ·intro w'
          go_simp
          with_reducible rfl
         rotate_left
         ·simp only [Act.put, List.setIfInBounds_toArray, List.set_cons_zero, List.set_cons_succ, i64_w, i32_w]
          rfl
         refine pure_ (i := 12) (N := some 25) (v := ?_) (a' := ?_) #[true, true, true, true, true, true, true, true, true, false, false, true, true, false, false, false] rfl rfl (any_of HT_.out (by kernel_rfl)) (fun _ _ _ h => h) (Or.inl ⟨by rfl, ?_⟩) ?_ ?_
         rotate_left
         ·intro w'
          go_simp
          with_reducible rfl
         rotate_left
         ·simp only [Act.put, List.setIfInBounds_toArray, List.set_cons_zero, List.set_cons_succ, i64_w, i32_w]
          rfl
         refine take_ (i := 9) (N := some 22) (v := ?_) (a' := ?_) #[true, true, true, true, true, true, true, true, true, true, false, true, true, false, false, false] rfl rfl (take_ofW HT_.out HW_.out (by kernel_rfl)) (fun _ _ _ h => h) (Or.inl ⟨by rfl, ?_⟩) hHeld ?_ ?_
         rotate_left
         ·intro w' s0
          go_simp
          with_reducible rfl
         rotate_left
         ·simp only [Act.put, List.setIfInBounds_toArray, List.set_cons_zero, List.set_cons_succ, i64_w, i32_w]
          rfl
         refine pure_ (i := 10) (N := some 23) (v := ?_) (a' := ?_) #[true, true, true, true, true, true, true, true, true, true, true, true, true, false, false, false] rfl rfl (any_of HT_.out (by kernel_rfl)) (fun _ _ _ h => h) (Or.inl ⟨by rfl, ?_⟩) ?_ ?_
         rotate_left
         ·intro w'
          go_simp
          with_reducible rfl
         rotate_left
         ·simp only [Act.put, List.setIfInBounds_toArray, List.set_cons_zero, List.set_cons_succ, i64_w, i32_w]
          rfl
         refine pure_ (i := 13) (N := some 26) (v := ?_) (a' := ?_) #[true, true, true, true, true, true, true, true, true, true, true, true, true, true, false, false] rfl rfl (any_of HT_.out (by kernel_rfl)) (fun _ _ _ h => h) (Or.inl ⟨by rfl, ?_⟩) ?_ ?_
         rotate_left
         ·intro w'
          go_simp
          with_reducible rfl
         rotate_left
         ·simp only [Act.put, List.setIfInBounds_toArray, List.set_cons_zero, List.set_cons_succ, i64_w, i32_w]
          rfl
         refine pure_ (i := 14) (N := some 27) (v := ?_) (a' := ?_) #[true, true, true, true, true, true, true, true, true, true, true, true, true, true, true, false] rfl rfl (any_of HT_.out (by kernel_rfl)) (fun _ _ _ h => h) (Or.inl ⟨by rfl, ?_⟩) ?_ ?_
         rotate_left
         ·intro w'
          go_simp
          with_reducible rfl
         rotate_left
         ·simp only [Act.put, List.setIfInBounds_toArray, List.set_cons_zero, List.set_cons_succ, i64_w, i32_w]
          rfl
         refine last_ (i := 15) (N := none) #[true, true, true, true, true, true, true, true, true, true, true, true, true, true, true, true] rfl rfl (one_of HT_.out (by kernel_rfl)) (by decide) (fun K hK => ?_)
         refine skip_ (w1 := ?_) (by rfl) rfl ?_ ?_
         rotate_left
         ·go_simp
          rfl
         refine hK.out _ _ ?_
         clear hK K
         refine done_ (done_of HT_.out (by kernel_rfl)) ?_
         try go_wp2
         go_roundg k1
         case measure => have := HK1.out; omega
         case rel => exact ⟨(y513), (wrap64 (x10_1 + 1)), (by first | rfl | (simp; done) | (simp [*]; done)), H', ⟨by have := HK1.out; omega⟩, ⟨by (with_reducible repeat (first | apply Kd.R_alloc | apply Kd.R_drewN | apply Kd.R_drew)); exact HQ15.out⟩, ⟨by repeat (first | (with_reducible first | exact HB.out | apply below_alloc | apply pw_below_drewN | apply below_drew1 | refine below_set ?_ GB13.out) | exact HB.out)⟩⟩
        ·rw [if_neg c12] at H
         exact absurd H (by simp)
       ·rw [if_neg c9] at H
        exact absurd H (by simp)
      ·rw [if_neg c8] at H
       exact absurd H (by simp)
     ·rw [if_neg c6] at H
      have c6b0 : decide (x10_1 < (l0.length : Int)) = false := decide_eq_false c6
      clear c6
      obtain rfl := Option.some.inj H
      go_wp2
      go_ret
      exact ⟨_, by first | rfl | (simp [errW_none, errW_some] <;> rfl) | (simp [*, errW_none, errW_some] <;> rfl), by (with_reducible repeat (first | apply Kd.R_alloc | apply Kd.R_drewN | apply Kd.R_drew)); exact HO_3.out, by repeat (first | (with_reducible first | exact HB.out | apply below_alloc | apply pw_below_drewN | apply below_drew1) | exact HB.out)⟩
  ·rw [if_neg c3] at H
   exact absurd H (by simp)
 ·rw [if_neg c2] at H
  exact absurd H (by simp)
end Go.Proofs.YtopahhcojncgaaaDoor.G
namespace Go.Proofs.YtopahhcojncgaaaDoor.G
open Go.RowKit Go.Proofs.YtopahhcojncgaaaDoorW.PrintWords Go.Proofs.YtopahhcojncgaaaDoorW.PrintLast Go.Proofs.YtopahhcojncgaaaDoorW.PrintMore
attribute [local go_sem] max2_int min2_int max_two min_two max_three min_three max_four min_four
set_option linter.unusedVariables false
set_option linter.unusedSimpArgs false
mutual
def spec_paOf.l0 : Nat → List (List Bool) → Int → Int → Int → List (S98) → Option (Int × (List (S98)))
 | 0, _, _, _, _, _ => none
 | k + 1, x0, x10, x11, x480000, x480001 => if x11 < x10 then (spec_paOf.l1 k x0 x11 (wrap64 (x11 + 1)) x10 x11 x480000 x480001) else (some (x480000, x480001))
def spec_paOf.l1 : Nat → List (List Bool) → Int → Int → Int → Int → Int → List (S98) → Option (Int × (List (S98)))
 | 0, _, _, _, _, _, _, _ => none
 | k + 1, x0, x4, x5, x10, x11, x480000, x480001 => if x5 < (x0.length : Int) then (if 0 ≤ x4 then (if x4 < (x0.length : Int) then (if 0 ≤ x5 then (if x5 < ((rd_L4 x0 x4).length : Int) then (if rdOf false (rd_L4 x0 x4) x5 = true then (if x480001.length < 8796093022208 then (spec_paOf.l1 k x0 x4 (wrap64 (x5 + 1)) x10 x11 x480000 (x480001 ++ [(⟨x4, x5⟩ : S98)])) else (none)) else (spec_paOf.l1 k x0 x4 (wrap64 (x5 + 1)) x10 x11 x480000 x480001)) else (none)) else (none)) else (none)) else (none)) else (spec_paOf.l0 k x0 x10 (wrap64 (x11 + 1)) x480000 x480001)
end
def spec_paOf.f (k : Nat) (l0 : List (List Bool)) : Option (Int × (List (S98))) := spec_paOf.l0 k l0 (l0.length : Int) 0 (l0.length : Int) ([] : List (S98))
theorem spec_paOf.mono_l : ∀ k, (∀ y0 y1 y2 y3 y4, LeO (spec_paOf.l0 k y0 y1 y2 y3 y4) (spec_paOf.l0 (k + 1) y0 y1 y2 y3 y4)) ∧ (∀ y0 y1 y2 y3 y4 y5 y6, LeO (spec_paOf.l1 k y0 y1 y2 y3 y4 y5 y6) (spec_paOf.l1 (k + 1) y0 y1 y2 y3 y4 y5 y6))
 | 0 => ⟨fun _ _ _ _ _ r h => by simp [spec_paOf.l0] at h, fun _ _ _ _ _ _ _ r h => by simp [spec_paOf.l1] at h⟩
 | k + 1 => by
  obtain ⟨ih0, ih1⟩ := spec_paOf.mono_l k
  refine ⟨?_, ?_⟩
  ·intro y0 y1 y2 y3 y4
   unfold spec_paOf.l0
   repeat' first
   | (with_reducible exact ih0 _ _ _ _ _)
   | (with_reducible exact ih1 _ _ _ _ _ _ _)
   | (with_reducible exact LeO.refl _)
   | (with_reducible exact LeO.none _)
   | (with_reducible refine LeO.ite ?_ ?_)
   | (with_reducible refine LeO.bind ?_ (fun _ => ?_))
   | exact ih0 _ _ _ _ _
   | exact ih1 _ _ _ _ _ _ _
   | exact LeO.none _
   | refine LeO.ite ?_ ?_
   | refine LeO.bind ?_ (fun _ => ?_)
  ·intro y0 y1 y2 y3 y4 y5 y6
   unfold spec_paOf.l1
   repeat' first
   | (with_reducible exact ih0 _ _ _ _ _)
   | (with_reducible exact ih1 _ _ _ _ _ _ _)
   | (with_reducible exact LeO.refl _)
   | (with_reducible exact LeO.none _)
   | (with_reducible refine LeO.ite ?_ ?_)
   | (with_reducible refine LeO.bind ?_ (fun _ => ?_))
   | exact ih0 _ _ _ _ _
   | exact ih1 _ _ _ _ _ _ _
   | exact LeO.none _
   | refine LeO.ite ?_ ?_
   | refine LeO.bind ?_ (fun _ => ?_)
theorem spec_paOf.mono : ∀ a0 k, LeO (spec_paOf.f k a0) (spec_paOf.f (k + 1) a0) := by
 intro a0 k
 obtain ⟨ih0, ih1⟩ := spec_paOf.mono_l k
 unfold spec_paOf.f
 repeat' first
   | (with_reducible exact ih0 _ _ _ _ _)
   | (with_reducible exact ih1 _ _ _ _ _ _ _)
   | (with_reducible exact LeO.refl _)
   | (with_reducible exact LeO.none _)
   | (with_reducible refine LeO.ite ?_ ?_)
   | (with_reducible refine LeO.bind ?_ (fun _ => ?_))
   | exact ih0 _ _ _ _ _
   | exact ih1 _ _ _ _ _ _ _
   | exact LeO.none _
   | refine LeO.ite ?_ ?_
   | refine LeO.bind ?_ (fun _ => ?_)
set_option maxHeartbeats 8000000 in
set_option maxRecDepth 100000 in
theorem spec_paOf.calls (k : Nat) (A0 : Option Addr) (c0 : Nat) (l0 : List (List Bool)) (r1 : Int) (r2 : List (S98)) (w : World) (hr0 : Kd.C (Kd.slice 4 Kd.bool) w A0 l0.length l0) (hc0 : l0.length ≤ c0) (h : spec_paOf.f k l0 = some (r1, r2)) :
  Calls Tryd.prog 137 #[.slice A0 l0.length c0] w fun e w' => ∃ v1_ : Value, e = .returned (.agg #[.int .i64 r1, v1_]) ∧ Kd.R k98 98 w' w.heap.size (fun _ => True) v1_ r2 ∧ Below w.heap.size w w' := by
 have hu30 := Tryd.underlying30
 have hu98 := Tryd.underlying98
 have HR0 := Aside0.mk hr0
 have HC0 := Aside0.mk hc0
 clear hr0 hc0
 have HB := Aside0.mk (Below.refl w.heap.size w)
 have H : (spec_paOf.l0 k l0 (l0.length : Int) 0 (l0.length : Int) ([] : List (S98))) = some (r1, r2) := h
 clear h
 have H' := Aside0.mk H
 clear H
 go_enter Tryd.func137, Tryd.ntmps137
 go_wp2_with (first | ((with_reducible refine gate_dst (N := 2) rfl ?_); refine box_event ?hg (N := 2) ?hd (cs := #[.int .i64 0, .slice none 0 0]) (t := 30) ?hr ?_; (case hd => rfl); (case hg => rfl); (case hr => first | (go_simp; done) | (go_simp; rfl)); intro gb478 hg w2 hbox hb; have n0_ := Aside0.mk (below_step (by repeat (first | (with_reducible first | exact HB.out | apply below_alloc | apply pw_below_drewN | apply below_drew1) | exact HB.out)) hb); have n1_ := Aside0.mk (hbox); have n2_ := Aside0.mk ((by rw [hg]; exact (below_size (by repeat (first | (with_reducible first | exact HB.out | apply below_alloc | apply pw_below_drewN | apply below_drew1) | exact HB.out))) : w.heap.size ≤ gb478)); have n3_ := Aside0.mk ((by rw [hg]; exact (below_size (by repeat (first | (with_reducible first | exact HB.out | apply below_alloc | apply pw_below_drewN | apply below_drew1) | exact HB.out))) : w.heap.size ≤ gb478)); clear HB; have HB := n0_; have BK478 := n1_; have GW478 := n2_; have GE478 := n3_; clear n0_ n1_ n2_ n3_; clear hb hbox hg) | ((with_reducible refine gate_dst (N := 3) rfl ?_); refine box_event ?hg (N := 3) ?hd (cs := #[.int .i64 0, .slice none 0 0]) (t := 30) ?hr ?_; (case hd => rfl); (case hg => rfl); (case hr => first | (go_simp; done) | (go_simp; rfl)); intro gb479 hg w3 hbox hb; have n0_ := Aside0.mk (blk_below (g := gb478) (o := .cells #[.int .i64 0, .slice none 0 0] 30 (0, 0)) (by (with_reducible repeat (first | refine blk_drewN ?_ _ | refine blk_drew ?_ | refine blk_alloc ?_ _)); exact BK478.out) hb); have n1_ := Aside0.mk (below_step (by repeat (first | (with_reducible first | exact HB.out | apply below_alloc | apply pw_below_drewN | apply below_drew1 | refine below_set ?_ GE478.out) | exact HB.out)) hb); have n2_ := Aside0.mk (hbox); have n3_ := Aside0.mk ((by rw [hg]; exact (below_size (by repeat (first | (with_reducible first | exact HB.out | apply below_alloc | apply pw_below_drewN | apply below_drew1 | refine below_set ?_ GE478.out) | exact HB.out))) : w.heap.size ≤ gb479)); have n4_ := Aside0.mk ((by rw [hg]; exact (below_size (by repeat (first | (with_reducible first | exact HB.out | apply below_alloc | apply pw_below_drewN | apply below_drew1 | refine below_set ?_ GE478.out) | exact HB.out))) : w.heap.size ≤ gb479)); have n5_ := Aside0.mk ((by rw [hg]; exact Nat.ne_of_lt (blk_lt (g := gb478) (o := .cells #[.int .i64 0, .slice none 0 0] 30 (0, 0)) (by (with_reducible repeat (first | refine blk_drewN ?_ _ | refine blk_drew ?_ | refine blk_alloc ?_ _)); exact BK478.out)) : gb478 ≠ gb479)); have n6_ := Aside0.mk ((by rw [hg]; exact Nat.ne_of_gt (blk_lt (g := gb478) (o := .cells #[.int .i64 0, .slice none 0 0] 30 (0, 0)) (by (with_reducible repeat (first | refine blk_drewN ?_ _ | refine blk_drew ?_ | refine blk_alloc ?_ _)); exact BK478.out)) : gb479 ≠ gb478)); clear BK478; clear HB; have BK478 := n0_; have HB := n1_; have BK479 := n2_; have GW479 := n3_; have GE479 := n4_; have NB478_479 := n5_; have NB479_478 := n6_; clear n0_ n1_ n2_ n3_ n4_ n5_ n6_; clear hb hbox hg; have hnb4 := NB479_478.out; have hnc4 := NB478_479.out; have hcz5_0 : w3.cell? ⟨gb479, 0, none⟩ = some (.int .i64 0) := (blk_cell BK479.out 0).trans rfl; have hcz5_1 : w3.cell? ⟨gb479, 1, none⟩ = some (.slice none 0 0) := (blk_cell BK479.out 1).trans rfl; have hfz5_0 := blk_frozen BK479.out 0; have hfz5_1 := blk_frozen BK479.out 1))
 go_loopg [11] k (fun kq v11 w' => ∃ (x11_1 : Int) (x480001_1 : List (S98)) (u480001 : Value), v11 = .int .i64 x11_1 ∧ Aside0 (spec_paOf.l0 kq l0 (l0.length : Int) x11_1 (l0.length : Int) x480001_1 = some (r1, r2)) ∧ Aside0 (kq ≤ k) ∧ Aside0 (Kd.R k98 98 w' w.heap.size (fun _ => True) u480001 x480001_1) ∧ Aside0 (w'.heap[gb478]? = some (.cells #[.int .i64 0, (.slice none 0 0)] 30 (0, 0))) ∧ Aside0 (w'.heap[gb479]? = some (.cells #[.int .i64 (l0.length : Int), u480001] 30 (0, 0))) ∧ Aside0 (Below w.heap.size w w'))
 case atStart => exact ⟨(0), (([] : List (S98))), (.slice none 0 0), (by first | rfl | (simp; done) | (simp [*]; done)), H', ⟨Nat.le_refl _⟩, ⟨by first | exact Kd.R_nil _ _ _ _ _ | exact Kd.N_nil _ _ _ _ _ | exact Kd.V_nil _ _ _ _ _ | exact Kd.Q_nil _ _ _ _ _ | exact Kd.S_nil _ _ _ _ _⟩, ⟨by (with_reducible repeat (first | refine blk_drewN ?_ _ | refine blk_drew ?_ | refine blk_alloc ?_ _)); refine blk_far ?_ NB478_479.out _; (with_reducible repeat (first | refine blk_drewN ?_ _ | refine blk_drew ?_ | refine blk_alloc ?_ _)); refine blk_far ?_ NB478_479.out _; (with_reducible repeat (first | refine blk_drewN ?_ _ | refine blk_drew ?_ | refine blk_alloc ?_ _)); exact BK478.out⟩, ⟨by (with_reducible repeat (first | refine blk_drewN ?_ _ | refine blk_drew ?_ | refine blk_alloc ?_ _)); refine blk_put (cs := #[.int .i64 (l0.length : Int), .slice none 0 0]) ?_ 1 _ rfl; (with_reducible repeat (first | refine blk_drewN ?_ _ | refine blk_drew ?_ | refine blk_alloc ?_ _)); refine blk_put (cs := #[.int .i64 0, .slice none 0 0]) ?_ 0 _ rfl; (with_reducible repeat (first | refine blk_drewN ?_ _ | refine blk_drew ?_ | refine blk_alloc ?_ _)); exact BK479.out⟩, ⟨by repeat (first | (with_reducible first | exact HB.out | apply below_alloc | apply pw_below_drewN | apply below_drew1 | refine below_set ?_ GE478.out | refine below_set ?_ GE479.out) | exact HB.out)⟩⟩
 case round =>
  clear H'
  try clear c1
  try clear p2
  try clear c4
  try clear hcz5_0
  try clear hcz5_1
  try clear hfz5_0
  try clear hfz5_1
  obtain ⟨x11_1, x480001_1, u480001, rfl, HA, HK1, HO_480001, BK478, BK479, HB⟩ := hrel
  cases gk with
  | zero => exact absurd HA.out (by simp [spec_paOf.l0])
  | succ k1 =>
   have H := HA.out
   clear HA
   simp only [spec_paOf.l0] at H
   by_cases c6 : x11_1 < (l0.length : Int)
   ·rw [if_pos c6] at H
    have c6b0 : decide (x11_1 < (l0.length : Int)) = true := decide_eq_true c6
    clear c6
    have H' := Aside0.mk H
    clear H
    go_wp2
    go_loopg [5] k1 (fun kq v5 w' => ∃ (x5_2 : Int) (x480001_2 : List (S98)) (u480001 : Value), v5 = .int .i64 x5_2 ∧ Aside0 (spec_paOf.l1 kq l0 x11_1 x5_2 (l0.length : Int) x11_1 (l0.length : Int) x480001_2 = some (r1, r2)) ∧ Aside0 (kq ≤ k1) ∧ Aside0 (Kd.R k98 98 w' w.heap.size (fun _ => True) u480001 x480001_2) ∧ Aside0 (w'.heap[gb478]? = some (.cells #[.int .i64 0, (.slice none 0 0)] 30 (0, 0))) ∧ Aside0 (w'.heap[gb479]? = some (.cells #[.int .i64 (l0.length : Int), u480001] 30 (0, 0))) ∧ Aside0 (Below w.heap.size w w'))
    case atStart => exact ⟨(wrap64 (x11_1 + 1)), (x480001_1), (u480001), (by first | rfl | (simp; done) | (simp [*]; done)), H', ⟨Nat.le_refl _⟩, ⟨by (with_reducible repeat (first | apply Kd.R_alloc | apply Kd.R_drewN | apply Kd.R_drew)); exact HO_480001.out⟩, ⟨by (with_reducible repeat (first | refine blk_drewN ?_ _ | refine blk_drew ?_ | refine blk_alloc ?_ _)); exact BK478.out⟩, ⟨by (with_reducible repeat (first | refine blk_drewN ?_ _ | refine blk_drew ?_ | refine blk_alloc ?_ _)); exact BK479.out⟩, ⟨by repeat (first | (with_reducible first | exact HB.out | apply below_alloc | apply pw_below_drewN | apply below_drew1 | refine below_set ?_ GE478.out | refine below_set ?_ GE479.out) | exact HB.out)⟩⟩
    case round =>
     clear H'
     try clear c1
     try clear p2
     try clear c4
     try clear c6
     try clear c6b0
     try clear p6
     try clear hcz5_0
     try clear hcz5_1
     try clear hfz5_0
     try clear hfz5_1
     try clear p2
     obtain ⟨x5_2, x480001_2, u480001, rfl, HA, HK2, HO_480001, BK478, BK479, HB⟩ := hrel
     cases gk with
     | zero => exact absurd HA.out (by simp [spec_paOf.l1])
     | succ k2 =>
      have H := HA.out
      clear HA
      simp only [spec_paOf.l1] at H
      by_cases c7 : x5_2 < (l0.length : Int)
      ·rw [if_pos c7] at H
       have c7b0 : decide (x5_2 < (l0.length : Int)) = true := decide_eq_true c7
       clear c7
       by_cases c8 : 0 ≤ x11_1
       ·rw [if_pos c8] at H
        have c8b0 : decide (0 ≤ x11_1) = true := decide_eq_true c8
        clear c8
        by_cases c9 : x11_1 < (l0.length : Int)
        ·rw [if_pos c9] at H
         have c9b0 : decide (x11_1 < (l0.length : Int)) = true := decide_eq_true c9
         clear c9
         by_cases c10 : 0 ≤ x5_2
         ·rw [if_pos c10] at H
          have c10b0 : decide (0 ≤ x5_2) = true := decide_eq_true c10
          clear c10
          by_cases c11 : x5_2 < ((rd_L4 l0 x11_1).length : Int)
          ·rw [if_pos c11] at H
           have c11b0 : decide (x5_2 < ((rd_L4 l0 x11_1).length : Int)) = true := decide_eq_true c11
           clear c11
           obtain ⟨bq12, hbq12⟩ : ∃ b_ : Bool, b_ = (rdOf false (rd_L4 l0 x11_1) x5_2) := ⟨_, rfl⟩
           replace H : (if bq12 = true then (if x480001_2.length < 8796093022208 then (spec_paOf.l1 k2 l0 x11_1 (wrap64 (x5_2 + 1)) (l0.length : Int) x11_1 (l0.length : Int) (x480001_2 ++ [(⟨x11_1, x5_2⟩ : S98)])) else (none)) else (spec_paOf.l1 k2 l0 x11_1 (wrap64 (x5_2 + 1)) (l0.length : Int) x11_1 (l0.length : Int) x480001_2)) = some (r1, r2) := by rw [← hbq12] at H; exact H
           have Nbq12 := Aside0.mk hbq12
           clear hbq12
           by_cases c13 : bq12 = true
           ·subst c13
            have H1 : (if x480001_2.length < 8796093022208 then (spec_paOf.l1 k2 l0 x11_1 (wrap64 (x5_2 + 1)) (l0.length : Int) x11_1 (l0.length : Int) (x480001_2 ++ [(⟨x11_1, x5_2⟩ : S98)])) else (none)) = some (r1, r2) := by rw [if_pos rfl] at H; exact H
            clear H
            have H := H1
            clear H1
            by_cases c14 : x480001_2.length < 8796093022208
            ·rw [if_pos c14] at H
             have LMc14 := Aside0.mk c14
             clear c14
             obtain ⟨y482, hy482⟩ : ∃ y_ : List (S98), y_ = (x480001_2 ++ [(⟨x11_1, x5_2⟩ : S98)]) := ⟨_, rfl⟩
             replace H : (spec_paOf.l1 k2 l0 x11_1 (wrap64 (x5_2 + 1)) (l0.length : Int) x11_1 (l0.length : Int) y482) = some (r1, r2) := by first | (rw [hy482]; with_reducible exact H) | (have H2_ := (Option.bind_some _ _).symm.trans H; rw [hy482]; with_reducible exact H2_) | (have H2_ := (Option.bind_some _ _).symm.trans H; with_reducible exact H2_) | with_reducible exact H | (rw [hy482]; exact H) | exact H
             have Ny482 := Aside0.mk hy482
             clear hy482
             have H' := Aside0.mk H
             clear H
             have p480 : 0 ≤ (x11_1 : Int) := of_decide_eq_true (by first | (with_reducible assumption) | assumption)
             have q480 : x11_1 < (l0.length : Int) := of_decide_eq_true (by first | (with_reducible assumption) | assumption)
             obtain ⟨ad480, A480_0, c480_0, e480, hx480_0, hl480_0, hi480_0⟩ := at_L4 HR0.out x11_1 p480 q480
             cases e480
             replace hx480_0 := (HB.out.cell (World.block_lt_of_cell? w _ hx480_0)).trans hx480_0
             have HR480_0 := Aside0.mk hi480_0
             have HC480_0 := Aside0.mk hl480_0
             clear hi480_0 hl480_0
             replace p480 := eq_true p480
             replace q480 := eq_true q480
             have p481 : 0 ≤ (x5_2 : Int) := of_decide_eq_true (by first | (with_reducible assumption) | assumption)
             have q481 : x5_2 < ((rd_L4 l0 x11_1).length : Int) := of_decide_eq_true (by first | (with_reducible assumption) | assumption)
             obtain ⟨ad481, e481, hx481_0⟩ := Kd.at_bool HR480_0.out x5_2 p481 q481
             (try rw [← Nbq12.out] at hx481_0)
             cases e481
             replace hx481_0 := (HB.out.cell (World.block_lt_of_cell? w _ hx481_0)).trans hx481_0
             replace p481 := eq_true p481
             replace q481 := eq_true q481
             have hnb15 := NB479_478.out
             have hnc15 := NB478_479.out
             have hcz16_0 : wr.cell? ⟨gb479, 0, none⟩ = some (.int .i64 (l0.length : Int)) := (blk_cell BK479.out 0).trans rfl
             have hcz16_1 : wr.cell? ⟨gb479, 1, none⟩ = some (u480001) := (blk_cell BK479.out 1).trans rfl
             have hfz16_0 := blk_frozen BK479.out 0
             have hfz16_1 := blk_frozen BK479.out 1
             go_wp2_with (first | ((with_reducible refine gate_builtin (b := .append) (xs := #[.tmp 30, .tmp 34]) rfl ?_); at_builtin; refine Kd.R_append k98 (w0 := w) w.heap.size rfl (.tmp 30) (.tmp 34) 28 98 (.agg #[(.int .i64 0), (.int .i64 0)]) 16 rfl Tryd.underlying28 info98 rfl (by decide) (by omega) u480001 x480001_2 (⟨x11_1, x5_2⟩ : S98) [.int .i64 x11_1, .int .i64 x5_2] (fun _ => True) (fun _ => False) rfl rfl ?aP (fun _ hk => hk.elim) ?aF ?aO ?aB ?aS ?aL ?_; (case aP => exact k98_mkM _ _ _ (⟨x11_1, x5_2⟩ : S98)); (case aB => exact (by repeat (first | (with_reducible first | exact HB.out | apply below_alloc | apply pw_below_drewN | apply below_drew1 | refine below_set ?_ GE478.out | refine below_set ?_ GE479.out) | exact HB.out))); (case aF => exact (fun _ _ => trivial)); (case aO => exact (by (with_reducible repeat (first | apply Kd.R_alloc | apply Kd.R_drewN | apply Kd.R_drew)); exact HO_480001.out)); (case aS => exact (below_size (by repeat (first | (with_reducible first | exact HB.out | apply below_alloc | apply pw_below_drewN | apply below_drew1 | refine below_set ?_ GE478.out | refine below_set ?_ GE479.out) | exact HB.out)))); (case aL => have := LMc14.out; omega); intro v483 w17 ho hb hg hat; rw [← Ny482.out] at ho; have n0_ := Aside0.mk (blk_grown (g := gb478) (o := .cells #[.int .i64 0, .slice none 0 0] 30 (0, 0)) (by (with_reducible repeat (first | refine blk_drewN ?_ _ | refine blk_drew ?_ | refine blk_alloc ?_ _)); exact BK478.out) hg (Kd.R_ne HO_480001.out BK478.out (by decide))); have n1_ := Aside0.mk (blk_grown (g := gb479) (o := .cells #[.int .i64 (l0.length : Int), u480001] 30 (0, 0)) (by (with_reducible repeat (first | refine blk_drewN ?_ _ | refine blk_drew ?_ | refine blk_alloc ?_ _)); exact BK479.out) hg (Kd.R_ne HO_480001.out BK479.out (by decide))); have n2_ := Aside0.mk (hb); have n3_ := Aside0.mk (ho); clear BK478; clear BK479; clear HB; clear HO_480001; have BK478 := n0_; have BK479 := n1_; have HB := n2_; have HO484 := n3_; clear n0_ n1_ n2_ n3_; clear ho hb hg hat; obtain ⟨Ao18, co18, eo18⟩ := Kd.R_slice HO484.out; subst eo18; have hcz19_0 : w17.cell? ⟨gb479, 0, none⟩ = some (.int .i64 (l0.length : Int)) := (blk_cell BK479.out 0).trans rfl; have hcz19_1 : w17.cell? ⟨gb479, 1, none⟩ = some (u480001) := (blk_cell BK479.out 1).trans rfl; have hfz19_0 := blk_frozen BK479.out 0; have hfz19_1 := blk_frozen BK479.out 1))
             go_roundg k2
             case measure => have := HK1.out; have := HK2.out; omega
             case rel => exact ⟨(wrap64 (x5_2 + 1)), (y482), (.slice Ao18 y482.length co18), (by first | rfl | (simp; done) | (simp [*]; done)), H', ⟨by have := HK1.out; have := HK2.out; omega⟩, ⟨by (with_reducible repeat (first | apply Kd.R_alloc | apply Kd.R_drewN | apply Kd.R_drew)); exact Kd.R_mono (Kd.R_far (p := ⟨gb479, 1, none⟩) (Kd.R_types HO484.out BK479.out (by decide)) (fun _ hk => hk.2) (.slice Ao18 y482.length co18)) (fun _ hk => trivial)⟩, ⟨by (with_reducible repeat (first | refine blk_drewN ?_ _ | refine blk_drew ?_ | refine blk_alloc ?_ _)); refine blk_far ?_ NB478_479.out _; (with_reducible repeat (first | refine blk_drewN ?_ _ | refine blk_drew ?_ | refine blk_alloc ?_ _)); exact BK478.out⟩, ⟨by (with_reducible repeat (first | refine blk_drewN ?_ _ | refine blk_drew ?_ | refine blk_alloc ?_ _)); refine blk_put (cs := #[.int .i64 (l0.length : Int), u480001]) ?_ 1 _ rfl; (with_reducible repeat (first | refine blk_drewN ?_ _ | refine blk_drew ?_ | refine blk_alloc ?_ _)); exact BK479.out⟩, ⟨by repeat (first | (with_reducible first | exact HB.out | apply below_alloc | apply pw_below_drewN | apply below_drew1 | refine below_set ?_ GE478.out | refine below_set ?_ GE479.out) | exact HB.out)⟩⟩
            ·rw [if_neg c14] at H
             exact absurd H (by simp)
           ·replace c13 := Bool.eq_false_iff.mpr c13
            subst c13
            have H1 : (spec_paOf.l1 k2 l0 x11_1 (wrap64 (x5_2 + 1)) (l0.length : Int) x11_1 (l0.length : Int) x480001_2) = some (r1, r2) := by rw [if_neg (show ¬ (false = true) by decide)] at H; exact H
            clear H
            have H := H1
            clear H1
            have H' := Aside0.mk H
            clear H
            have p480 : 0 ≤ (x11_1 : Int) := of_decide_eq_true (by first | (with_reducible assumption) | assumption)
            have q480 : x11_1 < (l0.length : Int) := of_decide_eq_true (by first | (with_reducible assumption) | assumption)
            obtain ⟨ad480, A480_0, c480_0, e480, hx480_0, hl480_0, hi480_0⟩ := at_L4 HR0.out x11_1 p480 q480
            cases e480
            replace hx480_0 := (HB.out.cell (World.block_lt_of_cell? w _ hx480_0)).trans hx480_0
            have HR480_0 := Aside0.mk hi480_0
            have HC480_0 := Aside0.mk hl480_0
            clear hi480_0 hl480_0
            replace p480 := eq_true p480
            replace q480 := eq_true q480
            have p481 : 0 ≤ (x5_2 : Int) := of_decide_eq_true (by first | (with_reducible assumption) | assumption)
            have q481 : x5_2 < ((rd_L4 l0 x11_1).length : Int) := of_decide_eq_true (by first | (with_reducible assumption) | assumption)
            obtain ⟨ad481, e481, hx481_0⟩ := Kd.at_bool HR480_0.out x5_2 p481 q481
            (try rw [← Nbq12.out] at hx481_0)
            cases e481
            replace hx481_0 := (HB.out.cell (World.block_lt_of_cell? w _ hx481_0)).trans hx481_0
            replace p481 := eq_true p481
            replace q481 := eq_true q481
            go_wp2
            go_roundg k2
            case measure => have := HK1.out; have := HK2.out; omega
            case rel => exact ⟨(wrap64 (x5_2 + 1)), (x480001_2), (u480001), (by first | rfl | (simp; done) | (simp [*]; done)), H', ⟨by have := HK1.out; have := HK2.out; omega⟩, ⟨by (with_reducible repeat (first | apply Kd.R_alloc | apply Kd.R_drewN | apply Kd.R_drew)); exact HO_480001.out⟩, ⟨by (with_reducible repeat (first | refine blk_drewN ?_ _ | refine blk_drew ?_ | refine blk_alloc ?_ _)); exact BK478.out⟩, ⟨by (with_reducible repeat (first | refine blk_drewN ?_ _ | refine blk_drew ?_ | refine blk_alloc ?_ _)); exact BK479.out⟩, ⟨by repeat (first | (with_reducible first | exact HB.out | apply below_alloc | apply pw_below_drewN | apply below_drew1 | refine below_set ?_ GE478.out | refine below_set ?_ GE479.out) | exact HB.out)⟩⟩
          ·rw [if_neg c11] at H
           exact absurd H (by simp)
         ·rw [if_neg c10] at H
          exact absurd H (by simp)
        ·rw [if_neg c9] at H
         exact absurd H (by simp)
       ·rw [if_neg c8] at H
        exact absurd H (by simp)
      ·rw [if_neg c7] at H
       have c7b0 : decide (x5_2 < (l0.length : Int)) = false := decide_eq_false c7
       clear c7
       have H' := Aside0.mk H
       clear H
       go_wp2
       go_roundg k2
       case measure => have := HK1.out; have := HK2.out; omega
       case rel => exact ⟨(wrap64 (x11_1 + 1)), (x480001_2), (u480001), (by first | rfl | (simp; done) | (simp [*]; done)), H', ⟨by have := HK1.out; have := HK2.out; omega⟩, ⟨by (with_reducible repeat (first | apply Kd.R_alloc | apply Kd.R_drewN | apply Kd.R_drew)); exact HO_480001.out⟩, ⟨by (with_reducible repeat (first | refine blk_drewN ?_ _ | refine blk_drew ?_ | refine blk_alloc ?_ _)); exact BK478.out⟩, ⟨by (with_reducible repeat (first | refine blk_drewN ?_ _ | refine blk_drew ?_ | refine blk_alloc ?_ _)); exact BK479.out⟩, ⟨by repeat (first | (with_reducible first | exact HB.out | apply below_alloc | apply pw_below_drewN | apply below_drew1 | refine below_set ?_ GE478.out | refine below_set ?_ GE479.out) | exact HB.out)⟩⟩
   ·rw [if_neg c6] at H
    have c6b0 : decide (x11_1 < (l0.length : Int)) = false := decide_eq_false c6
    clear c6
    simp only [Option.some.injEq, Prod.mk.injEq] at H
    obtain ⟨rfl, rfl⟩ := H
    have hnb20 := NB479_478.out
    have hnc20 := NB478_479.out
    have hcz21_0 : wr.cell? ⟨gb479, 0, none⟩ = some (.int .i64 (l0.length : Int)) := (blk_cell BK479.out 0).trans rfl
    have hcz21_1 : wr.cell? ⟨gb479, 1, none⟩ = some (u480001) := (blk_cell BK479.out 1).trans rfl
    have hfz21_0 := blk_frozen BK479.out 0
    have hfz21_1 := blk_frozen BK479.out 1
    have hcz22_0 : wr.cell? ⟨gb478, 0, none⟩ = some (.int .i64 0) := (blk_cell BK478.out 0).trans rfl
    have hcz22_1 : wr.cell? ⟨gb478, 1, none⟩ = some (.slice none 0 0) := (blk_cell BK478.out 1).trans rfl
    have hfz22_0 := blk_frozen BK478.out 0
    have hfz22_1 := blk_frozen BK478.out 1
    obtain ⟨Ao23, co23, eo23⟩ := Kd.R_slice HO_480001.out
    subst eo23
    go_wp2
    refine bodyPost_ret (results_cell_row rfl _ _ gb478 30 #[.int .i64 (l0.length : Int), .slice Ao23 x480001_1.length co23] (0, 0) _ rfl (by (with_reducible repeat (first | refine blk_drewN ?_ _ | refine blk_drew ?_ | refine blk_alloc ?_ _)); refine blk_put (cs := #[.int .i64 (l0.length : Int), .slice none 0 0]) ?_ 1 _ rfl; (with_reducible repeat (first | refine blk_drewN ?_ _ | refine blk_drew ?_ | refine blk_alloc ?_ _)); refine blk_put (cs := #[.int .i64 0, .slice none 0 0]) ?_ 0 _ rfl; (with_reducible repeat (first | refine blk_drewN ?_ _ | refine blk_drew ?_ | refine blk_alloc ?_ _)); exact BK478.out) Tryd.underlying30 rfl (by kernel_rfl)) rfl ?_
    exact ⟨_, by first | rfl | (simp [errW_none, errW_some] <;> rfl) | (simp [*, errW_none, errW_some] <;> rfl), by (with_reducible repeat (first | apply Kd.R_alloc | apply Kd.R_drewN | apply Kd.R_drew)); exact Kd.R_mono (Kd.R_far (p := ⟨gb478, 1, none⟩) (Kd.R_far (p := ⟨gb478, 0, none⟩) (Kd.R_types HO_480001.out BK478.out (by decide)) (fun _ hk => hk.2) (.int .i64 (l0.length : Int))) (fun _ hk => hk.2) (.slice Ao23 x480001_1.length co23)) (fun _ hk => trivial), by repeat (first | (with_reducible first | exact HB.out | apply below_alloc | apply pw_below_drewN | apply below_drew1 | refine below_set ?_ GE478.out | refine below_set ?_ GE479.out) | exact HB.out)⟩
end Go.Proofs.YtopahhcojncgaaaDoor.G
namespace Go.Proofs.YtopahhcojncgaaaDoor.G
open Go.RowKit Go.Proofs.YtopahhcojncgaaaDoorW.PrintWords Go.Proofs.YtopahhcojncgaaaDoorW.PrintLast Go.Proofs.YtopahhcojncgaaaDoorW.PrintMore
set_option linter.unusedVariables false
set_option linter.unusedSimpArgs false
def flipTo (r : List Bool) (b : Nat) : List Bool := (r.take b).map (fun x => !x) ++ r.drop b
theorem flipTo_len (r b) : (flipTo r b).length = r.length := by simp [flipTo, List.length_take]; omega
theorem flipTo_zero (r) : flipTo r 0 = r := by simp [flipTo]
theorem flipTo_all (r : List Bool) (n : Nat) (h : r.length = n) : flipTo r n = r.map (fun x => !x) := by subst h; simp [flipTo]
theorem flipTo_at (r : List Bool) (b : Nat) (h : b < r.length) : (flipTo r b).getD b false = r.getD b false := by
 unfold flipTo
 rw [List.getD_eq_getElem?_getD, List.getElem?_append_right (by simp [List.length_take]; omega), List.length_map, List.length_take, List.getElem?_drop, show b + (b - min b r.length) = b by omega, ← List.getD_eq_getElem?_getD]
theorem flipTo_succ (r : List Bool) (b : Nat) (h : b < r.length) : (flipTo r b).set b (!(r.getD b false)) = flipTo r (b + 1) := by
 unfold flipTo
 rw [List.set_append_right b _ (by simp [List.length_take]; omega), List.length_map, List.length_take, show b - min b r.length = 0 by omega, List.drop_eq_getElem_cons h, List.set_cons_zero, List.take_succ_eq_append_getElem h, List.map_append, List.getD_eq_getElem?_getD, List.getElem?_eq_getElem h]; simp
def flipT (T : List (List Bool)) (a b : Nat) : List (List Bool) := (T.take a).map (fun r => r.map (fun x => !x)) ++ (match T.drop a with | [] => [] | r :: rs => flipTo r b :: rs)
theorem flipT_start (T : List (List Bool)) (a : Nat) : flipT T a 0 = (T.take a).map (fun r => r.map (fun x => !x)) ++ T.drop a := by
 unfold flipT
 congr 1
 cases T.drop a with
 | nil => rfl
 | cons r rs => show flipTo r 0 :: rs = _; rw [flipTo_zero]
theorem flipT_zero (T : List (List Bool)) : flipT T 0 0 = T := by rw [flipT_start]; simp
theorem flipT_row (T : List (List Bool)) (a b : Nat) (h : a < T.length) : flipT T a b = (T.take a).map (fun r => r.map (fun x => !x)) ++ flipTo (T.getD a []) b :: T.drop (a + 1) := by
 unfold flipT
 rw [List.drop_eq_getElem_cons h, List.getD_eq_getElem?_getD, List.getElem?_eq_getElem h]; rfl
theorem flipT_len (T : List (List Bool)) (a b : Nat) (h : a < T.length) : (flipT T a b).length = T.length := by
 rw [flipT_row T a b h]; simp [List.length_take]; omega
theorem flipT_next (T : List (List Bool)) (a n : Nat) (h : a < T.length) (hn : (T.getD a []).length = n) : flipT T a n = flipT T (a + 1) 0 := by
 rw [flipT_row T a n h, flipT_start, flipTo_all _ _ hn, List.take_succ_eq_append_getElem h, List.map_append, List.getD_eq_getElem?_getD, List.getElem?_eq_getElem h]; simp
theorem flipT_at (T : List (List Bool)) (a b : Nat) (h : a < T.length) : (flipT T a b).getD a [] = flipTo (T.getD a []) b := by
 rw [flipT_row T a b h, List.getD_eq_getElem?_getD, List.getElem?_append_right (by simp [List.length_take]; omega)]
 simp [List.length_take, show min a T.length = a by omega]
theorem flipT_set (T : List (List Bool)) (a b : Nat) (h : a < T.length) (hb : b < (T.getD a []).length) : (flipT T a b).set a ((flipTo (T.getD a []) b).set b (!((T.getD a []).getD b false))) = flipT T a (b + 1) := by
 rw [flipTo_succ _ _ hb, flipT_row T a b h, flipT_row T a (b + 1) h, List.set_append_right a _ (by simp [List.length_take]; omega)]
 simp [List.length_take, show min a T.length = a by omega]
theorem flipT_end (T : List (List Bool)) : flipT T T.length 0 = T.map (fun r => r.map (fun x => !x)) := by rw [flipT_start]; simp
def spec_paOther.f (k : Nat) (a0_0 : Int) (l0_1 : List S98) : Option (Int × List S98) := (spec_paTable.f k a0_0 l0_1).bind fun T => if T.length ≤ 1000 ∧ (∀ r ∈ T, r.length = T.length) then spec_paOf.f k (T.map (fun r => r.map (fun x => !x))) else none
theorem spec_paOther.mono : ∀ a0 a1 k, LeO (spec_paOther.f k a0 a1) (spec_paOther.f (k + 1) a0 a1) := fun a0 a1 k => LeO.bind (spec_paTable.mono a0 a1 k) (fun T => LeO.ite (spec_paOf.mono _ k) (LeO.refl _))
set_option maxHeartbeats 4000000 in
set_option maxRecDepth 100000 in
theorem spec_paOther.calls (k : Nat) (a0_0 : Int) (A0_1 : Option Addr) (c0_1 : Nat) (l0_1 : List (S98)) (r1 : Int) (r2 : List S98) (w : World) (hr0_1 : Kd.C k98 w A0_1 l0_1.length l0_1) (hc0_1 : l0_1.length ≤ c0_1) (h : spec_paOther.f k a0_0 l0_1 = some (r1, r2)) :
  Calls Tryd.prog 87 #[.agg #[.int .i64 a0_0, .slice A0_1 l0_1.length c0_1]] w fun e w' => ∃ v1_ : Value, e = .returned (.agg #[.int .i64 r1, v1_]) ∧ Kd.R k98 98 w' w.heap.size (fun _ => True) v1_ r2 ∧ Below w.heap.size w w' := by
 have hu30 := Tryd.underlying30
 unfold spec_paOther.f at h
 obtain ⟨T, hT, h2⟩ := Option.bind_eq_some_iff.mp h
 clear h
 split at h2
 ·rename_i hc
  obtain ⟨hT1, hsq⟩ := hc
  have HR0 := Aside0.mk hr0_1
  have HC0 := Aside0.mk hc0_1
  have HT := Aside0.mk hT
  have HOF := Aside0.mk h2
  obtain ⟨n, hn⟩ : ∃ n, T.length = n := ⟨_, rfl⟩
  have hrow : ∀ a, a < n → (T.getD a []).length = n := fun a ha => by
   rw [List.getD_eq_getElem?_getD, List.getElem?_eq_getElem (by omega), Option.getD_some]; exact (hsq _ (List.getElem_mem _)).trans hn
  have Hrow := Aside0.mk hrow
  have Hz := Aside0.mk (flipT_zero T)
  have He := Aside0.mk (flipT_end T)
  have HLn := Aside0.mk hn
  rw [hn] at hT1
  clear hr0_1 hc0_1 hT hsq h2 hrow hn
  go_enter Tryd.func87, Tryd.ntmps87
  go_wp2_with (first | ((with_reducible refine gate_dst (N := 1) rfl ?_); refine box_event ?hg (N := 1) ?hd (cs := #[.int .i64 a0_0, .slice A0_1 l0_1.length c0_1]) (t := 30) ?hr ?_; (case hd => rfl); (case hg => rfl); (case hr => first | (go_simp; done) | (go_simp; rfl)); intro gb hg w1 hbox hb; have B1 := Aside0.mk hb; have BK := Aside0.mk hbox; have hk0 : w1.cell? ⟨gb, 0, none⟩ = some (.int .i64 a0_0) := (blk_cell BK.out 0).trans rfl; have hk1 : w1.cell? ⟨gb, 1, none⟩ = some (.slice A0_1 l0_1.length c0_1) := (blk_cell BK.out 1).trans rfl; clear hg hbox hb) | ((with_reducible refine gate_dst (N := 2) rfl ?_); refine box_event ?hg (N := 2) ?hd (cs := #[.int .i64 0, .slice none 0 0]) (t := 30) ?hr ?_; (case hd => rfl); (case hg => rfl); (case hr => first | (go_simp; done) | (go_simp; rfl)); intro gx hg w2 hbox hb; have GX := Aside0.mk (show w.heap.size ≤ gx from (by rw [hg]; exact B1.out.size)); have B2 := Aside0.mk (below_step B1.out hb); have XK0 := Aside0.mk hbox; replace BK := Aside0.mk (blk_below BK.out hb); clear hk0 hk1 B1; have hk0 : w2.cell? ⟨gb, 0, none⟩ = some (.int .i64 a0_0) := (blk_cell BK.out 0).trans rfl; have hk1 : w2.cell? ⟨gb, 1, none⟩ = some (.slice A0_1 l0_1.length c0_1) := (blk_cell BK.out 1).trans rfl; clear hg hbox hb) | ((with_reducible refine gate_callee (f := 79) rfl ?_); (with_reducible refine gate_dst (N := 7) rfl ?_); refine goesL_ (some 7) rfl rfl Tryd.func79 (by kernel_rfl) rfl #[.agg #[.int .i64 a0_0, .slice A0_1 l0_1.length c0_1]] rfl (by (try simp only [List.map_toArray, List.map_cons, List.map_nil]); first | done | rfl) ?_; (with_reducible refine (spec_paTable.calls k a0_0 A0_1 c0_1 l0_1 T w2 (Kd.C_below HR0.out B2.out) HC0.out HT.out).mono ?_); rintro e wt_ ⟨v_, rfl, ho, hb⟩; refine ⟨_, rfl, ?_⟩; obtain ⟨nT, hnT⟩ : ∃ n_, w2.heap.size = n_ := ⟨_, rfl⟩; obtain ⟨A3, c3, e3⟩ := Kd.S_slice ho; rw [HLn.out] at e3; subst e3; have XK := Aside0.mk (blk_below XK0.out hb); have S3 : Aside0 (Kd.S (Kd.slice 4 Kd.bool) 101 wt_ nT (fun _ => True) (.slice A3 n c3) T) := ⟨by rw [← hnT]; exact ho⟩; have B3 := Aside0.mk (below_step B2.out hb); have LT := Aside0.mk (show w.heap.size ≤ nT ∧ gx < nT ∧ nT ≤ wt_.heap.size from (by rw [← hnT]; exact ⟨B2.out.size, blk_lt XK0.out, hb.size⟩)); clear ho hb B2 BK XK0 hk0 hk1 hnT))
  go_loopw [10] (fun v wr => ∃ a : Nat, a ≤ n ∧ v = .int .i64 a ∧ Aside0 (Kd.S (Kd.slice 4 Kd.bool) 101 wr nT (fun _ => True) (.slice A3 n c3) (flipT T a 0) ∧ Below nT wt_ wr)) (fun v _ => n - (intOf v).toNat)
  case atStart => exact ⟨0, Nat.zero_le _, rfl, ⟨⟨by rw [Hz.out]; exact S3.out, Below.refl _ _⟩⟩⟩
  case round =>
   clear S3
   obtain ⟨a, ha, rfl, I⟩ := hrel
   by_cases hal : a < n
   ·have hdec : decide (a < n) = true := by simp; omega
    have hra := Hrow.out a hal
    go_wp2
    go_loopw [15] (fun v wr => ∃ b : Nat, b ≤ n ∧ v = .int .i64 b ∧ Aside0 (Kd.S (Kd.slice 4 Kd.bool) 101 wr nT (fun _ => True) (.slice A3 n c3) (flipT T a b) ∧ Below nT wt_ wr)) (fun v _ => n - (intOf v).toNat)
    case atStart => exact ⟨0, Nat.zero_le _, rfl, I⟩
    case round =>
     clear I hdec
     obtain ⟨b, hb, rfl, I⟩ := hrel
     by_cases hbl : b < n
     ·have hdec : decide (b < n) = true := by simp; omega
      have haT : a < T.length := by rw [HLn.out]; exact hal
      have Hset := Aside0.mk (flipT_set T a b haT (by rw [hra]; exact hbl))
      have hlen := flipT_len T a b haT
      have hat := flipT_at T a b haT
      have hfl := flipTo_at (T.getD a []) b (by rw [hra]; exact hbl)
      have hfn : (flipTo (T.getD a []) b).length = n := by rw [flipTo_len]; exact hra
      rw [HLn.out] at hlen
      generalize flipT T a b = Q at I Hset hlen hat
      generalize flipTo (T.getD a []) b = row at Hset hat hfl hfn
      obtain ⟨x, hx⟩ : ∃ x, (T.getD a []).getD b false = x := ⟨_, rfl⟩
      rw [hx] at Hset hfl
      obtain ⟨g, cap, e1, _, _, _⟩ := Kd.S_form I.out.1 (by omega)
      injection e1 with eA en ec
      clear en
      subst eA ec
      obtain ⟨oki, ce, hcl, hM, hcc, hoki, hback⟩ := Kd.S_borrow I.out.1 [] (a : Int) (by omega) (by omega)
      obtain ⟨vr, rfl, hr⟩ := hM
      rw [Int.toNat_natCast, hat] at hr
      have hxh := hcc 0 _ rfl
      rw [Int.toNat_natCast, show (Kd.slice 4 Kd.bool).sz = 1 from rfl, Nat.mul_one, Nat.add_zero] at hxh
      obtain ⟨gr, cr, e2, _, _, _⟩ := Kd.R_form hr (by omega)
      subst e2
      rw [hfn] at hr hxh hback
      obtain ⟨hxc, hfc⟩ := Kd.R_celln false hr (b : Int) (by omega) (by omega)
      rw [Int.toNat_natCast, show rdOf false row (b : Int) = x from by simp only [rdOf, Int.toNat_natCast]; exact hfl] at hxc
      rw [Int.toNat_natCast] at hfc
      rw [show (⟨g, 0, none⟩ : Addr).add a = ⟨g, a, none⟩ from (by unfold Addr.add; split <;> simp_all)] at hxh
      have HP := Kd.R_putg hr (b : Int) (!x)
      rw [Int.toNat_natCast] at HP
      have J : Aside0 (Kd.S (Kd.slice 4 Kd.bool) 101 (wr.setCell ⟨gr, b, none⟩ (.bool (!x))) nT (fun _ => True) (.slice (some ⟨g, 0, none⟩) n c3) (flipT T a (b + 1)) ∧ Below nT wt_ (wr.setCell ⟨gr, b, none⟩ (.bool (!x)))) := ⟨by
       refine ⟨?_, I.out.2.setCell (p := ⟨gr, b, none⟩) (Kd.R_base hr gr rfl) _⟩
       have h_ := hback HP.2 (fun k hk => hr.1 k (by simpa [Value.ownBlock] using hk)) (Kd.M_row HP.1)
       rw [Int.toNat_natCast, Hset.out] at h_
       exact h_⟩
      clear hcl hcc hoki hback hr HP hlen hat hfl hfn hx I
      go_upto_region 8 with (fail)
      refine start_ (n := 15) (S := fun w' => w'.cell? ⟨g, a, none⟩ = some (.slice (some ⟨gr, 0, none⟩) n cr) ∧ w'.cell? ⟨gr, b, none⟩ = some (.bool x)) (ds := [14]) #[false, false, false, false, false, false, false, false, false, false, false, false, false, false, false] (by kernel_rfl) rfl rfl ⟨hxh, hxc⟩ (fun hHeld => ?_)
      replace J : Aside0 (Kd.S (Kd.slice 4 Kd.bool) 101 (wr.drew.setCell ⟨gr, b, none⟩ (.bool (!x))) nT (fun _ => True) (.slice (some ⟨g, 0, none⟩) n c3) (flipT T a (b + 1)) ∧ Below nT wt_ (wr.drew.setCell ⟨gr, b, none⟩ (.bool (!x)))) := ⟨Kd.S_drew J.out.1, below_drew1 J.out.2⟩
      have hfc2 : wr.drew.frozen? ⟨gr, b, none⟩ = false := hfc
      have hxc2 : wr.drew.cell? ⟨gr, b, none⟩ = some (.bool x) := hxc
      generalize wr.drew = w6 at J hfc2 hxc2 hHeld ⊢
      refine pure_ (i := 0) (N := some 18) (v := ?_) (a' := ?_) #[true, false, false, false, false, false, false, false, false, false, false, false, false, false, false] rfl rfl (by kernel_rfl) (fun _ _ _ h => h) (Or.inl ⟨by rfl, ?_⟩) ?_ ?_
      rotate_left
      ·intro w'
       go_simp
       with_reducible rfl
      rotate_left
      ·simp only [Act.put, List.setIfInBounds_toArray, List.set_cons_zero, List.set_cons_succ, i64_w, i32_w]
       rfl
      refine pure_ (i := 1) (N := some 19) (v := ?_) (a' := ?_) #[true, true, false, false, false, false, false, false, false, false, false, false, false, false, false] rfl rfl (by kernel_rfl) (fun _ _ _ h => h) (Or.inl ⟨by rfl, ?_⟩) ?_ ?_
      rotate_left
      ·intro w'
       go_simp
       with_reducible rfl
      rotate_left
      ·simp only [Act.put, List.setIfInBounds_toArray, List.set_cons_zero, List.set_cons_succ, i64_w, i32_w]
       rfl
      refine pure_ (i := 2) (N := some 20) (v := ?_) (a' := ?_) #[true, true, true, false, false, false, false, false, false, false, false, false, false, false, false] rfl rfl (by kernel_rfl) (fun _ _ _ h => h) (Or.inl ⟨by rfl, ?_⟩) ?_ ?_
      rotate_left
      ·intro w'
       go_simp
       with_reducible rfl
      rotate_left
      ·simp only [Act.put, List.setIfInBounds_toArray, List.set_cons_zero, List.set_cons_succ, i64_w, i32_w]
       rfl
      refine take_ (i := 3) (N := some 21) (v := ?_) (a' := ?_) #[true, true, true, true, false, false, false, false, false, false, false, false, false, false, false] rfl rfl (by kernel_rfl) (fun _ _ _ h => h) (Or.inl ⟨by rfl, ?_⟩) hHeld ?_ ?_
      rotate_left
      ·rintro w' ⟨s0, s1⟩
       go_simp
       with_reducible rfl
      rotate_left
      ·simp only [Act.put, List.setIfInBounds_toArray, List.set_cons_zero, List.set_cons_succ, i64_w, i32_w]
       rfl
      refine pure_ (i := 4) (N := some 22) (v := ?_) (a' := ?_) #[true, true, true, true, true, false, false, false, false, false, false, false, false, false, false] rfl rfl (by kernel_rfl) (fun _ _ _ h => h) (Or.inl ⟨by rfl, ?_⟩) ?_ ?_
      rotate_left
      ·intro w'
       go_simp
       with_reducible rfl
      rotate_left
      ·simp only [Act.put, List.setIfInBounds_toArray, List.set_cons_zero, List.set_cons_succ, i64_w, i32_w]
       rfl
      refine pure_ (i := 5) (N := some 23) (v := ?_) (a' := ?_) #[true, true, true, true, true, true, false, false, false, false, false, false, false, false, false] rfl rfl (by kernel_rfl) (fun _ _ _ h => h) (Or.inl ⟨by rfl, ?_⟩) ?_ ?_
      rotate_left
      ·intro w'
       go_simp
       with_reducible rfl
      rotate_left
      ·simp only [Act.put, List.setIfInBounds_toArray, List.set_cons_zero, List.set_cons_succ, i64_w, i32_w]
       rfl
      refine pure_ (i := 6) (N := some 24) (v := ?_) (a' := ?_) #[true, true, true, true, true, true, true, false, false, false, false, false, false, false, false] rfl rfl (by kernel_rfl) (fun _ _ _ h => h) (Or.inl ⟨by rfl, ?_⟩) ?_ ?_
      rotate_left
      ·intro w'
       go_simp
       with_reducible rfl
      rotate_left
      ·simp only [Act.put, List.setIfInBounds_toArray, List.set_cons_zero, List.set_cons_succ, i64_w, i32_w]
       rfl
      refine pure_ (i := 7) (N := some 25) (v := ?_) (a' := ?_) #[true, true, true, true, true, true, true, true, false, false, false, false, false, false, false] rfl rfl (by kernel_rfl) (fun _ _ _ h => h) (Or.inl ⟨by rfl, ?_⟩) ?_ ?_
      rotate_left
      ·intro w'
       go_simp
       with_reducible rfl
      rotate_left
      ·simp only [Act.put, List.setIfInBounds_toArray, List.set_cons_zero, List.set_cons_succ, i64_w, i32_w]
       rfl
      refine take_ (i := 8) (N := some 26) (v := ?_) (a' := ?_) #[true, true, true, true, true, true, true, true, true, false, false, false, false, false, false] rfl rfl (by kernel_rfl) (fun _ _ _ h => h) (Or.inl ⟨by rfl, ?_⟩) hHeld ?_ ?_
      rotate_left
      ·rintro w' ⟨s0, s1⟩
       go_simp
       with_reducible rfl
      rotate_left
      ·simp only [Act.put, List.setIfInBounds_toArray, List.set_cons_zero, List.set_cons_succ, i64_w, i32_w]
       rfl
      refine pure_ (i := 9) (N := some 27) (v := ?_) (a' := ?_) #[true, true, true, true, true, true, true, true, true, true, false, false, false, false, false] rfl rfl (by kernel_rfl) (fun _ _ _ h => h) (Or.inl ⟨by rfl, ?_⟩) ?_ ?_
      rotate_left
      ·intro w'
       go_simp
       with_reducible rfl
      rotate_left
      ·simp only [Act.put, List.setIfInBounds_toArray, List.set_cons_zero, List.set_cons_succ, i64_w, i32_w]
       rfl
      refine pure_ (i := 10) (N := some 28) (v := ?_) (a' := ?_) #[true, true, true, true, true, true, true, true, true, true, true, false, false, false, false] rfl rfl (by kernel_rfl) (fun _ _ _ h => h) (Or.inl ⟨by rfl, ?_⟩) ?_ ?_
      rotate_left
      ·intro w'
       go_simp
       with_reducible rfl
      rotate_left
      ·simp only [Act.put, List.setIfInBounds_toArray, List.set_cons_zero, List.set_cons_succ, i64_w, i32_w]
       rfl
      refine take_ (i := 11) (N := some 29) (v := ?_) (a' := ?_) #[true, true, true, true, true, true, true, true, true, true, true, true, false, false, false] rfl rfl (by kernel_rfl) (fun _ _ _ h => h) (Or.inl ⟨by rfl, ?_⟩) hHeld ?_ ?_
      rotate_left
      ·rintro w' ⟨s0, s1⟩
       go_simp
       with_reducible rfl
      rotate_left
      ·simp only [Act.put, List.setIfInBounds_toArray, List.set_cons_zero, List.set_cons_succ, i64_w, i32_w]
       rfl
      refine pure_ (i := 12) (N := some 30) (v := ?_) (a' := ?_) #[true, true, true, true, true, true, true, true, true, true, true, true, true, false, false] rfl rfl (by kernel_rfl) (fun _ _ _ h => h) (Or.inl ⟨by rfl, ?_⟩) ?_ ?_
      rotate_left
      ·intro w'
       go_simp
       with_reducible rfl
      rotate_left
      ·simp only [Act.put, List.setIfInBounds_toArray, List.set_cons_zero, List.set_cons_succ, i64_w, i32_w]
       rfl
      refine pure_ (i := 13) (N := some 31) (v := ?_) (a' := ?_) #[true, true, true, true, true, true, true, true, true, true, true, true, true, true, false] rfl rfl (by kernel_rfl) (fun _ _ _ h => h) (Or.inl ⟨by rfl, ?_⟩) ?_ ?_
      rotate_left
      ·intro w'
       go_simp
       with_reducible rfl
      rotate_left
      ·simp only [Act.put, List.setIfInBounds_toArray, List.set_cons_zero, List.set_cons_succ, i64_w, i32_w]
       rfl
      refine last_ (i := 14) (N := none) #[true, true, true, true, true, true, true, true, true, true, true, true, true, true, true] rfl rfl (by kernel_rfl) (by decide) (fun K hK => ?_)
      refine skip_ (w1 := (w6.setCell ⟨gr, b, none⟩ (.bool (!x)))) (by rfl) rfl ?_ ?_
      ·first | (go_simp; done) | (go_simp; rfl)
      refine hK.out _ _ ?_
      clear hHeld hK K hfc2 hxc2
      obtain ⟨w7, hw7⟩ : ∃ w7, w7 = w6.setCell ⟨gr, b, none⟩ (.bool (!x)) := ⟨_, rfl⟩
      rw [← hw7] at J ⊢
      have J9 := J
      clear J hw7
      refine done_ (by kernel_rfl) ?_
      go_wp2
      go_roundw
      case rel => exact ⟨b + 1, by omega, by go_num, J9⟩
      case measure => simp [intOf]; omega
     ·have hbe : b = n := by omega
      subst hbe
      have hdec : decide (b < b) = false := by simp
      have Hnx := Aside0.mk (flipT_next T a b (by rw [HLn.out]; exact hal) hra)
      go_wp2
      go_roundw
      case rel => exact ⟨a + 1, by omega, by go_num, ⟨by rw [← Hnx.out]; exact I.out⟩⟩
      case measure => simp [intOf]; omega
   ·have hae : a = n := by omega
    subst hae
    have hdec : decide (a < a) = false := by simp
    have hen : flipT T a 0 = T.map (fun r => r.map (fun x => !x)) := by rw [← He.out, HLn.out]
    have hml : (T.map (fun r => r.map (fun x => !x))).length = a := by rw [List.length_map]; exact HLn.out
    rw [hen] at I
    have hX : wr.heap[gx]? = some (.cells #[.int .i64 0, .slice none 0 0] 30 (0, 0)) := (I.out.2.block gx LT.out.2.1).trans XK.out
    have HX := Aside0.mk hX
    clear hX hen
    go_wp2_with (first | ((with_reducible refine gate_callee (f := 137) rfl ?_); (with_reducible refine gate_dst (N := 35) rfl ?_); refine goesL_ (some 35) rfl rfl Tryd.func137 (by kernel_rfl) rfl #[.slice A3 a c3] rfl (by (try simp only [List.map_toArray, List.map_cons, List.map_nil]); first | done | rfl) ?_; (with_reducible refine ((hml ▸ spec_paOf.calls k A3 c3 (T.map (fun (r_ : List Bool) => r_.map (fun x => !x))) r1 r2 wr (Kd.S_reads' I.out.1).2.2 (by rw [hml]; exact (Kd.S_reads' I.out.1).2.1) HOF.out)).mono ?_); rintro e w5_ ⟨v_, rfl, ho, hb⟩; refine ⟨_, rfl, ?_⟩; obtain ⟨A5, c5, e5⟩ := Kd.R_slice ho; subst e5; have X5 := Aside0.mk (blk_below HX.out hb); have R5 := Aside0.mk (Kd.R_lower (Kd.R_mono (Kd.R_bound ho) (ok' := fun k => k ≠ gx) (fun k hk => (fun e => by have h1 := hk.2.1; have h2 := blk_lt HX.out; omega))) (Nat.le_trans LT.out.1 (Nat.le_trans LT.out.2.2 I.out.2.size))); have B5 := Aside0.mk (below_step ((show Below w.heap.size w wr from ⟨I.out.2.os.trans B3.out.os, I.out.2.tape.trans B3.out.tape, I.out.2.output.trans B3.out.output, Nat.le_trans B3.out.size I.out.2.size, fun i hi => (I.out.2.block i (Nat.lt_of_lt_of_le hi LT.out.1)).trans (B3.out.block i hi)⟩)) hb); clear ho hb HX I; have hz0 : w5_.cell? ⟨gx, 0, none⟩ = some (.int .i64 0) := (blk_cell X5.out 0).trans rfl; have hz1 : w5_.cell? ⟨gx, 1, none⟩ = some (.slice none 0 0) := (blk_cell X5.out 1).trans rfl; have hy0 := blk_frozen X5.out 0; have hy1 := blk_frozen X5.out 1))
    refine bodyPost_ret (results_cell_row rfl _ _ gx 30 #[.int .i64 r1, .slice A5 r2.length c5] (0, 0) _ rfl (blk_put (cs := #[.int .i64 r1, .slice none 0 0]) (blk_put (cs := #[.int .i64 0, .slice none 0 0]) X5.out 0 _ rfl) 1 _ rfl) Tryd.underlying30 rfl (by kernel_rfl)) rfl ?_
    exact ⟨_, rfl, Kd.R_mono (Kd.R_far (Kd.R_far R5.out (fun k hk e => hk e) _) (fun k hk e => hk e) _) (fun _ _ => trivial), below_set (below_set B5.out GX.out) GX.out⟩
 ·cases h2
end Go.Proofs.YtopahhcojncgaaaDoor.G
namespace Go.Proofs.YtopahhcojncgaaaDoor.G
open Go.RowKit Go.Proofs.YtopahhcojncgaaaDoorW.PrintWords Go.Proofs.YtopahhcojncgaaaDoorW.PrintLast Go.Proofs.YtopahhcojncgaaaDoorW.PrintMore
set_option linter.unusedVariables false
set_option linter.unusedSimpArgs false
def spec_AllApart.f (k : Nat) (a0_0 : Int) (l0_1 : List S98) : Option (List (List Int) × Bool) := (spec_paGood.f k a0_0 l0_1).bind fun g => if g = true then (spec_paOther.f k a0_0 l0_1).bind fun p => (spec_grFulls.f k p.1 p.2).bind fun r => some (r, true) else some ([], false)
set_option maxHeartbeats 4000000 in
set_option maxRecDepth 100000 in
theorem spec_AllApart.calls (k : Nat) (a0_0 : Int) (A0_1 : Option Addr) (c0_1 : Nat) (l0_1 : List (S98)) (r1 : List (List Int)) (r2 : Bool) (w : World) (hr0_1 : Kd.C k98 w A0_1 l0_1.length l0_1) (hc0_1 : l0_1.length ≤ c0_1) (h : spec_AllApart.f k a0_0 l0_1 = some (r1, r2)) :
  Calls Tryd.prog 33 #[.agg #[.int .i64 a0_0, .slice A0_1 l0_1.length c0_1]] w fun e w' => ∃ v0_ : Value, e = .returned (.tuple #[v0_, .bool r2]) ∧ RO w' v0_ r1 ∧ Below w.heap.size w w' := by
 have hu30 := Tryd.underlying30
 unfold spec_AllApart.f at h
 obtain ⟨g, hg, h2⟩ := Option.bind_eq_some_iff.mp h
 have HR0 := Aside0.mk hr0_1
 have HC0 := Aside0.mk hc0_1
 have HG := Aside0.mk hg
 clear h hr0_1 hc0_1 hg
 cases g with
 | false =>
  rw [if_neg (by decide)] at h2
  injection h2 with h2
  injection h2 with e1 e2
  subst e1 e2
  go_enter Tryd.func33, Tryd.ntmps33
  go_wp2_with (first | ((with_reducible refine gate_dst (N := 1) rfl ?_); refine box_event ?hg (N := 1) ?hd (cs := #[.int .i64 a0_0, .slice A0_1 l0_1.length c0_1]) (t := 30) ?hr ?_; (case hd => rfl); (case hg => rfl); (case hr => first | (go_simp; done) | (go_simp; rfl)); intro gb hg w1 hbox hb; have B1 := Aside0.mk hb; have BK := Aside0.mk hbox; have hk0 : w1.cell? ⟨gb, 0, none⟩ = some (.int .i64 a0_0) := (blk_cell BK.out 0).trans rfl; have hk1 : w1.cell? ⟨gb, 1, none⟩ = some (.slice A0_1 l0_1.length c0_1) := (blk_cell BK.out 1).trans rfl; clear hg hbox hb) | ((with_reducible refine gate_callee (f := 66) rfl ?_); (with_reducible refine gate_dst (N := 5) rfl ?_); refine goesL_ (some 5) rfl rfl Tryd.func66 (by kernel_rfl) rfl #[.agg #[.int .i64 a0_0, .slice A0_1 l0_1.length c0_1]] rfl (by (try simp only [List.map_toArray, List.map_cons, List.map_nil]); first | done | rfl) ?_; (with_reducible refine (spec_paGood.calls k a0_0 A0_1 c0_1 l0_1 false w1 (Kd.C_below HR0.out B1.out) HC0.out HG.out).mono ?_); rintro e w5_ ⟨rfl, hb⟩; refine ⟨_, rfl, ?_⟩; have B2 := Aside0.mk (below_step B1.out hb); clear hb B1 BK hk0 hk1))
  go_ret2
  exact ⟨_, rfl, RO.nil _, B2.out⟩
 | true =>
  rw [if_pos rfl] at h2
  obtain ⟨⟨pn, ps⟩, hp, h3⟩ := Option.bind_eq_some_iff.mp h2
  obtain ⟨r, hr, h4⟩ := Option.bind_eq_some_iff.mp h3
  injection h4 with h4
  injection h4 with e1 e2
  subst e1 e2
  have HP := Aside0.mk hp
  have HF := Aside0.mk hr
  clear h2 h3 hr hp
  go_enter Tryd.func33, Tryd.ntmps33
  go_wp2_with (first | ((with_reducible refine gate_dst (N := 1) rfl ?_); refine box_event ?hg (N := 1) ?hd (cs := #[.int .i64 a0_0, .slice A0_1 l0_1.length c0_1]) (t := 30) ?hr ?_; (case hd => rfl); (case hg => rfl); (case hr => first | (go_simp; done) | (go_simp; rfl)); intro gb hg w1 hbox hb; have B1 := Aside0.mk hb; have BK := Aside0.mk hbox; have hk0 : w1.cell? ⟨gb, 0, none⟩ = some (.int .i64 a0_0) := (blk_cell BK.out 0).trans rfl; have hk1 : w1.cell? ⟨gb, 1, none⟩ = some (.slice A0_1 l0_1.length c0_1) := (blk_cell BK.out 1).trans rfl; clear hg hbox hb) | ((with_reducible refine gate_callee (f := 66) rfl ?_); (with_reducible refine gate_dst (N := 5) rfl ?_); refine goesL_ (some 5) rfl rfl Tryd.func66 (by kernel_rfl) rfl #[.agg #[.int .i64 a0_0, .slice A0_1 l0_1.length c0_1]] rfl (by (try simp only [List.map_toArray, List.map_cons, List.map_nil]); first | done | rfl) ?_; (with_reducible refine (spec_paGood.calls k a0_0 A0_1 c0_1 l0_1 true w1 (Kd.C_below HR0.out B1.out) HC0.out HG.out).mono ?_); rintro e w2_ ⟨rfl, hb⟩; refine ⟨_, rfl, ?_⟩; have B2 := Aside0.mk (below_step B1.out hb); replace BK := Aside0.mk (blk_below BK.out hb); clear hb B1 hk0 hk1; have hk0 : w2_.cell? ⟨gb, 0, none⟩ = some (.int .i64 a0_0) := (blk_cell BK.out 0).trans rfl; have hk1 : w2_.cell? ⟨gb, 1, none⟩ = some (.slice A0_1 l0_1.length c0_1) := (blk_cell BK.out 1).trans rfl) | ((with_reducible refine gate_callee (f := 87) rfl ?_); (with_reducible refine gate_dst (N := 8) rfl ?_); refine goesL_ (some 8) rfl rfl Tryd.func87 (by kernel_rfl) rfl #[.agg #[.int .i64 a0_0, .slice A0_1 l0_1.length c0_1]] rfl (by (try simp only [List.map_toArray, List.map_cons, List.map_nil]); first | done | rfl) ?_; (with_reducible refine (spec_paOther.calls k a0_0 A0_1 c0_1 l0_1 pn ps w2_ (Kd.C_below HR0.out B2.out) HC0.out HP.out).mono ?_); rintro e w4_ ⟨v_, rfl, ho, hb⟩; refine ⟨_, rfl, ?_⟩; obtain ⟨A4, c4, e4⟩ := Kd.R_slice ho; subst e4; have R4 := Aside0.mk ho; have B4 := Aside0.mk (below_step B2.out hb); clear hb ho B2 BK hk0 hk1) | ((with_reducible refine gate_callee (f := 82) rfl ?_); (with_reducible refine gate_dst (N := 9) rfl ?_); refine goesL_ (some 9) rfl rfl Tryd.func82 (by kernel_rfl) rfl #[.agg #[.int .i64 pn, .slice A4 ps.length c4]] rfl (by (try simp only [List.map_toArray, List.map_cons, List.map_nil]); first | done | rfl) ?_; (with_reducible refine (spec_grFulls.calls k pn A4 c4 ps r w4_ (Kd.R_reads' R4.out).2.2 (Kd.R_reads' R4.out).2.1 HF.out).mono ?_); rintro e w5_ ⟨v_, rfl, hro, hb⟩; refine ⟨_, rfl, ?_⟩; have B3 := Aside0.mk (below_step B4.out hb); have RO3 := Aside0.mk hro; clear hb hro B4 R4))
  go_ret2
  exact ⟨_, rfl, RO3.out, B3.out⟩
end Go.Proofs.YtopahhcojncgaaaDoor.G
namespace Go.Proofs.YtopahhcojncgaaaDoor.G
open Go.RowKit Go.Proofs.YtopahhcojncgaaaDoorW.PrintWords Go.Proofs.YtopahhcojncgaaaDoorW.PrintLast Go.Proofs.YtopahhcojncgaaaDoorW.PrintMore
set_option linter.unusedVariables false
set_option linter.unusedSimpArgs false
def bef (x y a b : Nat) : Prop := x < a ∨ (x = a ∧ y < b)
structure OInv (T : List (List Bool)) (n a b : Nat) (P : List S98) : Prop where
  mem : ∀ p ∈ P, ∃ x y : Nat, p = ⟨(x : Int), (y : Int)⟩ ∧ x < y ∧ y < n ∧ tab T x y = true ∧ bef x y a b
  all : ∀ x y : Nat, x < y → y < n → tab T x y = true → bef x y a b → (⟨(x : Int), (y : Int)⟩ : S98) ∈ P
  sorted : P.Pairwise plt
  len : P.length ≤ a * 12 + b
theorem OInv.move {T n a b P a' b'} (h : OInv T n a b P) (hb : ∀ x y, x < y → y < n → (bef x y a b ↔ bef x y a' b')) (hl : a * 12 + b ≤ a' * 12 + b') : OInv T n a' b' P := by
  refine ⟨fun p hp => ?_, fun x y h1 h2 h3 h4 => h.all x y h1 h2 h3 ((hb x y h1 h2).2 h4), h.sorted, Nat.le_trans h.len hl⟩
  obtain ⟨x, y, e, h1, h2, h3, h4⟩ := h.mem p hp
  exact ⟨x, y, e, h1, h2, h3, (hb x y h1 h2).1 h4⟩
theorem OInv.no {T n a b P} (h : OInv T n a b P) (ht : tab T a b = false) : OInv T n a (b + 1) P := by
  refine ⟨fun p hp => ?_, fun x y h1 h2 h3 h4 => h.all x y h1 h2 h3 ?_, h.sorted, by have := h.len; omega⟩
  · obtain ⟨x, y, e, h1, h2, h3, h4⟩ := h.mem p hp
    exact ⟨x, y, e, h1, h2, h3, by unfold bef at *; omega⟩
  · by_cases e : x = a ∧ y = b
    · obtain ⟨rfl, rfl⟩ := e
      rw [ht] at h3; cases h3
    · unfold bef at *; omega
theorem OInv.yes {T n a b P} (h : OInv T n a b P) (hab : a < b) (hb : b < n) (ht : tab T a b = true) : OInv T n a (b + 1) (P ++ [⟨(a : Int), (b : Int)⟩]) := by
  refine ⟨fun p hp => ?_, fun x y h1 h2 h3 h4 => ?_, List.pairwise_append.2 ⟨h.sorted, List.pairwise_singleton _ _, fun p hp q hq => ?_⟩, by have := h.len; rw [List.length_append, List.length_singleton]; omega⟩
  · rcases List.mem_append.1 hp with hp | hp
    · obtain ⟨x, y, e, h1, h2, h3, h4⟩ := h.mem p hp
      exact ⟨x, y, e, h1, h2, h3, by unfold bef at *; omega⟩
    · exact ⟨a, b, List.mem_singleton.1 hp, hab, hb, ht, by unfold bef; omega⟩
  · by_cases e : x = a ∧ y = b
    · obtain ⟨rfl, rfl⟩ := e
      exact List.mem_append_right _ (List.mem_singleton.2 rfl)
    · exact List.mem_append_left _ (h.all x y h1 h2 h3 (by unfold bef at *; omega))
  · obtain ⟨x, y, e, h1, h2, h3, h4⟩ := h.mem p hp
    rw [List.mem_singleton.1 hq, e]
    unfold plt bef at *
    show (x : Int) < (a : Int) ∨ ((x : Int) = (a : Int) ∧ (y : Int) < (b : Int))
    omega
theorem paOf_l1 (n : Nat) (hn : n ≤ 12) (T : List (List Bool)) (hTl : T.length = n) (hrow : ∀ a, a < n → (T.getD a []).length = n) (a : Nat) (ha : a < n)
    (next : ∀ P, OInv T n (a + 1) 0 P → ∃ Q, OInv T n n 0 Q ∧ Ev (fun k => spec_paOf.l0 k T (n : Int) ((a + 1 : Nat) : Int) (n : Int) P) ((n : Int), Q)) : ∀ (d b : Nat) (P : List S98), b + d = n → a < b → OInv T n a b P →
    ∃ Q, OInv T n n 0 Q ∧ Ev (fun k => spec_paOf.l1 k T (a : Int) (b : Int) (n : Int) (a : Int) (n : Int) P) ((n : Int), Q) := by
  intro d
  induction d with
  | zero =>
    intro b P hb hab h
    obtain ⟨Q, h1, h2⟩ := next P (h.move (fun x y hx hy => by unfold bef; omega) (by omega))
    refine ⟨Q, h1, Ev.step (fun k => spec_paOf.l1.eq_2 ..) (Ev.ifn (by omega) ?_)⟩
    rw [w64 (by omega) (by omega), show ((a : Int) + 1) = ((a + 1 : Nat) : Int) by omega]
    exact h2
  | succ d ih =>
    intro b P hb hab h
    have hra := hrow a ha
    have e2 : (rd_L4 T (a : Int)) = T.getD a [] := rfl
    have e3 : rdOf false (rd_L4 T (a : Int)) (b : Int) = tab T a b := by rw [e2]; simp [rdOf, tab]
    have hlen := h.len
    have ew : wrap64 ((b : Int) + 1) = ((b + 1 : Nat) : Int) := by rw [w64 (by omega) (by omega)]; omega
    cases ht : tab T a b
    · obtain ⟨Q, h1, h2⟩ := ih (b + 1) P (by omega) (by omega) (h.no ht)
      refine ⟨Q, h1, Ev.step (fun k => spec_paOf.l1.eq_2 ..) (Ev.ifp (by omega) (Ev.ifp (by omega) (Ev.ifp (by omega) (Ev.ifp (by omega) (Ev.ifp (by rw [e2, hra]; omega) (Ev.ifn (by rw [e3, ht]; decide) ?_))))))⟩
      rw [ew]; exact h2
    · obtain ⟨Q, h1, h2⟩ := ih (b + 1) _ (by omega) (by omega) (h.yes hab (by omega) ht)
      refine ⟨Q, h1, Ev.step (fun k => spec_paOf.l1.eq_2 ..) (Ev.ifp (by omega) (Ev.ifp (by omega) (Ev.ifp (by omega) (Ev.ifp (by omega) (Ev.ifp (by rw [e2, hra]; omega) (Ev.ifp (by rw [e3, ht]) (Ev.ifp (by omega) ?_)))))))⟩
      rw [ew]; exact h2
theorem paOf_l0 (n : Nat) (hn : n ≤ 12) (T : List (List Bool)) (hTl : T.length = n) (hrow : ∀ a, a < n → (T.getD a []).length = n) : ∀ (d a : Nat) (P : List S98), a + d = n → OInv T n a 0 P →
    ∃ Q, OInv T n n 0 Q ∧ Ev (fun k => spec_paOf.l0 k T (n : Int) (a : Int) (n : Int) P) ((n : Int), Q) := by
  intro d
  induction d with
  | zero =>
    intro a P ha h
    obtain rfl : a = n := by omega
    exact ⟨P, h, Ev.step (fun k => spec_paOf.l0.eq_2 ..) (Ev.ifn (by omega) (Ev.pure _))⟩
  | succ d ih =>
    intro a P ha h
    obtain ⟨Q, h1, h2⟩ := paOf_l1 n hn T hTl hrow a (by omega) (fun P hP => ih (a + 1) P (by omega) hP) d (a + 1) P (by omega) (by omega) (h.move (fun x y hx hy => by unfold bef; omega) (by omega))
    refine ⟨Q, h1, Ev.step (fun k => spec_paOf.l0.eq_2 ..) (Ev.ifp (by omega) ?_)⟩
    rw [w64 (by omega) (by omega), show ((a : Int) + 1) = ((a + 1 : Nat) : Int) by omega]
    exact h2
theorem paOf_eq (n : Nat) (hn : n ≤ 12) (T : List (List Bool)) (hTl : T.length = n) (hrow : ∀ a, a < n → (T.getD a []).length = n) : ∃ Q, OInv T n n 0 Q ∧ Ev (fun k => spec_paOf.f k T) ((n : Int), Q) := by
  obtain ⟨Q, h1, h2⟩ := paOf_l0 n hn T hTl hrow n 0 [] (by omega) ⟨fun p hp => absurd hp List.not_mem_nil, fun x y _ _ _ h => by unfold bef at h; omega, List.Pairwise.nil, by simp⟩
  refine ⟨Q, h1, ?_⟩
  unfold spec_paOf.f
  rw [hTl]
  exact h2
theorem OInv.good {T n P} (h : OInv T n n 0 P) (hn : n ≤ 12) : Good (n : Int) P := by
  refine ⟨by omega, by omega, fun j hj => ?_⟩
  unfold okAt
  rw [rd98 P j hj]
  obtain ⟨x, y, e, h1, h2, _, _⟩ := h.mem _ (List.getElem_mem hj)
  refine ⟨by rw [e]; show (0 : Int) ≤ (x : Int); omega, by rw [e]; show (x : Int) < (y : Int); omega, by rw [e]; show (y : Int) < (n : Int); omega, fun hj0 => ?_⟩
  rw [rd98 P (j - 1) (by omega)]
  exact List.pairwise_iff_getElem.1 h.sorted (j - 1) j (by omega) hj (by omega)
theorem OInv.adj {T n P} (h : OInv T n n 0 P) (hs : ∀ a b, a < n → b < n → tab T a b = tab T b a) (a b : Nat) (ha : a < n) (hb : b < n) : adj P a b = (decide (a ≠ b) && tab T a b) := by
  rw [Bool.eq_iff_iff, Bool.and_eq_true, decide_eq_true_iff]
  unfold G.adj
  rw [List.any_eq_true]
  constructor
  · rintro ⟨p, hp, hpa⟩
    obtain ⟨x, y, e, h1, h2, h3, _⟩ := h.mem p hp
    subst e
    unfold pAdj at hpa
    have hpa := of_decide_eq_true hpa
    simp only at hpa
    rcases hpa with ⟨e1, e2⟩ | ⟨e1, e2⟩
    · obtain rfl : x = a := by omega
      obtain rfl : y = b := by omega
      exact ⟨by omega, h3⟩
    · obtain rfl : x = b := by omega
      obtain rfl : y = a := by omega
      exact ⟨by omega, by rw [hs _ _ ha hb]; exact h3⟩
  · rintro ⟨hab, ht⟩
    rcases Nat.lt_or_gt_of_ne hab with h1 | h1
    · exact ⟨_, h.all a b h1 hb ht (by unfold bef; omega), by unfold pAdj; exact decide_eq_true (.inl ⟨rfl, rfl⟩)⟩
    · exact ⟨_, h.all b a h1 ha (by rw [hs _ _ hb ha]; exact ht) (by unfold bef; omega), by unfold pAdj; exact decide_eq_true (.inr ⟨rfl, rfl⟩)⟩
def othM (t : List Int) (n c : Nat) : Nat := clr (clr (2 ^ n - 1) (t.getD c 0).toNat) (2 ^ c)
theorem othM_bit (t : List Int) (n c b : Nat) (hn : n ≤ 16) (hb : b < n) : (othM t n c).testBit b = (!(t.getD c 0).toNat.testBit b && decide (c ≠ b)) := by
  unfold othM
  have hp : 2 ^ n ≤ 65536 := Nat.pow_le_pow_right (n := 2) (by decide) hn
  have hpp := Nat.two_pow_pos n
  have h1 : 2 ^ n - 1 < 65536 := by omega
  rw [testBit_clr _ _ _ (clr_lt _ _ h1), testBit_clr _ _ _ h1, Nat.testBit_two_pow_sub_one, Nat.testBit_two_pow]
  simp [hb]
theorem othM_lt (t : List Int) (n c : Nat) : othM t n c < 2 ^ n := by
  have hpp := Nat.two_pow_pos n
  unfold othM
  exact Nat.lt_of_le_of_lt (Nat.le_trans Nat.and_le_left Nat.and_le_left) (by omega : 2 ^ n - 1 < 2 ^ n)
theorem others_l0 (n : Nat) (hn : n ≤ 12) (t : List Int) (hl : t.length = n) (h0 : ∀ a, 0 ≤ t.getD a 0 ∧ t.getD a 0 < 2 ^ n) : ∀ (d i : Nat) (x : List Int), i + d = n → x.length = n → (∀ c, c < i → x.getD c 0 = (othM t n c : Int)) → (∀ c, i ≤ c → x.getD c 0 = 0) →
    ∃ u : List Int, u.length = n ∧ (∀ c, c < n → u.getD c 0 = (othM t n c : Int)) ∧ (∀ c, n ≤ c → u.getD c 0 = 0) ∧ Ev (fun k => impl_table_others.l0 k t x (n : Int) (i : Int)) u := by
  intro d
  induction d with
  | zero =>
    intro i x hi hx h1 h2
    obtain rfl : i = n := by omega
    exact ⟨x, hx, h1, h2, Ev.step (fun k => impl_table_others.l0.eq_2 ..) (Ev.ifn (by omega) (Ev.pure _))⟩
  | succ d ih =>
    intro i x hi hx h1 h2
    have hp : 2 ^ n < 65536 := Nat.pow_lt_pow_right (by decide) (by omega : n < 16)
    have hpp := Nat.two_pow_pos n
    have hpi : 2 ^ i < 65536 := Nat.pow_lt_pow_right (by decide) (by omega : i < 16)
    obtain ⟨g0, g1⟩ := h0 i
    obtain ⟨v, hv⟩ : ∃ v : Nat, t.getD i 0 = (v : Int) := ⟨(t.getD i 0).toNat, by omega⟩
    have hv2 : v < 2 ^ n := by rw [hv] at g1; exact_mod_cast g1
    have e : Go.bits .andNot .u16 (Go.bits .andNot .u16 (IntKind.u16.wrap ((shl .u16 1 (t.length : Int)) - 1)) (rd t (i : Int))) (shl .u16 1 (i : Int)) = (othM t n i : Int) := by
      have e1 : rd t (i : Int) = (v : Int) := hv
      have e2 : IntKind.u16.wrap (((2 ^ n : Nat) : Int) - 1) = ((2 ^ n - 1 : Nat) : Int) := by
        rw [wrap_u16]
        generalize 2 ^ n = p at hp hpp
        omega
      unfold othM
      rw [hl, shl16 n (by omega), e2, e1, shl16 i (by omega), andNot16 _ _ (by omega) (by omega), andNot16 _ _ (clr_lt _ _ (by omega)) hpi, hv, Int.toNat_natCast]
    have hset : ∀ c, (x.set i (othM t n i : Int)).getD c 0 = if c = i then (othM t n i : Int) else x.getD c 0 := by
      intro c
      simp only [List.getD_eq_getElem?_getD]
      by_cases hc : c = i
      · subst hc
        rw [List.getElem?_set_self (by omega), if_pos rfl]; rfl
      · rw [List.getElem?_set_ne (by omega), if_neg hc]
    obtain ⟨u, u1, u2, u3, u4⟩ := ih (i + 1) (x.set i (othM t n i : Int)) (by omega) (by rw [List.length_set]; exact hx)
      (fun c hc => by
        rw [hset]
        by_cases h : c = i
        · rw [if_pos h, h]
        · rw [if_neg h]; exact h1 c (by omega))
      (fun c hc => by rw [hset, if_neg (by omega)]; exact h2 c (by omega))
    refine ⟨u, u1, u2, u3, Ev.step (fun k => impl_table_others.l0.eq_2 ..) (Ev.ifp (by omega) (Ev.ifp (by omega) (Ev.ifp (by omega) (Ev.ifp (by omega) ?_))))⟩
    rw [e, Int.toNat_natCast, w64 (by omega) (by omega), show ((i : Int) + 1) = ((i + 1 : Nat) : Int) by omega]
    exact u4
theorem others_eq (n : Nat) (hn : n ≤ 12) (t : List Int) (hl : t.length = n) (h0 : ∀ a, 0 ≤ t.getD a 0 ∧ t.getD a 0 < 2 ^ n) :
    ∃ u : List Int, u.length = n ∧ (∀ c, c < n → u.getD c 0 = (othM t n c : Int)) ∧ (∀ c, n ≤ c → u.getD c 0 = 0) ∧ Ev (fun k => impl_table_others.f k t) u := by
  obtain ⟨u, u1, u2, u3, u4⟩ := others_l0 n hn t hl h0 n 0 (List.replicate n 0) (by omega) (List.length_replicate ..) (fun c hc => by omega) (fun c _ => by
    simp only [List.getD_eq_getElem?_getD, List.getElem?_replicate]; split <;> rfl)
  refine ⟨u, u1, u2, u3, ?_⟩
  unfold impl_table_others.f
  rw [hl]
  exact Ev.ifp (by omega) (Ev.ifp (by omega) (by rw [Int.toNat_natCast]; exact u4))
def strA (ps : List S98) (a b : Nat) : Bool := decide (a ≠ b) && !adj ps a b
theorem strA_comm (ps) (a b : Nat) : strA ps a b = strA ps b a := by
  unfold strA
  rw [adj_comm ps a b, decide_eq_decide.2 (show a ≠ b ↔ b ≠ a from ⟨fun h => h.symm, fun h => h.symm⟩)]
theorem strA_self (ps) (a : Nat) : strA ps a a = false := by simp [strA]
theorem paOther_eq (n : Nat) (ps : List S98) (hG : Good (n : Int) ps) (hl : ps.length < 4611686018427387904) :
    ∃ Q, Good (n : Int) Q ∧ Q.length ≤ 144 ∧ (∀ a b, a < n → b < n → adj Q a b = strA ps a b) ∧ Ev (fun k => spec_paOther.f k (n : Int) ps) ((n : Int), Q) := by
  have hn : n ≤ 12 := by have := hG.2.1; omega
  obtain ⟨T, hT, hTE⟩ := paTable_eq n ps hG hl
  have hml : (T.map (fun r => r.map (fun x => !x))).length = n := by rw [List.length_map]; exact hT.len
  have hat : ∀ a, (T.map (fun r => r.map (fun x => !x))).getD a [] = (T.getD a []).map (fun x => !x) := by
    intro a
    simp only [List.getD_eq_getElem?_getD, List.getElem?_map]
    cases T[a]? <;> rfl
  have hrow : ∀ a, a < n → ((T.map (fun r => r.map (fun x => !x))).getD a []).length = n := fun a ha => by rw [hat, List.length_map]; exact hT.row a ha
  have htab : ∀ a b, a < n → b < n → tab (T.map (fun r => r.map (fun x => !x))) a b = !adj ps a b := by
    intro a b ha hb
    rw [← hT.at_ a b ha hb]
    unfold tab
    rw [hat]
    have hrl := hT.row a ha
    generalize T.getD a [] = r at hrl ⊢
    simp only [List.getD_eq_getElem?_getD, List.getElem?_map]
    rw [List.getElem?_eq_getElem (by omega)]; rfl
  obtain ⟨Q, hQ, hQE⟩ := paOf_eq n hn _ hml hrow
  refine ⟨Q, hQ.good hn, by have := hQ.len; omega, fun a b ha hb => ?_, ?_⟩
  · rw [hQ.adj (fun a b ha hb => by rw [htab a b ha hb, htab b a hb ha, adj_comm]) a b ha hb, htab a b ha hb]; rfl
  · refine Ev.bind hTE (Ev.ifp ⟨by rw [hT.len]; omega, fun r hr => ?_⟩ hQE)
    obtain ⟨i, hi, rfl⟩ := List.getElem_of_mem hr
    have := hT.row i (by rw [← hT.len]; exact hi)
    rw [List.getD_eq_getElem?_getD, List.getElem?_eq_getElem hi, Option.getD_some] at this
    rw [this, hT.len]
theorem othM_eq (n : Nat) (hn : n ≤ 12) (ps : List S98) (t : List Int) (ht : MaskI n t ps) (u : List Int) (u2 : ∀ c, c < n → u.getD c 0 = (othM t n c : Int)) (u3 : ∀ c, n ≤ c → u.getD c 0 = 0) :
    (∀ a b, a < n → b < n → (u.getD a 0).toNat.testBit b = strA ps a b) ∧ ∀ a, 0 ≤ u.getD a 0 ∧ u.getD a 0 < 2 ^ n := by
  constructor
  · intro a b ha hb
    rw [u2 a ha, Int.toNat_natCast, othM_bit t n a b (by omega) hb, ht.at_ a b ha hb]
    unfold strA
    rw [Bool.and_comm]
  · intro a
    by_cases ha : a < n
    · rw [u2 a ha]
      have := othM_lt t n a
      exact ⟨by omega, by exact_mod_cast this⟩
    · rw [u3 a (by omega)]
      exact ⟨by omega, by have := Nat.two_pow_pos n; exact_mod_cast this⟩
end Go.Proofs.YtopahhcojncgaaaDoor.G
namespace Go.Proofs.YtopahhcojncgaaaDoor.G
open Go.RowKit Go.Proofs.YtopahhcojncgaaaDoorW.PrintWords Go.Proofs.YtopahhcojncgaaaDoorW.PrintLast Go.Proofs.YtopahhcojncgaaaDoorW.PrintMore
attribute [local go_sem] max2_int min2_int max_two min_two max_three min_three max_four min_four
set_option linter.unusedVariables false
set_option linter.unusedSimpArgs false
def impl_AllApart.f (k : Nat) (a0_0 : Int) (l0_1 : List (S98)) : Option ((List (List Int)) × Bool) := (impl_IsParty.f k a0_0 l0_1).bind fun t515 => (if t515 = true then ((impl_Party_table.f k a0_0 l0_1).bind fun t516 => ((impl_table_others.f k t516).bind fun t519 => ((impl_table_full.f t519).bind fun t522 => (some (t522, true))))) else (some (([] : List (List Int)), false)))
theorem impl_AllApart.mono : ∀ a0 a1 k, LeO (impl_AllApart.f k a0 a1) (impl_AllApart.f (k + 1) a0 a1) := by
 intro a0 a1 k
 unfold impl_AllApart.f
 repeat' first
   | (with_reducible exact impl_IsParty.mono _ _ _)
   | (with_reducible exact impl_Party_table.mono _ _ _)
   | (with_reducible exact impl_table_others.mono _ _)
   | (with_reducible exact LeO.refl _)
   | (with_reducible exact LeO.none _)
   | (with_reducible refine LeO.ite ?_ ?_)
   | (with_reducible refine LeO.bind ?_ (fun _ => ?_))
   | exact impl_IsParty.mono _ _ _
   | exact impl_Party_table.mono _ _ _
   | exact impl_table_others.mono _ _
   | exact LeO.none _
   | refine LeO.ite ?_ ?_
   | refine LeO.bind ?_ (fun _ => ?_)
set_option maxHeartbeats 8000000 in
set_option maxRecDepth 100000 in
theorem impl_AllApart.calls (k : Nat) (a0_0 : Int) (A0_1 : Option Addr) (c0_1 : Nat) (l0_1 : List (S98)) (r1 : List (List Int)) (r2 : Bool) (w : World) (hG : Laid32 w) (hr0_1 : Kd.C k98 w A0_1 l0_1.length l0_1) (hc0_1 : l0_1.length ≤ c0_1) (h : impl_AllApart.f k a0_0 l0_1 = some (r1, r2)) :
  Calls Tryd.prog 34 #[.agg #[.int .i64 a0_0, .slice A0_1 l0_1.length c0_1]] w fun e w' => ∃ v0_ : Value, e = .returned (.tuple #[v0_, .bool r2]) ∧ Kd.S (Kd.slice 3 (Kd.int .i64)) 58 w' w.heap.size (fun _ => True) v0_ r1 ∧ Below w.heap.size w w' := by
 have hu30 := Tryd.underlying30
 have HG := Aside0.mk hG
 clear hG
 have HR0_1 := Aside0.mk hr0_1
 have HC0_1 := Aside0.mk hc0_1
 clear hr0_1 hc0_1
 have HB := Aside0.mk (Below.refl w.heap.size w)
 have H : ((impl_IsParty.f k a0_0 l0_1).bind fun t515 => (if t515 = true then ((impl_Party_table.f k a0_0 l0_1).bind fun t516 => ((impl_table_others.f k t516).bind fun t519 => ((impl_table_full.f t519).bind fun t522 => (some (t522, true))))) else (some (([] : List (List Int)), false)))) = some (r1, r2) := h
 clear h
 replace H := Option.bind_eq_some_iff.mp H
 obtain ⟨t515, A20, H⟩ := H
 replace H : (if t515 = true then ((impl_Party_table.f k a0_0 l0_1).bind fun t516 => ((impl_table_others.f k t516).bind fun t519 => ((impl_table_full.f t519).bind fun t522 => (some (t522, true))))) else (some (([] : List (List Int)), false))) = some (r1, r2) := H
 have A2 := Aside0.mk A20
 clear A20
 by_cases c3 : t515 = true
 ·subst c3
  have H1 : ((impl_Party_table.f k a0_0 l0_1).bind fun t516 => ((impl_table_others.f k t516).bind fun t519 => ((impl_table_full.f t519).bind fun t522 => (some (t522, true))))) = some (r1, r2) := by rw [if_pos rfl] at H; exact H
  clear H
  have H := H1
  clear H1
  replace H := Option.bind_eq_some_iff.mp H
  obtain ⟨t516, A40, H⟩ := H
  replace H : ((impl_table_others.f k t516).bind fun t519 => ((impl_table_full.f t519).bind fun t522 => (some (t522, true)))) = some (r1, r2) := H
  have A4 := Aside0.mk A40
  clear A40
  replace H := Option.bind_eq_some_iff.mp H
  obtain ⟨t519, A50, H⟩ := H
  replace H : ((impl_table_full.f t519).bind fun t522 => (some (t522, true))) = some (r1, r2) := H
  have A5 := Aside0.mk A50
  clear A50
  replace H := Option.bind_eq_some_iff.mp H
  obtain ⟨t522, A60, H⟩ := H
  replace H : (some (t522, true)) = some (r1, r2) := H
  have A6 := Aside0.mk A60
  clear A60
  simp only [Option.some.injEq, Prod.mk.injEq] at H
  obtain ⟨rfl, rfl⟩ := H
  go_enter Tryd.func34, Tryd.ntmps34
  go_wp2_with (first | ((with_reducible refine gate_dst (N := 1) rfl ?_); refine box_event ?hg (N := 1) ?hd (cs := #[.int .i64 a0_0, .slice A0_1 l0_1.length c0_1]) (t := 30) ?hr ?_; (case hd => rfl); (case hg => rfl); (case hr => first | (go_simp; done) | (go_simp; rfl)); intro gb514 hg w7 hbox hb; have n0_ := Aside0.mk (below_step (by repeat (first | (with_reducible first | exact HB.out | apply below_alloc | apply pw_below_drewN | apply below_drew1) | exact HB.out)) hb); have n1_ := Aside0.mk (hbox); have n2_ := Aside0.mk ((by rw [hg]; exact (below_size (by repeat (first | (with_reducible first | exact HB.out | apply below_alloc | apply pw_below_drewN | apply below_drew1) | exact HB.out))) : w.heap.size ≤ gb514)); have n3_ := Aside0.mk ((by rw [hg]; exact (below_size (by repeat (first | (with_reducible first | exact HB.out | apply below_alloc | apply pw_below_drewN | apply below_drew1) | exact HB.out))) : w.heap.size ≤ gb514)); clear HB; have HB := n0_; have BK514 := n1_; have GW514 := n2_; have GE514 := n3_; clear n0_ n1_ n2_ n3_; clear hb hbox hg; have hcz8_0 : w7.cell? ⟨gb514, 0, none⟩ = some (.int .i64 a0_0) := (blk_cell BK514.out 0).trans rfl; have hcz8_1 : w7.cell? ⟨gb514, 1, none⟩ = some (.slice A0_1 l0_1.length c0_1) := (blk_cell BK514.out 1).trans rfl; have hfz8_0 := blk_frozen BK514.out 0; have hfz8_1 := blk_frozen BK514.out 1) | ((with_reducible refine gate_callee (f := 47) rfl ?_); refine goesL_ (some 5) rfl rfl Tryd.func47 (by kernel_rfl) rfl #[.agg #[.int .i64 a0_0, .slice A0_1 l0_1.length c0_1]] rfl (by (try simp only [List.map_toArray, List.map_cons, List.map_nil]); first | done | rfl | (simp only [List.length_drop, List.length_take]; rfl)) ?_; (with_reducible refine (impl_IsParty.calls k a0_0 _ _ l0_1 true _ ?side1 ?side2 A2.out).mono ?_); (case side1 => repeat (first | exact (Kd.C_below HR0_1.out HB.out) | (with_reducible refine Kd.C_alloc ?_ _) | (with_reducible refine Kd.C_drewN ?_ _) | (with_reducible refine Kd.C_drew ?_))); (case side2 => exact HC0_1.out); rintro e w9 ⟨rfl, hb⟩; refine ⟨_, rfl, ?_⟩; have n0_ := Aside0.mk (blk_below (g := gb514) (o := .cells #[.int .i64 a0_0, .slice A0_1 l0_1.length c0_1] 30 (0, 0)) (by (with_reducible repeat (first | refine blk_drewN ?_ _ | refine blk_drew ?_ | refine blk_alloc ?_ _)); exact BK514.out) hb); have n1_ := Aside0.mk (below_step (by repeat (first | (with_reducible first | exact HB.out | apply below_alloc | apply pw_below_drewN | apply below_drew1 | refine below_set ?_ GE514.out) | exact HB.out)) hb); clear BK514; clear HB; have BK514 := n0_; have HB := n1_; clear n0_ n1_; (try clear hb); (try clear hb2); (try clear hk); (try clear hi); have hcz10_0 : w9.cell? ⟨gb514, 0, none⟩ = some (.int .i64 a0_0) := (blk_cell BK514.out 0).trans rfl; have hcz10_1 : w9.cell? ⟨gb514, 1, none⟩ = some (.slice A0_1 l0_1.length c0_1) := (blk_cell BK514.out 1).trans rfl; have hfz10_0 := blk_frozen BK514.out 0; have hfz10_1 := blk_frozen BK514.out 1) | ((with_reducible refine gate_callee (f := 69) rfl ?_); refine goesL_ (some 8) rfl rfl Tryd.func69 (by kernel_rfl) rfl #[.agg #[.int .i64 a0_0, .slice A0_1 l0_1.length c0_1]] rfl (by (try simp only [List.map_toArray, List.map_cons, List.map_nil]); first | done | rfl | (simp only [List.length_drop, List.length_take]; rfl)) ?_; (with_reducible refine (impl_Party_table.calls k a0_0 _ _ l0_1 t516 _ ?side1 ?side2 A4.out).mono ?_); (case side1 => repeat (first | exact (Kd.C_below HR0_1.out HB.out) | (with_reducible refine Kd.C_alloc ?_ _) | (with_reducible refine Kd.C_drewN ?_ _) | (with_reducible refine Kd.C_drew ?_))); (case side2 => exact HC0_1.out); rintro e w11 ⟨v517, rfl, ho0, hb⟩; refine ⟨_, rfl, ?_⟩; have n0_ := Aside0.mk (Kd.R_lower ho0 (below_size (by repeat (first | (with_reducible first | exact HB.out | apply below_alloc | apply pw_below_drewN | apply below_drew1 | refine below_set ?_ GE514.out) | exact HB.out)))); have n1_ := Aside0.mk (blk_below (g := gb514) (o := .cells #[.int .i64 a0_0, .slice A0_1 l0_1.length c0_1] 30 (0, 0)) (by (with_reducible repeat (first | refine blk_drewN ?_ _ | refine blk_drew ?_ | refine blk_alloc ?_ _)); exact BK514.out) hb); have n2_ := Aside0.mk (below_step (by repeat (first | (with_reducible first | exact HB.out | apply below_alloc | apply pw_below_drewN | apply below_drew1 | refine below_set ?_ GE514.out) | exact HB.out)) hb); clear BK514; clear HB; have HO518 := n0_; have BK514 := n1_; have HB := n2_; clear n0_ n1_ n2_; (try clear hb); (try clear hb2); (try clear hk); (try clear hi); (try clear ho0); obtain ⟨Ao12, co12, eo12⟩ := Kd.R_slice HO518.out; subst eo12) | ((with_reducible refine gate_callee (f := 88) rfl ?_); refine goesL_ (some 9) rfl rfl Tryd.func88 (by kernel_rfl) rfl #[.slice Ao12 t516.length co12] rfl (by (try simp only [List.map_toArray, List.map_cons, List.map_nil]); first | done | rfl | (simp only [List.length_drop, List.length_take]; rfl)) ?_; (with_reducible refine (impl_table_others.calls k _ _ t516 t519 _ ?side1 ?side2 A5.out).mono ?_); (case side1 => repeat (first | exact (Kd.R_reads' HO518.out).2.2 | (with_reducible refine Kd.C_alloc ?_ _) | (with_reducible refine Kd.C_drewN ?_ _) | (with_reducible refine Kd.C_drew ?_))); (case side2 => exact (Kd.R_reads' HO518.out).2.1); rintro e w13 ⟨v520, rfl, ho0, hb⟩; refine ⟨_, rfl, ?_⟩; have n0_ := Aside0.mk (Kd.R_elder' (by (with_reducible repeat (first | apply Kd.R_alloc | apply Kd.R_drewN | apply Kd.R_drew)); exact HO518.out) (Kd.R_base ho0) hb); have n1_ := Aside0.mk (Kd.R_lower (Kd.R_new' ho0 (Kd.R_lt (by (with_reducible repeat (first | apply Kd.R_alloc | apply Kd.R_drewN | apply Kd.R_drew)); exact HO518.out))) (below_size (by repeat (first | (with_reducible first | exact HB.out | apply below_alloc | apply pw_below_drewN | apply below_drew1 | refine below_set ?_ GE514.out) | exact HB.out)))); have n2_ := Aside0.mk (blk_below (g := gb514) (o := .cells #[.int .i64 a0_0, .slice A0_1 l0_1.length c0_1] 30 (0, 0)) (by (with_reducible repeat (first | refine blk_drewN ?_ _ | refine blk_drew ?_ | refine blk_alloc ?_ _)); exact BK514.out) hb); have n3_ := Aside0.mk (below_step (by repeat (first | (with_reducible first | exact HB.out | apply below_alloc | apply pw_below_drewN | apply below_drew1 | refine below_set ?_ GE514.out) | exact HB.out)) hb); clear HO518; clear BK514; clear HB; have HO518 := n0_; have HO521 := n1_; have BK514 := n2_; have HB := n3_; clear n0_ n1_ n2_ n3_; (try clear hb); (try clear hb2); (try clear hk); (try clear hi); (try clear ho0); obtain ⟨Ao14, co14, eo14⟩ := Kd.R_slice HO521.out; subst eo14) | ((with_reducible refine gate_callee (f := 83) rfl ?_); refine goesL_ (some 10) rfl rfl Tryd.func83 (by kernel_rfl) rfl #[.slice Ao14 t519.length co14] rfl (by (try simp only [List.map_toArray, List.map_cons, List.map_nil]); first | done | rfl | (simp only [List.length_drop, List.length_take]; rfl)) ?_; (with_reducible refine (impl_table_full.calls _ _ t519 t522 _ ?side1 ?side2 ?side3 A6.out).mono ?_); (case side1 => first | exact HG.out | exact Laid32.drewN HG.out _ | exact Laid32.drew HG.out | exact (Laid32.drewN HG.out _).drewN _ | exact Laid32.below HG.out (by repeat (first | (with_reducible first | exact HB.out | apply below_alloc | apply pw_below_drewN | apply below_drew1 | refine below_set ?_ GE514.out) | exact HB.out))); (case side2 => repeat (first | exact (Kd.R_reads' HO521.out).2.2 | (with_reducible refine Kd.C_alloc ?_ _) | (with_reducible refine Kd.C_drewN ?_ _) | (with_reducible refine Kd.C_drew ?_))); (case side3 => exact (Kd.R_reads' HO521.out).2.1); rintro e w15 ⟨v523, rfl, ho0, hb⟩; refine ⟨_, rfl, ?_⟩; have n0_ := Aside0.mk (Kd.R_below (by (with_reducible repeat (first | apply Kd.R_alloc | apply Kd.R_drewN | apply Kd.R_drew)); exact HO518.out) hb); have n1_ := Aside0.mk (Kd.R_below (by (with_reducible repeat (first | apply Kd.R_alloc | apply Kd.R_drewN | apply Kd.R_drew)); exact HO521.out) hb); have n2_ := Aside0.mk (Kd.S_lower ho0 (below_size (by repeat (first | (with_reducible first | exact HB.out | apply below_alloc | apply pw_below_drewN | apply below_drew1 | refine below_set ?_ GE514.out) | exact HB.out)))); have n3_ := Aside0.mk (blk_below (g := gb514) (o := .cells #[.int .i64 a0_0, .slice A0_1 l0_1.length c0_1] 30 (0, 0)) (by (with_reducible repeat (first | refine blk_drewN ?_ _ | refine blk_drew ?_ | refine blk_alloc ?_ _)); exact BK514.out) hb); have n4_ := Aside0.mk (below_step (by repeat (first | (with_reducible first | exact HB.out | apply below_alloc | apply pw_below_drewN | apply below_drew1 | refine below_set ?_ GE514.out) | exact HB.out)) hb); clear HO518; clear HO521; clear BK514; clear HB; have HO518 := n0_; have HO521 := n1_; have HO524 := n2_; have BK514 := n3_; have HB := n4_; clear n0_ n1_ n2_ n3_ n4_; (try clear hb); (try clear hb2); (try clear hk); (try clear hi); (try clear ho0)))
  go_ret2
  exact ⟨_, by first | rfl | (simp [errW_none, errW_some] <;> rfl) | (simp [*, errW_none, errW_some] <;> rfl), by (with_reducible repeat (first | apply Kd.S_alloc | apply Kd.S_drewN | apply Kd.S_drew)); exact HO524.out, by repeat (first | (with_reducible first | exact HB.out | apply below_alloc | apply pw_below_drewN | apply below_drew1 | refine below_set ?_ GE514.out) | exact HB.out)⟩
 ·replace c3 := Bool.eq_false_iff.mpr c3
  subst c3
  have H1 : (some (([] : List (List Int)), false)) = some (r1, r2) := by rw [if_neg (show ¬ (false = true) by decide)] at H; exact H
  clear H
  have H := H1
  clear H1
  simp only [Option.some.injEq, Prod.mk.injEq] at H
  obtain ⟨rfl, rfl⟩ := H
  go_enter Tryd.func34, Tryd.ntmps34
  go_wp2_with (first | ((with_reducible refine gate_dst (N := 1) rfl ?_); refine box_event ?hg (N := 1) ?hd (cs := #[.int .i64 a0_0, .slice A0_1 l0_1.length c0_1]) (t := 30) ?hr ?_; (case hd => rfl); (case hg => rfl); (case hr => first | (go_simp; done) | (go_simp; rfl)); intro gb514 hg w16 hbox hb; have n0_ := Aside0.mk (below_step (by repeat (first | (with_reducible first | exact HB.out | apply below_alloc | apply pw_below_drewN | apply below_drew1) | exact HB.out)) hb); have n1_ := Aside0.mk (hbox); have n2_ := Aside0.mk ((by rw [hg]; exact (below_size (by repeat (first | (with_reducible first | exact HB.out | apply below_alloc | apply pw_below_drewN | apply below_drew1) | exact HB.out))) : w.heap.size ≤ gb514)); have n3_ := Aside0.mk ((by rw [hg]; exact (below_size (by repeat (first | (with_reducible first | exact HB.out | apply below_alloc | apply pw_below_drewN | apply below_drew1) | exact HB.out))) : w.heap.size ≤ gb514)); clear HB; have HB := n0_; have BK514 := n1_; have GW514 := n2_; have GE514 := n3_; clear n0_ n1_ n2_ n3_; clear hb hbox hg; have hcz17_0 : w16.cell? ⟨gb514, 0, none⟩ = some (.int .i64 a0_0) := (blk_cell BK514.out 0).trans rfl; have hcz17_1 : w16.cell? ⟨gb514, 1, none⟩ = some (.slice A0_1 l0_1.length c0_1) := (blk_cell BK514.out 1).trans rfl; have hfz17_0 := blk_frozen BK514.out 0; have hfz17_1 := blk_frozen BK514.out 1) | ((with_reducible refine gate_callee (f := 47) rfl ?_); refine goesL_ (some 5) rfl rfl Tryd.func47 (by kernel_rfl) rfl #[.agg #[.int .i64 a0_0, .slice A0_1 l0_1.length c0_1]] rfl (by (try simp only [List.map_toArray, List.map_cons, List.map_nil]); first | done | rfl | (simp only [List.length_drop, List.length_take]; rfl)) ?_; (with_reducible refine (impl_IsParty.calls k a0_0 _ _ l0_1 false _ ?side1 ?side2 A2.out).mono ?_); (case side1 => repeat (first | exact (Kd.C_below HR0_1.out HB.out) | (with_reducible refine Kd.C_alloc ?_ _) | (with_reducible refine Kd.C_drewN ?_ _) | (with_reducible refine Kd.C_drew ?_))); (case side2 => exact HC0_1.out); rintro e w18 ⟨rfl, hb⟩; refine ⟨_, rfl, ?_⟩; have n0_ := Aside0.mk (blk_below (g := gb514) (o := .cells #[.int .i64 a0_0, .slice A0_1 l0_1.length c0_1] 30 (0, 0)) (by (with_reducible repeat (first | refine blk_drewN ?_ _ | refine blk_drew ?_ | refine blk_alloc ?_ _)); exact BK514.out) hb); have n1_ := Aside0.mk (below_step (by repeat (first | (with_reducible first | exact HB.out | apply below_alloc | apply pw_below_drewN | apply below_drew1 | refine below_set ?_ GE514.out) | exact HB.out)) hb); clear BK514; clear HB; have BK514 := n0_; have HB := n1_; clear n0_ n1_; (try clear hb); (try clear hb2); (try clear hk); (try clear hi)))
  go_ret2
  exact ⟨_, by first | rfl | (simp [errW_none, errW_some] <;> rfl) | (simp [*, errW_none, errW_some] <;> rfl), by first | exact Kd.S_nil _ _ _ _ _ | exact Kd.N_nil _ _ _ _ _ | exact Kd.V_nil _ _ _ _ _ | exact Kd.Q_nil _ _ _ _ _ | exact Kd.R_nil _ _ _ _ _, by repeat (first | (with_reducible first | exact HB.out | apply below_alloc | apply pw_below_drewN | apply below_drew1 | refine below_set ?_ GE514.out) | exact HB.out)⟩
end Go.Proofs.YtopahhcojncgaaaDoor.G
namespace Go.Proofs.YtopahhcojncgaaaDoor.G
open Go.RowKit Go.Proofs.YtopahhcojncgaaaDoorW.PrintWords Go.Proofs.YtopahhcojncgaaaDoorW.PrintLast Go.Proofs.YtopahhcojncgaaaDoorW.PrintMore
set_option linter.unusedVariables false
set_option linter.unusedSimpArgs false
def laws_FnExactAllApart.f (k : Nat) (n : Int) (l : List S144) : Option Bool :=
 (laws_szParty.f n l 1048576).bind fun lf => if lf < 0 then some true else (laws_toParty.f k n l).bind fun p => (spec_AllApart.f k p.1 p.2).bind fun s => (impl_AllApart.f k p.1 p.2).bind fun i => (laws_markParty.f k p.1 p.2 1).bind fun q =>
  if i = s ∧ laws_eqIntSS.f k s.1 s.1 = some true ∧ laws_eqParty.f k p.1 p.2 p.1 p.2 = some true ∧ 0 ≤ q.1 ∧ szSS s.1 < 1000000000000 ∧ s.1.length ≤ 1000000 ∧ laws_heldIntSS.f k (mkSS s.1 1) 1 = some (1 + (szSS s.1 : Int)) then some true else none
set_option maxHeartbeats 8000000 in
set_option maxRecDepth 100000 in
theorem laws_FnExactAllApart.calls (k : Nat) (a0_0 : Int) (A0_1 : Option Addr) (c0_1 : Nat) (l0_1 : List (S144)) (r : Bool) (w : World) (hG : Laid32 w) (hr0_1 : Kd.C k144 w A0_1 l0_1.length l0_1) (hc0_1 : l0_1.length ≤ c0_1) (h : laws_FnExactAllApart.f k a0_0 l0_1 = some r) :
  Calls Tryd.prog 8 #[.agg #[.int .i64 a0_0, .slice A0_1 l0_1.length c0_1]] w fun e w' => e = .returned (.bool r) ∧ Below w.heap.size w w' := by
 have hu24 := Tryd.underlying24
 have hu30 := Tryd.underlying30
 have HG := Aside0.mk hG
 have HR0 := Aside0.mk hr0_1
 have HC0 := Aside0.mk hc0_1
 clear hG hr0_1 hc0_1
 unfold laws_FnExactAllApart.f at h
 obtain ⟨lf, hsz, h⟩ := Option.bind_eq_some_iff.mp h
 have HSZ := Aside0.mk hsz
 clear hsz
 by_cases hlf : lf < 0
 ·rw [if_pos hlf] at h
  obtain rfl := Option.some.inj h
  have hlfb : decide (lf < 0) = true := decide_eq_true hlf
  clear h hlf
  go_enter Tryd.func8, Tryd.ntmps8
  go_wp2_with (first | ((with_reducible refine gate_dst (N := 1) rfl ?_); refine box_event ?hg (N := 1) ?hd (cs := #[.int .i64 a0_0, .slice A0_1 l0_1.length c0_1]) (t := 24) ?hr ?_; (case hd => rfl); (case hg => rfl); (case hr => first | (go_simp; done) | (go_simp; rfl)); intro gb hg w1 hbox hb; have B1 := Aside0.mk hb; have BK := Aside0.mk hbox; have hk0 : w1.cell? ⟨gb, 0, none⟩ = some (.int .i64 a0_0) := (blk_cell BK.out 0).trans rfl; have hk1 : w1.cell? ⟨gb, 1, none⟩ = some (.slice A0_1 l0_1.length c0_1) := (blk_cell BK.out 1).trans rfl; clear hg hbox hb) | ((with_reducible refine gate_callee (f := 13) rfl ?_); (with_reducible refine gate_dst (N := 16) rfl ?_); refine goesL_ (some 16) rfl rfl Tryd.func13 (by kernel_rfl) rfl #[.agg #[.int .i64 a0_0, .slice A0_1 l0_1.length c0_1], .int .i64 1048576] rfl (by (try simp only [List.map_toArray, List.map_cons, List.map_nil]); first | done | rfl) ?_; (with_reducible refine (laws_szParty.calls a0_0 A0_1 c0_1 l0_1 1048576 lf w1 (Kd.C_below HR0.out B1.out) HC0.out HSZ.out).mono ?_); rintro e w2_ ⟨rfl, hb⟩; refine ⟨_, rfl, ?_⟩; have B2 := Aside0.mk (below_step B1.out hb); replace BK := Aside0.mk (blk_below BK.out hb); clear hk0 hk1; have hk0 : w2_.cell? ⟨gb, 0, none⟩ = some (.int .i64 a0_0) := (blk_cell BK.out 0).trans rfl; have hk1 : w2_.cell? ⟨gb, 1, none⟩ = some (.slice A0_1 l0_1.length c0_1) := (blk_cell BK.out 1).trans rfl; clear hb B1))
  go_ret
  exact ⟨rfl, B2.out⟩
 ·rw [if_neg hlf] at h
  have hlfb : decide (lf < 0) = false := decide_eq_false hlf
  clear hlf
  obtain ⟨⟨n, ps⟩, hto, h2⟩ := Option.bind_eq_some_iff.mp h
  obtain ⟨⟨rr, bb⟩, hsp, h3⟩ := Option.bind_eq_some_iff.mp h2
  obtain ⟨⟨ri, bi⟩, him, h4⟩ := Option.bind_eq_some_iff.mp h3
  obtain ⟨⟨q, pq⟩, hmp, h5⟩ := Option.bind_eq_some_iff.mp h4
  clear h h2 h3 h4
  split at h5
  ·rename_i hc
   obtain ⟨e1, heq, hep, hq0, hsz2, hrl, hheld⟩ := hc
   injection e1 with e1 e2
   subst e1 e2
   obtain rfl := Option.some.inj h5
   have HTO := Aside0.mk hto
   have HSP := Aside0.mk hsp
   have HIM := Aside0.mk him
   have HMP := Aside0.mk hmp
   have HEQ := Aside0.mk heq
   have HEP := Aside0.mk hep
   have HHELD := Aside0.mk hheld
   have hqb : decide (q < 0) = false := decide_eq_false (by simp only at hq0; omega)
   have hbb : (bi != bi) = false := by simp
   obtain ⟨M, hM⟩ : ∃ M : Int, 1 + (szSS ri : Int) = M := ⟨_, rfl⟩
   have HM := Aside0.mk hM
   have hMb : decide (M < 0) = false := decide_eq_false (by omega)
   have hMM : (M != M) = false := by simp
   have Hsz2 := Aside0.mk (show szSS ri < 1000000000000 from hsz2)
   simp only at hrl
   clear h5 hto hsp him hmp heq hep hheld hq0 hM hsz2
   go_enter Tryd.func8, Tryd.ntmps8
   go_upto_region 10 with (first | ((with_reducible refine gate_dst (N := 1) rfl ?_); refine box_event ?hg (N := 1) ?hd (cs := #[.int .i64 a0_0, .slice A0_1 l0_1.length c0_1]) (t := 24) ?hr ?_; (case hd => rfl); (case hg => rfl); (case hr => first | (go_simp; done) | (go_simp; rfl)); intro gb hg w1 hbox hb; have B1 := Aside0.mk hb; have BK := Aside0.mk hbox; have hk0 : w1.cell? ⟨gb, 0, none⟩ = some (.int .i64 a0_0) := (blk_cell BK.out 0).trans rfl; have hk1 : w1.cell? ⟨gb, 1, none⟩ = some (.slice A0_1 l0_1.length c0_1) := (blk_cell BK.out 1).trans rfl; clear hg hbox hb) | ((with_reducible refine gate_callee (f := 13) rfl ?_); (with_reducible refine gate_dst (N := 16) rfl ?_); refine goesL_ (some 16) rfl rfl Tryd.func13 (by kernel_rfl) rfl #[.agg #[.int .i64 a0_0, .slice A0_1 l0_1.length c0_1], .int .i64 1048576] rfl (by (try simp only [List.map_toArray, List.map_cons, List.map_nil]); first | done | rfl) ?_; (with_reducible refine (laws_szParty.calls a0_0 A0_1 c0_1 l0_1 1048576 lf w1 (Kd.C_below HR0.out B1.out) HC0.out HSZ.out).mono ?_); rintro e w2_ ⟨rfl, hb⟩; refine ⟨_, rfl, ?_⟩; have B2 := Aside0.mk (below_step B1.out hb); replace BK := Aside0.mk (blk_below BK.out hb); clear hk0 hk1; have hk0 : w2_.cell? ⟨gb, 0, none⟩ = some (.int .i64 a0_0) := (blk_cell BK.out 0).trans rfl; have hk1 : w2_.cell? ⟨gb, 1, none⟩ = some (.slice A0_1 l0_1.length c0_1) := (blk_cell BK.out 1).trans rfl; clear hb B1) | ((with_reducible refine gate_callee (f := 15) rfl ?_); (with_reducible refine gate_dst (N := 21) rfl ?_); refine goesL_ (some 21) rfl rfl Tryd.func15 (by kernel_rfl) rfl #[.agg #[.int .i64 a0_0, .slice A0_1 l0_1.length c0_1]] rfl (by (try simp only [List.map_toArray, List.map_cons, List.map_nil]); first | done | rfl) ?_; (with_reducible refine (laws_toParty.calls k a0_0 A0_1 c0_1 l0_1 n ps w2_ (Kd.C_below HR0.out B2.out) HC0.out HTO.out).mono ?_); rintro e w3_ ⟨v_, rfl, ho, hb⟩; refine ⟨_, rfl, ?_⟩; obtain ⟨A3, c3, e3⟩ := Kd.R_slice ho; subst e3; have R3 := Aside0.mk ho; have B3 := Aside0.mk (below_step B2.out hb); replace BK := Aside0.mk (blk_below BK.out hb); clear hk0 hk1; have hk0 : w3_.cell? ⟨gb, 0, none⟩ = some (.int .i64 a0_0) := (blk_cell BK.out 0).trans rfl; have hk1 : w3_.cell? ⟨gb, 1, none⟩ = some (.slice A0_1 l0_1.length c0_1) := (blk_cell BK.out 1).trans rfl; clear ho hb B2) | ((with_reducible refine gate_callee (f := 33) rfl ?_); (with_reducible refine gate_dst (N := 22) rfl ?_); refine goesL_ (some 22) rfl rfl Tryd.func33 (by kernel_rfl) rfl #[.agg #[.int .i64 n, .slice A3 ps.length c3]] rfl (by (try simp only [List.map_toArray, List.map_cons, List.map_nil]); first | done | rfl) ?_; (with_reducible refine (spec_AllApart.calls k n A3 c3 ps ri bi w3_ (Kd.R_reads' R3.out).2.2 (Kd.R_reads' R3.out).2.1 HSP.out).mono ?_); rintro e w4_ ⟨v_, rfl, hro, hb⟩; refine ⟨_, rfl, ?_⟩; obtain ⟨A4, c4, e4, hl4, hC4⟩ := hro; subst e4; have C4 := Aside0.mk (And.intro hl4 hC4); clear hl4 hC4; have B4 := Aside0.mk (below_step B3.out hb); replace BK := Aside0.mk (blk_below BK.out hb); clear hk0 hk1; have hk0 : w4_.cell? ⟨gb, 0, none⟩ = some (.int .i64 a0_0) := (blk_cell BK.out 0).trans rfl; have hk1 : w4_.cell? ⟨gb, 1, none⟩ = some (.slice A0_1 l0_1.length c0_1) := (blk_cell BK.out 1).trans rfl; clear hb B3 R3; have GB4 := Aside0.mk (blk_lt BK.out); have B44 := Aside0.mk (Below.refl w4_.heap.size w4_)) | ((with_reducible refine gate_callee (f := 15) rfl ?_); (with_reducible refine gate_dst (N := 26) rfl ?_); refine goesL_ (some 26) rfl rfl Tryd.func15 (by kernel_rfl) rfl #[.agg #[.int .i64 a0_0, .slice A0_1 l0_1.length c0_1]] rfl (by (try simp only [List.map_toArray, List.map_cons, List.map_nil]); first | done | rfl) ?_; (with_reducible refine (laws_toParty.calls k a0_0 A0_1 c0_1 l0_1 n ps w4_ (Kd.C_below HR0.out B4.out) HC0.out HTO.out).mono ?_); rintro e w5_ ⟨v_, rfl, ho, hb⟩; refine ⟨_, rfl, ?_⟩; obtain ⟨A5, c5, e5⟩ := Kd.R_slice ho; subst e5; have R5 := Aside0.mk ho; have B45 := Aside0.mk hb; have LW5 := Aside0.mk hb.size; replace BK := Aside0.mk (blk_below BK.out hb); clear hk0 hk1; have hk0 : w5_.cell? ⟨gb, 0, none⟩ = some (.int .i64 a0_0) := (blk_cell BK.out 0).trans rfl; have hk1 : w5_.cell? ⟨gb, 1, none⟩ = some (.slice A0_1 l0_1.length c0_1) := (blk_cell BK.out 1).trans rfl; clear ho hb B44; have B55 := Aside0.mk (Below.refl w5_.heap.size w5_)) | ((with_reducible refine gate_dst (N := 6) rfl ?_); refine box_event ?hg (N := 6) ?hd (cs := #[.int .i64 0, .slice none 0 0]) (t := 30) ?hr ?_; (case hd => rfl); (case hg => rfl); (case hr => first | (go_simp; done) | (go_simp; rfl)); intro gx hg w6 hbox hb; have R6 := Aside0.mk (Kd.R_below (Kd.R_mono (Kd.R_bound R5.out) (ok' := fun k => k < w5_.heap.size) (fun k hk => hk.2.2.1)) hb); have B46 := Aside0.mk (below_step B45.out hb); have XK := Aside0.mk hbox; have GX := Aside0.mk (show w5_.heap.size = gx from hg.symm); have NBX := Aside0.mk (show gb ≠ gx from by rw [hg]; exact Nat.ne_of_lt (blk_lt BK.out)); replace BK := Aside0.mk (blk_below BK.out hb); clear hk0 hk1; have hz0 : w6.cell? ⟨gx, 0, none⟩ = some (.int .i64 0) := (blk_cell XK.out 0).trans rfl; have hz1 : w6.cell? ⟨gx, 1, none⟩ = some (.slice none 0 0) := (blk_cell XK.out 1).trans rfl; have hy0 := blk_frozen XK.out 0; have hy1 := blk_frozen XK.out 1; clear R5 B45; clear hg hbox hb) | ((with_reducible refine gate_callee (f := 34) rfl ?_); (with_reducible refine gate_dst (N := 29) rfl ?_); have W6 : Aside0 (∃ W6, W6 = (w6.setCell ⟨gx, 0, none⟩ (.int .i64 n)).setCell ⟨gx, 1, none⟩ (.slice A5 ps.length c5)) := ⟨⟨_, rfl⟩⟩; obtain ⟨W6, hW6⟩ := W6.out; rw [← hW6]; have R7 : Aside0 (Kd.R k98 98 W6 w4_.heap.size (fun k => k < w5_.heap.size) (.slice A5 ps.length c5) ps) := ⟨by rw [hW6]; exact Kd.R_far (Kd.R_far R6.out (fun k hk e => by have h_ := GX.out; simp only at e; omega) _) (fun k hk e => by have h_ := GX.out; simp only at e; omega) _⟩; have X7 : Aside0 (W6.heap[gx]? = some (.cells #[.int .i64 n, .slice A5 ps.length c5] 30 (0, 0))) := ⟨by rw [hW6]; exact blk_put (cs := #[.int .i64 n, .slice none 0 0]) (blk_put (cs := #[.int .i64 0, .slice none 0 0]) XK.out 0 _ rfl) 1 _ rfl⟩; have B7 : Aside0 (Below w4_.heap.size w4_ W6) := ⟨by rw [hW6]; exact below_set (below_set B46.out (by have h_ := GX.out; have h2_ := LW5.out; (try simp only); omega)) (by have h_ := GX.out; have h2_ := LW5.out; (try simp only); omega)⟩; have K7 : Aside0 (W6.heap[gb]? = some (.cells #[.int .i64 a0_0, .slice A0_1 l0_1.length c0_1] 24 (0, 0))) := ⟨by rw [hW6]; exact blk_far (blk_far BK.out NBX.out _) NBX.out _⟩; have hn6 : w5_.heap.size < W6.heap.size := (by have h_ := blk_lt X7.out; rw [← GX.out] at h_; exact h_); clear hW6 R6 XK B46 BK hz0 hz1 hy0 hy1 B55; refine goesL_ (some 29) rfl rfl Tryd.func34 (by kernel_rfl) rfl #[.agg #[.int .i64 n, .slice A5 ps.length c5]] rfl (by (try simp only [List.map_toArray, List.map_cons, List.map_nil]); first | done | rfl) ?_; (with_reducible refine (impl_AllApart.calls k n A5 c5 ps ri bi W6 (HG.out.below (below_then B4.out B4.out.size B7.out)) (Kd.R_reads' R7.out).2.2 (Kd.R_reads' R7.out).2.1 HIM.out).mono ?_); rintro e w7_ ⟨v_, rfl, ho, hb⟩; refine ⟨_, rfl, ?_⟩; obtain ⟨A7, c7, e7⟩ := Kd.S_slice ho; subst e7; have S8 := Aside0.mk (Kd.S_mono (Kd.S_bound ho) (ok' := fun k => W6.heap.size ≤ k ∧ k < w7_.heap.size) (fun k hk => ⟨hk.2.1, hk.2.2.1⟩)); have R8 := Aside0.mk (Kd.R_below R7.out hb); have X8 := Aside0.mk (blk_below X7.out hb); have K8 := Aside0.mk (blk_below K7.out hb); have B8 := Aside0.mk (below_step B7.out hb); have T8 := Aside0.mk hb.size; clear ho hb R7 X7 K7 B7) | ((with_reducible refine gate_callee (f := 30) rfl ?_); (with_reducible refine gate_dst (N := 34) rfl ?_); (try (refine gate_guard (by rfl) ?_; dsimp only)); refine goesL_ (some 34) rfl rfl Tryd.func30 (by kernel_rfl) rfl #[.slice A7 ri.length c7, .slice A4 ri.length c4] rfl (by (try simp only [List.map_toArray, List.map_cons, List.map_nil]); first | done | rfl) ?_; (with_reducible refine (laws_eqIntSS.calls k A7 c7 ri A4 c4 ri true w7_ (Kd.S_reads' S8.out).2.2 (Kd.S_reads' S8.out).2.1 (Kd.C_below C4.out.2 B8.out) C4.out.1 HEQ.out).mono ?_); rintro e w8_ ⟨rfl, hd⟩; refine ⟨_, rfl, ?_⟩; have S9 := Aside0.mk (Kd.S_below S8.out hd.below); have R9 := Aside0.mk (Kd.R_below R8.out hd.below); have X9 := Aside0.mk (blk_below X8.out hd.below); have K9 := Aside0.mk (blk_below K8.out hd.below); have B9 := Aside0.mk (below_step B8.out hd.below); have T9 := Aside0.mk hd.below.size; clear hd S8 R8 X8 K8 B8))
   (try simp only [Act.put, List.setIfInBounds_toArray, List.set_cons_zero, List.set_cons_succ])
   refine start_ (n := 5) (S := fun w' => (w'.cell? ⟨gx, 0, none⟩ = some (.int .i64 n) ∧ w'.cell? ⟨gx, 1, none⟩ = some (.slice A5 ps.length c5)) ∧ (w'.cell? ⟨gb, 0, none⟩ = some (.int .i64 a0_0) ∧ w'.cell? ⟨gb, 1, none⟩ = some (.slice A0_1 l0_1.length c0_1))) (ds := []) #[false, false, false, false, false] (by kernel_rfl) rfl rfl ⟨⟨(blk_cell (blk_drew X9.out) 0).trans rfl, (blk_cell (blk_drew X9.out) 1).trans rfl⟩, ⟨(blk_cell (blk_drew K9.out) 0).trans rfl, (blk_cell (blk_drew K9.out) 1).trans rfl⟩⟩ (fun hHeld => ?_)
   replace S9 := Aside0.mk (Kd.S_drew S9.out)
   replace R9 := Aside0.mk (Kd.R_drew R9.out)
   replace X9 := Aside0.mk (blk_drew X9.out)
   replace K9 := Aside0.mk (blk_drew K9.out)
   replace B9 := Aside0.mk (below_drew1 B9.out)
   replace T9 := Aside0.mk (show w7_.heap.size ≤ w8_.drew.heap.size from T9.out)
   generalize w8_.drew = w9 at S9 R9 X9 K9 B9 T9 hHeld ⊢
   refine take_ (i := 0) (N := some 41) (v := ?_) (a' := ?_) #[true, false, false, false, false] rfl rfl (by kernel_rfl) (fun _ _ _ h => h) (Or.inl ⟨by rfl, ?_⟩) hHeld ?_ ?_
   rotate_left
   ·rintro w' ⟨⟨s0, s1⟩, ⟨s2, s3⟩⟩
    go_simp
    with_reducible rfl
   rotate_left
   ·simp only [Act.put, List.setIfInBounds_toArray, List.set_cons_zero, List.set_cons_succ, i64_w, i32_w]
    rfl
   refine take_ (i := 1) (N := some 42) (v := ?_) (a' := ?_) #[true, true, false, false, false] rfl rfl (by kernel_rfl) (fun _ _ _ h => h) (Or.inl ⟨by rfl, ?_⟩) hHeld ?_ ?_
   rotate_left
   ·rintro w' ⟨⟨s0, s1⟩, ⟨s2, s3⟩⟩
    go_simp
    with_reducible rfl
   rotate_left
   ·simp only [Act.put, List.setIfInBounds_toArray, List.set_cons_zero, List.set_cons_succ, i64_w, i32_w]
    rfl
   refine one_ (i := 2) (N := some 43) #[true, true, true, false, false] rfl rfl (by kernel_rfl) (by decide) (fun K hK => ?_)
   refine goes_ Tryd.func15 (by kernel_rfl) rfl #[.agg #[.int .i64 a0_0, .slice A0_1 l0_1.length c0_1]] (by rfl) rfl rfl (by (try simp only [List.map_toArray, List.map_cons, List.map_nil]); first | done | rfl) ?_
   refine (laws_toParty.calls k a0_0 A0_1 c0_1 l0_1 n ps w9 (Kd.C_below HR0.out (below_then B4.out B4.out.size B9.out)) HC0.out HTO.out).mono ?_
   rintro e w10_ ⟨v_, rfl, ho, hb⟩
   refine ⟨_, rfl, ?_⟩
   obtain ⟨A10, c10, e10⟩ := Kd.R_slice ho
   subst e10
   have P10 := Aside0.mk ho
   have S10 := Aside0.mk (Kd.S_below S9.out hb)
   have R10 := Aside0.mk (Kd.R_below R9.out hb)
   have X10 := Aside0.mk (blk_below X9.out hb)
   have K10 := Aside0.mk (blk_below K9.out hb)
   have B10 := Aside0.mk (below_step B9.out hb)
   have T10 := Aside0.mk (Nat.le_trans T9.out hb.size)
   clear ho hb S9 R9 X9 K9 B9
   refine hK.out _ _ (⟨⟨(blk_cell X10.out 0).trans rfl, (blk_cell X10.out 1).trans rfl⟩, ⟨(blk_cell K10.out 0).trans rfl, (blk_cell K10.out 1).trans rfl⟩⟩) (fun hHeld => ?_)
   clear hK K
   refine norm_ (a' := ?_) ?_ ?_
   rotate_left
   ·show Act.put _ (some 43) _ = _
    simp only [Act.put, List.setIfInBounds_toArray, List.set_cons_zero, List.set_cons_succ, i64_w, i32_w]
    rfl
   refine one_ (i := 3) (N := some 44) #[true, true, true, true, false] rfl rfl (by kernel_rfl) (by decide) (fun K hK => ?_)
   refine goes_ Tryd.func17 (by kernel_rfl) rfl #[.agg #[.int .i64 n, .slice A5 ps.length c5], .agg #[.int .i64 n, .slice A10 ps.length c10]] (by rfl) rfl rfl (by (try simp only [List.map_toArray, List.map_cons, List.map_nil]); first | done | rfl) ?_
   refine (laws_eqParty.calls k n A5 c5 ps n A10 c10 ps true w10_ (Kd.R_reads' R10.out).2.2 (Kd.R_reads' R10.out).2.1 (Kd.R_reads' P10.out).2.2 (Kd.R_reads' P10.out).2.1 HEP.out).mono ?_
   rintro e w11_ ⟨rfl, hb⟩
   refine ⟨_, rfl, ?_⟩
   have S11 := Aside0.mk (Kd.S_below S10.out hb)
   have R11 := Aside0.mk (Kd.R_below R10.out hb)
   have X11 := Aside0.mk (blk_below X10.out hb)
   have K11 := Aside0.mk (blk_below K10.out hb)
   have B11 := Aside0.mk (below_step B10.out hb)
   have T11 := Aside0.mk (Nat.le_trans T10.out hb.size)
   clear hb S10 R10 X10 K10 B10 P10
   refine hK.out _ _ (⟨⟨(blk_cell X11.out 0).trans rfl, (blk_cell X11.out 1).trans rfl⟩, ⟨(blk_cell K11.out 0).trans rfl, (blk_cell K11.out 1).trans rfl⟩⟩) (fun hHeld => ?_)
   clear hK K
   refine norm_ (a' := ?_) ?_ ?_
   rotate_left
   ·show Act.put _ (some 44) _ = _
    simp only [Act.put, List.setIfInBounds_toArray, List.set_cons_zero, List.set_cons_succ, i64_w, i32_w]
    rfl
   refine pure_ (i := 4) (N := some 45) (v := ?_) (a' := ?_) #[true, true, true, true, true] rfl rfl (by kernel_rfl) (fun _ _ _ h => h) (Or.inl ⟨by rfl, ?_⟩) ?_ ?_
   rotate_left
   ·intro w'
    go_simp
    with_reducible rfl
   rotate_left
   ·simp only [Act.put, List.setIfInBounds_toArray, List.set_cons_zero, List.set_cons_succ, i64_w, i32_w]
    rfl
   refine done_ (by kernel_rfl) ?_
   have hx0 : w11_.cell? ⟨gx, 0, none⟩ = some (.int .i64 n) := (blk_cell X11.out 0).trans rfl
   have hx1 : w11_.cell? ⟨gx, 1, none⟩ = some (.slice A5 ps.length c5) := (blk_cell X11.out 1).trans rfl
   have HLEN : (mkSS ri 1).length = ri.length := mkSS_len ri 1
   have HHM := Aside0.mk (show laws_heldIntSS.f k (mkSS ri 1) 1 = some M from by rw [← HM.out]; exact HHELD.out)
   have KB := Aside0.mk (show gb < w4_.heap.size from GB4.out)
   have LW := Aside0.mk (show w4_.heap.size ≤ W6.heap.size from by have h_ := LW5.out; omega)
   go_wp2_with (first | ((with_reducible refine gate_callee (f := 23) rfl ?_); (with_reducible refine gate_dst (N := 48) rfl ?_); refine goesL_ (some 48) rfl rfl Tryd.func23 (by kernel_rfl) rfl #[.agg #[.int .i64 n, .slice A5 ps.length c5], .int .i64 1] rfl (by (try simp only [List.map_toArray, List.map_cons, List.map_nil]); first | done | rfl) ?_; (with_reducible refine (laws_markParty.calls k n (fun k => k < w5_.heap.size ∧ w4_.heap.size ≤ k) (.slice A5 ps.length c5) ps 1 q pq w4_ w11_ B11.out ?p1 HMP.out).mono ?_); (case p1 => exact Kd.R_mono (Kd.R_bound R11.out) (fun k hk => ⟨hk.1, hk.2.1⟩)); rintro e w12_ ⟨rfl, hR, hB, hk⟩; refine ⟨_, rfl, ?_⟩; have B12 := Aside0.mk hB; have K12 := Aside0.mk (blk_kept K11.out hk (fun h => by have h1 := KB.out; omega)); have S12 := Aside0.mk (Kd.S_kept S11.out hk (fun k hk h => by omega)); have T12 := Aside0.mk (Nat.le_trans T11.out hk.1); clear hR hB hk S11 R11 X11 K11 B11 hx0 hx1) | ((with_reducible refine gate_callee (f := 30) rfl ?_); (with_reducible refine gate_dst (N := 54) rfl ?_); (try (refine gate_guard (by rfl) ?_; dsimp only)); refine goesL_ (some 54) rfl rfl Tryd.func30 (by kernel_rfl) rfl #[.slice A7 ri.length c7, .slice A4 ri.length c4] rfl (by (try simp only [List.map_toArray, List.map_cons, List.map_nil]); first | done | rfl) ?_; (with_reducible refine (laws_eqIntSS.calls k A7 c7 ri A4 c4 ri true w12_ (Kd.S_reads' S12.out).2.2 (Kd.S_reads' S12.out).2.1 (Kd.C_below C4.out.2 B12.out) C4.out.1 HEQ.out).mono ?_); rintro e w13_ ⟨rfl, hd⟩; refine ⟨_, rfl, ?_⟩; have S13 := Aside0.mk (Kd.S_below S12.out hd.below); have K13 := Aside0.mk (blk_below K12.out hd.below); have B13 := Aside0.mk (below_step B12.out hd.below); have T13 := Aside0.mk (Nat.le_trans T12.out hd.below.size); clear hd S12 K12 B12) | ((with_reducible refine gate_callee (f := 31) rfl ?_); (with_reducible refine gate_dst (N := 64) rfl ?_); refine goesL_ (some 64) rfl rfl Tryd.func31 (by kernel_rfl) rfl #[.slice A7 ri.length c7, .int .i64 1] rfl (by (try simp only [List.map_toArray, List.map_cons, List.map_nil]); first | done | rfl) ?_; (with_reducible refine (laws_markIntSS.walk w4_ w13_ (fun k => W6.heap.size ≤ k ∧ k < w7_.heap.size) A7 c7 ri 1 ri.length rfl (by decide) (by have h_ := Hsz2.out; omega) B13.out ?p1 hrl).mono ?_); (case p1 => exact Kd.S_lower S13.out LW.out); rintro e w14_ ⟨rfl, hS, hB, hk⟩; refine ⟨_, rfl, ?_⟩; rw [HM.out]; have S14 := Aside0.mk hS; have B14 := Aside0.mk hB; have K14 := Aside0.mk (blk_kept K13.out hk (fun h => by have h1 := KB.out; have h2 := LW.out; omega)); have T14 := Aside0.mk (Nat.le_trans T13.out hk.1); clear hS hB hk S13 K13 B13) | ((with_reducible refine gate_callee (f := 32) rfl ?_); (with_reducible refine gate_dst (N := 67) rfl ?_); refine goesL_ (some 67) rfl rfl Tryd.func32 (by kernel_rfl) rfl #[.slice A7 ri.length c7, .int .i64 1] rfl (by (try simp only [List.map_toArray, List.map_cons, List.map_nil]); first | done | rfl) ?_; (with_reducible refine ((HLEN ▸ laws_heldIntSS.calls k A7 c7 (mkSS ri 1) 1 M w14_ (Kd.S_reads' S14.out).2.2 (by rw [mkSS_len]; exact (Kd.S_reads' S14.out).2.1) HHM.out)).mono ?_); rintro e w15_ ⟨rfl, hd⟩; refine ⟨_, rfl, ?_⟩; have S15 := Aside0.mk (Kd.S_below S14.out hd.below); have K15 := Aside0.mk (blk_below K14.out hd.below); have B15 := Aside0.mk (below_step B14.out hd.below); clear hd S14 K14 B14; have hk0 : w15_.cell? ⟨gb, 0, none⟩ = some (.int .i64 a0_0) := (blk_cell K15.out 0).trans rfl; have hk1 : w15_.cell? ⟨gb, 1, none⟩ = some (.slice A0_1 l0_1.length c0_1) := (blk_cell K15.out 1).trans rfl) | ((with_reducible refine gate_callee (f := 15) rfl ?_); (with_reducible refine gate_dst (N := 75) rfl ?_); refine goesL_ (some 75) rfl rfl Tryd.func15 (by kernel_rfl) rfl #[.agg #[.int .i64 a0_0, .slice A0_1 l0_1.length c0_1]] rfl (by (try simp only [List.map_toArray, List.map_cons, List.map_nil]); first | done | rfl) ?_; (with_reducible refine (laws_toParty.calls k a0_0 A0_1 c0_1 l0_1 n ps w15_ (Kd.C_below HR0.out (below_then B4.out B4.out.size B15.out)) HC0.out HTO.out).mono ?_); rintro e w16_ ⟨v_, rfl, ho, hb⟩; refine ⟨_, rfl, ?_⟩; obtain ⟨A16, c16, e16⟩ := Kd.R_slice ho; subst e16; have R16 := Aside0.mk ho; have S16 := Aside0.mk (Kd.S_below S15.out hb); have B16 := Aside0.mk (below_step B15.out hb); clear ho hb S15 B15 K15 hk0 hk1) | ((with_reducible refine gate_callee (f := 34) rfl ?_); (with_reducible refine gate_dst (N := 76) rfl ?_); refine goesL_ (some 76) rfl rfl Tryd.func34 (by kernel_rfl) rfl #[.agg #[.int .i64 n, .slice A16 ps.length c16]] rfl (by (try simp only [List.map_toArray, List.map_cons, List.map_nil]); first | done | rfl) ?_; (with_reducible refine (impl_AllApart.calls k n A16 c16 ps ri bi w16_ (HG.out.below (below_then B4.out B4.out.size B16.out)) (Kd.R_reads' R16.out).2.2 (Kd.R_reads' R16.out).2.1 HIM.out).mono ?_); rintro e w17_ ⟨v_, rfl, ho, hb⟩; refine ⟨_, rfl, ?_⟩; obtain ⟨A17, c17, e17⟩ := Kd.S_slice ho; subst e17; have P17 := Aside0.mk ho; have S17 := Aside0.mk (Kd.S_below S16.out hb); have B17 := Aside0.mk (below_step B16.out hb); clear ho hb S16 B16 R16) | ((with_reducible refine gate_callee (f := 30) rfl ?_); (with_reducible refine gate_dst (N := 81) rfl ?_); (try (refine gate_guard (by rfl) ?_; dsimp only)); refine goesL_ (some 81) rfl rfl Tryd.func30 (by kernel_rfl) rfl #[.slice A17 ri.length c17, .slice A4 ri.length c4] rfl (by (try simp only [List.map_toArray, List.map_cons, List.map_nil]); first | done | rfl) ?_; (with_reducible refine (laws_eqIntSS.calls k A17 c17 ri A4 c4 ri true w17_ (Kd.S_reads' P17.out).2.2 (Kd.S_reads' P17.out).2.1 (Kd.C_below C4.out.2 B17.out) C4.out.1 HEQ.out).mono ?_); rintro e w18_ ⟨rfl, hd⟩; refine ⟨_, rfl, ?_⟩; replace S17 := Aside0.mk (Kd.S_below S17.out hd.below); replace B17 := Aside0.mk (below_step B17.out hd.below); clear hd P17) | ((with_reducible refine gate_callee (f := 32) rfl ?_); (with_reducible refine gate_dst (N := 90) rfl ?_); refine goesL_ (some 90) rfl rfl Tryd.func32 (by kernel_rfl) rfl #[.slice A7 ri.length c7, .int .i64 1] rfl (by (try simp only [List.map_toArray, List.map_cons, List.map_nil]); first | done | rfl) ?_; (with_reducible refine ((HLEN ▸ laws_heldIntSS.calls k A7 c7 (mkSS ri 1) 1 M w18_ (Kd.S_reads' S17.out).2.2 (by rw [mkSS_len]; exact (Kd.S_reads' S17.out).2.1) HHM.out)).mono ?_); rintro e w19_ ⟨rfl, hd⟩; refine ⟨_, rfl, ?_⟩; replace B17 := Aside0.mk (below_step B17.out hd.below); clear hd S17))
   go_ret
   exact ⟨rfl, below_then B4.out B4.out.size B17.out⟩
  ·cases h5
end Go.Proofs.YtopahhcojncgaaaDoor.G
namespace Go.Proofs.YtopahhcojncgaaaDoor.G
open Go.RowKit Go.Proofs.YtopahhcojncgaaaDoorW.PrintWords Go.Proofs.YtopahhcojncgaaaDoorW.PrintLast Go.Proofs.YtopahhcojncgaaaDoorW.PrintMore
set_option linter.unusedVariables false
set_option linter.unusedSimpArgs false
theorem allApart_eq (n : Int) (ps : List S98) (hl : ps.length < 4611686018427387904) :
    ∃ (r : List (List Int)) (b : Bool), Ev (fun k => spec_AllApart.f k n ps) (r, b) ∧ Ev (fun k => impl_AllApart.f k n ps) (r, b) ∧ r.length ≤ 65536 ∧ ∀ x ∈ r, x.length ≤ 100 := by
  have h1 := paGood_eq n ps hl
  have h2 := isParty_eq n ps hl
  cases hg : good n ps
  · rw [hg] at h1 h2
    exact ⟨[], false, Ev.bind h1 (Ev.ifn (by decide) (Ev.pure _)), Ev.bind h2 (Ev.ifn (by decide) (Ev.pure _)), by simp, fun x hx => absurd hx List.not_mem_nil⟩
  · rw [hg] at h1 h2
    have hG := good_iff.1 hg
    obtain ⟨N, rfl⟩ : ∃ N : Nat, n = (N : Int) := ⟨n.toNat, by have := hG.1; omega⟩
    have hN : N ≤ 12 := by have := hG.2.1; omega
    obtain ⟨Q, hQ, hQl, hQA, hQE⟩ := paOther_eq N ps hG hl
    obtain ⟨T, hT, hTE⟩ := paTable_eq N Q hQ (by omega)
    obtain ⟨t, ht, htE⟩ := table_eq N ps hG hl
    obtain ⟨u, u1, u2, u3, uE⟩ := others_eq N hN t ht.len ht.lt
    obtain ⟨m1, m2⟩ := othM_eq N hN ps t ht u u2 u3
    obtain ⟨e1, e2, e3⟩ := fulls_both N (by omega) (strA ps) (strA_comm ps) (strA_self ps) T u hT.len (fun a b ha hb => by rw [hT.at_ a b ha hb, hQA a b ha hb]) u1 m1 m2
    refine ⟨_, true, Ev.bind h1 (Ev.ifp rfl (Ev.bind hQE (Ev.bind (v := grFl T (glF T (T.length + 1) [] 0)) ?_ (Ev.pure _)))), Ev.bind h2 (Ev.ifp rfl (Ev.bind htE (Ev.bind uE (Ev.bindC e1 (Ev.pure _))))), e2, e3⟩
    refine Ev.bind hTE (Ev.ifp ⟨by rw [hT.len]; omega, fun r hr => ?_⟩ (Ev.pure _))
    obtain ⟨i, hi, rfl⟩ := List.getElem_of_mem hr
    have := hT.row i (by rw [← hT.len]; exact hi)
    rw [List.getD_eq_getElem?_getD, List.getElem?_eq_getElem hi, Option.getD_some] at this
    rw [this, hT.len]
theorem FnExactAllApart_true (n : Int) (l : List S144) (hl : l.length ≤ 9223372036854775807) : ∃ k, laws_FnExactAllApart.f k n l = some true := by
  refine Ev.one ?_
  unfold laws_FnExactAllApart.f
  refine Ev.bindC (szParty_eq n l hl) ?_
  by_cases h : l.length ≤ 1048576
  · rw [if_pos h]
    have hp : (l.map toP).length < 4611686018427387904 := by rw [List.length_map]; omega
    have hp2 : (l.map toP).length ≤ 1048576 := by rw [List.length_map]; exact h
    obtain ⟨r, b, h1, h2, hr, hx⟩ := allApart_eq n (l.map toP) hp
    have hsz := szSS_le 100 r hx
    refine Ev.ifn (by omega) (Ev.bind (toParty_eq n l h) (Ev.bind h1 (Ev.bind h2 (Ev.bind (markParty_eq n _ hp2) ?_))))
    obtain ⟨K1, k1⟩ := eqIntSS_refl r (by omega) (fun x hx2 => by have := hx x hx2; omega)
    obtain ⟨K2, k2⟩ := eqParty_refl n _ hp
    obtain ⟨K3, k3⟩ := heldIntSS_eq r 1 (by decide) (by omega) (by omega)
    refine ⟨K1 + K2 + K3, fun k hk => ?_⟩
    have e1 := k1 k (by omega)
    have e2 := k2 k (by omega)
    have e3 := k3 k (by omega)
    exact if_pos ⟨rfl, e1, e2, by simp only; omega, by simp only; omega, by simp only; omega, e3⟩
  · rw [if_neg h]
    exact Ev.ifp (by decide) (Ev.pure _)
end Go.Proofs.YtopahhcojncgaaaDoor.G
