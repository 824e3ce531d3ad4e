/- Part 6 of the proof: texts merged. Conditions: those that each theorem states. -/
import Derived.Test.YtopahhcojncgaaaDoorZ4p2
import Derived.Test.YtopahhcojncgaaaDoorZ4p5
namespace Go.Proofs.YtopahhcojncgaaaDoor.G
open Go.RowKit Go.Proofs.YtopahhcojncgaaaDoorW.PrintWords Go.Proofs.YtopahhcojncgaaaDoorW.PrintLast Go.Proofs.YtopahhcojncgaaaDoorW.PrintMore
attribute [local go_sem] max2_int min2_int max_two min_two max_three min_three max_four min_four
set_option linter.unusedVariables false
set_option linter.unusedSimpArgs false
def laws_FnExactCountRows.j0 : Nat → Bool → Int → List (S144) → Int → List (S98) → Option (Bool)
 | 0, _, _, _, _, _ => none
 | k + 1, x34, x245000, x245001, x257000, x257001 => if x34 = true then (some false) else ((laws_toParty.f k x245000 x245001).bind fun bt259 => ((laws_eqParty.f k x257000 x257001 bt259.1 bt259.2).bind fun t263 => (if t263 = true then (some true) else (some false))))
def laws_FnExactCountRows.f (k : Nat) (a0_0 : Int) (l0_1 : List (S144)) : Option (Bool) := (laws_szParty.f a0_0 l0_1 1048576).bind fun t245 => (if t245 < 0 then (some true) else ((laws_toParty.f k a0_0 l0_1).bind fun bt246 => ((spec_CountRows.f k bt246.1 bt246.2).bind fun bt250 => ((laws_toParty.f k a0_0 l0_1).bind fun bt252 => ((impl_CountRows.f k bt252.1 bt252.2).bind fun bt257 => (if bt257.1 = bt250.1 then (laws_FnExactCountRows.j0 k (bt257.2 != bt250.2) a0_0 l0_1 bt252.1 bt252.2) else (laws_FnExactCountRows.j0 k true a0_0 l0_1 bt252.1 bt252.2)))))))
theorem laws_FnExactCountRows.mono_l : ∀ k, (∀ y0 y1 y2 y3 y4, LeO (laws_FnExactCountRows.j0 k y0 y1 y2 y3 y4) (laws_FnExactCountRows.j0 (k + 1) y0 y1 y2 y3 y4))
 | 0 => fun _ _ _ _ _ r h => by simp [laws_FnExactCountRows.j0] at h
 | k + 1 => by
  have ih0 := laws_FnExactCountRows.mono_l k
  ·intro y0 y1 y2 y3 y4
   unfold laws_FnExactCountRows.j0
   repeat' first
   | (with_reducible exact ih0 _ _ _ _ _)
   | (with_reducible exact impl_CountRows.mono _ _ _)
   | (with_reducible exact laws_eqParty.mono _ _ _ _ _)
   | (with_reducible exact laws_toParty.mono _ _ _)
   | (with_reducible exact spec_CountRows.mono _ _ _)
   | (with_reducible exact LeO.refl _)
   | (with_reducible exact LeO.none _)
   | (with_reducible refine LeO.ite ?_ ?_)
   | (with_reducible refine LeO.bind ?_ (fun _ => ?_))
   | exact ih0 _ _ _ _ _
   | exact impl_CountRows.mono _ _ _
   | exact laws_eqParty.mono _ _ _ _ _
   | exact laws_toParty.mono _ _ _
   | exact spec_CountRows.mono _ _ _
   | exact LeO.none _
   | refine LeO.ite ?_ ?_
   | refine LeO.bind ?_ (fun _ => ?_)
theorem laws_FnExactCountRows.mono : ∀ a0 a1 k, LeO (laws_FnExactCountRows.f k a0 a1) (laws_FnExactCountRows.f (k + 1) a0 a1) := by
 intro a0 a1 k
 have ih0 := laws_FnExactCountRows.mono_l k
 unfold laws_FnExactCountRows.f
 repeat' first
   | (with_reducible exact ih0 _ _ _ _ _)
   | (with_reducible exact impl_CountRows.mono _ _ _)
   | (with_reducible exact laws_eqParty.mono _ _ _ _ _)
   | (with_reducible exact laws_toParty.mono _ _ _)
   | (with_reducible exact spec_CountRows.mono _ _ _)
   | (with_reducible exact LeO.refl _)
   | (with_reducible exact LeO.none _)
   | (with_reducible refine LeO.ite ?_ ?_)
   | (with_reducible refine LeO.bind ?_ (fun _ => ?_))
   | exact ih0 _ _ _ _ _
   | exact impl_CountRows.mono _ _ _
   | exact laws_eqParty.mono _ _ _ _ _
   | exact laws_toParty.mono _ _ _
   | exact spec_CountRows.mono _ _ _
   | exact LeO.none _
   | refine LeO.ite ?_ ?_
   | refine LeO.bind ?_ (fun _ => ?_)
set_option maxHeartbeats 8000000 in
set_option maxRecDepth 100000 in
theorem laws_FnExactCountRows.calls (k : Nat) (a0_0 : Int) (A0_1 : Option Addr) (c0_1 : Nat) (l0_1 : List (S144)) (r : Bool) (w : World) (hG : Laid32 w) (hr0_1 : Kd.C k144 w A0_1 l0_1.length l0_1) (hc0_1 : l0_1.length ≤ c0_1) (h : laws_FnExactCountRows.f k a0_0 l0_1 = some r) :
  Calls Tryd.prog 4 #[.agg #[.int .i64 a0_0, .slice A0_1 l0_1.length c0_1]] w fun e w' => e = .returned (.bool r) ∧ Below w.heap.size w w' := by
 have hu24 := Tryd.underlying24
 have hu30 := Tryd.underlying30
 have HG := Aside0.mk hG
 clear hG
 have HR0_1 := Aside0.mk hr0_1
 have HC0_1 := Aside0.mk hc0_1
 clear hr0_1 hc0_1
 have HB := Aside0.mk (Below.refl w.heap.size w)
 have H : ((laws_szParty.f a0_0 l0_1 1048576).bind fun t245 => (if t245 < 0 then (some true) else ((laws_toParty.f k a0_0 l0_1).bind fun bt246 => ((spec_CountRows.f k bt246.1 bt246.2).bind fun bt250 => ((laws_toParty.f k a0_0 l0_1).bind fun bt252 => ((impl_CountRows.f k bt252.1 bt252.2).bind fun bt257 => (if bt257.1 = bt250.1 then (laws_FnExactCountRows.j0 k (bt257.2 != bt250.2) a0_0 l0_1 bt252.1 bt252.2) else (laws_FnExactCountRows.j0 k true a0_0 l0_1 bt252.1 bt252.2)))))))) = some r := h
 clear h
 replace H := Option.bind_eq_some_iff.mp H
 obtain ⟨t245, A20, H⟩ := H
 replace H : (if t245 < 0 then (some true) else ((laws_toParty.f k a0_0 l0_1).bind fun bt246 => ((spec_CountRows.f k bt246.1 bt246.2).bind fun bt250 => ((laws_toParty.f k a0_0 l0_1).bind fun bt252 => ((impl_CountRows.f k bt252.1 bt252.2).bind fun bt257 => (if bt257.1 = bt250.1 then (laws_FnExactCountRows.j0 k (bt257.2 != bt250.2) a0_0 l0_1 bt252.1 bt252.2) else (laws_FnExactCountRows.j0 k true a0_0 l0_1 bt252.1 bt252.2))))))) = some r := H
 have A2 := Aside0.mk A20
 clear A20
 by_cases c3 : t245 < 0
 ·rw [if_pos c3] at H
  have c3b0 : decide (t245 < 0) = true := decide_eq_true c3
  clear c3
  obtain rfl := Option.some.inj H
  go_enter Tryd.func4, Tryd.ntmps4
  go_wp2_with (first | ((with_reducible refine gate_dst (N := 1) rfl ?_); refine box_event ?hg (N := 1) ?hd (cs := #[.int .i64 a0_0, .slice A0_1 l0_1.length c0_1]) (t := 24) ?hr ?_; (case hd => rfl); (case hg => rfl); (case hr => first | (go_simp; done) | (go_simp; rfl)); intro gb244 hg w4 hbox hb; have n0_ := Aside0.mk (below_step (by repeat (first | (with_reducible first | exact HB.out | apply below_alloc | apply pw_below_drewN | apply below_drew1) | exact HB.out)) hb); have n1_ := Aside0.mk (hbox); have n2_ := Aside0.mk ((by rw [hg]; exact (below_size (by repeat (first | (with_reducible first | exact HB.out | apply below_alloc | apply pw_below_drewN | apply below_drew1) | exact HB.out))) : w.heap.size ≤ gb244)); have n3_ := Aside0.mk ((by rw [hg]; exact (below_size (by repeat (first | (with_reducible first | exact HB.out | apply below_alloc | apply pw_below_drewN | apply below_drew1) | exact HB.out))) : w.heap.size ≤ gb244)); clear HB; have HB := n0_; have BK244 := n1_; have GW244 := n2_; have GE244 := n3_; clear n0_ n1_ n2_ n3_; clear hb hbox hg; have hcz5_0 : w4.cell? ⟨gb244, 0, none⟩ = some (.int .i64 a0_0) := (blk_cell BK244.out 0).trans rfl; have hcz5_1 : w4.cell? ⟨gb244, 1, none⟩ = some (.slice A0_1 l0_1.length c0_1) := (blk_cell BK244.out 1).trans rfl; have hfz5_0 := blk_frozen BK244.out 0; have hfz5_1 := blk_frozen BK244.out 1) | ((with_reducible refine gate_callee (f := 13) rfl ?_); refine goesL_ (some 11) rfl rfl Tryd.func13 (by kernel_rfl) rfl #[.agg #[.int .i64 a0_0, .slice A0_1 l0_1.length c0_1], .int .i64 1048576] rfl (by (try simp only [List.map_toArray, List.map_cons, List.map_nil]); first | done | rfl | (simp only [List.length_drop, List.length_take]; rfl)) ?_; (with_reducible refine (laws_szParty.calls a0_0 _ _ l0_1 1048576 t245 _ ?side1 ?side2 A2.out).mono ?_); (case side1 => repeat (first | exact (Kd.C_below HR0_1.out HB.out) | (with_reducible refine Kd.C_alloc ?_ _) | (with_reducible refine Kd.C_drewN ?_ _) | (with_reducible refine Kd.C_drew ?_))); (case side2 => exact HC0_1.out); rintro e w6 ⟨rfl, hb⟩; refine ⟨_, rfl, ?_⟩; have n0_ := Aside0.mk (blk_below (g := gb244) (o := .cells #[.int .i64 a0_0, .slice A0_1 l0_1.length c0_1] 24 (0, 0)) (by (with_reducible repeat (first | refine blk_drewN ?_ _ | refine blk_drew ?_ | refine blk_alloc ?_ _)); exact BK244.out) hb); have n1_ := Aside0.mk (below_step (by repeat (first | (with_reducible first | exact HB.out | apply below_alloc | apply pw_below_drewN | apply below_drew1 | refine below_set ?_ GE244.out) | exact HB.out)) hb); clear BK244; clear HB; have BK244 := n0_; have HB := n1_; clear n0_ n1_; (try clear hb); (try clear hb2); (try clear hk); (try clear hi)))
  go_ret
  exact ⟨by first | rfl | (simp [errW_none, errW_some] <;> rfl) | (simp [*, errW_none, errW_some] <;> rfl), by repeat (first | (with_reducible first | exact HB.out | apply below_alloc | apply pw_below_drewN | apply below_drew1 | refine below_set ?_ GE244.out) | exact HB.out)⟩
 ·rw [if_neg c3] at H
  have c3b0 : decide (t245 < 0) = false := decide_eq_false c3
  clear c3
  replace H := Option.bind_eq_some_iff.mp H
  obtain ⟨⟨t246, t247⟩, A70, H⟩ := H
  replace H : ((spec_CountRows.f k t246 t247).bind fun bt250 => ((laws_toParty.f k a0_0 l0_1).bind fun bt252 => ((impl_CountRows.f k bt252.1 bt252.2).bind fun bt257 => (if bt257.1 = bt250.1 then (laws_FnExactCountRows.j0 k (bt257.2 != bt250.2) a0_0 l0_1 bt252.1 bt252.2) else (laws_FnExactCountRows.j0 k true a0_0 l0_1 bt252.1 bt252.2))))) = some r := H
  have A7 := Aside0.mk A70
  clear A70
  replace H := Option.bind_eq_some_iff.mp H
  obtain ⟨⟨t250, t251⟩, A80, H⟩ := H
  replace H : ((laws_toParty.f k a0_0 l0_1).bind fun bt252 => ((impl_CountRows.f k bt252.1 bt252.2).bind fun bt257 => (if bt257.1 = t250 then (laws_FnExactCountRows.j0 k (bt257.2 != t251) a0_0 l0_1 bt252.1 bt252.2) else (laws_FnExactCountRows.j0 k true a0_0 l0_1 bt252.1 bt252.2)))) = some r := H
  have A8 := Aside0.mk A80
  clear A80
  replace H := Option.bind_eq_some_iff.mp H
  obtain ⟨⟨t252, t253⟩, A90, H⟩ := H
  replace H : ((impl_CountRows.f k t252 t253).bind fun bt257 => (if bt257.1 = t250 then (laws_FnExactCountRows.j0 k (bt257.2 != t251) a0_0 l0_1 t252 t253) else (laws_FnExactCountRows.j0 k true a0_0 l0_1 t252 t253))) = some r := H
  have A9 := Aside0.mk A90
  clear A90
  replace H := Option.bind_eq_some_iff.mp H
  obtain ⟨⟨t257, t258⟩, A100, H⟩ := H
  replace H : (if t257 = t250 then (laws_FnExactCountRows.j0 k (t258 != t251) a0_0 l0_1 t252 t253) else (laws_FnExactCountRows.j0 k true a0_0 l0_1 t252 t253)) = some r := H
  have A10 := Aside0.mk A100
  clear A100
  have HC11 := Aside0.mk H
  clear H
  go_enter Tryd.func4, Tryd.ntmps4
  go_upto_region 8 with (first | ((with_reducible refine gate_dst (N := 1) rfl ?_); refine box_event ?hg (N := 1) ?hd (cs := #[.int .i64 a0_0, .slice A0_1 l0_1.length c0_1]) (t := 24) ?hr ?_; (case hd => rfl); (case hg => rfl); (case hr => first | (go_simp; done) | (go_simp; rfl)); intro gb244 hg w12 hbox hb; have n0_ := Aside0.mk (below_step (by repeat (first | (with_reducible first | exact HB.out | apply below_alloc | apply pw_below_drewN | apply below_drew1) | exact HB.out)) hb); have n1_ := Aside0.mk (hbox); have n2_ := Aside0.mk ((by rw [hg]; exact (below_size (by repeat (first | (with_reducible first | exact HB.out | apply below_alloc | apply pw_below_drewN | apply below_drew1) | exact HB.out))) : w.heap.size ≤ gb244)); have n3_ := Aside0.mk ((by rw [hg]; exact (below_size (by repeat (first | (with_reducible first | exact HB.out | apply below_alloc | apply pw_below_drewN | apply below_drew1) | exact HB.out))) : w.heap.size ≤ gb244)); clear HB; have HB := n0_; have BK244 := n1_; have GW244 := n2_; have GE244 := n3_; clear n0_ n1_ n2_ n3_; clear hb hbox hg; have hcz13_0 : w12.cell? ⟨gb244, 0, none⟩ = some (.int .i64 a0_0) := (blk_cell BK244.out 0).trans rfl; have hcz13_1 : w12.cell? ⟨gb244, 1, none⟩ = some (.slice A0_1 l0_1.length c0_1) := (blk_cell BK244.out 1).trans rfl; have hfz13_0 := blk_frozen BK244.out 0; have hfz13_1 := blk_frozen BK244.out 1) | ((with_reducible refine gate_callee (f := 13) rfl ?_); refine goesL_ (some 11) rfl rfl Tryd.func13 (by kernel_rfl) rfl #[.agg #[.int .i64 a0_0, .slice A0_1 l0_1.length c0_1], .int .i64 1048576] rfl (by (try simp only [List.map_toArray, List.map_cons, List.map_nil]); first | done | rfl | (simp only [List.length_drop, List.length_take]; rfl)) ?_; (with_reducible refine (laws_szParty.calls a0_0 _ _ l0_1 1048576 t245 _ ?side1 ?side2 A2.out).mono ?_); (case side1 => repeat (first | exact (Kd.C_below HR0_1.out HB.out) | (with_reducible refine Kd.C_alloc ?_ _) | (with_reducible refine Kd.C_drewN ?_ _) | (with_reducible refine Kd.C_drew ?_))); (case side2 => exact HC0_1.out); rintro e w14 ⟨rfl, hb⟩; refine ⟨_, rfl, ?_⟩; have n0_ := Aside0.mk (blk_below (g := gb244) (o := .cells #[.int .i64 a0_0, .slice A0_1 l0_1.length c0_1] 24 (0, 0)) (by (with_reducible repeat (first | refine blk_drewN ?_ _ | refine blk_drew ?_ | refine blk_alloc ?_ _)); exact BK244.out) hb); have n1_ := Aside0.mk (below_step (by repeat (first | (with_reducible first | exact HB.out | apply below_alloc | apply pw_below_drewN | apply below_drew1 | refine below_set ?_ GE244.out) | exact HB.out)) hb); clear BK244; clear HB; have BK244 := n0_; have HB := n1_; clear n0_ n1_; (try clear hb); (try clear hb2); (try clear hk); (try clear hi); have hcz15_0 : w14.cell? ⟨gb244, 0, none⟩ = some (.int .i64 a0_0) := (blk_cell BK244.out 0).trans rfl; have hcz15_1 : w14.cell? ⟨gb244, 1, none⟩ = some (.slice A0_1 l0_1.length c0_1) := (blk_cell BK244.out 1).trans rfl; have hfz15_0 := blk_frozen BK244.out 0; have hfz15_1 := blk_frozen BK244.out 1) | ((with_reducible refine gate_callee (f := 15) rfl ?_); refine goesL_ (some 16) rfl rfl Tryd.func15 (by kernel_rfl) rfl #[.agg #[.int .i64 a0_0, .slice A0_1 l0_1.length c0_1]] rfl (by (try simp only [List.map_toArray, List.map_cons, List.map_nil]); first | done | rfl | (simp only [List.length_drop, List.length_take]; rfl)) ?_; (with_reducible refine (laws_toParty.calls k a0_0 _ _ l0_1 t246 t247 _ ?side1 ?side2 A7.out).mono ?_); (case side1 => repeat (first | exact (Kd.C_below HR0_1.out HB.out) | (with_reducible refine Kd.C_alloc ?_ _) | (with_reducible refine Kd.C_drewN ?_ _) | (with_reducible refine Kd.C_drew ?_))); (case side2 => exact HC0_1.out); rintro e w16 ⟨v248, rfl, ho0, hb⟩; refine ⟨_, rfl, ?_⟩; have n0_ := Aside0.mk (Kd.R_lower ho0 (below_size (by repeat (first | (with_reducible first | exact HB.out | apply below_alloc | apply pw_below_drewN | apply below_drew1 | refine below_set ?_ GE244.out) | exact HB.out)))); have n1_ := Aside0.mk (blk_below (g := gb244) (o := .cells #[.int .i64 a0_0, .slice A0_1 l0_1.length c0_1] 24 (0, 0)) (by (with_reducible repeat (first | refine blk_drewN ?_ _ | refine blk_drew ?_ | refine blk_alloc ?_ _)); exact BK244.out) hb); have n2_ := Aside0.mk (below_step (by repeat (first | (with_reducible first | exact HB.out | apply below_alloc | apply pw_below_drewN | apply below_drew1 | refine below_set ?_ GE244.out) | exact HB.out)) hb); clear BK244; clear HB; have HO249 := n0_; have BK244 := n1_; have HB := n2_; clear n0_ n1_ n2_; (try clear hb); (try clear hb2); (try clear hk); (try clear hi); (try clear ho0); obtain ⟨Ao17, co17, eo17⟩ := Kd.R_slice HO249.out; subst eo17) | ((with_reducible refine gate_callee (f := 18) rfl ?_); refine goesL_ (some 17) rfl rfl Tryd.func18 (by kernel_rfl) rfl #[.agg #[.int .i64 t246, .slice Ao17 t247.length co17]] rfl (by (try simp only [List.map_toArray, List.map_cons, List.map_nil]); first | done | rfl | (simp only [List.length_drop, List.length_take]; rfl)) ?_; (with_reducible refine (spec_CountRows.calls k t246 _ _ t247 t250 t251 _ ?side1 ?side2 A8.out).mono ?_); (case side1 => repeat (first | exact (Kd.R_reads' HO249.out).2.2 | (with_reducible refine Kd.C_alloc ?_ _) | (with_reducible refine Kd.C_drewN ?_ _) | (with_reducible refine Kd.C_drew ?_))); (case side2 => exact (Kd.R_reads' HO249.out).2.1); rintro e w18 ⟨rfl, hb⟩; refine ⟨_, rfl, ?_⟩; have n0_ := Aside0.mk (Kd.R_below (by (with_reducible repeat (first | apply Kd.R_alloc | apply Kd.R_drewN | apply Kd.R_drew)); exact HO249.out) hb); have n1_ := Aside0.mk (blk_below (g := gb244) (o := .cells #[.int .i64 a0_0, .slice A0_1 l0_1.length c0_1] 24 (0, 0)) (by (with_reducible repeat (first | refine blk_drewN ?_ _ | refine blk_drew ?_ | refine blk_alloc ?_ _)); exact BK244.out) hb); have n2_ := Aside0.mk (below_step (by repeat (first | (with_reducible first | exact HB.out | apply below_alloc | apply pw_below_drewN | apply below_drew1 | refine below_set ?_ GE244.out) | exact HB.out)) hb); clear HO249; clear BK244; clear HB; have HO249 := n0_; have BK244 := n1_; have HB := n2_; clear n0_ n1_ n2_; (try clear hb); (try clear hb2); (try clear hk); (try clear hi); have hcz19_0 : w18.cell? ⟨gb244, 0, none⟩ = some (.int .i64 a0_0) := (blk_cell BK244.out 0).trans rfl; have hcz19_1 : w18.cell? ⟨gb244, 1, none⟩ = some (.slice A0_1 l0_1.length c0_1) := (blk_cell BK244.out 1).trans rfl; have hfz19_0 := blk_frozen BK244.out 0; have hfz19_1 := blk_frozen BK244.out 1) | ((with_reducible refine gate_callee (f := 15) rfl ?_); refine goesL_ (some 21) rfl rfl Tryd.func15 (by kernel_rfl) rfl #[.agg #[.int .i64 a0_0, .slice A0_1 l0_1.length c0_1]] rfl (by (try simp only [List.map_toArray, List.map_cons, List.map_nil]); first | done | rfl | (simp only [List.length_drop, List.length_take]; rfl)) ?_; (with_reducible refine (laws_toParty.calls k a0_0 _ _ l0_1 t252 t253 _ ?side1 ?side2 A9.out).mono ?_); (case side1 => repeat (first | exact (Kd.C_below HR0_1.out HB.out) | (with_reducible refine Kd.C_alloc ?_ _) | (with_reducible refine Kd.C_drewN ?_ _) | (with_reducible refine Kd.C_drew ?_))); (case side2 => exact HC0_1.out); rintro e w20 ⟨v254, rfl, ho0, hb⟩; refine ⟨_, rfl, ?_⟩; have n0_ := Aside0.mk (Kd.R_elder' (by (with_reducible repeat (first | apply Kd.R_alloc | apply Kd.R_drewN | apply Kd.R_drew)); exact HO249.out) (Kd.R_base ho0) hb); have n1_ := Aside0.mk (Kd.R_lower (Kd.R_new' ho0 (Kd.R_lt (by (with_reducible repeat (first | apply Kd.R_alloc | apply Kd.R_drewN | apply Kd.R_drew)); exact HO249.out))) (below_size (by repeat (first | (with_reducible first | exact HB.out | apply below_alloc | apply pw_below_drewN | apply below_drew1 | refine below_set ?_ GE244.out) | exact HB.out)))); have n2_ := Aside0.mk (blk_below (g := gb244) (o := .cells #[.int .i64 a0_0, .slice A0_1 l0_1.length c0_1] 24 (0, 0)) (by (with_reducible repeat (first | refine blk_drewN ?_ _ | refine blk_drew ?_ | refine blk_alloc ?_ _)); exact BK244.out) hb); have n3_ := Aside0.mk (below_step (by repeat (first | (with_reducible first | exact HB.out | apply below_alloc | apply pw_below_drewN | apply below_drew1 | refine below_set ?_ GE244.out) | exact HB.out)) hb); clear HO249; clear BK244; clear HB; have HO249 := n0_; have HO255 := n1_; have BK244 := n2_; have HB := n3_; clear n0_ n1_ n2_ n3_; (try clear hb); (try clear hb2); (try clear hk); (try clear hi); (try clear ho0)) | ((with_reducible refine gate_dst (N := 6) rfl ?_); refine box_event ?hg (N := 6) ?hd (cs := #[.int .i64 0, .slice none 0 0]) (t := 30) ?hr ?_; (case hd => rfl); (case hg => rfl); (case hr => first | (go_simp; done) | (go_simp; rfl)); intro gb256 hg w21 hbox hb; have n0_ := Aside0.mk (Kd.R_below (by (with_reducible repeat (first | apply Kd.R_alloc | apply Kd.R_drewN | apply Kd.R_drew)); exact HO249.out) hb); have n1_ := Aside0.mk (Kd.R_below (by (with_reducible repeat (first | apply Kd.R_alloc | apply Kd.R_drewN | apply Kd.R_drew)); exact HO255.out) hb); have n2_ := Aside0.mk (blk_below (g := gb244) (o := .cells #[.int .i64 a0_0, .slice A0_1 l0_1.length c0_1] 24 (0, 0)) (by (with_reducible repeat (first | refine blk_drewN ?_ _ | refine blk_drew ?_ | refine blk_alloc ?_ _)); exact BK244.out) hb); have n3_ := Aside0.mk (below_step (by repeat (first | (with_reducible first | exact HB.out | apply below_alloc | apply pw_below_drewN | apply below_drew1 | refine below_set ?_ GE244.out) | exact HB.out)) hb); have n4_ := Aside0.mk (hbox); have n5_ := Aside0.mk ((by rw [hg]; exact (below_size (by repeat (first | (with_reducible first | exact HB.out | apply below_alloc | apply pw_below_drewN | apply below_drew1 | refine below_set ?_ GE244.out) | exact HB.out))) : w.heap.size ≤ gb256)); have n6_ := Aside0.mk ((by rw [hg]; exact (below_size (by repeat (first | (with_reducible first | exact HB.out | apply below_alloc | apply pw_below_drewN | apply below_drew1 | refine below_set ?_ GE244.out) | exact HB.out))) : w.heap.size ≤ gb256)); have n7_ := Aside0.mk ((by rw [hg]; exact Nat.ne_of_lt (blk_lt (g := gb244) (o := .cells #[.int .i64 a0_0, .slice A0_1 l0_1.length c0_1] 24 (0, 0)) (by (with_reducible repeat (first | refine blk_drewN ?_ _ | refine blk_drew ?_ | refine blk_alloc ?_ _)); exact BK244.out)) : gb244 ≠ gb256)); have n8_ := Aside0.mk ((by rw [hg]; exact Nat.ne_of_gt (blk_lt (g := gb244) (o := .cells #[.int .i64 a0_0, .slice A0_1 l0_1.length c0_1] 24 (0, 0)) (by (with_reducible repeat (first | refine blk_drewN ?_ _ | refine blk_drew ?_ | refine blk_alloc ?_ _)); exact BK244.out)) : gb256 ≠ gb244)); clear HO249; clear HO255; clear BK244; clear HB; have HO249 := n0_; have HO255 := n1_; have BK244 := n2_; have HB := n3_; have BK256 := n4_; have GW256 := n5_; have GE256 := n6_; have NB244_256 := n7_; have NB256_244 := n8_; clear n0_ n1_ n2_ n3_ n4_ n5_ n6_ n7_ n8_; clear hb hbox hg; have hnb22 := NB256_244.out; have hnc22 := NB244_256.out; have hcz23_0 : w21.cell? ⟨gb256, 0, none⟩ = some (.int .i64 0) := (blk_cell BK256.out 0).trans rfl; have hcz23_1 : w21.cell? ⟨gb256, 1, none⟩ = some (.slice none 0 0) := (blk_cell BK256.out 1).trans rfl; have hfz23_0 := blk_frozen BK256.out 0; have hfz23_1 := blk_frozen BK256.out 1; obtain ⟨Ao24, co24, eo24⟩ := Kd.R_slice HO255.out; subst eo24) | ((with_reducible refine gate_callee (f := 19) rfl ?_); refine goesL_ (some 24) rfl rfl Tryd.func19 (by kernel_rfl) rfl #[.agg #[.int .i64 t252, .slice Ao24 t253.length co24]] rfl (by (try simp only [List.map_toArray, List.map_cons, List.map_nil]); first | done | rfl | (simp only [List.length_drop, List.length_take]; rfl)) ?_; (with_reducible refine (impl_CountRows.calls k t252 _ _ t253 t257 t258 _ ?side1 ?side2 ?side3 A10.out).mono ?_); (case side1 => first | exact HG.out | exact Laid32.drewN HG.out _ | exact Laid32.drew HG.out | exact (Laid32.drewN HG.out _).drewN _ | exact Laid32.below HG.out (by repeat (first | (with_reducible first | exact HB.out | apply below_alloc | apply pw_below_drewN | apply below_drew1 | refine below_set ?_ GE244.out | refine below_set ?_ GE256.out) | exact HB.out))); (case side2 => refine (Kd.R_reads' (e := 98) (base := w.heap.size) (ok := fun k_ => (True ∧ some k_ ≠ (.slice Ao17 t247.length co17 : Value).ownBlock)) (n := t253.length) (c := co24) ?_).2.2; exact (by (with_reducible repeat (first | apply Kd.R_alloc | apply Kd.R_drewN | apply Kd.R_drew)); exact (Kd.R_mono (Kd.R_far (p := ⟨gb256, 1, none⟩) (Kd.R_far (p := ⟨gb256, 0, none⟩) (Kd.R_types HO255.out BK256.out (by decide)) (fun _ hk => hk.2) (.int .i64 t252)) (fun _ hk => hk.2) (.slice Ao24 t253.length co24)) (fun _ h_ => h_.1)))); (case side3 => exact (Kd.R_reads' HO255.out).2.1); rintro e w25 ⟨rfl, hb⟩; refine ⟨_, rfl, ?_⟩; have n0_ := Aside0.mk (Kd.R_below (by (with_reducible repeat (first | apply Kd.R_alloc | apply Kd.R_drewN | apply Kd.R_drew)); exact (Kd.R_mono (Kd.R_far (p := ⟨gb256, 1, none⟩) (Kd.R_far (p := ⟨gb256, 0, none⟩) (Kd.R_types HO249.out BK256.out (by decide)) (fun _ hk => hk.2) (.int .i64 t252)) (fun _ hk => hk.2) (.slice Ao24 t253.length co24)) (fun _ h_ => h_.1))) hb); have n1_ := Aside0.mk (Kd.R_below (by (with_reducible repeat (first | apply Kd.R_alloc | apply Kd.R_drewN | apply Kd.R_drew)); exact (Kd.R_mono (Kd.R_far (p := ⟨gb256, 1, none⟩) (Kd.R_far (p := ⟨gb256, 0, none⟩) (Kd.R_types HO255.out BK256.out (by decide)) (fun _ hk => hk.2) (.int .i64 t252)) (fun _ hk => hk.2) (.slice Ao24 t253.length co24)) (fun _ h_ => h_.1))) hb); have n2_ := Aside0.mk (blk_below (g := gb244) (o := .cells #[.int .i64 a0_0, .slice A0_1 l0_1.length c0_1] 24 (0, 0)) (by (with_reducible repeat (first | refine blk_drewN ?_ _ | refine blk_drew ?_ | refine blk_alloc ?_ _)); refine blk_far ?_ NB244_256.out _; (with_reducible repeat (first | refine blk_drewN ?_ _ | refine blk_drew ?_ | refine blk_alloc ?_ _)); refine blk_far ?_ NB244_256.out _; (with_reducible repeat (first | refine blk_drewN ?_ _ | refine blk_drew ?_ | refine blk_alloc ?_ _)); exact BK244.out) hb); have n3_ := Aside0.mk (blk_below (g := gb256) (o := .cells #[.int .i64 t252, .slice Ao24 t253.length co24] 30 (0, 0)) (by (with_reducible repeat (first | refine blk_drewN ?_ _ | refine blk_drew ?_ | refine blk_alloc ?_ _)); refine blk_put (cs := #[.int .i64 t252, .slice none 0 0]) ?_ 1 _ rfl; (with_reducible repeat (first | refine blk_drewN ?_ _ | refine blk_drew ?_ | refine blk_alloc ?_ _)); refine blk_put (cs := #[.int .i64 0, .slice none 0 0]) ?_ 0 _ rfl; (with_reducible repeat (first | refine blk_drewN ?_ _ | refine blk_drew ?_ | refine blk_alloc ?_ _)); exact BK256.out) hb); have n4_ := Aside0.mk (below_step (by repeat (first | (with_reducible first | exact HB.out | apply below_alloc | apply pw_below_drewN | apply below_drew1 | refine below_set ?_ GE244.out | refine below_set ?_ GE256.out) | exact HB.out)) hb); clear HO249; clear HO255; clear BK244; clear BK256; clear HB; have HO249 := n0_; have HO255 := n1_; have BK244 := n2_; have BK256 := n3_; have HB := n4_; clear n0_ n1_ n2_ n3_ n4_; (try clear hb); (try clear hb2); (try clear hk); (try clear hi)))
  (try simp only [Act.put, List.setIfInBounds_toArray, List.set_cons_zero, List.set_cons_succ])
  go_cut [34] (fun v34 wc => ∃ (kq : Nat) (x34_10 : Bool), v34 = .bool x34_10 ∧ Aside0 (laws_FnExactCountRows.j0 kq x34_10 a0_0 l0_1 t252 t253 = some r) ∧ Aside0 (kq ≤ k) ∧ Aside0 (Kd.R k98 98 wc w.heap.size (fun _ => True) (.slice Ao24 t253.length co24) t253) ∧ Aside0 (wc.heap[gb244]? = some (.cells #[.int .i64 a0_0, (.slice A0_1 l0_1.length c0_1)] 24 (0, 0))) ∧ Aside0 (wc.heap[gb256]? = some (.cells #[.int .i64 t252, (.slice Ao24 t253.length co24)] 30 (0, 0))) ∧ Aside0 (Below w.heap.size w wc))
  case first =>
   have H := HC11.out
   clear HC11
   by_cases c26 : t257 = t250
   ·rw [if_pos c26] at H
    have c26b0 : (t257 == t250) = true := beq_iff_eq.mpr c26
    have c26b1 : (t257 != t250) = false := bne_eq_false_iff_eq.mpr c26
    clear c26
    (first | rw [c26b0] | (simp only [i64_w, i32_w]; rw [c26b0]) | skip)
    have H' := Aside0.mk H
    clear H
    go_wp2
    go_meet
    case rel => exact ⟨_, ((t258 != t251)), (by first | rfl | (simp; done) | (simp [*]; done)), H', ⟨by first | omega | exact Nat.le_refl _⟩, ⟨by (with_reducible repeat (first | apply Kd.R_alloc | apply Kd.R_drewN | apply Kd.R_drew)); exact Kd.R_mono HO255.out (fun _ hk => trivial)⟩, ⟨by (with_reducible repeat (first | refine blk_drewN ?_ _ | refine blk_drew ?_ | refine blk_alloc ?_ _)); exact BK244.out⟩, ⟨by (with_reducible repeat (first | refine blk_drewN ?_ _ | refine blk_drew ?_ | refine blk_alloc ?_ _)); exact BK256.out⟩, ⟨by repeat (first | (with_reducible first | exact HB.out | apply below_alloc | apply pw_below_drewN | apply below_drew1 | refine below_set ?_ GE244.out | refine below_set ?_ GE256.out) | exact HB.out)⟩⟩
   ·rw [if_neg c26] at H
    have c26b0 : (t257 == t250) = false := beq_eq_false_iff_ne.mpr c26
    have c26b1 : (t257 != t250) = true := bne_iff_ne.mpr c26
    (first | rw [c26b0] | (simp only [i64_w, i32_w]; rw [c26b0]) | skip)
    have H' := Aside0.mk H
    clear H
    go_wp2
    go_meet
    case rel => exact ⟨_, (true), (by first | rfl | (simp; done) | (simp [*]; done)), H', ⟨by first | omega | exact Nat.le_refl _⟩, ⟨by (with_reducible repeat (first | apply Kd.R_alloc | apply Kd.R_drewN | apply Kd.R_drew)); exact Kd.R_mono HO255.out (fun _ hk => trivial)⟩, ⟨by (with_reducible repeat (first | refine blk_drewN ?_ _ | refine blk_drew ?_ | refine blk_alloc ?_ _)); exact BK244.out⟩, ⟨by (with_reducible repeat (first | refine blk_drewN ?_ _ | refine blk_drew ?_ | refine blk_alloc ?_ _)); exact BK256.out⟩, ⟨by repeat (first | (with_reducible first | exact HB.out | apply below_alloc | apply pw_below_drewN | apply below_drew1 | refine below_set ?_ GE244.out | refine below_set ?_ GE256.out) | exact HB.out)⟩⟩
  case rest =>
   clear HC11
   try clear c1
   try clear c2
   try clear p2
   try clear c3
   try clear c3b0
   try clear c4
   try clear c13
   try clear c15
   try clear c18
   try clear c19
   try clear c22
   try clear c26
   try clear c26b0
   try clear c26b1
   try clear hcz13_0
   try clear hcz13_1
   try clear hcz15_0
   try clear hcz15_1
   try clear hcz19_0
   try clear hcz19_1
   try clear hcz23_0
   try clear hcz23_1
   try clear hcz5_0
   try clear hcz5_1
   try clear hfz13_0
   try clear hfz13_1
   try clear hfz15_0
   try clear hfz15_1
   try clear hfz19_0
   try clear hfz19_1
   try clear hfz23_0
   try clear hfz23_1
   try clear hfz5_0
   try clear hfz5_1
   obtain ⟨kq, x34_10, rfl, HA, HJ10, HO_257001, BK244, BK256, HB⟩ := hcut
   cases kq with
   | zero => exact absurd HA.out (by simp [laws_FnExactCountRows.j0])
   | succ kj10 =>
    have H := HA.out
    clear HA
    simp only [laws_FnExactCountRows.j0] at H
    by_cases c27 : x34_10 = true
    ·subst c27
     have H1 : (some false) = some r := by rw [if_pos rfl] at H; exact H
     clear H
     have H := H1
     clear H1
     obtain rfl := Option.some.inj H
     go_wp2
     go_ret
     exact ⟨by first | rfl | (simp [errW_none, errW_some] <;> rfl) | (simp [*, errW_none, errW_some] <;> rfl), by repeat (first | (with_reducible first | exact HB.out | apply below_alloc | apply pw_below_drewN | apply below_drew1 | refine below_set ?_ GE244.out | refine below_set ?_ GE256.out) | exact HB.out)⟩
    ·replace c27 := Bool.eq_false_iff.mpr c27
     subst c27
     have H1 : ((laws_toParty.f kj10 a0_0 l0_1).bind fun bt259 => ((laws_eqParty.f kj10 t252 t253 bt259.1 bt259.2).bind fun t263 => (if t263 = true then (some true) else (some false)))) = some r := by rw [if_neg (show ¬ (false = true) by decide)] at H; exact H
     clear H
     have H := H1
     clear H1
     replace H := Option.bind_eq_some_iff.mp H
     obtain ⟨⟨t259, t260⟩, A280, H⟩ := H
     replace H : ((laws_eqParty.f kj10 t252 t253 t259 t260).bind fun t263 => (if t263 = true then (some true) else (some false))) = some r := H
     have A28 := Aside0.mk A280
     clear A280
     replace H := Option.bind_eq_some_iff.mp H
     obtain ⟨t263, A290, H⟩ := H
     replace H : (if t263 = true then (some true) else (some false)) = some r := H
     have A29 := Aside0.mk A290
     clear A290
     by_cases c30 : t263 = true
     ·subst c30
      have H1 : (some true) = some r := by rw [if_pos rfl] at H; exact H
      clear H
      have H := H1
      clear H1
      obtain rfl := Option.some.inj H
      try go_wp2
      have n0_ := Aside0.mk (Kd.R_drew HO_257001.out)
      have n1_ := Aside0.mk (blk_drew BK244.out)
      have n2_ := Aside0.mk (blk_drew BK256.out)
      have n3_ := Aside0.mk (below_drew1 HB.out)
      clear HO_257001
      clear BK244
      clear BK256
      clear HB
      have HO_257001 := n0_
      have BK244 := n1_
      have BK256 := n2_
      have HB := n3_
      clear n0_ n1_ n2_ n3_
      refine start_ (n := 5) (S := fun w' => w'.cell? ⟨gb256, 0, none⟩ = some (.int .i64 t252) ∧ w'.cell? ⟨gb256, 1, none⟩ = some (.slice Ao24 t253.length co24) ∧ w'.cell? ⟨gb244, 0, none⟩ = some (.int .i64 a0_0) ∧ w'.cell? ⟨gb244, 1, none⟩ = some (.slice A0_1 l0_1.length c0_1)) (ds := []) #[false, false, false, false, false] (by kernel_rfl) rfl rfl ⟨(blk_cell BK256.out 0).trans rfl, (blk_cell BK256.out 1).trans rfl, (blk_cell BK244.out 0).trans rfl, (blk_cell BK244.out 1).trans rfl⟩ (fun hHeld => ?_)
      generalize wc.drew = w31 at HO_257001 BK244 BK256 HB hHeld ⊢
      refine take_ (i := 0) (N := some 35) (v := ?_) (a' := ?_) #[true, false, false, false, false] rfl rfl (by kernel_rfl) (fun _ _ _ h => h) (Or.inl ⟨by rfl, ?_⟩) hHeld ?_ ?_
      rotate_left
      ·rintro w' ⟨s0, s1, s2, s3⟩
       go_simp
       with_reducible rfl
      rotate_left
      ·simp only [Act.put, List.setIfInBounds_toArray, List.set_cons_zero, List.set_cons_succ, i64_w, i32_w]
       rfl
      refine take_ (i := 1) (N := some 36) (v := ?_) (a' := ?_) #[true, true, false, false, false] rfl rfl (by kernel_rfl) (fun _ _ _ h => h) (Or.inl ⟨by rfl, ?_⟩) hHeld ?_ ?_
      rotate_left
      ·rintro w' ⟨s0, s1, s2, s3⟩
       go_simp
       with_reducible rfl
      rotate_left
      ·simp only [Act.put, List.setIfInBounds_toArray, List.set_cons_zero, List.set_cons_succ, i64_w, i32_w]
       rfl
      refine one_ (i := 2) (N := some 37) #[true, true, true, false, false] rfl rfl (by kernel_rfl) (by decide) (fun K hK => ?_)
      refine goes_ Tryd.func15 (by kernel_rfl) rfl #[.agg #[.int .i64 a0_0, .slice A0_1 l0_1.length c0_1]] (by rfl) rfl rfl (by (try simp only [List.map_toArray, List.map_cons, List.map_nil]); first | done | rfl | (simp only [List.length_drop, List.length_take]; rfl)) ?_
      with_reducible refine (laws_toParty.calls kj10 a0_0 _ _ l0_1 t259 t260 _ ?side1 ?side2 A28.out).mono ?_
      (case side1 => repeat (first | exact (Kd.C_below HR0_1.out HB.out) | (with_reducible refine Kd.C_alloc ?_ _) | (with_reducible refine Kd.C_drewN ?_ _) | (with_reducible refine Kd.C_drew ?_)))
      (case side2 => exact HC0_1.out)
      rintro e w32 ⟨v261, rfl, ho0, hb⟩
      refine ⟨_, rfl, ?_⟩
      have n0_ := Aside0.mk (Kd.R_elder' (by (with_reducible repeat (first | apply Kd.R_alloc | apply Kd.R_drewN | apply Kd.R_drew)); exact HO_257001.out) (Kd.R_base ho0) hb)
      have n1_ := Aside0.mk (Kd.R_lower (Kd.R_new' ho0 (Kd.R_lt (by (with_reducible repeat (first | apply Kd.R_alloc | apply Kd.R_drewN | apply Kd.R_drew)); exact HO_257001.out))) (below_size (by repeat (first | (with_reducible first | exact HB.out | apply below_alloc | apply pw_below_drewN | apply below_drew1 | refine below_set ?_ GE244.out | refine below_set ?_ GE256.out) | exact HB.out))))
      have n2_ := Aside0.mk (blk_below (g := gb244) (o := .cells #[.int .i64 a0_0, .slice A0_1 l0_1.length c0_1] 24 (0, 0)) (by (with_reducible repeat (first | refine blk_drewN ?_ _ | refine blk_drew ?_ | refine blk_alloc ?_ _)); exact BK244.out) hb)
      have n3_ := Aside0.mk (blk_below (g := gb256) (o := .cells #[.int .i64 t252, .slice Ao24 t253.length co24] 30 (0, 0)) (by (with_reducible repeat (first | refine blk_drewN ?_ _ | refine blk_drew ?_ | refine blk_alloc ?_ _)); exact BK256.out) hb)
      have n4_ := Aside0.mk (below_step (by repeat (first | (with_reducible first | exact HB.out | apply below_alloc | apply pw_below_drewN | apply below_drew1 | refine below_set ?_ GE244.out | refine below_set ?_ GE256.out) | exact HB.out)) hb)
      clear HO_257001
      clear BK244
      clear BK256
      clear HB
      have HO_257001 := n0_
      have HO262 := n1_
      have BK244 := n2_
      have BK256 := n3_
      have HB := n4_
      clear n0_ n1_ n2_ n3_ n4_
      (try clear hb)
      (try clear hb2)
      (try clear hk)
      (try clear hi)
      (try clear ho0)
      obtain ⟨Ao33, co33, eo33⟩ := Kd.R_slice HO262.out
      (first | subst eo33 | (injection eo33 with f1_ f2_ f3_; have f4_ := f1_.symm; have f5_ := f3_.symm; clear f1_ f2_ f3_; subst f4_; subst f5_))
      refine hK.out _ _ ⟨(blk_cell BK256.out 0).trans rfl, (blk_cell BK256.out 1).trans rfl, (blk_cell BK244.out 0).trans rfl, (blk_cell BK244.out 1).trans rfl⟩ (fun hHeld => ?_)
      clear hK K
      refine norm_ (a' := ?_) ?_ ?_
      rotate_left
      ·show Act.put _ (some 37) _ = _
       simp only [Act.put, List.setIfInBounds_toArray, List.set_cons_zero, List.set_cons_succ, i64_w, i32_w]
       rfl
      refine one_ (i := 3) (N := some 38) #[true, true, true, true, false] rfl rfl (by kernel_rfl) (by decide) (fun K hK => ?_)
      refine goes_ Tryd.func17 (by kernel_rfl) rfl #[.agg #[.int .i64 t252, .slice Ao24 t253.length co24], .agg #[.int .i64 t259, .slice Ao33 t260.length co33]] (by rfl) rfl rfl (by (try simp only [List.map_toArray, List.map_cons, List.map_nil]); first | done | rfl | (simp only [List.length_drop, List.length_take]; rfl)) ?_
      with_reducible refine (laws_eqParty.calls kj10 t252 _ _ t253 t259 _ _ t260 true _ ?side1 ?side2 ?side3 ?side4 A29.out).mono ?_
      (case side1 => repeat (first | exact (Kd.R_reads' HO_257001.out).2.2 | (with_reducible refine Kd.C_alloc ?_ _) | (with_reducible refine Kd.C_drewN ?_ _) | (with_reducible refine Kd.C_drew ?_)))
      (case side2 => exact (Kd.R_reads' HO_257001.out).2.1)
      (case side3 => repeat (first | exact (Kd.R_reads' HO262.out).2.2 | (with_reducible refine Kd.C_alloc ?_ _) | (with_reducible refine Kd.C_drewN ?_ _) | (with_reducible refine Kd.C_drew ?_)))
      (case side4 => exact (Kd.R_reads' HO262.out).2.1)
      rintro e w34 ⟨rfl, hb⟩
      refine ⟨_, rfl, ?_⟩
      have n0_ := Aside0.mk (Kd.R_below (by (with_reducible repeat (first | apply Kd.R_alloc | apply Kd.R_drewN | apply Kd.R_drew)); exact HO_257001.out) hb)
      have n1_ := Aside0.mk (Kd.R_below (by (with_reducible repeat (first | apply Kd.R_alloc | apply Kd.R_drewN | apply Kd.R_drew)); exact HO262.out) hb)
      have n2_ := Aside0.mk (blk_below (g := gb244) (o := .cells #[.int .i64 a0_0, .slice A0_1 l0_1.length c0_1] 24 (0, 0)) (by (with_reducible repeat (first | refine blk_drewN ?_ _ | refine blk_drew ?_ | refine blk_alloc ?_ _)); exact BK244.out) hb)
      have n3_ := Aside0.mk (blk_below (g := gb256) (o := .cells #[.int .i64 t252, .slice Ao24 t253.length co24] 30 (0, 0)) (by (with_reducible repeat (first | refine blk_drewN ?_ _ | refine blk_drew ?_ | refine blk_alloc ?_ _)); exact BK256.out) hb)
      have n4_ := Aside0.mk (below_step (by repeat (first | (with_reducible first | exact HB.out | apply below_alloc | apply pw_below_drewN | apply below_drew1 | refine below_set ?_ GE244.out | refine below_set ?_ GE256.out) | exact HB.out)) hb)
      clear HO_257001
      clear HO262
      clear BK244
      clear BK256
      clear HB
      have HO_257001 := n0_
      have HO262 := n1_
      have BK244 := n2_
      have BK256 := n3_
      have HB := n4_
      clear n0_ n1_ n2_ n3_ n4_
      (try clear hb)
      (try clear hb2)
      (try clear hk)
      (try clear hi)
      refine hK.out _ _ ⟨(blk_cell BK256.out 0).trans rfl, (blk_cell BK256.out 1).trans rfl, (blk_cell BK244.out 0).trans rfl, (blk_cell BK244.out 1).trans rfl⟩ (fun hHeld => ?_)
      clear hK K
      refine norm_ (a' := ?_) ?_ ?_
      rotate_left
      ·show Act.put _ (some 38) _ = _
       simp only [Act.put, List.setIfInBounds_toArray, List.set_cons_zero, List.set_cons_succ, i64_w, i32_w]
       rfl
      refine pure_ (i := 4) (N := some 39) (v := ?_) (a' := ?_) #[true, true, true, true, true] rfl rfl (by kernel_rfl) (fun _ _ _ h => h) (Or.inl ⟨by rfl, ?_⟩) ?_ ?_
      rotate_left
      ·intro w'
       go_simp
       with_reducible rfl
      rotate_left
      ·simp only [Act.put, List.setIfInBounds_toArray, List.set_cons_zero, List.set_cons_succ, i64_w, i32_w]
       rfl
      refine done_ (by kernel_rfl) ?_
      try go_wp2
      go_ret
      exact ⟨by first | rfl | (simp [errW_none, errW_some] <;> rfl) | (simp [*, errW_none, errW_some] <;> rfl), by repeat (first | (with_reducible first | exact HB.out | apply below_alloc | apply pw_below_drewN | apply below_drew1 | refine below_set ?_ GE244.out | refine below_set ?_ GE256.out) | exact HB.out)⟩
     ·replace c30 := Bool.eq_false_iff.mpr c30
      subst c30
      have H1 : (some false) = some r := by rw [if_neg (show ¬ (false = true) by decide)] at H; exact H
      clear H
      have H := H1
      clear H1
      obtain rfl := Option.some.inj H
      try go_wp2
      have n0_ := Aside0.mk (Kd.R_drew HO_257001.out)
      have n1_ := Aside0.mk (blk_drew BK244.out)
      have n2_ := Aside0.mk (blk_drew BK256.out)
      have n3_ := Aside0.mk (below_drew1 HB.out)
      clear HO_257001
      clear BK244
      clear BK256
      clear HB
      have HO_257001 := n0_
      have BK244 := n1_
      have BK256 := n2_
      have HB := n3_
      clear n0_ n1_ n2_ n3_
      refine start_ (n := 5) (S := fun w' => w'.cell? ⟨gb256, 0, none⟩ = some (.int .i64 t252) ∧ w'.cell? ⟨gb256, 1, none⟩ = some (.slice Ao24 t253.length co24) ∧ w'.cell? ⟨gb244, 0, none⟩ = some (.int .i64 a0_0) ∧ w'.cell? ⟨gb244, 1, none⟩ = some (.slice A0_1 l0_1.length c0_1)) (ds := []) #[false, false, false, false, false] (by kernel_rfl) rfl rfl ⟨(blk_cell BK256.out 0).trans rfl, (blk_cell BK256.out 1).trans rfl, (blk_cell BK244.out 0).trans rfl, (blk_cell BK244.out 1).trans rfl⟩ (fun hHeld => ?_)
      generalize wc.drew = w35 at HO_257001 BK244 BK256 HB hHeld ⊢
      refine take_ (i := 0) (N := some 35) (v := ?_) (a' := ?_) #[true, false, false, false, false] rfl rfl (by kernel_rfl) (fun _ _ _ h => h) (Or.inl ⟨by rfl, ?_⟩) hHeld ?_ ?_
      rotate_left
      ·rintro w' ⟨s0, s1, s2, s3⟩
       go_simp
       with_reducible rfl
      rotate_left
      ·simp only [Act.put, List.setIfInBounds_toArray, List.set_cons_zero, List.set_cons_succ, i64_w, i32_w]
       rfl
      refine take_ (i := 1) (N := some 36) (v := ?_) (a' := ?_) #[true, true, false, false, false] rfl rfl (by kernel_rfl) (fun _ _ _ h => h) (Or.inl ⟨by rfl, ?_⟩) hHeld ?_ ?_
      rotate_left
      ·rintro w' ⟨s0, s1, s2, s3⟩
       go_simp
       with_reducible rfl
      rotate_left
      ·simp only [Act.put, List.setIfInBounds_toArray, List.set_cons_zero, List.set_cons_succ, i64_w, i32_w]
       rfl
      refine one_ (i := 2) (N := some 37) #[true, true, true, false, false] rfl rfl (by kernel_rfl) (by decide) (fun K hK => ?_)
      refine goes_ Tryd.func15 (by kernel_rfl) rfl #[.agg #[.int .i64 a0_0, .slice A0_1 l0_1.length c0_1]] (by rfl) rfl rfl (by (try simp only [List.map_toArray, List.map_cons, List.map_nil]); first | done | rfl | (simp only [List.length_drop, List.length_take]; rfl)) ?_
      with_reducible refine (laws_toParty.calls kj10 a0_0 _ _ l0_1 t259 t260 _ ?side1 ?side2 A28.out).mono ?_
      (case side1 => repeat (first | exact (Kd.C_below HR0_1.out HB.out) | (with_reducible refine Kd.C_alloc ?_ _) | (with_reducible refine Kd.C_drewN ?_ _) | (with_reducible refine Kd.C_drew ?_)))
      (case side2 => exact HC0_1.out)
      rintro e w36 ⟨v261, rfl, ho0, hb⟩
      refine ⟨_, rfl, ?_⟩
      have n0_ := Aside0.mk (Kd.R_elder' (by (with_reducible repeat (first | apply Kd.R_alloc | apply Kd.R_drewN | apply Kd.R_drew)); exact HO_257001.out) (Kd.R_base ho0) hb)
      have n1_ := Aside0.mk (Kd.R_lower (Kd.R_new' ho0 (Kd.R_lt (by (with_reducible repeat (first | apply Kd.R_alloc | apply Kd.R_drewN | apply Kd.R_drew)); exact HO_257001.out))) (below_size (by repeat (first | (with_reducible first | exact HB.out | apply below_alloc | apply pw_below_drewN | apply below_drew1 | refine below_set ?_ GE244.out | refine below_set ?_ GE256.out) | exact HB.out))))
      have n2_ := Aside0.mk (blk_below (g := gb244) (o := .cells #[.int .i64 a0_0, .slice A0_1 l0_1.length c0_1] 24 (0, 0)) (by (with_reducible repeat (first | refine blk_drewN ?_ _ | refine blk_drew ?_ | refine blk_alloc ?_ _)); exact BK244.out) hb)
      have n3_ := Aside0.mk (blk_below (g := gb256) (o := .cells #[.int .i64 t252, .slice Ao24 t253.length co24] 30 (0, 0)) (by (with_reducible repeat (first | refine blk_drewN ?_ _ | refine blk_drew ?_ | refine blk_alloc ?_ _)); exact BK256.out) hb)
      have n4_ := Aside0.mk (below_step (by repeat (first | (with_reducible first | exact HB.out | apply below_alloc | apply pw_below_drewN | apply below_drew1 | refine below_set ?_ GE244.out | refine below_set ?_ GE256.out) | exact HB.out)) hb)
      clear HO_257001
      clear BK244
      clear BK256
      clear HB
      have HO_257001 := n0_
      have HO262 := n1_
      have BK244 := n2_
      have BK256 := n3_
      have HB := n4_
      clear n0_ n1_ n2_ n3_ n4_
      (try clear hb)
      (try clear hb2)
      (try clear hk)
      (try clear hi)
      (try clear ho0)
      obtain ⟨Ao37, co37, eo37⟩ := Kd.R_slice HO262.out
      (first | subst eo37 | (injection eo37 with f1_ f2_ f3_; have f4_ := f1_.symm; have f5_ := f3_.symm; clear f1_ f2_ f3_; subst f4_; subst f5_))
      refine hK.out _ _ ⟨(blk_cell BK256.out 0).trans rfl, (blk_cell BK256.out 1).trans rfl, (blk_cell BK244.out 0).trans rfl, (blk_cell BK244.out 1).trans rfl⟩ (fun hHeld => ?_)
      clear hK K
      refine norm_ (a' := ?_) ?_ ?_
      rotate_left
      ·show Act.put _ (some 37) _ = _
       simp only [Act.put, List.setIfInBounds_toArray, List.set_cons_zero, List.set_cons_succ, i64_w, i32_w]
       rfl
      refine one_ (i := 3) (N := some 38) #[true, true, true, true, false] rfl rfl (by kernel_rfl) (by decide) (fun K hK => ?_)
      refine goes_ Tryd.func17 (by kernel_rfl) rfl #[.agg #[.int .i64 t252, .slice Ao24 t253.length co24], .agg #[.int .i64 t259, .slice Ao37 t260.length co37]] (by rfl) rfl rfl (by (try simp only [List.map_toArray, List.map_cons, List.map_nil]); first | done | rfl | (simp only [List.length_drop, List.length_take]; rfl)) ?_
      with_reducible refine (laws_eqParty.calls kj10 t252 _ _ t253 t259 _ _ t260 false _ ?side1 ?side2 ?side3 ?side4 A29.out).mono ?_
      (case side1 => repeat (first | exact (Kd.R_reads' HO_257001.out).2.2 | (with_reducible refine Kd.C_alloc ?_ _) | (with_reducible refine Kd.C_drewN ?_ _) | (with_reducible refine Kd.C_drew ?_)))
      (case side2 => exact (Kd.R_reads' HO_257001.out).2.1)
      (case side3 => repeat (first | exact (Kd.R_reads' HO262.out).2.2 | (with_reducible refine Kd.C_alloc ?_ _) | (with_reducible refine Kd.C_drewN ?_ _) | (with_reducible refine Kd.C_drew ?_)))
      (case side4 => exact (Kd.R_reads' HO262.out).2.1)
      rintro e w38 ⟨rfl, hb⟩
      refine ⟨_, rfl, ?_⟩
      have n0_ := Aside0.mk (Kd.R_below (by (with_reducible repeat (first | apply Kd.R_alloc | apply Kd.R_drewN | apply Kd.R_drew)); exact HO_257001.out) hb)
      have n1_ := Aside0.mk (Kd.R_below (by (with_reducible repeat (first | apply Kd.R_alloc | apply Kd.R_drewN | apply Kd.R_drew)); exact HO262.out) hb)
      have n2_ := Aside0.mk (blk_below (g := gb244) (o := .cells #[.int .i64 a0_0, .slice A0_1 l0_1.length c0_1] 24 (0, 0)) (by (with_reducible repeat (first | refine blk_drewN ?_ _ | refine blk_drew ?_ | refine blk_alloc ?_ _)); exact BK244.out) hb)
      have n3_ := Aside0.mk (blk_below (g := gb256) (o := .cells #[.int .i64 t252, .slice Ao24 t253.length co24] 30 (0, 0)) (by (with_reducible repeat (first | refine blk_drewN ?_ _ | refine blk_drew ?_ | refine blk_alloc ?_ _)); exact BK256.out) hb)
      have n4_ := Aside0.mk (below_step (by repeat (first | (with_reducible first | exact HB.out | apply below_alloc | apply pw_below_drewN | apply below_drew1 | refine below_set ?_ GE244.out | refine below_set ?_ GE256.out) | exact HB.out)) hb)
      clear HO_257001
      clear HO262
      clear BK244
      clear BK256
      clear HB
      have HO_257001 := n0_
      have HO262 := n1_
      have BK244 := n2_
      have BK256 := n3_
      have HB := n4_
      clear n0_ n1_ n2_ n3_ n4_
      (try clear hb)
      (try clear hb2)
      (try clear hk)
      (try clear hi)
      refine hK.out _ _ ⟨(blk_cell BK256.out 0).trans rfl, (blk_cell BK256.out 1).trans rfl, (blk_cell BK244.out 0).trans rfl, (blk_cell BK244.out 1).trans rfl⟩ (fun hHeld => ?_)
      clear hK K
      refine norm_ (a' := ?_) ?_ ?_
      rotate_left
      ·show Act.put _ (some 38) _ = _
       simp only [Act.put, List.setIfInBounds_toArray, List.set_cons_zero, List.set_cons_succ, i64_w, i32_w]
       rfl
      refine pure_ (i := 4) (N := some 39) (v := ?_) (a' := ?_) #[true, true, true, true, true] rfl rfl (by kernel_rfl) (fun _ _ _ h => h) (Or.inl ⟨by rfl, ?_⟩) ?_ ?_
      rotate_left
      ·intro w'
       go_simp
       with_reducible rfl
      rotate_left
      ·simp only [Act.put, List.setIfInBounds_toArray, List.set_cons_zero, List.set_cons_succ, i64_w, i32_w]
       rfl
      refine done_ (by kernel_rfl) ?_
      try go_wp2
      go_ret
      exact ⟨by first | rfl | (simp [errW_none, errW_some] <;> rfl) | (simp [*, errW_none, errW_some] <;> rfl), by repeat (first | (with_reducible first | exact HB.out | apply below_alloc | apply pw_below_drewN | apply below_drew1 | refine below_set ?_ GE244.out | refine below_set ?_ GE256.out) | exact HB.out)⟩
end Go.Proofs.YtopahhcojncgaaaDoor.G
namespace Go.Proofs.YtopahhcojncgaaaDoor.G
open Go.RowKit Go.Proofs.YtopahhcojncgaaaDoorW.PrintWords Go.Proofs.YtopahhcojncgaaaDoorW.PrintLast Go.Proofs.YtopahhcojncgaaaDoorW.PrintMore
set_option linter.unusedVariables false
set_option linter.unusedSimpArgs false
theorem bl_upto (x n : Nat) (hx : x < 2 ^ n) (hn : n ≤ 16) : bl x = (List.range n).filter (fun i => x.testBit i) := by
  unfold bl
  obtain ⟨d, hd⟩ : ∃ d, 16 = n + d := ⟨16 - n, by omega⟩
  rw [hd, List.range_add, List.filter_append, List.append_right_eq_self, List.filter_eq_nil_iff]
  intro a ha
  obtain ⟨c, _, rfl⟩ := List.mem_map.1 ha
  rw [Nat.testBit_lt_two_pow (Nat.lt_of_lt_of_le hx (Nat.pow_le_pow_right (by decide) (by omega)))]
  simp
theorem foldl_congr' {σ α : Type} (f g : σ → α → σ) (L : List α) (h : ∀ a ∈ L, ∀ s, f s a = g s a) (s : σ) : L.foldl f s = L.foldl g s := by
  induction L generalizing s with
  | nil => rfl
  | cons a L ih => rw [List.foldl_cons, List.foldl_cons, h a (List.mem_cons_self ..), ih (fun b hb => h b (List.mem_cons_of_mem _ hb))]
theorem dpAll_congr (B B' : Nat → Nat → List Nat) (n : Nat) (L : List Nat) (h : ∀ s l, s < 2 ^ n → l < n → B s l = B' s l) : DP.dpAll B n L = DP.dpAll B' n L := by
  unfold DP.dpAll
  refine foldl_congr' _ _ _ (fun s hs K => ?_) _
  unfold DP.dpSet
  refine foldl_congr' _ _ _ (fun l hl K => ?_) _
  unfold DP.dpLast
  rw [h s l (List.mem_range.1 hs) (List.mem_range.1 hl)]
theorem sum_l0 (l : List Int) (hl : l.length < 4611686018427387904) : ∀ (d i : Nat) (acc : Int), i + d = l.length → wrap64 acc = acc → Ev (fun k => impl_sum.l0 k acc l (l.length : Int) (i : Int)) (wrap64 (acc + ((l.drop i).sum))) := by
  intro d
  induction d with
  | zero =>
    intro i acc hi ha
    rw [List.drop_of_length_le (by omega), List.sum_nil, Int.add_zero, ha]
    exact Ev.step (fun k => impl_sum.l0.eq_2 ..) (Ev.ifn (by omega) (Ev.pure _))
  | succ d ih =>
    intro i acc hi ha
    have hil : i < l.length := by omega
    refine Ev.step (fun k => impl_sum.l0.eq_2 ..) (Ev.ifp (by omega) (Ev.ifp (by omega) (Ev.ifp (by omega) ?_)))
    rw [show wrap64 ((i : Int) + 1) = ((i + 1 : Nat) : Int) from by rw [w64 (by omega) (by omega)]; omega]
    have e : rd l (i : Int) = l[i] := by simp [rd, List.getD_eq_getElem?_getD, hil]
    rw [e]
    refine Ev.cong ?_ (ih (i + 1) _ (by omega) (by unfold wrap64; omega))
    rw [List.drop_eq_getElem_cons hil, List.sum_cons]
    unfold wrap64; omega
theorem sum_eq (l : List Int) (hl : l.length < 4611686018427387904) : Ev (fun k => impl_sum.f k l) (wrap64 l.sum) := by
  have := sum_l0 l hl l.length 0 0 (by omega) (by decide +kernel)
  rw [List.drop_zero, Int.zero_add] at this
  exact this
theorem sum_getD (l : List Int) (n : Nat) (h : l.length = n) : l.sum = DP.sumTo n (fun i => l.getD i 0) := by
  rw [← DP.sumTo_list]
  congr 1
  apply List.ext_getElem
  · simp [h]
  · intro i h1 h2
    simp [List.getD_eq_getElem?_getD, h1]
theorem tl_wrap (T : List (List Bool)) : ∀ (m : Nat) (l : List Nat) (s : Int × List Int), wrap64 s.1 = s.1 → wrap64 (tl T m l s).1 = (tl T m l s).1 := by
  intro m
  induction m with
  | zero => intro l s h; exact h
  | succ m ih =>
    intro l s h
    by_cases e : l.length = T.length
    · rw [tl_done T m l s e]; show wrap64 (wrap64 _) = wrap64 _; unfold wrap64; omega
    · rw [tl_step T m l s e]
      have : ∀ j, wrap64 (tlLoop T m l s j).1 = (tlLoop T m l s j).1 := by
        intro j
        induction j with
        | zero => exact h
        | succ j ihj =>
          rw [tlLoop_succ]
          split
          · exact ih _ _ ihj
          · exact ihj
      exact this _
theorem taG_wrap (T : List (List Bool)) (j : Nat) : wrap64 (taG T j).1 = (taG T j).1 := by
  induction j with
  | zero => show wrap64 0 = 0; decide +kernel
  | succ j ih => rw [taG_succ]; exact tl_wrap T _ _ _ ih
theorem taG_count (T : List (List Bool)) (A : Nat → Nat → Bool) (n : Nat) (hn : T.length = n) (hA : ∀ a b, a < n → b < n → tab T a b = A a b) : ∀ j, j ≤ n → DP.cg (taG T j).1 (DP.sumTo j (fun a => DP.E A n (2 ^ a) a)) := by
  intro j
  induction j with
  | zero => intro _; exact DP.cg.refl _
  | succ j ih =>
    intro hj
    rw [taG_succ]
    have h0 : DP.maskOf [j] = 2 ^ j := by simp [DP.maskOf]
    have hf := DP.free_or n 0 j (by omega) (Nat.zero_testBit j)
    rw [Nat.zero_or, DP.free_empty] at hf
    have := DP.tl_count T A n hn hA (T.length + 1) [j] (taG T j) (by simp) (fun x hx => by rw [List.mem_singleton.1 hx]; omega) (by rw [h0, List.length_singleton]; omega) (by rw [List.length_singleton]; omega)
    rw [h0] at this
    exact this.trans ((ih (by omega)).add (DP.cg.refl _))
theorem countRows_eq (n : Int) (ps : List S98) (hl : ps.length < 4611686018427387904) :
    ∃ (c : Int) (b : Bool), Ev (fun k => spec_CountRows.f k n ps) (c, b) ∧ Ev (fun k => impl_CountRows.f k n ps) (c, b) := by
  have h1 := paGood_eq n ps hl
  have h2 := isParty_eq n ps hl
  cases hg : good n ps
  · rw [hg] at h1 h2
    refine ⟨0, false, Ev.bind (v := false) ?_ (Ev.ifn (by decide) (Ev.pure _)), Ev.bind (v := false) ?_ (Ev.ifn (by decide) (Ev.pure _))⟩
    · exact Ev.bind h1 (Ev.ifn (by decide) (Ev.pure _))
    · exact Ev.bind h2 (Ev.ifn (by decide) (Ev.pure _))
  · rw [hg] at h1 h2
    have hG := good_iff.1 hg
    obtain ⟨N, rfl⟩ : ∃ N : Nat, n = (N : Int) := ⟨n.toNat, by have := hG.1; omega⟩
    have hN := hG.2.1
    have h3 : Ev (fun k => spec_taFew.f k (N : Int) ps) (decide ((N : Int) ≤ 9)) := Ev.bind h1 (Ev.ifp rfl (Ev.pure _))
    have h4 : Ev (fun k => impl_isSeated.f k (N : Int) ps) (decide ((N : Int) ≤ 9)) := Ev.bind h2 (Ev.ifp rfl (Ev.pure _))
    by_cases h9 : (N : Int) ≤ 9
    · rw [decide_eq_true h9] at h3 h4
      obtain ⟨T, hT, hTE⟩ := paTable_eq N ps hG hl
      obtain ⟨t, ht, htE⟩ := table_eq N ps hG hl
      have hspec : Ev (fun k => spec_CountRows.f k (N : Int) ps) ((taG T N).1, true) := by
        refine Ev.bind h3 (Ev.ifp rfl (Ev.bind (v := taG T T.length) ?_ (Ev.cong (by rw [hT.len]) (Ev.pure _))))
        unfold spec_taAll.f
        refine Ev.ifn (by decide) (Ev.bind hTE (Ev.ifp ⟨by rw [hT.len]; omega, fun r hr => ?_⟩ (Ev.pure _)))
        obtain ⟨i, hi, rfl⟩ := List.getElem_of_mem hr
        have := hT.row i (by rw [← hT.len]; exact hi)
        rw [List.getD_eq_getElem?_getD, List.getElem?_eq_getElem hi, Option.getD_some] at this
        rw [this, hT.len]
      refine ⟨_, _, hspec, ?_⟩
      rcases Nat.eq_zero_or_pos N with h0 | h0
      · subst h0
        exact Ev.bind h4 (Ev.ifp rfl (Ev.ifp rfl (Ev.pure _)))
      · have hA : ∀ a b, a < N → b < N → tab T a b = adj ps a b := hT.at_
        have hB : ∀ s l, s < 2 ^ N → l < N → crB t s l = DP.nb (adj ps) N s l := by
          intro s l hs hlN
          obtain ⟨q0, q1⟩ := ht.lt l
          have hq : (t.getD l 0).toNat < 2 ^ N := by
            have : (((t.getD l 0).toNat : Nat) : Int) < ((2 ^ N : Nat) : Int) := by rw [Int.toNat_of_nonneg q0]; exact_mod_cast q1
            exact_mod_cast this
          have hp16 : 2 ^ N ≤ 65536 := Nat.pow_le_pow_right (by decide) (by omega : N ≤ 16)
          unfold crB DP.nb
          rw [bl_upto (clr (t.getD l 0).toNat s) N (show clr (t.getD l 0).toNat s < 2 ^ N from Nat.lt_of_le_of_lt Nat.and_le_left hq) (by omega)]
          refine List.filter_congr (fun b hb => ?_)
          rw [testBit_clr _ _ _ (Nat.lt_of_lt_of_le hq hp16), ht.at_ l b hlN (List.mem_range.1 hb)]
        have hall : bl (2 ^ N - 1) = List.range N := by
          rw [bl_upto _ N (Nat.sub_lt (Nat.two_pow_pos _) (by decide)) (by omega), List.filter_eq_self]
          intro a ha
          rw [Nat.testBit_two_pow_sub_one]
          simpa using List.mem_range.1 ha
        obtain ⟨d1, d2⟩ := DP.dpAll_sum (adj ps) N h0
        have hrow := d1.row (2 ^ N - 1) (Nat.sub_lt (Nat.two_pow_pos _) (by decide))
        have hsum := sum_getD _ N hrow
        have hc := taG_count T (adj ps) N hT.len hA N (Nat.le_refl _)
        have heq : wrap64 ((DP.dpAll (DP.nb (adj ps) N) N (List.range N)).getD (2 ^ N - 1) []).sum = (taG T N).1 := by
          rw [hsum, ← taG_wrap T N]
          exact (d2.trans hc.symm).eq
        refine Ev.bind h4 (Ev.ifp rfl (Ev.ifn (by omega) (Ev.bind htE (Ev.bindC (all_eq t (by rw [ht.len]; omega)) (Ev.bindC (v := (DP.dpAll (DP.nb (adj ps) N) N (List.range N)).getD (2 ^ N - 1) []) ?_ (Ev.bind (v := (taG T N).1) ?_ (Ev.pure _)))))))
        · unfold impl_table_countRows.f
          have hcond : t.length ≤ 16 ∧ (∀ i, i < t.length → 0 ≤ t.getD i 0 ∧ (t.getD i 0).toNat < 2 ^ t.length) ∧ 0 ≤ ((2 ^ t.length - 1 : Nat) : Int) ∧ ((2 ^ t.length - 1 : Nat) : Int).toNat < 2 ^ t.length := by
            rw [ht.len]
            refine ⟨by omega, fun i hi => ?_, Int.natCast_nonneg _, ?_⟩
            · obtain ⟨q0, q1⟩ := ht.lt i
              refine ⟨q0, ?_⟩
              have : (((t.getD i 0).toNat : Nat) : Int) < ((2 ^ N : Nat) : Int) := by rw [Int.toNat_of_nonneg q0]; exact_mod_cast q1
              exact_mod_cast this
            · rw [Int.toNat_natCast]; exact Nat.sub_lt (Nat.two_pow_pos _) (by decide)
          rw [if_pos hcond, Int.toNat_natCast, ht.len, hall, dpAll_congr _ _ N _ hB]
        · rw [← heq]
          exact sum_eq _ (by rw [hrow]; omega)
    · rw [decide_eq_false h9] at h3 h4
      exact ⟨0, false, Ev.bind h3 (Ev.ifn (by decide) (Ev.pure _)), Ev.bind h4 (Ev.ifn (by decide) (Ev.pure _))⟩
theorem FnExactCountRows_true (n : Int) (l : List S144) (hl : l.length ≤ 9223372036854775807) : ∃ k, laws_FnExactCountRows.f k n l = some true := by
  refine Ev.one ?_
  unfold laws_FnExactCountRows.f
  refine Ev.bindC (szParty_eq n l hl) ?_
  by_cases h : l.length ≤ 1048576
  · rw [if_pos h]
    have hp : (l.map toP).length < 4611686018427387904 := by rw [List.length_map]; omega
    obtain ⟨c, b, h1, h2⟩ := countRows_eq n (l.map toP) hp
    refine Ev.ifn (by omega) (Ev.bind (toParty_eq n l h) (Ev.bind h1 (Ev.bind (toParty_eq n l h) (Ev.bind h2 (Ev.ifp rfl ?_)))))
    refine Ev.step (fun k => laws_FnExactCountRows.j0.eq_2 ..) (Ev.ifn (by simp) ?_)
    exact Ev.bind (toParty_eq n l h) (Ev.bind (eqParty_refl n _ hp) (Ev.ifp rfl (Ev.pure _)))
  · rw [if_neg h]
    exact Ev.ifp (by decide) (Ev.pure _)
end Go.Proofs.YtopahhcojncgaaaDoor.G
