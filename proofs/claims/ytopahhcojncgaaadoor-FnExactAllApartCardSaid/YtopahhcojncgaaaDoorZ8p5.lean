/- Part 5 of the proof: texts merged. Conditions: those that each theorem states. -/
import Derived.Test.YtopahhcojncgaaaDoorZ8p2
import Derived.Test.YtopahhcojncgaaaDoorZ8p4
import Derived.Test.YtopahhcojncgaaaDoorZ8p3
import Derived.Lib.SliceRun
import Derived.Laws.EntriesVeiled
namespace Go.Proofs.YtopahhcojncgaaaDoor.G
open Go.RowKit Go.Proofs.YtopahhcojncgaaaDoorW.PrintWords Go.Proofs.YtopahhcojncgaaaDoorW.PrintLast Go.Proofs.YtopahhcojncgaaaDoorW.PrintMore
attribute [local go_sem] max2_int min2_int max_two min_two max_three min_three max_four min_four
set_option linter.unusedVariables false
set_option linter.unusedSimpArgs false
mutual
def spec_paTable.l0 : Nat → List (List Bool) → Int → Int → List (S98) → Option ((List (List Bool)))
 | 0, _, _, _, _ => none
 | k + 1, x3, x4, x115000, x115001 => if x4 < x115000 then (if 0 ≤ x115000 then (if (x115000 : Int).toNat ≤ 281474976710656 then (if x3.length < 5864062014805 then (spec_paTable.l0 k (x3 ++ [(List.replicate (x115000 : Int).toNat false)]) (wrap64 (x4 + 1)) x115000 x115001) else (none)) else (none)) else (none)) else (spec_paTable.l1 k x3 x115001 (x115001.length : Int) 0)
def spec_paTable.l1 : Nat → List (List Bool) → List (S98) → Int → Int → Option ((List (List Bool)))
 | 0, _, _, _, _ => none
 | k + 1, x3, x20, x21, x22 => if x22 < x21 then (if 0 ≤ x22 then (if x22 < (x20.length : Int) then (if 0 ≤ ((rd_T98 x20 x22).f0) then (if ((rd_T98 x20 x22).f0) < (x3.length : Int) then (if 0 ≤ ((rd_T98 x20 x22).f1) then (if ((rd_T98 x20 x22).f1) < ((rd_L4 x3 ((rd_T98 x20 x22).f0)).length : Int) then ((some (x3.set (((rd_T98 x20 x22).f0) : Int).toNat ((rd_L4 x3 ((rd_T98 x20 x22).f0)).set (((rd_T98 x20 x22).f1) : Int).toNat true) : List (List Bool))).bind fun y126 => (if ((rd_T98 x20 x22).f1) < (x3.length : Int) then (if ((rd_T98 x20 x22).f0) < ((rd_L4 y126 ((rd_T98 x20 x22).f1)).length : Int) then (spec_paTable.l1 k (y126.set (((rd_T98 x20 x22).f1) : Int).toNat ((rd_L4 y126 ((rd_T98 x20 x22).f1)).set (((rd_T98 x20 x22).f0) : Int).toNat true)) x20 x21 (wrap64 (x22 + 1))) else (none)) else (none))) else (none)) else (none)) else (none)) else (none)) else (none)) else (none)) else (some x3)
end
def spec_paTable.f (k : Nat) (a0_0 : Int) (l0_1 : List (S98)) : Option ((List (List Bool))) := spec_paTable.l0 k ([] : List (List Bool)) 0 a0_0 l0_1
theorem spec_paTable.mono_l : ∀ k, (∀ y0 y1 y2 y3, LeO (spec_paTable.l0 k y0 y1 y2 y3) (spec_paTable.l0 (k + 1) y0 y1 y2 y3)) ∧ (∀ y0 y1 y2 y3, LeO (spec_paTable.l1 k y0 y1 y2 y3) (spec_paTable.l1 (k + 1) y0 y1 y2 y3))
 | 0 => ⟨fun _ _ _ _ r h => by simp [spec_paTable.l0] at h, fun _ _ _ _ r h => by simp [spec_paTable.l1] at h⟩
 | k + 1 => by
  obtain ⟨ih0, ih1⟩ := spec_paTable.mono_l k
  refine ⟨?_, ?_⟩
  ·intro y0 y1 y2 y3
   unfold spec_paTable.l0
   repeat' first
   | (with_reducible exact ih0 _ _ _ _)
   | (with_reducible exact ih1 _ _ _ _)
   | (with_reducible exact LeO.refl _)
   | (with_reducible exact LeO.none _)
   | (with_reducible refine LeO.ite ?_ ?_)
   | (with_reducible refine LeO.bind ?_ (fun _ => ?_))
   | exact ih0 _ _ _ _
   | exact ih1 _ _ _ _
   | exact LeO.none _
   | refine LeO.ite ?_ ?_
   | refine LeO.bind ?_ (fun _ => ?_)
  ·intro y0 y1 y2 y3
   unfold spec_paTable.l1
   repeat' first
   | (with_reducible exact ih0 _ _ _ _)
   | (with_reducible exact ih1 _ _ _ _)
   | (with_reducible exact LeO.refl _)
   | (with_reducible exact LeO.none _)
   | (with_reducible refine LeO.ite ?_ ?_)
   | (with_reducible refine LeO.bind ?_ (fun _ => ?_))
   | exact ih0 _ _ _ _
   | exact ih1 _ _ _ _
   | exact LeO.none _
   | refine LeO.ite ?_ ?_
   | refine LeO.bind ?_ (fun _ => ?_)
theorem spec_paTable.mono : ∀ a0 a1 k, LeO (spec_paTable.f k a0 a1) (spec_paTable.f (k + 1) a0 a1) := by
 intro a0 a1 k
 obtain ⟨ih0, ih1⟩ := spec_paTable.mono_l k
 unfold spec_paTable.f
 repeat' first
   | (with_reducible exact ih0 _ _ _ _)
   | (with_reducible exact ih1 _ _ _ _)
   | (with_reducible exact LeO.refl _)
   | (with_reducible exact LeO.none _)
   | (with_reducible refine LeO.ite ?_ ?_)
   | (with_reducible refine LeO.bind ?_ (fun _ => ?_))
   | exact ih0 _ _ _ _
   | exact ih1 _ _ _ _
   | exact LeO.none _
   | refine LeO.ite ?_ ?_
   | refine LeO.bind ?_ (fun _ => ?_)
def spec_paTable.T9 : Bool × List (List Nat × List Nat) := (true, [([], []), ([], []), ([1], [1]), ([0, 2], [0, 2]), ([3], [3]), ([], []), ([5], [5]), ([4, 6, 0, 1, 2, 3, 4, 5, 6], [4, 6]), ([7, 0, 1, 2, 3, 4, 5, 6], [7])])
def spec_paTable.B9 : List Nat := [0, 0, 2, 7, 15, 0, 32, 127, 255]
theorem spec_paTable.tab9 : rtab .any (opsOf Tryd.f79 9) = spec_paTable.T9 := by kernel_rfl
theorem spec_paTable.bits9 : waitsOk spec_paTable.T9.2 spec_paTable.B9 = true := by kernel_rfl
def spec_paTable.T10 : Bool × List (List Nat × List Nat) := (true, [([], []), ([], []), ([1], [1]), ([0, 2], [0, 2]), ([3], [3]), ([], []), ([5], [5]), ([4, 6, 0, 1, 2, 3, 4, 5, 6], [4, 6]), ([7, 0, 1, 2, 3, 4, 5, 6], [7])])
def spec_paTable.B10 : List Nat := [0, 0, 2, 7, 15, 0, 32, 127, 255]
theorem spec_paTable.tab10 : rtab .any (opsOf Tryd.f79 10) = spec_paTable.T10 := by kernel_rfl
theorem spec_paTable.bits10 : waitsOk spec_paTable.T10.2 spec_paTable.B10 = true := by kernel_rfl
set_option maxHeartbeats 8000000 in
set_option maxRecDepth 100000 in
theorem spec_paTable.calls (k : Nat) (a0_0 : Int) (A0_1 : Option Addr) (c0_1 : Nat) (l0_1 : List (S98)) (r : List (List Bool)) (w : World) (hr0_1 : Kd.C k98 w A0_1 l0_1.length l0_1) (hc0_1 : l0_1.length ≤ c0_1) (h : spec_paTable.f k a0_0 l0_1 = some r) :
  Calls Tryd.prog 79 #[.agg #[.int .i64 a0_0, .slice A0_1 l0_1.length c0_1]] w fun e w' => ∃ v0_ : Value, e = .returned (v0_) ∧ Kd.S (Kd.slice 4 Kd.bool) 101 w' w.heap.size (fun _ => True) v0_ r ∧ Below w.heap.size w w' := by
 have hu30 := Tryd.underlying30
 have hu98 := Tryd.underlying98
 have HR0_1 := Aside0.mk hr0_1
 have HC0_1 := Aside0.mk hc0_1
 clear hr0_1 hc0_1
 have HB := Aside0.mk (Below.refl w.heap.size w)
 have H : (spec_paTable.l0 k ([] : List (List Bool)) 0 a0_0 l0_1) = some r := h
 clear h
 have H' := Aside0.mk H
 clear H
 go_enter Tryd.func79, Tryd.ntmps79
 go_wp2_with (first | ((with_reducible refine gate_dst (N := 1) rfl ?_); refine box_event ?hg (N := 1) ?hd (cs := #[.int .i64 a0_0, .slice A0_1 l0_1.length c0_1]) (t := 30) ?hr ?_; (case hd => rfl); (case hg => rfl); (case hr => first | (go_simp; done) | (go_simp; rfl)); intro gb114 hg w2 hbox hb; have n0_ := Aside0.mk (below_step (by repeat (first | (with_reducible first | exact HB.out | apply below_alloc | apply pw_below_drewN | apply below_drew1) | exact HB.out)) hb); have n1_ := Aside0.mk (hbox); have n2_ := Aside0.mk ((by rw [hg]; exact (below_size (by repeat (first | (with_reducible first | exact HB.out | apply below_alloc | apply pw_below_drewN | apply below_drew1) | exact HB.out))) : w.heap.size ≤ gb114)); have n3_ := Aside0.mk ((by rw [hg]; exact (below_size (by repeat (first | (with_reducible first | exact HB.out | apply below_alloc | apply pw_below_drewN | apply below_drew1) | exact HB.out))) : w.heap.size ≤ gb114)); clear HB; have HB := n0_; have BK114 := n1_; have GW114 := n2_; have GE114 := n3_; clear n0_ n1_ n2_ n3_; clear hb hbox hg))
 go_loopg [3, 4] k (fun kq v3 v4 w' => ∃ (x3_1 : List (List Bool)) (x4_1 : Int), v4 = .int .i64 x4_1 ∧ Aside0 (spec_paTable.l0 kq x3_1 x4_1 a0_0 l0_1 = some r) ∧ Aside0 (kq ≤ k) ∧ Aside0 (Kd.S (Kd.slice 4 Kd.bool) 101 w' w.heap.size (fun _ => True) v3 x3_1) ∧ Aside0 (w'.heap[gb114]? = some (.cells #[.int .i64 a0_0, (.slice A0_1 l0_1.length c0_1)] 30 (0, 0))) ∧ Aside0 (Below w.heap.size w w'))
 case atStart => exact ⟨(([] : List (List Bool))), (0), (by first | rfl | (simp; done) | (simp [*]; done)), H', ⟨Nat.le_refl _⟩, ⟨by first | exact Kd.S_nil _ _ _ _ _ | exact Kd.N_nil _ _ _ _ _ | exact Kd.V_nil _ _ _ _ _ | exact Kd.Q_nil _ _ _ _ _ | exact Kd.R_nil _ _ _ _ _⟩, ⟨by (with_reducible repeat (first | refine blk_drewN ?_ _ | refine blk_drew ?_ | refine blk_alloc ?_ _)); exact BK114.out⟩, ⟨by repeat (first | (with_reducible first | exact HB.out | apply below_alloc | apply pw_below_drewN | apply below_drew1 | refine below_set ?_ GE114.out) | exact HB.out)⟩⟩
 case round =>
  clear H'
  try clear p2
  obtain ⟨x3_1, x4_1, rfl, HA, HK1, HO_3, BK114, HB⟩ := hrel
  cases gk with
  | zero => exact absurd HA.out (by simp [spec_paTable.l0])
  | succ k1 =>
   have H := HA.out
   clear HA
   simp only [spec_paTable.l0] at H
   by_cases c3 : x4_1 < a0_0
   ·rw [if_pos c3] at H
    have c3b0 : decide (x4_1 < a0_0) = true := decide_eq_true c3
    clear c3
    by_cases c4 : 0 ≤ a0_0
    ·rw [if_pos c4] at H
     have c4b0 := eq_true c4
     have c4b1 : decide (0 ≤ a0_0) = true := decide_eq_true c4
     clear c4
     by_cases c5 : (a0_0 : Int).toNat ≤ 281474976710656
     ·rw [if_pos c5] at H
      have c5b0 := eq_true c5
      have c5b1 : decide ((a0_0 : Int).toNat ≤ 281474976710656) = true := decide_eq_true c5
      clear c5
      obtain ⟨y115, hy115⟩ : ∃ y_ : List Bool, y_ = (List.replicate (a0_0 : Int).toNat false) := ⟨_, rfl⟩
      replace H : (if x3_1.length < 5864062014805 then (spec_paTable.l0 k1 (x3_1 ++ [y115]) (wrap64 (x4_1 + 1)) a0_0 l0_1) else (none)) = some r := by first | (rw [hy115]; with_reducible exact H) | (have H2_ := (Option.bind_some _ _).symm.trans H; rw [hy115]; with_reducible exact H2_) | (have H2_ := (Option.bind_some _ _).symm.trans H; with_reducible exact H2_) | with_reducible exact H | (rw [hy115]; exact H) | exact H
      have Ny115 := Aside0.mk hy115
      clear hy115
      by_cases c6 : x3_1.length < 5864062014805
      ·rw [if_pos c6] at H
       have LMc6 := Aside0.mk c6
       clear c6
       obtain ⟨y118, hy118⟩ : ∃ y_ : List (List Bool), y_ = (x3_1 ++ [y115]) := ⟨_, rfl⟩
       replace H : (spec_paTable.l0 k1 y118 (wrap64 (x4_1 + 1)) a0_0 l0_1) = some r := by first | (rw [hy118]; with_reducible exact H) | (have H2_ := (Option.bind_some _ _).symm.trans H; rw [hy118]; with_reducible exact H2_) | (have H2_ := (Option.bind_some _ _).symm.trans H; with_reducible exact H2_) | with_reducible exact H | (rw [hy118]; exact H) | exact H
       have Ny118 := Aside0.mk hy118
       clear hy118
       have H' := Aside0.mk H
       clear H
       have hcz7_0 : wr.cell? ⟨gb114, 0, none⟩ = some (.int .i64 a0_0) := (blk_cell BK114.out 0).trans rfl
       have hcz7_1 : wr.cell? ⟨gb114, 1, none⟩ = some (.slice A0_1 l0_1.length c0_1) := (blk_cell BK114.out 1).trans rfl
       have hfz7_0 := blk_frozen BK114.out 0
       have hfz7_1 := blk_frozen BK114.out 1
       go_wp2_with (first | ((with_reducible refine gate_dst (N := 16) rfl ?_); refine Kd.R_make Kd.bool _ 4 rfl (N := 16) rfl 101 _ _ rfl a0_0 rfl rfl Tryd.underlying101 (.bool false) 1 info4 rfl (by decide) (by omega) false (ok := fun _ => True) (okp := fun _ => True) rfl (fun _ hk => hk) trivial (of_decide_eq_true (by first | (with_reducible assumption) | assumption)) (Nat.le_trans (Nat.mul_le_mul_right _ (of_decide_eq_true (by first | (with_reducible assumption) | assumption) : a0_0.toNat ≤ 281474976710656)) (by omega)) (Below.refl _ _) (Nat.le_refl _) ?_; intro v116 w8 ho9 hb hg_ hnew_; clear hg_ hnew_; (first | rw [← Ny115.out] at ho9 | (simp only [Int.reduceToNat] at ho9; rw [← Ny115.out] at ho9)); have n0_ := Aside0.mk (Kd.S_elder' (by (with_reducible repeat (first | apply Kd.S_alloc | apply Kd.S_drewN | apply Kd.S_drew)); exact HO_3.out) (Kd.R_base ho9) hb); have n1_ := Aside0.mk (Kd.R_lower ho9 (below_size (by repeat (first | (with_reducible first | exact HB.out | apply below_alloc | apply pw_below_drewN | apply below_drew1 | refine below_set ?_ GE114.out) | exact HB.out)))); have n2_ := Aside0.mk (blk_below (g := gb114) (o := .cells #[.int .i64 a0_0, .slice A0_1 l0_1.length c0_1] 30 (0, 0)) (by (with_reducible repeat (first | refine blk_drewN ?_ _ | refine blk_drew ?_ | refine blk_alloc ?_ _)); exact BK114.out) hb); have n3_ := Aside0.mk (below_step (by repeat (first | (with_reducible first | exact HB.out | apply below_alloc | apply pw_below_drewN | apply below_drew1 | refine below_set ?_ GE114.out) | exact HB.out)) hb); clear HO_3; clear BK114; clear HB; have HO_3 := n0_; have HO117 := n1_; have BK114 := n2_; have HB := n3_; clear n0_ n1_ n2_ n3_; clear hb ho9; obtain ⟨Ao11, co11, eo11⟩ := Kd.R_slice HO117.out; subst eo11) | ((with_reducible refine gate_builtin (b := .append) (xs := #[.tmp 13, .tmp 17]) rfl ?_); at_builtin; refine Kd.S_append (Kd.slice 4 Kd.bool) (w0 := w) w.heap.size rfl (.tmp 13) (.tmp 17) 99 101 (.slice none 0 0) 24 rfl Tryd.underlying99 info101 rfl (by decide) (by omega) u3 x3_1 y115 [.slice Ao11 y115.length co11] (fun _ => True) (fun k_ => some k_ = (.slice Ao11 y115.length co11 : Value).ownBlock) rfl rfl ?aP (fun k_ hk_ => ((Kd.R_mono (ok' := fun k_ => ((fun _ => True)) k_ ∧ some k_ ≠ (u3 : Value).ownBlock) (Kd.R_apart' (HO117.out) (Kd.S_typed HO_3.out) (by decide)) (fun k_ hk => ⟨trivial, hk.2⟩))).1 k_ hk_.symm) ?aF ?aO ?aB ?aS ?aL ?_; (case aP => exact Kd.M_row (Kd.R_mono (Kd.R_tight rfl (Kd.R_mono (ok' := fun k_ => ((fun _ => True)) k_ ∧ some k_ ≠ (u3 : Value).ownBlock) (Kd.R_apart' (HO117.out) (Kd.S_typed HO_3.out) (by decide)) (fun k_ hk => ⟨trivial, hk.2⟩))) (fun _ h_ => h_))); (case aB => exact (by repeat (first | (with_reducible first | exact HB.out | apply below_alloc | apply pw_below_drewN | apply below_drew1 | refine below_set ?_ GE114.out) | exact HB.out))); (case aF => exact (fun _ _ => trivial)); (case aO => exact (by (with_reducible repeat (first | apply Kd.S_alloc | apply Kd.S_drewN | apply Kd.S_drew)); exact Kd.S_mono HO_3.out (fun k_ hk => ⟨trivial, fun e_ => hk.2 e_⟩))); (case aS => exact (below_size (by repeat (first | (with_reducible first | exact HB.out | apply below_alloc | apply pw_below_drewN | apply below_drew1 | refine below_set ?_ GE114.out) | exact HB.out)))); (case aL => have := LMc6.out; omega); intro v119 w10 ho hb hg hat; rw [← Ny118.out] at ho; have n0_ := Aside0.mk (blk_grown (g := gb114) (o := .cells #[.int .i64 a0_0, .slice A0_1 l0_1.length c0_1] 30 (0, 0)) (by (with_reducible repeat (first | refine blk_drewN ?_ _ | refine blk_drew ?_ | refine blk_alloc ?_ _)); exact BK114.out) hg (Kd.S_ne HO_3.out BK114.out (by decide))); have n1_ := Aside0.mk (hb); have n2_ := Aside0.mk (ho); clear BK114; clear HB; clear HO_3; clear HO117; have BK114 := n0_; have HB := n1_; have HO120 := n2_; clear n0_ n1_ n2_; clear ho hb hg hat))
       go_roundg k1
       case measure => have := HK1.out; omega
       case rel => exact ⟨(y118), (wrap64 (x4_1 + 1)), (by first | rfl | (simp; done) | (simp [*]; done)), H', ⟨by have := HK1.out; omega⟩, ⟨by (with_reducible repeat (first | apply Kd.S_alloc | apply Kd.S_drewN | apply Kd.S_drew)); exact HO120.out⟩, ⟨by (with_reducible repeat (first | refine blk_drewN ?_ _ | refine blk_drew ?_ | refine blk_alloc ?_ _)); exact BK114.out⟩, ⟨by repeat (first | (with_reducible first | exact HB.out | apply below_alloc | apply pw_below_drewN | apply below_drew1 | refine below_set ?_ GE114.out) | exact HB.out)⟩⟩
      ·rw [if_neg c6] at H
       exact absurd H (by simp)
     ·rw [if_neg c5] at H
      exact absurd H (by simp)
    ·rw [if_neg c4] at H
     exact absurd H (by simp)
   ·rw [if_neg c3] at H
    have c3b0 : decide (x4_1 < a0_0) = false := decide_eq_false c3
    clear c3
    have H' := Aside0.mk H
    clear H
    have hcz12_0 : wr.cell? ⟨gb114, 0, none⟩ = some (.int .i64 a0_0) := (blk_cell BK114.out 0).trans rfl
    have hcz12_1 : wr.cell? ⟨gb114, 1, none⟩ = some (.slice A0_1 l0_1.length c0_1) := (blk_cell BK114.out 1).trans rfl
    have hfz12_0 := blk_frozen BK114.out 0
    have hfz12_1 := blk_frozen BK114.out 1
    go_wp2
    go_loopg [22] k1 (fun kq v22 w' => ∃ (x3_2 : List (List Bool)) (x22_2 : Int), v22 = .int .i64 x22_2 ∧ Aside0 (spec_paTable.l1 kq x3_2 l0_1 (l0_1.length : Int) x22_2 = some r) ∧ Aside0 (kq ≤ k1) ∧ Aside0 (Kd.S (Kd.slice 4 Kd.bool) 101 w' w.heap.size (fun _ => True) u3 x3_2) ∧ Aside0 (w'.heap[gb114]? = some (.cells #[.int .i64 a0_0, (.slice A0_1 l0_1.length c0_1)] 30 (0, 0))) ∧ Aside0 (Below w.heap.size w w'))
    case atStart => exact ⟨(x3_1), (0), (by first | rfl | (simp; done) | (simp [*]; done)), H', ⟨Nat.le_refl _⟩, ⟨by (with_reducible repeat (first | apply Kd.S_alloc | apply Kd.S_drewN | apply Kd.S_drew)); exact HO_3.out⟩, ⟨by (with_reducible repeat (first | refine blk_drewN ?_ _ | refine blk_drew ?_ | refine blk_alloc ?_ _)); exact BK114.out⟩, ⟨by repeat (first | (with_reducible first | exact HB.out | apply below_alloc | apply pw_below_drewN | apply below_drew1 | refine below_set ?_ GE114.out) | exact HB.out)⟩⟩
    case round =>
     clear H'
     try clear p2
     try clear c3
     try clear c3b0
     try clear c4
     try clear c4b0
     try clear c4b1
     try clear c5
     try clear c5b0
     try clear c5b1
     try clear c6
     try clear p6
     try clear c7
     try clear hcz12_0
     try clear hcz12_1
     try clear hcz7_0
     try clear hcz7_1
     try clear hfz12_0
     try clear hfz12_1
     try clear hfz7_0
     try clear hfz7_1
     try clear p2
     obtain ⟨x3_2, x22_2, rfl, HA, HK2, HO_3, BK114, HB⟩ := hrel
     cases gk with
     | zero => exact absurd HA.out (by simp [spec_paTable.l1])
     | succ k2 =>
      have H := HA.out
      clear HA
      simp only [spec_paTable.l1] at H
      by_cases c13 : x22_2 < (l0_1.length : Int)
      ·rw [if_pos c13] at H
       have c13b0 : decide (x22_2 < (l0_1.length : Int)) = true := decide_eq_true c13
       clear c13
       by_cases c14 : 0 ≤ x22_2
       ·rw [if_pos c14] at H
        have c14b0 : decide (0 ≤ x22_2) = true := decide_eq_true c14
        clear c14
        by_cases c15 : x22_2 < (l0_1.length : Int)
        ·rw [if_pos c15] at H
         have c15b0 : decide (x22_2 < (l0_1.length : Int)) = true := decide_eq_true c15
         clear c15
         by_cases c16 : 0 ≤ ((rd_T98 l0_1 x22_2).f0)
         ·rw [if_pos c16] at H
          have c16b0 : decide (0 ≤ ((rd_T98 l0_1 x22_2).f0)) = true := decide_eq_true c16
          clear c16
          by_cases c17 : ((rd_T98 l0_1 x22_2).f0) < (x3_2.length : Int)
          ·rw [if_pos c17] at H
           have c17b0 : decide (((rd_T98 l0_1 x22_2).f0) < (x3_2.length : Int)) = true := decide_eq_true c17
           clear c17
           by_cases c18 : 0 ≤ ((rd_T98 l0_1 x22_2).f1)
           ·rw [if_pos c18] at H
            have c18b0 : decide (0 ≤ ((rd_T98 l0_1 x22_2).f1)) = true := decide_eq_true c18
            clear c18
            by_cases c19 : ((rd_T98 l0_1 x22_2).f1) < ((rd_L4 x3_2 ((rd_T98 l0_1 x22_2).f0)).length : Int)
            ·rw [if_pos c19] at H
             have c19b0 : decide (((rd_T98 l0_1 x22_2).f1) < ((rd_L4 x3_2 ((rd_T98 l0_1 x22_2).f0)).length : Int)) = true := decide_eq_true c19
             clear c19
             obtain ⟨y124, hy124⟩ : ∃ y_ : List Bool, y_ = ((rd_L4 x3_2 ((rd_T98 l0_1 x22_2).f0)).set (((rd_T98 l0_1 x22_2).f1) : Int).toNat true) := ⟨_, rfl⟩
             replace H : ((some (x3_2.set (((rd_T98 l0_1 x22_2).f0) : Int).toNat y124 : List (List Bool))).bind fun y126 => (if ((rd_T98 l0_1 x22_2).f1) < (x3_2.length : Int) then (if ((rd_T98 l0_1 x22_2).f0) < ((rd_L4 y126 ((rd_T98 l0_1 x22_2).f1)).length : Int) then (spec_paTable.l1 k2 (y126.set (((rd_T98 l0_1 x22_2).f1) : Int).toNat ((rd_L4 y126 ((rd_T98 l0_1 x22_2).f1)).set (((rd_T98 l0_1 x22_2).f0) : Int).toNat true)) l0_1 (l0_1.length : Int) (wrap64 (x22_2 + 1))) else (none)) else (none))) = some r := by first | (rw [hy124]; with_reducible exact H) | (have H2_ := (Option.bind_some _ _).symm.trans H; rw [hy124]; with_reducible exact H2_) | (have H2_ := (Option.bind_some _ _).symm.trans H; with_reducible exact H2_) | with_reducible exact H | (rw [hy124]; exact H) | exact H
             have Ny124 := Aside0.mk hy124
             clear hy124
             obtain ⟨y126, hy126⟩ : ∃ y_ : List (List Bool), y_ = (x3_2.set (((rd_T98 l0_1 x22_2).f0) : Int).toNat y124) := ⟨_, rfl⟩
             replace H : (if ((rd_T98 l0_1 x22_2).f1) < (x3_2.length : Int) then (if ((rd_T98 l0_1 x22_2).f0) < ((rd_L4 y126 ((rd_T98 l0_1 x22_2).f1)).length : Int) then (spec_paTable.l1 k2 (y126.set (((rd_T98 l0_1 x22_2).f1) : Int).toNat ((rd_L4 y126 ((rd_T98 l0_1 x22_2).f1)).set (((rd_T98 l0_1 x22_2).f0) : Int).toNat true)) l0_1 (l0_1.length : Int) (wrap64 (x22_2 + 1))) else (none)) else (none)) = some r := by first | (rw [hy126]; with_reducible exact H) | (have H2_ := (Option.bind_some _ _).symm.trans H; rw [hy126]; with_reducible exact H2_) | (have H2_ := (Option.bind_some _ _).symm.trans H; with_reducible exact H2_) | with_reducible exact H | (rw [hy126]; exact H) | exact H
             have Ny126 := Aside0.mk hy126
             clear hy126
             by_cases c21 : ((rd_T98 l0_1 x22_2).f1) < (x3_2.length : Int)
             ·rw [if_pos c21] at H
              have c21b0 : decide (((rd_T98 l0_1 x22_2).f1) < (x3_2.length : Int)) = true := decide_eq_true c21
              clear c21
              by_cases c22 : ((rd_T98 l0_1 x22_2).f0) < ((rd_L4 y126 ((rd_T98 l0_1 x22_2).f1)).length : Int)
              ·rw [if_pos c22] at H
               have c22b0 : decide (((rd_T98 l0_1 x22_2).f0) < ((rd_L4 y126 ((rd_T98 l0_1 x22_2).f1)).length : Int)) = true := decide_eq_true c22
               clear c22
               obtain ⟨y128, hy128⟩ : ∃ y_ : List Bool, y_ = ((rd_L4 y126 ((rd_T98 l0_1 x22_2).f1)).set (((rd_T98 l0_1 x22_2).f0) : Int).toNat true) := ⟨_, rfl⟩
               replace H : (spec_paTable.l1 k2 (y126.set (((rd_T98 l0_1 x22_2).f1) : Int).toNat y128) l0_1 (l0_1.length : Int) (wrap64 (x22_2 + 1))) = some r := by first | (rw [hy128]; with_reducible exact H) | (have H2_ := (Option.bind_some _ _).symm.trans H; rw [hy128]; with_reducible exact H2_) | (have H2_ := (Option.bind_some _ _).symm.trans H; with_reducible exact H2_) | with_reducible exact H | (rw [hy128]; exact H) | exact H
               have Ny128 := Aside0.mk hy128
               clear hy128
               obtain ⟨y130, hy130⟩ : ∃ y_ : List (List Bool), y_ = (y126.set (((rd_T98 l0_1 x22_2).f1) : Int).toNat y128) := ⟨_, rfl⟩
               replace H : (spec_paTable.l1 k2 y130 l0_1 (l0_1.length : Int) (wrap64 (x22_2 + 1))) = some r := by first | (rw [hy130]; with_reducible exact H) | (have H2_ := (Option.bind_some _ _).symm.trans H; rw [hy130]; with_reducible exact H2_) | (have H2_ := (Option.bind_some _ _).symm.trans H; with_reducible exact H2_) | with_reducible exact H | (rw [hy130]; exact H) | exact H
               have Ny130 := Aside0.mk hy130
               clear hy130
               have H' := Aside0.mk H
               clear H
               have p121 : 0 ≤ (x22_2 : Int) := of_decide_eq_true (by first | (with_reducible assumption) | assumption)
               have q121 : x22_2 < (l0_1.length : Int) := of_decide_eq_true (by first | (with_reducible assumption) | assumption)
               obtain ⟨ad121, e121, hx121_0, hx121_1⟩ := at_T98 HR0_1.out x22_2 p121 q121
               cases e121
               replace hx121_0 := (HB.out.cell (World.block_lt_of_cell? w _ hx121_0)).trans hx121_0
               replace hx121_1 := (HB.out.cell (World.block_lt_of_cell? w _ hx121_1)).trans hx121_1
               replace p121 := eq_true p121
               replace q121 := eq_true q121
               try go_wp2_with (first | ((with_reducible refine gate_dst (N := 6) rfl ?_); refine box_event ?hg (N := 6) ?hd (cs := #[.int .i64 0, .int .i64 0]) (t := 98) ?hr ?_; (case hd => rfl); (case hg => rfl); (case hr => first | (go_simp; done) | (go_simp; rfl)); intro gb122 hg w24 hbox hb; have n0_ := Aside0.mk (Kd.S_below (by (with_reducible repeat (first | apply Kd.S_alloc | apply Kd.S_drewN | apply Kd.S_drew)); exact HO_3.out) hb); have n1_ := Aside0.mk (blk_below (g := gb114) (o := .cells #[.int .i64 a0_0, .slice (some ad121) l0_1.length c0_1] 30 (0, 0)) (by (with_reducible repeat (first | refine blk_drewN ?_ _ | refine blk_drew ?_ | refine blk_alloc ?_ _)); exact BK114.out) hb); have n2_ := Aside0.mk (below_step (by repeat (first | (with_reducible first | exact HB.out | apply below_alloc | apply pw_below_drewN | apply below_drew1 | refine below_set ?_ GE114.out) | exact HB.out)) hb); have n3_ := Aside0.mk (hbox); have n4_ := Aside0.mk ((by rw [hg]; exact (below_size (by repeat (first | (with_reducible first | exact HB.out | apply below_alloc | apply pw_below_drewN | apply below_drew1 | refine below_set ?_ GE114.out) | exact HB.out))) : w.heap.size ≤ gb122)); have n5_ := Aside0.mk ((by rw [hg]; exact (below_size (by repeat (first | (with_reducible first | exact HB.out | apply below_alloc | apply pw_below_drewN | apply below_drew1 | refine below_set ?_ GE114.out) | exact HB.out))) : w.heap.size ≤ gb122)); have n6_ := Aside0.mk ((by rw [hg]; exact Nat.ne_of_lt (blk_lt (g := gb114) (o := .cells #[.int .i64 a0_0, .slice (some ad121) l0_1.length c0_1] 30 (0, 0)) (by (with_reducible repeat (first | refine blk_drewN ?_ _ | refine blk_drew ?_ | refine blk_alloc ?_ _)); exact BK114.out)) : gb114 ≠ gb122)); have n7_ := Aside0.mk ((by rw [hg]; exact Nat.ne_of_gt (blk_lt (g := gb114) (o := .cells #[.int .i64 a0_0, .slice (some ad121) l0_1.length c0_1] 30 (0, 0)) (by (with_reducible repeat (first | refine blk_drewN ?_ _ | refine blk_drew ?_ | refine blk_alloc ?_ _)); exact BK114.out)) : gb122 ≠ gb114)); clear HO_3; clear BK114; clear HB; have HO_3 := n0_; have BK114 := n1_; have HB := n2_; have BK122 := n3_; have GW122 := n4_; have GE122 := n5_; have NB114_122 := n6_; have NB122_114 := n7_; clear n0_ n1_ n2_ n3_ n4_ n5_ n6_ n7_; clear hb hbox hg; have hnb25 := NB122_114.out; have hnc25 := NB114_122.out; have hcz26_0 : w24.cell? ⟨gb122, 0, none⟩ = some (.int .i64 0) := (blk_cell BK122.out 0).trans rfl; have hcz26_1 : w24.cell? ⟨gb122, 1, none⟩ = some (.int .i64 0) := (blk_cell BK122.out 1).trans rfl; have hfz26_0 := blk_frozen BK122.out 0; have hfz26_1 := blk_frozen BK122.out 1))
               have n0_ : Aside0 (Kd.S (Kd.slice 4 Kd.bool) 101 ((w24.setCell ⟨gb122, 0, none⟩ (.int .i64 ((rd_T98 l0_1 x22_2).f0))).setCell ⟨gb122, 1, none⟩ (.int .i64 ((rd_T98 l0_1 x22_2).f1))) w.heap.size (fun _ => True) u3 x3_2) := ⟨by (with_reducible repeat (first | apply Kd.S_alloc | apply Kd.S_drewN | apply Kd.S_drew)); exact Kd.S_mono (Kd.S_far (p := ⟨gb122, 1, none⟩) (Kd.S_far (p := ⟨gb122, 0, none⟩) (Kd.S_types HO_3.out BK122.out (by decide)) (fun _ hk => hk.2) (.int .i64 ((rd_T98 l0_1 x22_2).f0))) (fun _ hk => hk.2) (.int .i64 ((rd_T98 l0_1 x22_2).f1))) (fun _ hk => trivial)⟩
               have n1_ : Aside0 (((w24.setCell ⟨gb122, 0, none⟩ (.int .i64 ((rd_T98 l0_1 x22_2).f0))).setCell ⟨gb122, 1, none⟩ (.int .i64 ((rd_T98 l0_1 x22_2).f1))).heap[gb114]? = some (.cells #[.int .i64 a0_0, .slice (some ad121) l0_1.length c0_1] 30 (0, 0))) := ⟨by (with_reducible repeat (first | refine blk_drewN ?_ _ | refine blk_drew ?_ | refine blk_alloc ?_ _)); refine blk_far ?_ NB114_122.out _; (with_reducible repeat (first | refine blk_drewN ?_ _ | refine blk_drew ?_ | refine blk_alloc ?_ _)); refine blk_far ?_ NB114_122.out _; (with_reducible repeat (first | refine blk_drewN ?_ _ | refine blk_drew ?_ | refine blk_alloc ?_ _)); exact BK114.out⟩
               have n2_ : Aside0 (((w24.setCell ⟨gb122, 0, none⟩ (.int .i64 ((rd_T98 l0_1 x22_2).f0))).setCell ⟨gb122, 1, none⟩ (.int .i64 ((rd_T98 l0_1 x22_2).f1))).heap[gb122]? = some (.cells #[.int .i64 ((rd_T98 l0_1 x22_2).f0), .int .i64 ((rd_T98 l0_1 x22_2).f1)] 98 (0, 0))) := ⟨by (with_reducible repeat (first | refine blk_drewN ?_ _ | refine blk_drew ?_ | refine blk_alloc ?_ _)); refine blk_put (cs := #[.int .i64 ((rd_T98 l0_1 x22_2).f0), .int .i64 0]) ?_ 1 _ rfl; (with_reducible repeat (first | refine blk_drewN ?_ _ | refine blk_drew ?_ | refine blk_alloc ?_ _)); refine blk_put (cs := #[.int .i64 0, .int .i64 0]) ?_ 0 _ rfl; (with_reducible repeat (first | refine blk_drewN ?_ _ | refine blk_drew ?_ | refine blk_alloc ?_ _)); exact BK122.out⟩
               have n3_ : Aside0 (Below w.heap.size w ((w24.setCell ⟨gb122, 0, none⟩ (.int .i64 ((rd_T98 l0_1 x22_2).f0))).setCell ⟨gb122, 1, none⟩ (.int .i64 ((rd_T98 l0_1 x22_2).f1)))) := ⟨by repeat (first | (with_reducible first | exact HB.out | apply below_alloc | apply pw_below_drewN | apply below_drew1 | refine below_set ?_ GE114.out | refine below_set ?_ GE122.out) | exact HB.out)⟩
               (try clear HO_3)
               (try clear BK114)
               (try clear BK122)
               (try clear HB)
               generalize ((w24.setCell ⟨gb122, 0, none⟩ (.int .i64 ((rd_T98 l0_1 x22_2).f0))).setCell ⟨gb122, 1, none⟩ (.int .i64 ((rd_T98 l0_1 x22_2).f1))) = w27 at n0_ n1_ n2_ n3_ ⊢
               have HO_3 := n0_
               have BK114 := n1_
               have BK122 := n2_
               have HB := n3_
               clear n0_ n1_ n2_ n3_
               have n0_ := Aside0.mk (Kd.S_drew HO_3.out)
               have n1_ := Aside0.mk (blk_drew BK114.out)
               have n2_ := Aside0.mk (blk_drew BK122.out)
               have n3_ := Aside0.mk (below_drew1 HB.out)
               clear HO_3
               clear BK114
               clear BK122
               clear HB
               have HO_3 := n0_
               have BK114 := n1_
               have BK122 := n2_
               have HB := n3_
               clear n0_ n1_ n2_ n3_
               obtain ⟨Ao29, co29, eo29⟩ := Kd.S_slice HO_3.out
               (first | subst eo29 | (injection eo29 with f1_ f2_ f3_; have f4_ := f1_.symm; have f5_ := f3_.symm; clear f1_ f2_ f3_; subst f4_; subst f5_))
               have p123 : 0 ≤ (((rd_T98 l0_1 x22_2).f0) : Int) := of_decide_eq_true (by first | (with_reducible assumption) | assumption)
               have q123 : ((rd_T98 l0_1 x22_2).f0) < (x3_2.length : Int) := of_decide_eq_true (by first | (with_reducible assumption) | assumption)
               obtain ⟨ad123, A123_0, c123_0, e123, hx123_0, hl123_0, hi123_0⟩ := at_L4 (Kd.S_reads' HO_3.out).2.2 ((rd_T98 l0_1 x22_2).f0) p123 q123
               cases e123
               obtain ⟨ce123, hce123, hMe123, hcc123⟩ := Kd.S_get HO_3.out [] ((rd_T98 l0_1 x22_2).f0) p123 (by first | exact q123 | exact of_decide_eq_true (by first | (with_reducible assumption) | assumption) | (have e_ := (Kd.S_reads' HO_3.out).1; omega))
               obtain ⟨ve123_0, rfl, ge123_0⟩ := hMe123
               have hv123_0 := hcc123 0 _ rfl
               rw [Nat.add_zero, show ((Kd.slice 4 Kd.bool)).sz = 1 from rfl, Nat.mul_one] at hv123_0
               replace hv123_0 := Option.some.inj (hv123_0.symm.trans hx123_0)
               rw [hv123_0] at ge123_0
               have HL123_0 := Aside0.mk (show Kd.R Kd.bool 4 _ _ _ _ (rd_L4 x3_2 ((rd_T98 l0_1 x22_2).f0)) from ge123_0)
               clear hv123_0 ge123_0
               have HX123_0 := Aside0.mk hx123_0
               clear hcc123 hce123
               have HR123_0 := Aside0.mk hi123_0
               have HC123_0 := Aside0.mk hl123_0
               clear hi123_0 hl123_0
               replace p123 := eq_true p123
               replace q123 := eq_true q123
               have p20 : 0 ≤ (((rd_T98 l0_1 x22_2).f1) : Int) := of_decide_eq_true (by first | (with_reducible assumption) | assumption)
               have q20 : (((rd_T98 l0_1 x22_2).f1) : Int) < (((rd_L4 x3_2 ((rd_T98 l0_1 x22_2).f0)).length : Int) : Int) := of_decide_eq_true (by first | (with_reducible assumption) | assumption)
               obtain ⟨go20, co20, eo20, gb20, gl20, cl20, HG20⟩ := Kd.R_form HL123_0.out (by omega)
               (first | cases eo20 | (injection eo20 with ea_ en_ ec_; (first | subst ea_ | (injection ea_ with ea_; subst ea_)); subst ec_; clear en_))
               have GB20 := Aside0.mk gb20
               have GG20 := Aside0.mk HG20
               clear gb20 gl20 HG20
               obtain ⟨hx20_0, hf20_0⟩ := Kd.R_celln false HL123_0.out (((rd_T98 l0_1 x22_2).f1) : Int) p20 q20
               replace p20 := eq_true p20
               replace q20 := eq_true q20
               have hq30 : (((rd_T98 l0_1 x22_2).f0) : Int) < (x3_2.length : Int) := (by have h_ : (((rd_T98 l0_1 x22_2).f0) : Int) < ((x3_2.length : Int) : Int) := of_decide_eq_true (by first | (with_reducible assumption) | assumption); first | exact h_ | (have e_ := (Kd.S_reads' HO_3.out).1; omega) | simpa only [List.length_set, List.length_set] using h_)
               obtain ⟨oki30, ce30, hcl30, hM30, hcc30, hok30, hbk30⟩ := Kd.S_borrow HO_3.out [] (((rd_T98 l0_1 x22_2).f0) : Int) (of_decide_eq_true (by first | (with_reducible assumption) | assumption)) (by first | exact hq30 | exact of_decide_eq_true (by first | (with_reducible assumption) | assumption) | (have e_ := (Kd.S_reads' HO_3.out).1; omega))
               obtain ⟨ve30_0, rfl, ge30_0⟩ := hM30
               have hv30 := hcc30 0 _ rfl
               rw [Nat.add_zero, show ((Kd.slice 4 Kd.bool)).sz = 1 from rfl, Nat.mul_one] at hv30
               replace hv30 := Option.some.inj (hv30.symm.trans HX123_0.out)
               subst hv30
               clear hcc30 hcl30
               replace ge30_0 := (show Kd.R Kd.bool 4 _ _ _ _ (rd_L4 x3_2 ((rd_T98 l0_1 x22_2).f0)) from ge30_0)
               have HP30 := Kd.R_putg ge30_0 (((rd_T98 l0_1 x22_2).f1) : Int) true
               rw [← Ny124.out] at HP30
               have HS30 := hbk30 HP30.2 (fun k_ e_ => by injection e_ with e_; subst e_; exact ge30_0.1 _ rfl) (x' := y124) (Kd.M_row HP30.1)
               rw [← Ny126.out] at HS30
               have HQ30 := Aside0.mk HS30
               clear HP30 HS30 hbk30 hok30
               refine start_ (n := 9) (S := fun w' => w'.cell? ⟨gb122, 0, none⟩ = some (.int .i64 ((rd_T98 l0_1 x22_2).f0)) ∧ w'.cell? ⟨gb122, 1, none⟩ = some (.int .i64 ((rd_T98 l0_1 x22_2).f1)) ∧ w'.cell? (ad123.add (((rd_T98 l0_1 x22_2).f0)).toNat) = some (.slice (some ⟨go20, 0, none⟩) (rd_L4 x3_2 ((rd_T98 l0_1 x22_2).f0)).length c123_0)) (ds := [8]) #[false, false, false, false, false, false, false, false, false] (by kernel_rfl) rfl rfl ⟨(blk_cell BK122.out 0).trans rfl, (blk_cell BK122.out 1).trans rfl, hx123_0⟩ (fun hHeld => ?_); refine with_tabW spec_paTable.tab9 spec_paTable.bits9 (fun HT_ HW_ => ?_)
               generalize w27.drew = w28 at HO_3 BK114 BK122 HB GG20 HL123_0 HQ30 HR123_0 HX123_0 hf20_0 hx123_0 hx20_0 hHeld ⊢
               refine pure_ (i := 0) (N := some 26) (v := ?_) (a' := ?_) #[true, false, false, false, false, false, false, false, false] rfl rfl (any_of HT_.out (by kernel_rfl)) (fun _ _ _ h => h) (Or.inl ⟨by rfl, ?_⟩) ?_ ?_
               rotate_left
               ·intro w'
                go_simp
                with_reducible rfl
               rotate_left
               ·simp only [Act.put, List.setIfInBounds_toArray, List.set_cons_zero, List.set_cons_succ, i64_w, i32_w]
                rfl
               refine pure_ (i := 1) (N := some 27) (v := ?_) (a' := ?_) #[true, true, false, false, false, false, false, false, false] rfl rfl (any_of HT_.out (by kernel_rfl)) (fun _ _ _ h => h) (Or.inl ⟨by rfl, ?_⟩) ?_ ?_
               rotate_left
               ·intro w'
                go_simp
                with_reducible rfl
               rotate_left
               ·simp only [Act.put, List.setIfInBounds_toArray, List.set_cons_zero, List.set_cons_succ, i64_w, i32_w]
                rfl
               refine pure_ (i := 5) (N := some 31) (v := ?_) (a' := ?_) #[true, true, false, false, false, true, false, false, false] rfl rfl (any_of HT_.out (by kernel_rfl)) (fun _ _ _ h => h) (Or.inl ⟨by rfl, ?_⟩) ?_ ?_
               rotate_left
               ·intro w'
                go_simp
                with_reducible rfl
               rotate_left
               ·simp only [Act.put, List.setIfInBounds_toArray, List.set_cons_zero, List.set_cons_succ, i64_w, i32_w]
                rfl
               refine take_ (i := 2) (N := some 28) (v := ?_) (a' := ?_) #[true, true, true, false, false, true, false, false, false] rfl rfl (take_ofW HT_.out HW_.out (by kernel_rfl)) (fun _ _ _ h => h) (Or.inl ⟨by rfl, ?_⟩) hHeld ?_ ?_
               rotate_left
               ·rintro w' ⟨s0, s1, s2⟩
                go_simp
                with_reducible rfl
               rotate_left
               ·simp only [Act.put, List.setIfInBounds_toArray, List.set_cons_zero, List.set_cons_succ, i64_w, i32_w]
                rfl
               refine pure_ (i := 3) (N := some 29) (v := ?_) (a' := ?_) #[true, true, true, true, false, true, false, false, false] rfl rfl (any_of HT_.out (by kernel_rfl)) (fun _ _ _ h => h) (Or.inl ⟨by rfl, ?_⟩) ?_ ?_
               rotate_left
               ·intro w'
                go_simp
                with_reducible rfl
               rotate_left
               ·simp only [Act.put, List.setIfInBounds_toArray, List.set_cons_zero, List.set_cons_succ, i64_w, i32_w]
                rfl
               refine take_ (i := 4) (N := some 30) (v := ?_) (a' := ?_) #[true, true, true, true, true, true, false, false, false] rfl rfl (take_ofW HT_.out HW_.out (by kernel_rfl)) (fun _ _ _ h => h) (Or.inl ⟨by rfl, ?_⟩) hHeld ?_ ?_
               rotate_left
               ·rintro w' ⟨s0, s1, s2⟩
                go_simp
                with_reducible rfl
               rotate_left
               ·simp only [Act.put, List.setIfInBounds_toArray, List.set_cons_zero, List.set_cons_succ, i64_w, i32_w]
                rfl
               refine take_ (i := 6) (N := some 32) (v := ?_) (a' := ?_) #[true, true, true, true, true, true, true, false, false] rfl rfl (take_ofW HT_.out HW_.out (by kernel_rfl)) (fun _ _ _ h => h) (Or.inl ⟨by rfl, ?_⟩) hHeld ?_ ?_
               rotate_left
               ·rintro w' ⟨s0, s1, s2⟩
                go_simp
                with_reducible rfl
               rotate_left
               ·simp only [Act.put, List.setIfInBounds_toArray, List.set_cons_zero, List.set_cons_succ, i64_w, i32_w]
                rfl
               refine pure_ (i := 7) (N := some 33) (v := ?_) (a' := ?_) #[true, true, true, true, true, true, true, true, false] rfl rfl (any_of HT_.out (by kernel_rfl)) (fun _ _ _ h => h) (Or.inl ⟨by rfl, ?_⟩) ?_ ?_
               rotate_left
               ·intro w'
                go_simp
                with_reducible rfl
               rotate_left
               ·simp only [Act.put, List.setIfInBounds_toArray, List.set_cons_zero, List.set_cons_succ, i64_w, i32_w]
                rfl
               refine last_ (i := 8) (N := none) #[true, true, true, true, true, true, true, true, true] rfl rfl (one_of HT_.out (by kernel_rfl)) (by decide) (fun K hK => ?_)
               refine skip_ (w1 := ?_) (by rfl) rfl ?_ ?_
               rotate_left
               ·go_simp
                rfl
               refine hK.out _ _ ?_
               clear hK K
               refine done_ (done_of HT_.out (by kernel_rfl)) ?_
               try go_wp2
               have n0_ : Aside0 (Kd.S (Kd.slice 4 Kd.bool) 101 (w28.setCell ⟨go20, (((rd_T98 l0_1 x22_2).f1) : Int).toNat, none⟩ (.bool true)) w.heap.size (fun _ => True) (.slice (some ad123) x3_2.length co29) y126) := ⟨by (with_reducible repeat (first | apply Kd.S_alloc | apply Kd.S_drewN | apply Kd.S_drew)); exact HQ30.out⟩
               have n1_ : Aside0 ((w28.setCell ⟨go20, (((rd_T98 l0_1 x22_2).f1) : Int).toNat, none⟩ (.bool true)).heap[gb114]? = some (.cells #[.int .i64 a0_0, .slice (some ad121) l0_1.length c0_1] 30 (0, 0))) := ⟨by (with_reducible repeat (first | refine blk_drewN ?_ _ | refine blk_drew ?_ | refine blk_alloc ?_ _)); refine blk_far ?_ (by have h_ := Kd.R_ne HL123_0.out BK114.out (by decide); intro e_; exact h_ (by rw [e_]; rfl)) _; (with_reducible repeat (first | refine blk_drewN ?_ _ | refine blk_drew ?_ | refine blk_alloc ?_ _)); exact BK114.out⟩
               have n2_ : Aside0 ((w28.setCell ⟨go20, (((rd_T98 l0_1 x22_2).f1) : Int).toNat, none⟩ (.bool true)).heap[gb122]? = some (.cells #[.int .i64 ((rd_T98 l0_1 x22_2).f0), .int .i64 ((rd_T98 l0_1 x22_2).f1)] 98 (0, 0))) := ⟨by (with_reducible repeat (first | refine blk_drewN ?_ _ | refine blk_drew ?_ | refine blk_alloc ?_ _)); refine blk_far ?_ (by have h_ := Kd.R_ne HL123_0.out BK122.out (by decide); intro e_; exact h_ (by rw [e_]; rfl)) _; (with_reducible repeat (first | refine blk_drewN ?_ _ | refine blk_drew ?_ | refine blk_alloc ?_ _)); exact BK122.out⟩
               have n3_ : Aside0 (Below w.heap.size w (w28.setCell ⟨go20, (((rd_T98 l0_1 x22_2).f1) : Int).toNat, none⟩ (.bool true))) := ⟨by repeat (first | (with_reducible first | exact HB.out | apply below_alloc | apply pw_below_drewN | apply below_drew1 | refine below_set ?_ GB20.out | refine below_set ?_ GE114.out | refine below_set ?_ GE122.out) | exact HB.out)⟩
               (try clear HO_3)
               (try clear BK114)
               (try clear BK122)
               (try clear HB)
               generalize (w28.setCell ⟨go20, (((rd_T98 l0_1 x22_2).f1) : Int).toNat, none⟩ (.bool true)) = w32 at n0_ n1_ n2_ n3_ ⊢
               have HO_3 := n0_
               have BK114 := n1_
               have BK122 := n2_
               have HB := n3_
               clear n0_ n1_ n2_ n3_
               have n0_ := Aside0.mk (Kd.S_drew HO_3.out)
               have n1_ := Aside0.mk (blk_drew BK114.out)
               have n2_ := Aside0.mk (blk_drew BK122.out)
               have n3_ := Aside0.mk (below_drew1 HB.out)
               clear HO_3
               clear BK114
               clear BK122
               clear HB
               have HO_3 := n0_
               have BK114 := n1_
               have BK122 := n2_
               have HB := n3_
               clear n0_ n1_ n2_ n3_
               have p127 : 0 ≤ (((rd_T98 l0_1 x22_2).f1) : Int) := of_decide_eq_true (by first | (with_reducible assumption) | assumption)
               have q127 : ((rd_T98 l0_1 x22_2).f1) < (y126.length : Int) := (by have h_ : (((rd_T98 l0_1 x22_2).f1) : Int) < ((x3_2.length : Int) : Int) := of_decide_eq_true (by first | (with_reducible assumption) | assumption); first | (have e_ := (Kd.S_reads' HO_3.out).1; omega) | simpa only [Ny126.out, List.length_set] using h_)
               have ql127 : ((((rd_T98 l0_1 x22_2).f1) : Int) < ((x3_2.length : Int) : Int)) = True := eq_true (of_decide_eq_true (by first | (with_reducible assumption) | assumption))
               obtain ⟨ad127, A127_0, c127_0, e127, hx127_0, hl127_0, hi127_0⟩ := at_L4 (Kd.S_reads' HO_3.out).2.2 ((rd_T98 l0_1 x22_2).f1) p127 q127
               obtain rfl : ad123 = ad127 := (by injection e127)
               obtain ⟨ce127, hce127, hMe127, hcc127⟩ := Kd.S_get HO_3.out [] ((rd_T98 l0_1 x22_2).f1) p127 (by first | exact q127 | exact of_decide_eq_true (by first | (with_reducible assumption) | assumption) | (have e_ := (Kd.S_reads' HO_3.out).1; omega))
               obtain ⟨ve127_0, rfl, ge127_0⟩ := hMe127
               have hv127_0 := hcc127 0 _ rfl
               rw [Nat.add_zero, show ((Kd.slice 4 Kd.bool)).sz = 1 from rfl, Nat.mul_one] at hv127_0
               replace hv127_0 := Option.some.inj (hv127_0.symm.trans hx127_0)
               rw [hv127_0] at ge127_0
               have HL127_0 := Aside0.mk (show Kd.R Kd.bool 4 _ _ _ _ (rd_L4 y126 ((rd_T98 l0_1 x22_2).f1)) from ge127_0)
               clear hv127_0 ge127_0
               have HX127_0 := Aside0.mk hx127_0
               clear hcc127 hce127
               have HR127_0 := Aside0.mk hi127_0
               have HC127_0 := Aside0.mk hl127_0
               clear hi127_0 hl127_0
               replace p127 := eq_true p127
               replace q127 := eq_true q127
               have p23 : 0 ≤ (((rd_T98 l0_1 x22_2).f0) : Int) := of_decide_eq_true (by first | (with_reducible assumption) | assumption)
               have q23 : (((rd_T98 l0_1 x22_2).f0) : Int) < (((rd_L4 y126 ((rd_T98 l0_1 x22_2).f1)).length : Int) : Int) := of_decide_eq_true (by first | (with_reducible assumption) | assumption)
               obtain ⟨go23, co23, eo23, gb23, gl23, cl23, HG23⟩ := Kd.R_form HL127_0.out (by omega)
               (first | cases eo23 | (injection eo23 with ea_ en_ ec_; (first | subst ea_ | (injection ea_ with ea_; subst ea_)); subst ec_; clear en_))
               have GB23 := Aside0.mk gb23
               have GG23 := Aside0.mk HG23
               clear gb23 gl23 HG23
               obtain ⟨hx23_0, hf23_0⟩ := Kd.R_celln false HL127_0.out (((rd_T98 l0_1 x22_2).f0) : Int) p23 q23
               replace p23 := eq_true p23
               replace q23 := eq_true q23
               have hq34 : (((rd_T98 l0_1 x22_2).f1) : Int) < (y126.length : Int) := (by have h_ : (((rd_T98 l0_1 x22_2).f1) : Int) < ((x3_2.length : Int) : Int) := of_decide_eq_true (by first | (with_reducible assumption) | assumption); first | exact h_ | (have e_ := (Kd.S_reads' HO_3.out).1; omega) | simpa only [Ny126.out, List.length_set] using h_)
               obtain ⟨oki34, ce34, hcl34, hM34, hcc34, hok34, hbk34⟩ := Kd.S_borrow HO_3.out [] (((rd_T98 l0_1 x22_2).f1) : Int) (of_decide_eq_true (by first | (with_reducible assumption) | assumption)) (by first | exact hq34 | exact of_decide_eq_true (by first | (with_reducible assumption) | assumption) | (have e_ := (Kd.S_reads' HO_3.out).1; omega))
               obtain ⟨ve34_0, rfl, ge34_0⟩ := hM34
               have hv34 := hcc34 0 _ rfl
               rw [Nat.add_zero, show ((Kd.slice 4 Kd.bool)).sz = 1 from rfl, Nat.mul_one] at hv34
               replace hv34 := Option.some.inj (hv34.symm.trans HX127_0.out)
               subst hv34
               clear hcc34 hcl34
               replace ge34_0 := (show Kd.R Kd.bool 4 _ _ _ _ (rd_L4 y126 ((rd_T98 l0_1 x22_2).f1)) from ge34_0)
               have HP34 := Kd.R_putg ge34_0 (((rd_T98 l0_1 x22_2).f0) : Int) true
               rw [← Ny128.out] at HP34
               have HS34 := hbk34 HP34.2 (fun k_ e_ => by injection e_ with e_; subst e_; exact ge34_0.1 _ rfl) (x' := y128) (Kd.M_row HP34.1)
               rw [← Ny130.out] at HS34
               have HQ34 := Aside0.mk HS34
               clear HP34 HS34 hbk34 hok34
               refine start_ (n := 9) (S := fun w' => w'.cell? ⟨gb122, 0, none⟩ = some (.int .i64 ((rd_T98 l0_1 x22_2).f0)) ∧ w'.cell? ⟨gb122, 1, none⟩ = some (.int .i64 ((rd_T98 l0_1 x22_2).f1)) ∧ w'.cell? (ad123.add (((rd_T98 l0_1 x22_2).f1)).toNat) = some (.slice (some ⟨go23, 0, none⟩) (rd_L4 y126 ((rd_T98 l0_1 x22_2).f1)).length c127_0)) (ds := [8]) #[false, false, false, false, false, false, false, false, false] (by kernel_rfl) rfl rfl ⟨(blk_cell BK122.out 0).trans rfl, (blk_cell BK122.out 1).trans rfl, hx127_0⟩ (fun hHeld => ?_); refine with_tabW spec_paTable.tab10 spec_paTable.bits10 (fun HT_ HW_ => ?_)
               generalize w32.drew = w33 at HO_3 BK114 BK122 HB GG23 HL127_0 HQ30 HQ34 HR127_0 HX127_0 hf23_0 hx127_0 hx23_0 hHeld ⊢
               refine pure_ (i := 0) (N := some 34) (v := ?_) (a' := ?_) #[true, false, false, false, false, false, false, false, false] rfl rfl (any_of HT_.out (by kernel_rfl)) (fun _ _ _ h => h) (Or.inl ⟨by rfl, ?_⟩) ?_ ?_
               rotate_left
               ·intro w'
                go_simp
                with_reducible rfl
               rotate_left
               ·simp only [Act.put, List.setIfInBounds_toArray, List.set_cons_zero, List.set_cons_succ, i64_w, i32_w]
                rfl
               refine pure_ (i := 1) (N := some 35) (v := ?_) (a' := ?_) #[true, true, false, false, false, false, false, false, false] rfl rfl (any_of HT_.out (by kernel_rfl)) (fun _ _ _ h => h) (Or.inl ⟨by rfl, ?_⟩) ?_ ?_
               rotate_left
               ·intro w'
                go_simp
                with_reducible rfl
               rotate_left
               ·simp only [Act.put, List.setIfInBounds_toArray, List.set_cons_zero, List.set_cons_succ, i64_w, i32_w]
                rfl
               refine pure_ (i := 5) (N := some 39) (v := ?_) (a' := ?_) #[true, true, false, false, false, true, false, false, false] rfl rfl (any_of HT_.out (by kernel_rfl)) (fun _ _ _ h => h) (Or.inl ⟨by rfl, ?_⟩) ?_ ?_
               rotate_left
               ·intro w'
                go_simp
                with_reducible rfl
               rotate_left
               ·simp only [Act.put, List.setIfInBounds_toArray, List.set_cons_zero, List.set_cons_succ, i64_w, i32_w]
                rfl
               refine take_ (i := 2) (N := some 36) (v := ?_) (a' := ?_) #[true, true, true, false, false, true, false, false, false] rfl rfl (take_ofW HT_.out HW_.out (by kernel_rfl)) (fun _ _ _ h => h) (Or.inl ⟨by rfl, ?_⟩) hHeld ?_ ?_
               rotate_left
               ·rintro w' ⟨s0, s1, s2⟩
                go_simp
                with_reducible rfl
               rotate_left
               ·simp only [Act.put, List.setIfInBounds_toArray, List.set_cons_zero, List.set_cons_succ, i64_w, i32_w]
                rfl
               refine pure_ (i := 3) (N := some 37) (v := ?_) (a' := ?_) #[true, true, true, true, false, true, false, false, false] rfl rfl (any_of HT_.out (by kernel_rfl)) (fun _ _ _ h => h) (Or.inl ⟨by rfl, ?_⟩) ?_ ?_
               rotate_left
               ·intro w'
                go_simp
                with_reducible rfl
               rotate_left
               ·simp only [Act.put, List.setIfInBounds_toArray, List.set_cons_zero, List.set_cons_succ, i64_w, i32_w]
                rfl
               refine take_ (i := 4) (N := some 38) (v := ?_) (a' := ?_) #[true, true, true, true, true, true, false, false, false] rfl rfl (take_ofW HT_.out HW_.out (by kernel_rfl)) (fun _ _ _ h => h) (Or.inl ⟨by rfl, ?_⟩) hHeld ?_ ?_
               rotate_left
               ·rintro w' ⟨s0, s1, s2⟩
                go_simp
                with_reducible rfl
               rotate_left
               ·simp only [Act.put, List.setIfInBounds_toArray, List.set_cons_zero, List.set_cons_succ, i64_w, i32_w]
                rfl
               refine take_ (i := 6) (N := some 40) (v := ?_) (a' := ?_) #[true, true, true, true, true, true, true, false, false] rfl rfl (take_ofW HT_.out HW_.out (by kernel_rfl)) (fun _ _ _ h => h) (Or.inl ⟨by rfl, ?_⟩) hHeld ?_ ?_
               rotate_left
               ·rintro w' ⟨s0, s1, s2⟩
                go_simp
                with_reducible rfl
               rotate_left
               ·simp only [Act.put, List.setIfInBounds_toArray, List.set_cons_zero, List.set_cons_succ, i64_w, i32_w]
                rfl
               refine pure_ (i := 7) (N := some 41) (v := ?_) (a' := ?_) #[true, true, true, true, true, true, true, true, false] rfl rfl (any_of HT_.out (by kernel_rfl)) (fun _ _ _ h => h) (Or.inl ⟨by rfl, ?_⟩) ?_ ?_
               rotate_left
               ·intro w'
                go_simp
                with_reducible rfl
               rotate_left
               ·simp only [Act.put, List.setIfInBounds_toArray, List.set_cons_zero, List.set_cons_succ, i64_w, i32_w]
                rfl
               refine last_ (i := 8) (N := none) #[true, true, true, true, true, true, true, true, true] rfl rfl (one_of HT_.out (by kernel_rfl)) (by decide) (fun K hK => ?_)
               refine skip_ (w1 := ?_) (by rfl) rfl ?_ ?_
               rotate_left
               ·go_simp
                rfl
               refine hK.out _ _ ?_
               clear hK K
               refine done_ (done_of HT_.out (by kernel_rfl)) ?_
               try go_wp2
               go_roundg k2
               case measure => have := HK1.out; have := HK2.out; omega
               case rel => exact ⟨(y130), (wrap64 (x22_2 + 1)), (by first | rfl | (simp; done) | (simp [*]; done)), H', ⟨by have := HK1.out; have := HK2.out; omega⟩, ⟨by (with_reducible repeat (first | apply Kd.S_alloc | apply Kd.S_drewN | apply Kd.S_drew)); exact HQ34.out⟩, ⟨by (with_reducible repeat (first | refine blk_drewN ?_ _ | refine blk_drew ?_ | refine blk_alloc ?_ _)); refine blk_far ?_ (by have h_ := Kd.R_ne HL127_0.out BK114.out (by decide); intro e_; exact h_ (by rw [e_]; rfl)) _; (with_reducible repeat (first | refine blk_drewN ?_ _ | refine blk_drew ?_ | refine blk_alloc ?_ _)); exact BK114.out⟩, ⟨by repeat (first | (with_reducible first | exact HB.out | apply below_alloc | apply pw_below_drewN | apply below_drew1 | refine below_set ?_ GB23.out | refine below_set ?_ GE114.out | refine below_set ?_ GE122.out) | exact HB.out)⟩⟩
              ·rw [if_neg c22] at H
               exact absurd H (by simp)
             ·rw [if_neg c21] at H
              exact absurd H (by simp)
            ·rw [if_neg c19] at H
             exact absurd H (by simp)
           ·rw [if_neg c18] at H
            exact absurd H (by simp)
          ·rw [if_neg c17] at H
           exact absurd H (by simp)
         ·rw [if_neg c16] at H
          exact absurd H (by simp)
        ·rw [if_neg c15] at H
         exact absurd H (by simp)
       ·rw [if_neg c14] at H
        exact absurd H (by simp)
      ·rw [if_neg c13] at H
       have c13b0 : decide (x22_2 < (l0_1.length : Int)) = false := decide_eq_false c13
       clear c13
       obtain rfl := Option.some.inj H
       go_wp2
       go_ret
       exact ⟨_, by first | rfl | (simp [errW_none, errW_some] <;> rfl) | (simp [*, errW_none, errW_some] <;> rfl), by (with_reducible repeat (first | apply Kd.S_alloc | apply Kd.S_drewN | apply Kd.S_drew)); exact HO_3.out, by repeat (first | (with_reducible first | exact HB.out | apply below_alloc | apply pw_below_drewN | apply below_drew1 | refine below_set ?_ GE114.out) | exact HB.out)⟩
end Go.Proofs.YtopahhcojncgaaaDoor.G
namespace Go.Proofs.YtopahhcojncgaaaDoor.G
open Go.RowKit Go.Proofs.YtopahhcojncgaaaDoorW.PrintWords Go.Proofs.YtopahhcojncgaaaDoorW.PrintLast Go.Proofs.YtopahhcojncgaaaDoorW.PrintMore
set_option linter.unusedVariables false
set_option linter.unusedSimpArgs false
theorem l1Has_ev8 (l : List Nat) (hl : l.length ≤ 1000) (b : Nat) : Ev (fun k => spec_l1Has.f k (ints l) (b : Int)) (decide (b ∈ l)) := by
 have key : ∀ (d i : Nat), i + d = l.length → Ev (fun k => spec_l1Has.l0 k (b : Int) (ints l) ((ints l).length : Int) (i : Int)) (decide (b ∈ l.drop i)) := by
  intro d
  induction d with
  | zero =>
   intro i hi
   rw [List.drop_of_length_le (by omega)]
   exact Ev.step (fun k => spec_l1Has.l0.eq_2 ..) (Ev.ifn (by rw [ints_len]; omega) (Ev.pure _))
  | succ d ih =>
   intro i hi
   have hil : i < l.length := by omega
   refine Ev.step (fun k => spec_l1Has.l0.eq_2 ..) (Ev.ifp (by rw [ints_len]; omega) (Ev.ifp (by omega) (Ev.ifp (by rw [ints_len]; omega) ?_)))
   rw [rd_ints8 l i hil, List.getD_eq_getElem?_getD, List.getElem?_eq_getElem hil, Option.getD_some, List.drop_eq_getElem_cons hil]
   by_cases e : l[i] = b
   ·refine Ev.ifp (by omega) (Ev.cong ?_ (Ev.pure true))
    simp [e]
   ·refine Ev.ifn (by omega) ?_
    rw [w64 (by omega) (by omega), show ((i : Int) + 1) = ((i + 1 : Nat) : Int) by omega]
    refine Ev.cong ?_ (ih (i + 1) (by omega))
    rw [decide_eq_decide, List.mem_cons]
    exact ⟨fun h => .inr h, fun h => h.elim (fun h2 => absurd h2.symm e) id⟩
 have := key l.length 0 (by omega)
 rw [List.drop_zero] at this
 exact this
def fullT (T : List (List Bool)) (p : List Nat) : Bool := (List.range T.length).all (fun a => decide (a ∈ p) || !joins T p a)
theorem grFull_ev (T : List (List Bool)) (n : Nat) (hT : T.length = n) (hsq : ∀ r ∈ T, r.length = n) (hn : n ≤ 1000) (l : List Nat) (hl : l.length ≤ 1000) (hlt : ∀ x ∈ l, x < n) : Ev (fun k => spec_grFull.f k T (ints l)) (fullT T l) := by
 have key : ∀ (d i : Nat), i + d = n → Ev (fun k => spec_grFull.l0 k T (ints l) (T.length : Int) (i : Int)) ((List.range' i d).all (fun a => decide (a ∈ l) || !joins T l a)) := by
  intro d
  induction d with
  | zero =>
   intro i hi
   exact Ev.step (fun k => spec_grFull.l0.eq_2 ..) (Ev.ifn (by omega) (Ev.pure _))
  | succ d ih =>
   intro i hi
   rw [List.range'_succ, List.all_cons]
   refine Ev.step (fun k => spec_grFull.l0.eq_2 ..) (Ev.ifp (by omega) (Ev.bind (l1Has_ev8 l hl i) ?_))
   have e : wrap64 ((i : Int) + 1) = ((i + 1 : Nat) : Int) := by rw [w64 (by omega) (by omega)]; omega
   by_cases hm : i ∈ l
   ·refine Ev.ifp (by simpa using hm) ?_
    rw [e, decide_eq_true hm, Bool.true_or, Bool.true_and]
    exact ih (i + 1) (by omega)
   ·refine Ev.ifn (by simpa using hm) (Ev.bind (grJoins_ev T n hT hsq hn l hl hlt i (by omega)) ?_)
    rw [decide_eq_false hm, Bool.false_or]
    cases hj : joins T l i
    ·refine Ev.ifn (by decide) ?_
     rw [e]
     simpa using ih (i + 1) (by omega)
    ·exact Ev.ifp rfl (Ev.pure _)
 have := key n 0 (by omega)
 unfold fullT
 rw [hT, List.range_eq_range']
 exact this
theorem glF_mem8 (T : List (List Bool)) (n : Nat) (hT : T.length = n) : ∀ (m : Nat) (p : List Nat) (i : Nat), (∀ x ∈ p, x < n) → ∀ g ∈ glF T m p i, (∀ x ∈ g, x < n) ∧ g.length ≤ p.length + m := by
 intro m
 induction m with
 | zero => intro p i _ g hg; cases hg
 | succ m ih =>
  intro p i hp g hg
  rcases List.mem_cons.1 hg with rfl | hg
  ·exact ⟨hp, by omega⟩
  ·obtain ⟨a, ha, hg⟩ := List.mem_flatMap.1 hg
   have := List.mem_range.1 (List.mem_filter.1 ha).1
   have h2 := ih (p ++ [a]) (a + 1) (fun x hx => (List.mem_append.1 hx).elim (hp x) (fun h => by rw [List.mem_singleton.1 h]; omega)) g hg
   refine ⟨h2.1, ?_⟩
   have := h2.2
   rw [List.length_append, List.length_singleton] at this
   omega
def RO (w : World) (v : Value) (r : List (List Int)) : Prop := ∃ A c, v = .slice A r.length c ∧ r.length ≤ c ∧ (Kd.slice 3 (Kd.int .i64)).C w A r.length r
abbrev FX (w : World) : Kd (List Int) := Kd.fixed (Kd.slice 3 (Kd.int .i64)) w
theorem RO.of {wG W : World} {base : Nat} {ok : Nat → Prop} {v : Value} {r : List (List Int)} (h : (FX wG).R 58 W base ok v r) (hb : Below wG.heap.size wG W) : RO W v r := by
 obtain ⟨A, c, e, hl, hC⟩ := Kd.R_reads h
 refine ⟨A, c, e, hl, hC.1, hC.2.1, fun hn => ?_⟩
 obtain ⟨ad, e2, h2⟩ := hC.2.2 hn
 refine ⟨ad, e2, fun j p hj => ?_⟩
 obtain ⟨cs, h3, h4, h5⟩ := h2 j p hj
 exact ⟨cs, h3, (Kd.slice 3 (Kd.int .i64)).K_below hb h4, h5⟩
def grFl (T : List (List Bool)) (L : List (List Nat)) : List (List Int) := (L.filter (fullT T)).map ints
theorem pw_cell_below_of {w W : World} (h : Below w.heap.size w W) {a : Addr} {v : Value} (hc : w.cell? a = some v) : W.cell? a = some v := pw_cell_below h hc
theorem grFl_snoc (T L g) : grFl T (L ++ [g]) = if fullT T g = true then grFl T L ++ [ints g] else grFl T L := by
 unfold grFl
 rw [List.filter_append]
 split
 ·rw [List.filter_cons_of_pos (by assumption)]; simp
 ·rw [List.filter_cons_of_neg (by assumption)]; simp
theorem grFl_len (T L) : (grFl T L).length ≤ L.length := by unfold grFl; rw [List.length_map]; exact List.length_filter_le _ _
theorem take_succ_g {α : Type} (l : List α) (d : α) (k : Nat) (h : k < l.length) : l.take (k + 1) = l.take k ++ [l.getD k d] := by
 rw [List.take_succ_eq_append_getElem h, List.getD_eq_getElem?_getD, List.getElem?_eq_getElem h]; rfl
def spec_grFulls.f (k : Nat) (a0_0 : Int) (l0_1 : List S98) : Option (List (List Int)) := (spec_paTable.f k a0_0 l0_1).bind fun T => if T.length ≤ 16 ∧ (∀ r ∈ T, r.length = T.length) then some (grFl T (glF T (T.length + 1) [] 0)) else none
set_option maxHeartbeats 4000000 in
set_option maxRecDepth 100000 in
theorem spec_grFulls.calls (k : Nat) (a0_0 : Int) (A0_1 : Option Addr) (c0_1 : Nat) (l0_1 : List (S98)) (r : List (List Int)) (w : World) (hr0_1 : Kd.C k98 w A0_1 l0_1.length l0_1) (hc0_1 : l0_1.length ≤ c0_1) (h : spec_grFulls.f k a0_0 l0_1 = some r) :
  Calls Tryd.prog 82 #[.agg #[.int .i64 a0_0, .slice A0_1 l0_1.length c0_1]] w fun e w' => ∃ v0_ : Value, e = .returned (v0_) ∧ RO w' v0_ r ∧ Below w.heap.size w w' := by
 have hu30 := Tryd.underlying30
 unfold spec_grFulls.f at h
 obtain ⟨T, hT, h2⟩ := Option.bind_eq_some_iff.mp h
 clear h
 split at h2
 ·rename_i hc
  obtain ⟨hT1, hsq⟩ := hc
  have HR0 := Aside0.mk hr0_1
  have HC0 := Aside0.mk hc0_1
  have HT := Aside0.mk hT
  have Hsq := Aside0.mk hsq
  have H := Aside0.mk (Option.some.inj h2)
  obtain ⟨L, hL⟩ : ∃ L, glF T (T.length + 1) [] 0 = L := ⟨_, rfl⟩
  have hcnt := (glF_both T T.length rfl T.length [] 0 (Nat.zero_le _)).2 T.length (Nat.zero_le _) (Nat.le_refl _)
  rw [← glF_step, hL, Nat.sub_self, Nat.pow_zero] at hcnt
  have hpw : 2 ^ (T.length - 0) ≤ 65536 := Nat.pow_le_pow_right (n := 2) (by decide) (show T.length - 0 ≤ 16 by omega)
  have hLl : L.length ≤ 65536 := by omega
  have Hmem := Aside0.mk (fun g (hg : g ∈ L) => glF_mem8 T T.length rfl (T.length + 1) [] 0 (fun x hx => absurd hx List.not_mem_nil) g (by rw [hL]; exact hg))
  have HGR : Aside0 (spec_grGroups.f T = some (L.map ints)) := ⟨by unfold spec_grGroups.f; rw [if_pos ⟨hT1, hsq⟩, hL]⟩
  rw [hL] at H
  clear hr0_1 hc0_1 hT hsq h2 hcnt hpw hL
  have hml : (L.map ints).length = L.length := List.length_map ..
  go_enter Tryd.func82, Tryd.ntmps82
  go_wp2_with (first | ((with_reducible refine gate_dst (N := 1) rfl ?_); refine box_event ?hg (N := 1) ?hd (cs := #[.int .i64 a0_0, .slice A0_1 l0_1.length c0_1]) (t := 30) ?hr ?_; (case hd => rfl); (case hg => rfl); (case hr => first | (go_simp; done) | (go_simp; rfl)); intro gb hg w1 hbox hb; have B1 := Aside0.mk hb; have BK := Aside0.mk hbox; have hk0 : w1.cell? ⟨gb, 0, none⟩ = some (.int .i64 a0_0) := (blk_cell BK.out 0).trans rfl; have hk1 : w1.cell? ⟨gb, 1, none⟩ = some (.slice A0_1 l0_1.length c0_1) := (blk_cell BK.out 1).trans rfl; clear hg hbox hb) | ((with_reducible refine gate_callee (f := 79) rfl ?_); (with_reducible refine gate_dst (N := 8) rfl ?_); refine goesL_ (some 8) rfl rfl Tryd.func79 (by kernel_rfl) rfl #[.agg #[.int .i64 a0_0, .slice A0_1 l0_1.length c0_1]] rfl (by (try simp only [List.map_toArray, List.map_cons, List.map_nil]); first | done | rfl) ?_; (with_reducible refine (spec_paTable.calls k a0_0 A0_1 c0_1 l0_1 T w1 (Kd.C_below HR0.out B1.out) HC0.out HT.out).mono ?_); rintro e wt_ ⟨v_, rfl, ho, hb⟩; refine ⟨_, rfl, ?_⟩; obtain ⟨A3, c3, e3⟩ := Kd.S_slice ho; subst e3; have CT := Aside0.mk (Kd.S_reads' ho); have B3 := Aside0.mk (below_step B1.out hb); clear ho hb B1 BK hk0 hk1) | ((with_reducible refine gate_callee (f := 133) rfl ?_); (with_reducible refine gate_dst (N := 10) rfl ?_); refine goesL_ (some 10) rfl rfl Tryd.func133 (by kernel_rfl) rfl #[.slice A3 T.length c3] rfl (by (try simp only [List.map_toArray, List.map_cons, List.map_nil]); first | done | rfl) ?_; (with_reducible refine (spec_grGroups.calls A3 c3 T (L.map ints) wt_ CT.out.2.2 CT.out.2.1 HGR.out).mono ?_); rintro e wg_ ⟨v_, rfl, ho, hb⟩; refine ⟨_, rfl, ?_⟩; obtain ⟨A4, c4, e4⟩ := Kd.S_slice ho; rw [hml] at e4; subst e4; have CG := Aside0.mk (show (Kd.slice 3 (Kd.int .i64)).C wg_ A4 L.length (L.map ints) from by have h_ := (Kd.S_reads' ho).2.2; rw [hml] at h_; exact h_); have CTg := Aside0.mk (And.intro (Kd.C_below CT.out.2.2 hb) CT.out.2.1); have B4 := Aside0.mk (below_step B3.out hb); clear ho hb B3 CT))
  go_loopw [4, 12] (fun v4 v12 wr => ∃ i : Nat, i ≤ L.length ∧ v12 = .int .i64 i ∧ Aside0 ((FX wg_).R 58 wr wg_.heap.size (fun _ => True) v4 (grFl T (L.take i)) ∧ Below wg_.heap.size wg_ wr)) (fun _ v12 _ => L.length - (intOf v12).toNat)
  case atStart => exact ⟨0, Nat.zero_le _, rfl, ⟨⟨by show (FX wg_).R 58 wg_ wg_.heap.size (fun _ => True) (.slice none 0 0) []; exact Kd.R_nil _ _ _ _ _, Below.refl _ _⟩⟩⟩
  case round =>
   rename_i u4 _ _
   obtain ⟨i, hi, rfl, I⟩ := hrel
   by_cases hil : i < L.length
   ·have hdec : decide (i < L.length) = true := by simp; omega
    have Hst := Aside0.mk (grFl_snoc T (L.take i) (L.getD i []))
    rw [← take_succ_g L [] i hil] at Hst
    have hgl := grFl_len T (L.take i)
    rw [List.length_take] at hgl
    have hgm : L.getD i [] ∈ L := by rw [List.getD_eq_getElem?_getD, List.getElem?_eq_getElem hil]; exact List.getElem_mem hil
    have Hg := Aside0.mk (Hmem.out _ hgm)
    have hgl2 := Hg.out.2
    rw [List.length_nil] at hgl2
    obtain ⟨adg, cs, eA, hcl, hK, hcell⟩ := Kd.C_get CG.out [] (i : Int) (by omega) (by omega)
    subst eA
    have hat : (L.map ints).getD (i : Int).toNat [] = ints (L.getD i []) := by
     rw [Int.toNat_natCast, List.getD_eq_getElem?_getD, List.getElem?_map, List.getElem?_eq_getElem hil, List.getD_eq_getElem?_getD, List.getElem?_eq_getElem hil]; rfl
    rw [hat] at hK
    have HK := Aside0.mk hK
    obtain ⟨Ag, cg, rfl, hlg, hCg⟩ := hK
    have hx := hcell 0 _ rfl
    rw [Int.toNat_natCast, show (Kd.slice 3 (Kd.int .i64)).sz = 1 from rfl, Nat.mul_one, Nat.add_zero] at hx
    have hxr : wr.cell? (adg.add i) = some (.slice Ag (ints (L.getD i [])).length cg) := pw_cell_below_of I.out.2 hx
    have HCg := Aside0.mk (And.intro hCg hlg)
    obtain ⟨KF, hKF⟩ := grFull_ev T T.length rfl Hsq.out (by omega) (L.getD i []) (by omega) Hg.out.1
    have hF := hKF KF (Nat.le_refl _)
    clear hKF hcell hcl hgm hCg hlg hx hat
    generalize hgg : L.getD i [] = gl at hF Hst HK hxr HCg hgl2
    have ILEN := ints_len gl
    have HK9 : Aside0 ((Kd.slice 3 (Kd.int .i64)).K wg_ (ints gl) [.slice Ag gl.length cg]) := ⟨⟨Ag, cg, by rw [ILEN], HCg.out.2, HCg.out.1⟩⟩
    rw [ILEN] at hxr HCg
    clear HK
    clear hgg
    obtain ⟨Au, cu, eu⟩ := Kd.R_slice I.out.1
    subst eu
    by_cases hfu : fullT T gl = true
    ·rw [hfu] at hF
     have HF := Aside0.mk hF
     have Hfu := Aside0.mk hfu
     clear hF hfu
     go_wp2_with (first | ((with_reducible refine gate_callee (f := 134) rfl ?_); (with_reducible refine gate_dst (N := 18) rfl ?_); refine goesL_ (some 18) rfl rfl Tryd.func134 (by kernel_rfl) rfl #[.slice A3 T.length c3, .slice Ag gl.length cg] rfl (by (try simp only [List.map_toArray, List.map_cons, List.map_nil]); first | done | rfl) ?_; (with_reducible refine ((ILEN ▸ spec_grFull.calls KF A3 c3 T Ag cg (ints gl) true wr (Kd.C_below CTg.out.1 I.out.2) CTg.out.2 (by rw [ints_len]; exact Kd.C_below HCg.out.1 I.out.2) (by rw [ints_len]; exact HCg.out.2) HF.out)).mono ?_); rintro e w5_ ⟨rfl, hd⟩; refine ⟨_, rfl, ?_⟩; have J := Aside0.mk (And.intro (Kd.R_below I.out.1 hd.below) (below_step I.out.2 hd.below)); clear hd I hxr) | ((with_reducible refine gate_builtin (b := .append) (xs := #[.tmp 19, .tmp 21]) rfl ?_); at_builtin; refine Kd.R_append (FX wg_) (w0 := wg_) wg_.heap.size rfl (.tmp 19) (.tmp 21) 39 58 (.slice none 0 0) 24 rfl Tryd.underlying39 info58 rfl (Nat.succ_pos 0) (by decide) _ (grFl T (L.take i)) (ints gl) [.slice Ag gl.length cg] (fun _ => True) (fun _ => False) rfl rfl ?aP (fun _ hk => hk.elim) ?aF ?aO J.out.2 J.out.2.size ?aL ?_; (case aP => exact HK9.out); (case aF => exact (fun _ _ => trivial)); (case aO => exact J.out.1); (case aL => omega); intro v8 w8_ ho hb hg hat; have I9 := Aside0.mk (And.intro ho hb); clear ho hb hg hat J))
     go_roundw
     case rel => exact ⟨i + 1, by omega, by go_num, ⟨by rw [Hst.out, if_pos Hfu.out]; exact I9.out⟩⟩
     case measure => simp [intOf]; omega
    ·replace hfu := Bool.eq_false_iff.mpr hfu
     rw [hfu] at hF
     have HF := Aside0.mk hF
     have Hfu := Aside0.mk hfu
     clear hF hfu
     go_wp2_with (first | ((with_reducible refine gate_callee (f := 134) rfl ?_); (with_reducible refine gate_dst (N := 18) rfl ?_); refine goesL_ (some 18) rfl rfl Tryd.func134 (by kernel_rfl) rfl #[.slice A3 T.length c3, .slice Ag gl.length cg] rfl (by (try simp only [List.map_toArray, List.map_cons, List.map_nil]); first | done | rfl) ?_; (with_reducible refine ((ILEN ▸ spec_grFull.calls KF A3 c3 T Ag cg (ints gl) false wr (Kd.C_below CTg.out.1 I.out.2) CTg.out.2 (by rw [ints_len]; exact Kd.C_below HCg.out.1 I.out.2) (by rw [ints_len]; exact HCg.out.2) HF.out)).mono ?_); rintro e w5_ ⟨rfl, hd⟩; refine ⟨_, rfl, ?_⟩; have J := Aside0.mk (And.intro (Kd.R_below I.out.1 hd.below) (below_step I.out.2 hd.below)); have I9 := J))
     go_roundw
     case rel => exact ⟨i + 1, by omega, by go_num, ⟨by rw [Hst.out, if_neg (by rw [Hfu.out]; decide)]; exact I9.out⟩⟩
     case measure => simp [intOf]; omega
   ·have hie : i = L.length := by omega
    subst hie
    have hdec : decide (L.length < L.length) = false := by simp
    rw [List.take_length, H.out] at I
    go_wp2
    go_ret
    exact ⟨_, rfl, RO.of I.out.1 I.out.2, below_then B4.out B4.out.size I.out.2⟩
 ·cases h2
def spec_AllGroups.f (k : Nat) (a0_0 : Int) (l0_1 : List S98) : Option (List (List Int) × Bool) := (spec_paGood.f k a0_0 l0_1).bind fun g => if g = true then (spec_grFulls.f k a0_0 l0_1).bind fun r => some (r, true) else some ([], false)
theorem RO.nil (w : World) : RO w (.slice none 0 0) [] := ⟨none, 0, rfl, Nat.le_refl _, Kd.C_nil _ _⟩
set_option maxHeartbeats 4000000 in
set_option maxRecDepth 100000 in
theorem spec_AllGroups.calls (k : Nat) (a0_0 : Int) (A0_1 : Option Addr) (c0_1 : Nat) (l0_1 : List (S98)) (r1 : List (List Int)) (r2 : Bool) (w : World) (hr0_1 : Kd.C k98 w A0_1 l0_1.length l0_1) (hc0_1 : l0_1.length ≤ c0_1) (h : spec_AllGroups.f k a0_0 l0_1 = some (r1, r2)) :
  Calls Tryd.prog 28 #[.agg #[.int .i64 a0_0, .slice A0_1 l0_1.length c0_1]] w fun e w' => ∃ v0_ : Value, e = .returned (.tuple #[v0_, .bool r2]) ∧ RO w' v0_ r1 ∧ Below w.heap.size w w' := by
 have hu30 := Tryd.underlying30
 unfold spec_AllGroups.f at h
 obtain ⟨g, hg, h2⟩ := Option.bind_eq_some_iff.mp h
 have HR0 := Aside0.mk hr0_1
 have HC0 := Aside0.mk hc0_1
 have HG := Aside0.mk hg
 clear h hr0_1 hc0_1 hg
 cases g with
 | false =>
  rw [if_neg (by decide)] at h2
  injection h2 with h2
  injection h2 with e1 e2
  subst e1 e2
  go_enter Tryd.func28, Tryd.ntmps28
  go_wp2_with (first | ((with_reducible refine gate_dst (N := 1) rfl ?_); refine box_event ?hg (N := 1) ?hd (cs := #[.int .i64 a0_0, .slice A0_1 l0_1.length c0_1]) (t := 30) ?hr ?_; (case hd => rfl); (case hg => rfl); (case hr => first | (go_simp; done) | (go_simp; rfl)); intro gb hg w1 hbox hb; have B1 := Aside0.mk hb; have BK := Aside0.mk hbox; have hk0 : w1.cell? ⟨gb, 0, none⟩ = some (.int .i64 a0_0) := (blk_cell BK.out 0).trans rfl; have hk1 : w1.cell? ⟨gb, 1, none⟩ = some (.slice A0_1 l0_1.length c0_1) := (blk_cell BK.out 1).trans rfl; clear hg hbox hb) | ((with_reducible refine gate_callee (f := 66) rfl ?_); (with_reducible refine gate_dst (N := 5) rfl ?_); refine goesL_ (some 5) rfl rfl Tryd.func66 (by kernel_rfl) rfl #[.agg #[.int .i64 a0_0, .slice A0_1 l0_1.length c0_1]] rfl (by (try simp only [List.map_toArray, List.map_cons, List.map_nil]); first | done | rfl) ?_; (with_reducible refine (spec_paGood.calls k a0_0 A0_1 c0_1 l0_1 false w1 (Kd.C_below HR0.out B1.out) HC0.out HG.out).mono ?_); rintro e w5_ ⟨rfl, hb⟩; refine ⟨_, rfl, ?_⟩; have B2 := Aside0.mk (below_step B1.out hb); clear hb B1 BK hk0 hk1))
  go_ret2
  exact ⟨_, rfl, RO.nil _, B2.out⟩
 | true =>
  rw [if_pos rfl] at h2
  obtain ⟨r, hr, h3⟩ := Option.bind_eq_some_iff.mp h2
  injection h3 with h3
  injection h3 with e1 e2
  subst e1 e2
  have HF := Aside0.mk hr
  clear h2 hr
  go_enter Tryd.func28, Tryd.ntmps28
  go_wp2_with (first | ((with_reducible refine gate_dst (N := 1) rfl ?_); refine box_event ?hg (N := 1) ?hd (cs := #[.int .i64 a0_0, .slice A0_1 l0_1.length c0_1]) (t := 30) ?hr ?_; (case hd => rfl); (case hg => rfl); (case hr => first | (go_simp; done) | (go_simp; rfl)); intro gb hg w1 hbox hb; have B1 := Aside0.mk hb; have BK := Aside0.mk hbox; have hk0 : w1.cell? ⟨gb, 0, none⟩ = some (.int .i64 a0_0) := (blk_cell BK.out 0).trans rfl; have hk1 : w1.cell? ⟨gb, 1, none⟩ = some (.slice A0_1 l0_1.length c0_1) := (blk_cell BK.out 1).trans rfl; clear hg hbox hb) | ((with_reducible refine gate_callee (f := 66) rfl ?_); (with_reducible refine gate_dst (N := 5) rfl ?_); refine goesL_ (some 5) rfl rfl Tryd.func66 (by kernel_rfl) rfl #[.agg #[.int .i64 a0_0, .slice A0_1 l0_1.length c0_1]] rfl (by (try simp only [List.map_toArray, List.map_cons, List.map_nil]); first | done | rfl) ?_; (with_reducible refine (spec_paGood.calls k a0_0 A0_1 c0_1 l0_1 true w1 (Kd.C_below HR0.out B1.out) HC0.out HG.out).mono ?_); rintro e w2_ ⟨rfl, hb⟩; refine ⟨_, rfl, ?_⟩; have B2 := Aside0.mk (below_step B1.out hb); replace BK := Aside0.mk (blk_below BK.out hb); clear hb B1 hk0 hk1; have hk0 : w2_.cell? ⟨gb, 0, none⟩ = some (.int .i64 a0_0) := (blk_cell BK.out 0).trans rfl; have hk1 : w2_.cell? ⟨gb, 1, none⟩ = some (.slice A0_1 l0_1.length c0_1) := (blk_cell BK.out 1).trans rfl) | ((with_reducible refine gate_callee (f := 82) rfl ?_); (with_reducible refine gate_dst (N := 8) rfl ?_); refine goesL_ (some 8) rfl rfl Tryd.func82 (by kernel_rfl) rfl #[.agg #[.int .i64 a0_0, .slice A0_1 l0_1.length c0_1]] rfl (by (try simp only [List.map_toArray, List.map_cons, List.map_nil]); first | done | rfl) ?_; (with_reducible refine (spec_grFulls.calls k a0_0 A0_1 c0_1 l0_1 r w2_ (Kd.C_below HR0.out B2.out) HC0.out HF.out).mono ?_); rintro e w5_ ⟨v_, rfl, hro, hb⟩; refine ⟨_, rfl, ?_⟩; have B3 := Aside0.mk (below_step B2.out hb); have RO3 := Aside0.mk hro; clear hb hro B2 BK hk0 hk1))
  go_ret2
  exact ⟨_, rfl, RO3.out, B3.out⟩
end Go.Proofs.YtopahhcojncgaaaDoor.G
namespace Go.Proofs.YtopahhcojncgaaaDoor.G
open Go.RowKit Go.Proofs.YtopahhcojncgaaaDoorW.PrintWords Go.Proofs.YtopahhcojncgaaaDoorW.PrintLast Go.Proofs.YtopahhcojncgaaaDoorW.PrintMore
attribute [local go_sem] max2_int min2_int max_two min_two max_three min_three max_four min_four
set_option linter.unusedVariables false
set_option linter.unusedSimpArgs false
def impl_Party_table.l0 : Nat → List Int → List (S98) → Int → Int → Option (List Int)
 | 0, _, _, _, _ => none
 | k + 1, x3, x10, x11, x12 => if x12 < x11 then (if 0 ≤ x12 then (if x12 < (x10.length : Int) then (if 0 ≤ ((rd_T98 x10 x12).f0) then (if ((rd_T98 x10 x12).f0) < (x3.length : Int) then (if 0 ≤ ((rd_T98 x10 x12).f1) then ((some (x3.set (((rd_T98 x10 x12).f0) : Int).toNat (Go.bits .or .u16 (rd x3 ((rd_T98 x10 x12).f0)) (shl .u16 1 ((rd_T98 x10 x12).f1))) : List Int)).bind fun y178 => (if ((rd_T98 x10 x12).f1) < (x3.length : Int) then (impl_Party_table.l0 k (y178.set (((rd_T98 x10 x12).f1) : Int).toNat (Go.bits .or .u16 (rd y178 ((rd_T98 x10 x12).f1)) (shl .u16 1 ((rd_T98 x10 x12).f0)))) x10 x11 (wrap64 (x12 + 1))) else (none))) else (none)) else (none)) else (none)) else (none)) else (none)) else (some x3)
def impl_Party_table.f (k : Nat) (a0_0 : Int) (l0_1 : List (S98)) : Option (List Int) := if 0 ≤ a0_0 then (if (a0_0 : Int).toNat ≤ 140737488355328 then (impl_Party_table.l0 k (List.replicate (a0_0 : Int).toNat 0) l0_1 (l0_1.length : Int) 0) else (none)) else (none)
theorem impl_Party_table.mono_l : ∀ k, (∀ y0 y1 y2 y3, LeO (impl_Party_table.l0 k y0 y1 y2 y3) (impl_Party_table.l0 (k + 1) y0 y1 y2 y3))
 | 0 => fun _ _ _ _ r h => by simp [impl_Party_table.l0] at h
 | k + 1 => by
  have ih0 := impl_Party_table.mono_l k
  ·intro y0 y1 y2 y3
   unfold impl_Party_table.l0
   repeat' first
   | (with_reducible exact ih0 _ _ _ _)
   | (with_reducible exact LeO.refl _)
   | (with_reducible exact LeO.none _)
   | (with_reducible refine LeO.ite ?_ ?_)
   | (with_reducible refine LeO.bind ?_ (fun _ => ?_))
   | exact ih0 _ _ _ _
   | exact LeO.none _
   | refine LeO.ite ?_ ?_
   | refine LeO.bind ?_ (fun _ => ?_)
theorem impl_Party_table.mono : ∀ a0 a1 k, LeO (impl_Party_table.f k a0 a1) (impl_Party_table.f (k + 1) a0 a1) := by
 intro a0 a1 k
 have ih0 := impl_Party_table.mono_l k
 unfold impl_Party_table.f
 repeat' first
   | (with_reducible exact ih0 _ _ _ _)
   | (with_reducible exact LeO.refl _)
   | (with_reducible exact LeO.none _)
   | (with_reducible refine LeO.ite ?_ ?_)
   | (with_reducible refine LeO.bind ?_ (fun _ => ?_))
   | exact ih0 _ _ _ _
   | exact LeO.none _
   | refine LeO.ite ?_ ?_
   | refine LeO.bind ?_ (fun _ => ?_)
def impl_Party_table.T5 : Bool × List (List Nat × List Nat) := (true, [([], []), ([], []), ([1], [1]), ([0, 2], [0, 2]), ([3], [3]), ([], []), ([5], [5]), ([6], [6]), ([4, 7], [4, 7]), ([0, 2, 0, 1, 2, 3, 4, 5, 6, 7, 8], [0, 2]), ([9, 8, 0, 1, 2, 3, 4, 5, 6, 7, 8], [8, 9])])
def impl_Party_table.B5 : List Nat := [0, 0, 2, 7, 15, 0, 32, 96, 255, 511, 1023]
theorem impl_Party_table.tab5 : rtab .any (opsOf Tryd.f69 5) = impl_Party_table.T5 := by kernel_rfl
theorem impl_Party_table.bits5 : waitsOk impl_Party_table.T5.2 impl_Party_table.B5 = true := by kernel_rfl
def impl_Party_table.T6 : Bool × List (List Nat × List Nat) := (true, [([], []), ([], []), ([1], [1]), ([0, 2], [0, 2]), ([3], [3]), ([], []), ([5], [5]), ([6], [6]), ([4, 7], [4, 7]), ([0, 2, 0, 1, 2, 3, 4, 5, 6, 7, 8], [0, 2]), ([9, 8, 0, 1, 2, 3, 4, 5, 6, 7, 8], [8, 9])])
def impl_Party_table.B6 : List Nat := [0, 0, 2, 7, 15, 0, 32, 96, 255, 511, 1023]
theorem impl_Party_table.tab6 : rtab .any (opsOf Tryd.f69 6) = impl_Party_table.T6 := by kernel_rfl
theorem impl_Party_table.bits6 : waitsOk impl_Party_table.T6.2 impl_Party_table.B6 = true := by kernel_rfl
set_option maxHeartbeats 8000000 in
set_option maxRecDepth 100000 in
theorem impl_Party_table.calls (k : Nat) (a0_0 : Int) (A0_1 : Option Addr) (c0_1 : Nat) (l0_1 : List (S98)) (r : List Int) (w : World) (hr0_1 : Kd.C k98 w A0_1 l0_1.length l0_1) (hc0_1 : l0_1.length ≤ c0_1) (h : impl_Party_table.f k a0_0 l0_1 = some r) :
  Calls Tryd.prog 69 #[.agg #[.int .i64 a0_0, .slice A0_1 l0_1.length c0_1]] w fun e w' => ∃ v0_ : Value, e = .returned (v0_) ∧ Kd.R (Kd.int .u16) 91 w' w.heap.size (fun _ => True) v0_ r ∧ Below w.heap.size w w' := by
 have hu30 := Tryd.underlying30
 have hu98 := Tryd.underlying98
 have HR0_1 := Aside0.mk hr0_1
 have HC0_1 := Aside0.mk hc0_1
 clear hr0_1 hc0_1
 have HB := Aside0.mk (Below.refl w.heap.size w)
 have H : (if 0 ≤ a0_0 then (if (a0_0 : Int).toNat ≤ 140737488355328 then (impl_Party_table.l0 k (List.replicate (a0_0 : Int).toNat 0) l0_1 (l0_1.length : Int) 0) else (none)) else (none)) = some r := h
 clear h
 by_cases c2 : 0 ≤ a0_0
 ·rw [if_pos c2] at H
  have c2b0 := eq_true c2
  have c2b1 : decide (0 ≤ a0_0) = true := decide_eq_true c2
  clear c2
  by_cases c3 : (a0_0 : Int).toNat ≤ 140737488355328
  ·rw [if_pos c3] at H
   have c3b0 := eq_true c3
   have c3b1 : decide ((a0_0 : Int).toNat ≤ 140737488355328) = true := decide_eq_true c3
   clear c3
   obtain ⟨y172, hy172⟩ : ∃ y_ : List Int, y_ = (List.replicate (a0_0 : Int).toNat 0) := ⟨_, rfl⟩
   replace H : (impl_Party_table.l0 k y172 l0_1 (l0_1.length : Int) 0) = some r := by first | (rw [hy172]; with_reducible exact H) | (have H2_ := (Option.bind_some _ _).symm.trans H; rw [hy172]; with_reducible exact H2_) | (have H2_ := (Option.bind_some _ _).symm.trans H; with_reducible exact H2_) | with_reducible exact H | (rw [hy172]; exact H) | exact H
   have Ny172 := Aside0.mk hy172
   clear hy172
   have H' := Aside0.mk H
   clear H
   go_enter Tryd.func69, Tryd.ntmps69
   go_wp2_with (first | ((with_reducible refine gate_dst (N := 1) rfl ?_); refine box_event ?hg (N := 1) ?hd (cs := #[.int .i64 a0_0, .slice A0_1 l0_1.length c0_1]) (t := 30) ?hr ?_; (case hd => rfl); (case hg => rfl); (case hr => first | (go_simp; done) | (go_simp; rfl)); intro gb171 hg w4 hbox hb; have n0_ := Aside0.mk (below_step (by repeat (first | (with_reducible first | exact HB.out | apply below_alloc | apply pw_below_drewN | apply below_drew1) | exact HB.out)) hb); have n1_ := Aside0.mk (hbox); have n2_ := Aside0.mk ((by rw [hg]; exact (below_size (by repeat (first | (with_reducible first | exact HB.out | apply below_alloc | apply pw_below_drewN | apply below_drew1) | exact HB.out))) : w.heap.size ≤ gb171)); have n3_ := Aside0.mk ((by rw [hg]; exact (below_size (by repeat (first | (with_reducible first | exact HB.out | apply below_alloc | apply pw_below_drewN | apply below_drew1) | exact HB.out))) : w.heap.size ≤ gb171)); clear HB; have HB := n0_; have BK171 := n1_; have GW171 := n2_; have GE171 := n3_; clear n0_ n1_ n2_ n3_; clear hb hbox hg; have hcz5_0 : w4.cell? ⟨gb171, 0, none⟩ = some (.int .i64 a0_0) := (blk_cell BK171.out 0).trans rfl; have hcz5_1 : w4.cell? ⟨gb171, 1, none⟩ = some (.slice A0_1 l0_1.length c0_1) := (blk_cell BK171.out 1).trans rfl; have hfz5_0 := blk_frozen BK171.out 0; have hfz5_1 := blk_frozen BK171.out 1) | ((with_reducible refine gate_dst (N := 8) rfl ?_); refine Kd.R_make (Kd.int .u16) _ 91 rfl (N := 8) rfl 88 _ _ rfl a0_0 rfl rfl Tryd.underlying88 (.int .u16 0) 2 info91 rfl (by decide) (by omega) 0 (ok := fun _ => True) (okp := fun _ => True) rfl (fun _ hk => hk) trivial (of_decide_eq_true (by first | (with_reducible assumption) | assumption)) (Nat.le_trans (Nat.mul_le_mul_right _ (of_decide_eq_true (by first | (with_reducible assumption) | assumption) : a0_0.toNat ≤ 140737488355328)) (by omega)) (Below.refl _ _) (Nat.le_refl _) ?_; intro v173 w6 ho7 hb hg_ hnew_; clear hg_ hnew_; (first | rw [← Ny172.out] at ho7 | (simp only [Int.reduceToNat] at ho7; rw [← Ny172.out] at ho7)); have n0_ := Aside0.mk (Kd.R_lower ho7 (below_size (by repeat (first | (with_reducible first | exact HB.out | apply below_alloc | apply pw_below_drewN | apply below_drew1 | refine below_set ?_ GE171.out) | exact HB.out)))); have n1_ := Aside0.mk (blk_below (g := gb171) (o := .cells #[.int .i64 a0_0, .slice A0_1 l0_1.length c0_1] 30 (0, 0)) (by (with_reducible repeat (first | refine blk_drewN ?_ _ | refine blk_drew ?_ | refine blk_alloc ?_ _)); exact BK171.out) hb); have n2_ := Aside0.mk (below_step (by repeat (first | (with_reducible first | exact HB.out | apply below_alloc | apply pw_below_drewN | apply below_drew1 | refine below_set ?_ GE171.out) | exact HB.out)) hb); clear BK171; clear HB; have HO174 := n0_; have BK171 := n1_; have HB := n2_; clear n0_ n1_ n2_; clear hb ho7; have hcz8_0 : w6.cell? ⟨gb171, 0, none⟩ = some (.int .i64 a0_0) := (blk_cell BK171.out 0).trans rfl; have hcz8_1 : w6.cell? ⟨gb171, 1, none⟩ = some (.slice A0_1 l0_1.length c0_1) := (blk_cell BK171.out 1).trans rfl; have hfz8_0 := blk_frozen BK171.out 0; have hfz8_1 := blk_frozen BK171.out 1))
   go_loopg [12] k (fun kq v12 w' => ∃ (x3_1 : List Int) (x12_1 : Int), v12 = .int .i64 x12_1 ∧ Aside0 (impl_Party_table.l0 kq x3_1 l0_1 (l0_1.length : Int) x12_1 = some r) ∧ Aside0 (kq ≤ k) ∧ Aside0 (Kd.R (Kd.int .u16) 91 w' w.heap.size (fun _ => True) v173 x3_1) ∧ Aside0 (w'.heap[gb171]? = some (.cells #[.int .i64 a0_0, (.slice A0_1 l0_1.length c0_1)] 30 (0, 0))) ∧ Aside0 (Below w.heap.size w w'))
   case atStart => exact ⟨(y172), (0), (by first | rfl | (simp; done) | (simp [*]; done)), H', ⟨Nat.le_refl _⟩, ⟨by (with_reducible repeat (first | apply Kd.R_alloc | apply Kd.R_drewN | apply Kd.R_drew)); exact HO174.out⟩, ⟨by (with_reducible repeat (first | refine blk_drewN ?_ _ | refine blk_drew ?_ | refine blk_alloc ?_ _)); exact BK171.out⟩, ⟨by repeat (first | (with_reducible first | exact HB.out | apply below_alloc | apply pw_below_drewN | apply below_drew1 | refine below_set ?_ GE171.out) | exact HB.out)⟩⟩
   case round =>
    clear H'
    try clear c2
    try clear c2b0
    try clear c2b1
    try clear p2
    try clear c3
    try clear c3b0
    try clear c3b1
    try clear c6
    try clear hcz5_0
    try clear hcz5_1
    try clear hcz8_0
    try clear hcz8_1
    try clear hfz5_0
    try clear hfz5_1
    try clear hfz8_0
    try clear hfz8_1
    obtain ⟨x3_1, x12_1, rfl, HA, HK1, HO_3, BK171, HB⟩ := hrel
    cases gk with
    | zero => exact absurd HA.out (by simp [impl_Party_table.l0])
    | succ k1 =>
     have H := HA.out
     clear HA
     simp only [impl_Party_table.l0] at H
     by_cases c9 : x12_1 < (l0_1.length : Int)
     ·rw [if_pos c9] at H
      have c9b0 : decide (x12_1 < (l0_1.length : Int)) = true := decide_eq_true c9
      clear c9
      by_cases c10 : 0 ≤ x12_1
      ·rw [if_pos c10] at H
       have c10b0 : decide (0 ≤ x12_1) = true := decide_eq_true c10
       clear c10
       by_cases c11 : x12_1 < (l0_1.length : Int)
       ·rw [if_pos c11] at H
        have c11b0 : decide (x12_1 < (l0_1.length : Int)) = true := decide_eq_true c11
        clear c11
        by_cases c12 : 0 ≤ ((rd_T98 l0_1 x12_1).f0)
        ·rw [if_pos c12] at H
         have c12b0 : decide (0 ≤ ((rd_T98 l0_1 x12_1).f0)) = true := decide_eq_true c12
         clear c12
         by_cases c13 : ((rd_T98 l0_1 x12_1).f0) < (x3_1.length : Int)
         ·rw [if_pos c13] at H
          have c13b0 : decide (((rd_T98 l0_1 x12_1).f0) < (x3_1.length : Int)) = true := decide_eq_true c13
          clear c13
          by_cases c14 : 0 ≤ ((rd_T98 l0_1 x12_1).f1)
          ·rw [if_pos c14] at H
           have c14b0 := eq_true c14
           have c14b1 : decide (0 ≤ ((rd_T98 l0_1 x12_1).f1)) = true := decide_eq_true c14
           clear c14
           obtain ⟨ji15, hji15⟩ : ∃ j_ : Int, (shl .u16 1 ((rd_T98 l0_1 x12_1).f1)) = j_ := ⟨_, rfl⟩
           replace H : ((some (x3_1.set (((rd_T98 l0_1 x12_1).f0) : Int).toNat (Go.bits .or .u16 (rd x3_1 ((rd_T98 l0_1 x12_1).f0)) (ji15)) : List Int)).bind fun y178 => (if ((rd_T98 l0_1 x12_1).f1) < (x3_1.length : Int) then (impl_Party_table.l0 k1 (y178.set (((rd_T98 l0_1 x12_1).f1) : Int).toNat (Go.bits .or .u16 (rd y178 ((rd_T98 l0_1 x12_1).f1)) (shl .u16 1 ((rd_T98 l0_1 x12_1).f0)))) l0_1 (l0_1.length : Int) (wrap64 (x12_1 + 1))) else (none))) = some r := by first | (rw [hji15] at H; exact H) | (simp only [hji15] at H ⊢; exact H)
           have hji15_ : (IntKind.u16.wrap (1 * 2 ^ min ((rd_T98 l0_1 x12_1).f1).toNat 16)) = ji15 := hji15
           have hji15z : ((rd_T98 l0_1 x12_1).f1) ≤ 16 → (IntKind.u16.wrap (1 * 2 ^ ((rd_T98 l0_1 x12_1).f1).toNat)) = ji15 := shl_small hji15
           have hji15u : (IntKind.u16.wrap (2 ^ min ((rd_T98 l0_1 x12_1).f1).toNat 16)) = ji15 := by have h_ := hji15_; rw [Int.one_mul] at h_; exact h_
           have hji15v : ((rd_T98 l0_1 x12_1).f1) ≤ 16 → (IntKind.u16.wrap (2 ^ ((rd_T98 l0_1 x12_1).f1).toNat)) = ji15 := fun hle_ => by have h_ := hji15z hle_; rw [Int.one_mul] at h_; exact h_
           obtain ⟨y178, hy178⟩ : ∃ y_ : List Int, y_ = (x3_1.set (((rd_T98 l0_1 x12_1).f0) : Int).toNat (Go.bits .or .u16 (rd x3_1 ((rd_T98 l0_1 x12_1).f0)) (ji15))) := ⟨_, rfl⟩
           replace H : (if ((rd_T98 l0_1 x12_1).f1) < (x3_1.length : Int) then (impl_Party_table.l0 k1 (y178.set (((rd_T98 l0_1 x12_1).f1) : Int).toNat (Go.bits .or .u16 (rd y178 ((rd_T98 l0_1 x12_1).f1)) (shl .u16 1 ((rd_T98 l0_1 x12_1).f0)))) l0_1 (l0_1.length : Int) (wrap64 (x12_1 + 1))) else (none)) = some r := by first | (rw [hy178]; with_reducible exact H) | (have H2_ := (Option.bind_some _ _).symm.trans H; rw [hy178]; with_reducible exact H2_) | (have H2_ := (Option.bind_some _ _).symm.trans H; with_reducible exact H2_) | with_reducible exact H | (rw [hy178]; exact H) | exact H
           have Ny178 := Aside0.mk hy178
           clear hy178
           by_cases c17 : ((rd_T98 l0_1 x12_1).f1) < (x3_1.length : Int)
           ·rw [if_pos c17] at H
            have c17b0 : decide (((rd_T98 l0_1 x12_1).f1) < (x3_1.length : Int)) = true := decide_eq_true c17
            clear c17
            have c18b0 := eq_true (of_decide_eq_true (by first | (with_reducible assumption) | assumption) : 0 ≤ ((rd_T98 l0_1 x12_1).f0))
            obtain ⟨ji19, hji19⟩ : ∃ j_ : Int, (shl .u16 1 ((rd_T98 l0_1 x12_1).f0)) = j_ := ⟨_, rfl⟩
            replace H : (impl_Party_table.l0 k1 (y178.set (((rd_T98 l0_1 x12_1).f1) : Int).toNat (Go.bits .or .u16 (rd y178 ((rd_T98 l0_1 x12_1).f1)) (ji19))) l0_1 (l0_1.length : Int) (wrap64 (x12_1 + 1))) = some r := by first | (rw [hji19] at H; exact H) | (simp only [hji19] at H ⊢; exact H)
            have hji19_ : (IntKind.u16.wrap (1 * 2 ^ min ((rd_T98 l0_1 x12_1).f0).toNat 16)) = ji19 := hji19
            have hji19z : ((rd_T98 l0_1 x12_1).f0) ≤ 16 → (IntKind.u16.wrap (1 * 2 ^ ((rd_T98 l0_1 x12_1).f0).toNat)) = ji19 := shl_small hji19
            have hji19u : (IntKind.u16.wrap (2 ^ min ((rd_T98 l0_1 x12_1).f0).toNat 16)) = ji19 := by have h_ := hji19_; rw [Int.one_mul] at h_; exact h_
            have hji19v : ((rd_T98 l0_1 x12_1).f0) ≤ 16 → (IntKind.u16.wrap (2 ^ ((rd_T98 l0_1 x12_1).f0).toNat)) = ji19 := fun hle_ => by have h_ := hji19z hle_; rw [Int.one_mul] at h_; exact h_
            obtain ⟨y180, hy180⟩ : ∃ y_ : List Int, y_ = (y178.set (((rd_T98 l0_1 x12_1).f1) : Int).toNat (Go.bits .or .u16 (rd y178 ((rd_T98 l0_1 x12_1).f1)) (ji19))) := ⟨_, rfl⟩
            replace H : (impl_Party_table.l0 k1 y180 l0_1 (l0_1.length : Int) (wrap64 (x12_1 + 1))) = some r := by first | (rw [hy180]; with_reducible exact H) | (have H2_ := (Option.bind_some _ _).symm.trans H; rw [hy180]; with_reducible exact H2_) | (have H2_ := (Option.bind_some _ _).symm.trans H; with_reducible exact H2_) | with_reducible exact H | (rw [hy180]; exact H) | exact H
            have Ny180 := Aside0.mk hy180
            clear hy180
            have H' := Aside0.mk H
            clear H
            have p175 : 0 ≤ (x12_1 : Int) := of_decide_eq_true (by first | (with_reducible assumption) | assumption)
            have q175 : x12_1 < (l0_1.length : Int) := of_decide_eq_true (by first | (with_reducible assumption) | assumption)
            obtain ⟨ad175, e175, hx175_0, hx175_1⟩ := at_T98 HR0_1.out x12_1 p175 q175
            cases e175
            replace hx175_0 := (HB.out.cell (World.block_lt_of_cell? w _ hx175_0)).trans hx175_0
            replace hx175_1 := (HB.out.cell (World.block_lt_of_cell? w _ hx175_1)).trans hx175_1
            replace p175 := eq_true p175
            replace q175 := eq_true q175
            try go_wp2_with (first | ((with_reducible refine gate_dst (N := 5) rfl ?_); refine box_event ?hg (N := 5) ?hd (cs := #[.int .i64 0, .int .i64 0]) (t := 98) ?hr ?_; (case hd => rfl); (case hg => rfl); (case hr => first | (go_simp; done) | (go_simp; rfl)); intro gb176 hg w21 hbox hb; have n0_ := Aside0.mk (Kd.R_below (by (with_reducible repeat (first | apply Kd.R_alloc | apply Kd.R_drewN | apply Kd.R_drew)); exact HO_3.out) hb); have n1_ := Aside0.mk (blk_below (g := gb171) (o := .cells #[.int .i64 a0_0, .slice (some ad175) l0_1.length c0_1] 30 (0, 0)) (by (with_reducible repeat (first | refine blk_drewN ?_ _ | refine blk_drew ?_ | refine blk_alloc ?_ _)); exact BK171.out) hb); have n2_ := Aside0.mk (below_step (by repeat (first | (with_reducible first | exact HB.out | apply below_alloc | apply pw_below_drewN | apply below_drew1 | refine below_set ?_ GE171.out) | exact HB.out)) hb); have n3_ := Aside0.mk (hbox); have n4_ := Aside0.mk ((by rw [hg]; exact (below_size (by repeat (first | (with_reducible first | exact HB.out | apply below_alloc | apply pw_below_drewN | apply below_drew1 | refine below_set ?_ GE171.out) | exact HB.out))) : w.heap.size ≤ gb176)); have n5_ := Aside0.mk ((by rw [hg]; exact (below_size (by repeat (first | (with_reducible first | exact HB.out | apply below_alloc | apply pw_below_drewN | apply below_drew1 | refine below_set ?_ GE171.out) | exact HB.out))) : w.heap.size ≤ gb176)); have n6_ := Aside0.mk ((by rw [hg]; exact Nat.ne_of_lt (blk_lt (g := gb171) (o := .cells #[.int .i64 a0_0, .slice (some ad175) l0_1.length c0_1] 30 (0, 0)) (by (with_reducible repeat (first | refine blk_drewN ?_ _ | refine blk_drew ?_ | refine blk_alloc ?_ _)); exact BK171.out)) : gb171 ≠ gb176)); have n7_ := Aside0.mk ((by rw [hg]; exact Nat.ne_of_gt (blk_lt (g := gb171) (o := .cells #[.int .i64 a0_0, .slice (some ad175) l0_1.length c0_1] 30 (0, 0)) (by (with_reducible repeat (first | refine blk_drewN ?_ _ | refine blk_drew ?_ | refine blk_alloc ?_ _)); exact BK171.out)) : gb176 ≠ gb171)); clear HO_3; clear BK171; clear HB; have HO_3 := n0_; have BK171 := n1_; have HB := n2_; have BK176 := n3_; have GW176 := n4_; have GE176 := n5_; have NB171_176 := n6_; have NB176_171 := n7_; clear n0_ n1_ n2_ n3_ n4_ n5_ n6_ n7_; clear hb hbox hg; have hnb22 := NB176_171.out; have hnc22 := NB171_176.out; have hcz23_0 : w21.cell? ⟨gb176, 0, none⟩ = some (.int .i64 0) := (blk_cell BK176.out 0).trans rfl; have hcz23_1 : w21.cell? ⟨gb176, 1, none⟩ = some (.int .i64 0) := (blk_cell BK176.out 1).trans rfl; have hfz23_0 := blk_frozen BK176.out 0; have hfz23_1 := blk_frozen BK176.out 1))
            have n0_ : Aside0 (Kd.R (Kd.int .u16) 91 ((w21.setCell ⟨gb176, 0, none⟩ (.int .i64 ((rd_T98 l0_1 x12_1).f0))).setCell ⟨gb176, 1, none⟩ (.int .i64 ((rd_T98 l0_1 x12_1).f1))) w.heap.size (fun _ => True) v173 x3_1) := ⟨by (with_reducible repeat (first | apply Kd.R_alloc | apply Kd.R_drewN | apply Kd.R_drew)); exact Kd.R_mono (Kd.R_far (p := ⟨gb176, 1, none⟩) (Kd.R_far (p := ⟨gb176, 0, none⟩) (Kd.R_types HO_3.out BK176.out (by decide)) (fun _ hk => hk.2) (.int .i64 ((rd_T98 l0_1 x12_1).f0))) (fun _ hk => hk.2) (.int .i64 ((rd_T98 l0_1 x12_1).f1))) (fun _ hk => trivial)⟩
            have n1_ : Aside0 (((w21.setCell ⟨gb176, 0, none⟩ (.int .i64 ((rd_T98 l0_1 x12_1).f0))).setCell ⟨gb176, 1, none⟩ (.int .i64 ((rd_T98 l0_1 x12_1).f1))).heap[gb171]? = some (.cells #[.int .i64 a0_0, .slice (some ad175) l0_1.length c0_1] 30 (0, 0))) := ⟨by (with_reducible repeat (first | refine blk_drewN ?_ _ | refine blk_drew ?_ | refine blk_alloc ?_ _)); refine blk_far ?_ NB171_176.out _; (with_reducible repeat (first | refine blk_drewN ?_ _ | refine blk_drew ?_ | refine blk_alloc ?_ _)); refine blk_far ?_ NB171_176.out _; (with_reducible repeat (first | refine blk_drewN ?_ _ | refine blk_drew ?_ | refine blk_alloc ?_ _)); exact BK171.out⟩
            have n2_ : Aside0 (((w21.setCell ⟨gb176, 0, none⟩ (.int .i64 ((rd_T98 l0_1 x12_1).f0))).setCell ⟨gb176, 1, none⟩ (.int .i64 ((rd_T98 l0_1 x12_1).f1))).heap[gb176]? = some (.cells #[.int .i64 ((rd_T98 l0_1 x12_1).f0), .int .i64 ((rd_T98 l0_1 x12_1).f1)] 98 (0, 0))) := ⟨by (with_reducible repeat (first | refine blk_drewN ?_ _ | refine blk_drew ?_ | refine blk_alloc ?_ _)); refine blk_put (cs := #[.int .i64 ((rd_T98 l0_1 x12_1).f0), .int .i64 0]) ?_ 1 _ rfl; (with_reducible repeat (first | refine blk_drewN ?_ _ | refine blk_drew ?_ | refine blk_alloc ?_ _)); refine blk_put (cs := #[.int .i64 0, .int .i64 0]) ?_ 0 _ rfl; (with_reducible repeat (first | refine blk_drewN ?_ _ | refine blk_drew ?_ | refine blk_alloc ?_ _)); exact BK176.out⟩
            have n3_ : Aside0 (Below w.heap.size w ((w21.setCell ⟨gb176, 0, none⟩ (.int .i64 ((rd_T98 l0_1 x12_1).f0))).setCell ⟨gb176, 1, none⟩ (.int .i64 ((rd_T98 l0_1 x12_1).f1)))) := ⟨by repeat (first | (with_reducible first | exact HB.out | apply below_alloc | apply pw_below_drewN | apply below_drew1 | refine below_set ?_ GE171.out | refine below_set ?_ GE176.out) | exact HB.out)⟩
            (try clear HO_3)
            (try clear BK171)
            (try clear BK176)
            (try clear HB)
            generalize ((w21.setCell ⟨gb176, 0, none⟩ (.int .i64 ((rd_T98 l0_1 x12_1).f0))).setCell ⟨gb176, 1, none⟩ (.int .i64 ((rd_T98 l0_1 x12_1).f1))) = w24 at n0_ n1_ n2_ n3_ ⊢
            have HO_3 := n0_
            have BK171 := n1_
            have BK176 := n2_
            have HB := n3_
            clear n0_ n1_ n2_ n3_
            have n0_ := Aside0.mk (Kd.R_drew HO_3.out)
            have n1_ := Aside0.mk (blk_drew BK171.out)
            have n2_ := Aside0.mk (blk_drew BK176.out)
            have n3_ := Aside0.mk (below_drew1 HB.out)
            clear HO_3
            clear BK171
            clear BK176
            clear HB
            have HO_3 := n0_
            have BK171 := n1_
            have BK176 := n2_
            have HB := n3_
            clear n0_ n1_ n2_ n3_
            obtain ⟨Ao26, co26, eo26⟩ := Kd.R_slice HO_3.out
            (first | subst eo26 | (injection eo26 with f1_ f2_ f3_; have f4_ := f1_.symm; have f5_ := f3_.symm; clear f1_ f2_ f3_; subst f4_; subst f5_))
            have p177 : 0 ≤ (((rd_T98 l0_1 x12_1).f0) : Int) := of_decide_eq_true (by first | (with_reducible assumption) | assumption)
            have q177 : ((rd_T98 l0_1 x12_1).f0) < (x3_1.length : Int) := of_decide_eq_true (by first | (with_reducible assumption) | assumption)
            obtain ⟨ad177, e177, hx177_0⟩ := Kd.at_int (Kd.R_reads' HO_3.out).2.2 ((rd_T98 l0_1 x12_1).f0) p177 q177
            cases e177
            replace p177 := eq_true p177
            replace q177 := eq_true q177
            have p16 : 0 ≤ (((rd_T98 l0_1 x12_1).f0) : Int) := of_decide_eq_true (by first | (with_reducible assumption) | assumption)
            have q16 : (((rd_T98 l0_1 x12_1).f0) : Int) < ((x3_1.length : Int) : Int) := of_decide_eq_true (by first | (with_reducible assumption) | assumption)
            obtain ⟨go16, co16, eo16, gb16, gl16, cl16, HG16⟩ := Kd.R_form HO_3.out (by omega)
            (first | cases eo16 | (injection eo16 with ea_ en_ ec_; (first | subst ea_ | (injection ea_ with ea_; subst ea_)); subst ec_; clear en_))
            have GB16 := Aside0.mk gb16
            have GG16 := Aside0.mk HG16
            clear gb16 gl16 HG16
            (first | simp only [add_plain] at hx177_0 | skip)
            obtain ⟨hx16_0, hf16_0⟩ := Kd.R_celln 0 HO_3.out (((rd_T98 l0_1 x12_1).f0) : Int) p16 q16
            replace p16 := eq_true p16
            replace q16 := eq_true q16
            have HP27 := Kd.R_putn HO_3.out (((rd_T98 l0_1 x12_1).f0) : Int) (Go.bits .or .u16 (rd x3_1 ((rd_T98 l0_1 x12_1).f0)) (ji15))
            rw [← Ny178.out] at HP27
            have HQ27 := Aside0.mk HP27
            clear HP27
            refine start_ (n := 11) (S := fun w' => w'.cell? ⟨gb176, 0, none⟩ = some (.int .i64 ((rd_T98 l0_1 x12_1).f0)) ∧ w'.cell? ⟨gb176, 1, none⟩ = some (.int .i64 ((rd_T98 l0_1 x12_1).f1)) ∧ w'.cell? ⟨go16, (((rd_T98 l0_1 x12_1).f0)).toNat, none⟩ = some (.int .u16 (rd x3_1 ((rd_T98 l0_1 x12_1).f0)))) (ds := [10]) #[false, false, false, false, false, false, false, false, false, false, false] (by kernel_rfl) rfl rfl ⟨(blk_cell BK176.out 0).trans rfl, (blk_cell BK176.out 1).trans rfl, hx177_0⟩ (fun hHeld => ?_); refine with_tabW impl_Party_table.tab5 impl_Party_table.bits5 (fun HT_ HW_ => ?_)
            generalize w24.drew = w25 at HO_3 BK171 BK176 HB GG16 HQ27 hf16_0 hx16_0 hx177_0 hHeld ⊢
            refine pure_ (i := 0) (N := some 16) (v := ?_) (a' := ?_) #[true, false, false, false, false, false, false, false, false, false, false] rfl rfl (any_of HT_.out (by kernel_rfl)) (fun _ _ _ h => h) (Or.inl ⟨by rfl, ?_⟩) ?_ ?_
            rotate_left
            ·intro w'
             go_simp
             with_reducible rfl
            rotate_left
            ·simp only [Act.put, List.setIfInBounds_toArray, List.set_cons_zero, List.set_cons_succ, i64_w, i32_w]
             rfl
            refine pure_ (i := 1) (N := some 17) (v := ?_) (a' := ?_) #[true, true, false, false, false, false, false, false, false, false, false] rfl rfl (any_of HT_.out (by kernel_rfl)) (fun _ _ _ h => h) (Or.inl ⟨by rfl, ?_⟩) ?_ ?_
            rotate_left
            ·intro w'
             go_simp
             with_reducible rfl
            rotate_left
            ·simp only [Act.put, List.setIfInBounds_toArray, List.set_cons_zero, List.set_cons_succ, i64_w, i32_w]
             rfl
            refine pure_ (i := 5) (N := some 21) (v := ?_) (a' := ?_) #[true, true, false, false, false, true, false, false, false, false, false] rfl rfl (any_of HT_.out (by kernel_rfl)) (fun _ _ _ h => h) (Or.inl ⟨by rfl, ?_⟩) ?_ ?_
            rotate_left
            ·intro w'
             go_simp
             with_reducible rfl
            rotate_left
            ·simp only [Act.put, List.setIfInBounds_toArray, List.set_cons_zero, List.set_cons_succ, i64_w, i32_w]
             rfl
            refine take_ (i := 2) (N := some 18) (v := ?_) (a' := ?_) #[true, true, true, false, false, true, false, false, false, false, false] rfl rfl (take_ofW HT_.out HW_.out (by kernel_rfl)) (fun _ _ _ h => h) (Or.inl ⟨by rfl, ?_⟩) hHeld ?_ ?_
            rotate_left
            ·rintro w' ⟨s0, s1, s2⟩
             go_simp
             with_reducible rfl
            rotate_left
            ·simp only [Act.put, List.setIfInBounds_toArray, List.set_cons_zero, List.set_cons_succ, i64_w, i32_w]
             rfl
            refine pure_ (i := 3) (N := some 19) (v := ?_) (a' := ?_) #[true, true, true, true, false, true, false, false, false, false, false] rfl rfl (any_of HT_.out (by kernel_rfl)) (fun _ _ _ h => h) (Or.inl ⟨by rfl, ?_⟩) ?_ ?_
            rotate_left
            ·intro w'
             go_simp
             with_reducible rfl
            rotate_left
            ·simp only [Act.put, List.setIfInBounds_toArray, List.set_cons_zero, List.set_cons_succ, i64_w, i32_w]
             rfl
            refine take_ (i := 4) (N := some 20) (v := ?_) (a' := ?_) #[true, true, true, true, true, true, false, false, false, false, false] rfl rfl (take_ofW HT_.out HW_.out (by kernel_rfl)) (fun _ _ _ h => h) (Or.inl ⟨by rfl, ?_⟩) hHeld ?_ ?_
            rotate_left
            ·rintro w' ⟨s0, s1, s2⟩
             go_simp
             with_reducible rfl
            rotate_left
            ·simp only [Act.put, List.setIfInBounds_toArray, List.set_cons_zero, List.set_cons_succ, i64_w, i32_w]
             rfl
            refine take_ (i := 6) (N := some 22) (v := ?_) (a' := ?_) #[true, true, true, true, true, true, true, false, false, false, false] rfl rfl (take_ofW HT_.out HW_.out (by kernel_rfl)) (fun _ _ _ h => h) (Or.inl ⟨by rfl, ?_⟩) hHeld ?_ ?_
            rotate_left
            ·rintro w' ⟨s0, s1, s2⟩
             go_simp
             with_reducible rfl
            rotate_left
            ·simp only [Act.put, List.setIfInBounds_toArray, List.set_cons_zero, List.set_cons_succ, i64_w, i32_w]
             rfl
            refine pure_ (i := 7) (N := some 23) (v := ?_) (a' := ?_) #[true, true, true, true, true, true, true, true, false, false, false] rfl rfl (any_of HT_.out (by kernel_rfl)) (fun _ _ _ h => h) (Or.inl ⟨by rfl, ?_⟩) ?_ ?_
            rotate_left
            ·intro w'
             go_simp
             with_reducible rfl
            rotate_left
            ·simp only [Act.put, List.setIfInBounds_toArray, List.set_cons_zero, List.set_cons_succ, i64_w, i32_w]
             rfl
            refine pure_ (i := 8) (N := some 24) (v := ?_) (a' := ?_) #[true, true, true, true, true, true, true, true, true, false, false] rfl rfl (any_of HT_.out (by kernel_rfl)) (fun _ _ _ h => h) (Or.inl ⟨by rfl, ?_⟩) ?_ ?_
            rotate_left
            ·intro w'
             go_simp
             with_reducible rfl
            rotate_left
            ·simp only [Act.put, List.setIfInBounds_toArray, List.set_cons_zero, List.set_cons_succ, i64_w, i32_w]
             rfl
            refine pure_ (i := 9) (N := some 25) (v := ?_) (a' := ?_) #[true, true, true, true, true, true, true, true, true, true, false] rfl rfl (any_of HT_.out (by kernel_rfl)) (fun _ _ _ h => h) (Or.inl ⟨by rfl, ?_⟩) ?_ ?_
            rotate_left
            ·intro w'
             go_simp
             with_reducible rfl
            rotate_left
            ·simp only [Act.put, List.setIfInBounds_toArray, List.set_cons_zero, List.set_cons_succ, i64_w, i32_w]
             rfl
            refine last_ (i := 10) (N := none) #[true, true, true, true, true, true, true, true, true, true, true] rfl rfl (one_of HT_.out (by kernel_rfl)) (by decide) (fun K hK => ?_)
            refine skip_ (w1 := ?_) (by rfl) rfl ?_ ?_
            rotate_left
            ·go_simp
             rfl
            refine hK.out _ _ ?_
            clear hK K
            refine done_ (done_of HT_.out (by kernel_rfl)) ?_
            try go_wp2
            have n0_ : Aside0 (Kd.R (Kd.int .u16) 91 (w25.setCell ⟨go16, (((rd_T98 l0_1 x12_1).f0) : Int).toNat, none⟩ (.int .u16 (Go.bits .or .u16 (rd x3_1 ((rd_T98 l0_1 x12_1).f0)) (ji15)))) w.heap.size (fun _ => True) (.slice (some ⟨go16, 0, none⟩) x3_1.length co26) y178) := ⟨by (with_reducible repeat (first | apply Kd.R_alloc | apply Kd.R_drewN | apply Kd.R_drew)); exact HQ27.out⟩
            have n1_ : Aside0 ((w25.setCell ⟨go16, (((rd_T98 l0_1 x12_1).f0) : Int).toNat, none⟩ (.int .u16 (Go.bits .or .u16 (rd x3_1 ((rd_T98 l0_1 x12_1).f0)) (ji15)))).heap[gb171]? = some (.cells #[.int .i64 a0_0, .slice (some ad175) l0_1.length c0_1] 30 (0, 0))) := ⟨by (with_reducible repeat (first | refine blk_drewN ?_ _ | refine blk_drew ?_ | refine blk_alloc ?_ _)); refine blk_far ?_ (by have h_ := Kd.R_ne HO_3.out BK171.out (by decide); intro e_; exact h_ (by rw [e_]; rfl)) _; (with_reducible repeat (first | refine blk_drewN ?_ _ | refine blk_drew ?_ | refine blk_alloc ?_ _)); exact BK171.out⟩
            have n2_ : Aside0 ((w25.setCell ⟨go16, (((rd_T98 l0_1 x12_1).f0) : Int).toNat, none⟩ (.int .u16 (Go.bits .or .u16 (rd x3_1 ((rd_T98 l0_1 x12_1).f0)) (ji15)))).heap[gb176]? = some (.cells #[.int .i64 ((rd_T98 l0_1 x12_1).f0), .int .i64 ((rd_T98 l0_1 x12_1).f1)] 98 (0, 0))) := ⟨by (with_reducible repeat (first | refine blk_drewN ?_ _ | refine blk_drew ?_ | refine blk_alloc ?_ _)); refine blk_far ?_ (by have h_ := Kd.R_ne HO_3.out BK176.out (by decide); intro e_; exact h_ (by rw [e_]; rfl)) _; (with_reducible repeat (first | refine blk_drewN ?_ _ | refine blk_drew ?_ | refine blk_alloc ?_ _)); exact BK176.out⟩
            have n3_ : Aside0 (Below w.heap.size w (w25.setCell ⟨go16, (((rd_T98 l0_1 x12_1).f0) : Int).toNat, none⟩ (.int .u16 (Go.bits .or .u16 (rd x3_1 ((rd_T98 l0_1 x12_1).f0)) (ji15))))) := ⟨by repeat (first | (with_reducible first | exact HB.out | apply below_alloc | apply pw_below_drewN | apply below_drew1 | refine below_set ?_ GB16.out | refine below_set ?_ GE171.out | refine below_set ?_ GE176.out) | exact HB.out)⟩
            (try clear HO_3)
            (try clear BK171)
            (try clear BK176)
            (try clear HB)
            generalize (w25.setCell ⟨go16, (((rd_T98 l0_1 x12_1).f0) : Int).toNat, none⟩ (.int .u16 (Go.bits .or .u16 (rd x3_1 ((rd_T98 l0_1 x12_1).f0)) (ji15)))) = w28 at n0_ n1_ n2_ n3_ ⊢
            have HO_3 := n0_
            have BK171 := n1_
            have BK176 := n2_
            have HB := n3_
            clear n0_ n1_ n2_ n3_
            have n0_ := Aside0.mk (Kd.R_drew HO_3.out)
            have n1_ := Aside0.mk (blk_drew BK171.out)
            have n2_ := Aside0.mk (blk_drew BK176.out)
            have n3_ := Aside0.mk (below_drew1 HB.out)
            clear HO_3
            clear BK171
            clear BK176
            clear HB
            have HO_3 := n0_
            have BK171 := n1_
            have BK176 := n2_
            have HB := n3_
            clear n0_ n1_ n2_ n3_
            have p179 : 0 ≤ (((rd_T98 l0_1 x12_1).f1) : Int) := of_decide_eq_true (by first | (with_reducible assumption) | assumption)
            have q179 : ((rd_T98 l0_1 x12_1).f1) < (y178.length : Int) := (by have h_ : (((rd_T98 l0_1 x12_1).f1) : Int) < ((x3_1.length : Int) : Int) := of_decide_eq_true (by first | (with_reducible assumption) | assumption); first | (have e_ := (Kd.R_reads' HO_3.out).1; omega) | simpa only [Ny178.out, List.length_set] using h_)
            have ql179 : ((((rd_T98 l0_1 x12_1).f1) : Int) < ((x3_1.length : Int) : Int)) = True := eq_true (of_decide_eq_true (by first | (with_reducible assumption) | assumption))
            obtain ⟨ad179, e179, hx179_0⟩ := Kd.at_int (Kd.R_reads' HO_3.out).2.2 ((rd_T98 l0_1 x12_1).f1) p179 q179
            obtain rfl : (⟨go16, 0, none⟩ : Addr) = ad179 := (by injection e179)
            (first | simp only [add_plain] at hx179_0 | simp only [add_at] at hx179_0 | simp only [Addr.add, Nat.zero_add] at hx179_0 | skip)
            replace p179 := eq_true p179
            replace q179 := eq_true q179
            have p20 : 0 ≤ (((rd_T98 l0_1 x12_1).f1) : Int) := of_decide_eq_true (by first | (with_reducible assumption) | assumption)
            have q20 : (((rd_T98 l0_1 x12_1).f1) : Int) < ((x3_1.length : Int) : Int) := of_decide_eq_true (by first | (with_reducible assumption) | assumption)
            obtain ⟨hx20_0, hf20_0⟩ := Kd.R_celln 0 HO_3.out (((rd_T98 l0_1 x12_1).f1) : Int) p20 q20
            replace p20 := eq_true p20
            replace q20 := eq_true q20
            have HP30 := Kd.R_putn HO_3.out (((rd_T98 l0_1 x12_1).f1) : Int) (Go.bits .or .u16 (rd y178 ((rd_T98 l0_1 x12_1).f1)) (ji19))
            rw [← Ny180.out] at HP30
            have HQ30 := Aside0.mk HP30
            clear HP30
            refine start_ (n := 11) (S := fun w' => w'.cell? ⟨gb176, 0, none⟩ = some (.int .i64 ((rd_T98 l0_1 x12_1).f0)) ∧ w'.cell? ⟨gb176, 1, none⟩ = some (.int .i64 ((rd_T98 l0_1 x12_1).f1)) ∧ w'.cell? ⟨go16, (((rd_T98 l0_1 x12_1).f1)).toNat, none⟩ = some (.int .u16 (rd y178 ((rd_T98 l0_1 x12_1).f1)))) (ds := [10]) #[false, false, false, false, false, false, false, false, false, false, false] (by kernel_rfl) rfl rfl ⟨(blk_cell BK176.out 0).trans rfl, (blk_cell BK176.out 1).trans rfl, hx179_0⟩ (fun hHeld => ?_); refine with_tabW impl_Party_table.tab6 impl_Party_table.bits6 (fun HT_ HW_ => ?_)
            generalize w28.drew = w29 at HO_3 BK171 BK176 HB HQ27 HQ30 hf20_0 hx179_0 hx20_0 hHeld ⊢
            refine pure_ (i := 0) (N := some 26) (v := ?_) (a' := ?_) #[true, false, false, false, false, false, false, false, false, false, false] rfl rfl (any_of HT_.out (by kernel_rfl)) (fun _ _ _ h => h) (Or.inl ⟨by rfl, ?_⟩) ?_ ?_
            rotate_left
            ·intro w'
             go_simp
             with_reducible rfl
            rotate_left
            ·simp only [Act.put, List.setIfInBounds_toArray, List.set_cons_zero, List.set_cons_succ, i64_w, i32_w]
             rfl
            refine pure_ (i := 1) (N := some 27) (v := ?_) (a' := ?_) #[true, true, false, false, false, false, false, false, false, false, false] rfl rfl (any_of HT_.out (by kernel_rfl)) (fun _ _ _ h => h) (Or.inl ⟨by rfl, ?_⟩) ?_ ?_
            rotate_left
            ·intro w'
             go_simp
             with_reducible rfl
            rotate_left
            ·simp only [Act.put, List.setIfInBounds_toArray, List.set_cons_zero, List.set_cons_succ, i64_w, i32_w]
             rfl
            refine pure_ (i := 5) (N := some 31) (v := ?_) (a' := ?_) #[true, true, false, false, false, true, false, false, false, false, false] rfl rfl (any_of HT_.out (by kernel_rfl)) (fun _ _ _ h => h) (Or.inl ⟨by rfl, ?_⟩) ?_ ?_
            rotate_left
            ·intro w'
             go_simp
             with_reducible rfl
            rotate_left
            ·simp only [Act.put, List.setIfInBounds_toArray, List.set_cons_zero, List.set_cons_succ, i64_w, i32_w]
             rfl
            refine take_ (i := 2) (N := some 28) (v := ?_) (a' := ?_) #[true, true, true, false, false, true, false, false, false, false, false] rfl rfl (take_ofW HT_.out HW_.out (by kernel_rfl)) (fun _ _ _ h => h) (Or.inl ⟨by rfl, ?_⟩) hHeld ?_ ?_
            rotate_left
            ·rintro w' ⟨s0, s1, s2⟩
             go_simp
             with_reducible rfl
            rotate_left
            ·simp only [Act.put, List.setIfInBounds_toArray, List.set_cons_zero, List.set_cons_succ, i64_w, i32_w]
             rfl
            refine pure_ (i := 3) (N := some 29) (v := ?_) (a' := ?_) #[true, true, true, true, false, true, false, false, false, false, false] rfl rfl (any_of HT_.out (by kernel_rfl)) (fun _ _ _ h => h) (Or.inl ⟨by rfl, ?_⟩) ?_ ?_
            rotate_left
            ·intro w'
             go_simp
             with_reducible rfl
            rotate_left
            ·simp only [Act.put, List.setIfInBounds_toArray, List.set_cons_zero, List.set_cons_succ, i64_w, i32_w]
             rfl
            refine take_ (i := 4) (N := some 30) (v := ?_) (a' := ?_) #[true, true, true, true, true, true, false, false, false, false, false] rfl rfl (take_ofW HT_.out HW_.out (by kernel_rfl)) (fun _ _ _ h => h) (Or.inl ⟨by rfl, ?_⟩) hHeld ?_ ?_
            rotate_left
            ·rintro w' ⟨s0, s1, s2⟩
             go_simp
             with_reducible rfl
            rotate_left
            ·simp only [Act.put, List.setIfInBounds_toArray, List.set_cons_zero, List.set_cons_succ, i64_w, i32_w]
             rfl
            refine take_ (i := 6) (N := some 32) (v := ?_) (a' := ?_) #[true, true, true, true, true, true, true, false, false, false, false] rfl rfl (take_ofW HT_.out HW_.out (by kernel_rfl)) (fun _ _ _ h => h) (Or.inl ⟨by rfl, ?_⟩) hHeld ?_ ?_
            rotate_left
            ·rintro w' ⟨s0, s1, s2⟩
             go_simp
             with_reducible rfl
            rotate_left
            ·simp only [Act.put, List.setIfInBounds_toArray, List.set_cons_zero, List.set_cons_succ, i64_w, i32_w]
             rfl
            refine pure_ (i := 7) (N := some 33) (v := ?_) (a' := ?_) #[true, true, true, true, true, true, true, true, false, false, false] rfl rfl (any_of HT_.out (by kernel_rfl)) (fun _ _ _ h => h) (Or.inl ⟨by rfl, ?_⟩) ?_ ?_
            rotate_left
            ·intro w'
             go_simp
             with_reducible rfl
            rotate_left
            ·simp only [Act.put, List.setIfInBounds_toArray, List.set_cons_zero, List.set_cons_succ, i64_w, i32_w]
             rfl
            refine pure_ (i := 8) (N := some 34) (v := ?_) (a' := ?_) #[true, true, true, true, true, true, true, true, true, false, false] rfl rfl (any_of HT_.out (by kernel_rfl)) (fun _ _ _ h => h) (Or.inl ⟨by rfl, ?_⟩) ?_ ?_
            rotate_left
            ·intro w'
             go_simp
             with_reducible rfl
            rotate_left
            ·simp only [Act.put, List.setIfInBounds_toArray, List.set_cons_zero, List.set_cons_succ, i64_w, i32_w]
             rfl
            refine pure_ (i := 9) (N := some 35) (v := ?_) (a' := ?_) #[true, true, true, true, true, true, true, true, true, true, false] rfl rfl (any_of HT_.out (by kernel_rfl)) (fun _ _ _ h => h) (Or.inl ⟨by rfl, ?_⟩) ?_ ?_
            rotate_left
            ·intro w'
             go_simp
             with_reducible rfl
            rotate_left
            ·simp only [Act.put, List.setIfInBounds_toArray, List.set_cons_zero, List.set_cons_succ, i64_w, i32_w]
             rfl
            refine last_ (i := 10) (N := none) #[true, true, true, true, true, true, true, true, true, true, true] rfl rfl (one_of HT_.out (by kernel_rfl)) (by decide) (fun K hK => ?_)
            refine skip_ (w1 := ?_) (by rfl) rfl ?_ ?_
            rotate_left
            ·go_simp
             rfl
            refine hK.out _ _ ?_
            clear hK K
            refine done_ (done_of HT_.out (by kernel_rfl)) ?_
            try go_wp2
            go_roundg k1
            case measure => have := HK1.out; omega
            case rel => exact ⟨(y180), (wrap64 (x12_1 + 1)), (by first | rfl | (simp; done) | (simp [*]; done)), H', ⟨by have := HK1.out; omega⟩, ⟨by (with_reducible repeat (first | apply Kd.R_alloc | apply Kd.R_drewN | apply Kd.R_drew)); exact HQ30.out⟩, ⟨by (with_reducible repeat (first | refine blk_drewN ?_ _ | refine blk_drew ?_ | refine blk_alloc ?_ _)); refine blk_far ?_ (by have h_ := Kd.R_ne HO_3.out BK171.out (by decide); intro e_; exact h_ (by rw [e_]; rfl)) _; (with_reducible repeat (first | refine blk_drewN ?_ _ | refine blk_drew ?_ | refine blk_alloc ?_ _)); exact BK171.out⟩, ⟨by repeat (first | (with_reducible first | exact HB.out | apply below_alloc | apply pw_below_drewN | apply below_drew1 | refine below_set ?_ GB16.out | refine below_set ?_ GE171.out | refine below_set ?_ GE176.out) | exact HB.out)⟩⟩
           ·rw [if_neg c17] at H
            exact absurd H (by simp)
          ·rw [if_neg c14] at H
           exact absurd H (by simp)
         ·rw [if_neg c13] at H
          exact absurd H (by simp)
        ·rw [if_neg c12] at H
         exact absurd H (by simp)
       ·rw [if_neg c11] at H
        exact absurd H (by simp)
      ·rw [if_neg c10] at H
       exact absurd H (by simp)
     ·rw [if_neg c9] at H
      have c9b0 : decide (x12_1 < (l0_1.length : Int)) = false := decide_eq_false c9
      clear c9
      obtain rfl := Option.some.inj H
      go_wp2
      go_ret
      exact ⟨_, by first | rfl | (simp [errW_none, errW_some] <;> rfl) | (simp [*, errW_none, errW_some] <;> rfl), by (with_reducible repeat (first | apply Kd.R_alloc | apply Kd.R_drewN | apply Kd.R_drew)); exact HO_3.out, by repeat (first | (with_reducible first | exact HB.out | apply below_alloc | apply pw_below_drewN | apply below_drew1 | refine below_set ?_ GE171.out) | exact HB.out)⟩
  ·rw [if_neg c3] at H
   exact absurd H (by simp)
 ·rw [if_neg c2] at H
  exact absurd H (by simp)
end Go.Proofs.YtopahhcojncgaaaDoor.G
namespace Go.Proofs.YtopahhcojncgaaaDoor.G
open Go.RowKit Go.Proofs.YtopahhcojncgaaaDoorW.PrintWords Go.Proofs.YtopahhcojncgaaaDoorW.PrintLast Go.Proofs.YtopahhcojncgaaaDoorW.PrintMore
attribute [local go_sem] max2_int min2_int max_two min_two max_three min_three max_four min_four
set_option linter.unusedVariables false
set_option linter.unusedSimpArgs false
def impl_table_all.f (l0 : List Int) : Option (Int) := some (IntKind.u16.wrap ((shl .u16 1 (l0.length : Int)) - 1))
set_option maxHeartbeats 8000000 in
set_option maxRecDepth 100000 in
theorem impl_table_all.calls (A0 : Option Addr) (c0 : Nat) (l0 : List Int) (r : Int) (w : World) (hr0 : Kd.C (Kd.int .u16) w A0 l0.length l0) (hc0 : l0.length ≤ c0) (h : impl_table_all.f l0 = some r) :
  Calls Tryd.prog 72 #[.slice A0 l0.length c0] w fun e w' => e = .returned (.int .u16 r) ∧ Drawn0 w w' := by
 have HR0 := Aside0.mk hr0
 have HC0 := Aside0.mk hc0
 clear hr0 hc0
 have H : (some (IntKind.u16.wrap ((shl .u16 1 (l0.length : Int)) - 1))) = some r := h
 clear h
 obtain ⟨ji2, hji2⟩ : ∃ j_ : Int, (shl .u16 1 (l0.length : Int)) = j_ := ⟨_, rfl⟩
 replace H : (some (IntKind.u16.wrap ((ji2) - 1))) = some r := by first | (rw [hji2] at H; exact H) | (simp only [hji2] at H ⊢; exact H)
 have hji2_ : (IntKind.u16.wrap (1 * 2 ^ min (l0.length : Int).toNat 16)) = ji2 := hji2
 have hji2z : (l0.length : Int) ≤ 16 → (IntKind.u16.wrap (1 * 2 ^ (l0.length : Int).toNat)) = ji2 := shl_small hji2
 have hji2p : (IntKind.u16.wrap (1 * 2 ^ min l0.length 16)) = ji2 := hji2_
 have hji2q : (l0.length : Int) ≤ 16 → (IntKind.u16.wrap (1 * 2 ^ l0.length)) = ji2 := hji2z
 have hji2r : (IntKind.u16.wrap (2 ^ min l0.length 16)) = ji2 := by have h_ := hji2p; rw [Int.one_mul] at h_; exact h_
 have hji2s : (l0.length : Int) ≤ 16 → (IntKind.u16.wrap (2 ^ l0.length)) = ji2 := fun hle_ => by have h_ := hji2q hle_; rw [Int.one_mul] at h_; exact h_
 have hji2u : (IntKind.u16.wrap (2 ^ min (l0.length : Int).toNat 16)) = ji2 := by have h_ := hji2_; rw [Int.one_mul] at h_; exact h_
 have hji2v : (l0.length : Int) ≤ 16 → (IntKind.u16.wrap (2 ^ (l0.length : Int).toNat)) = ji2 := fun hle_ => by have h_ := hji2z hle_; rw [Int.one_mul] at h_; exact h_
 obtain rfl := Option.some.inj H
 go_enter Tryd.func72, Tryd.ntmps72
 go_wp2
 go_ret
 exact ⟨by first | rfl | (simp; done) | (simp only [← hji2] <;> (first | rfl | simp)) | (simp [*]; done), by repeat (first | exact Drawn0.refl _ | apply Drawn0.step)⟩
end Go.Proofs.YtopahhcojncgaaaDoor.G
namespace Go.Proofs.YtopahhcojncgaaaDoor.G
open Go.RowKit Go.Proofs.YtopahhcojncgaaaDoorW.PrintWords Go.Proofs.YtopahhcojncgaaaDoorW.PrintLast Go.Proofs.YtopahhcojncgaaaDoorW.PrintMore
set_option linter.unusedVariables false
set_option linter.unusedSimpArgs false
def pAdj (p : S98) (a b : Nat) : Bool := decide ((p.f0 = (a : Int) ∧ p.f1 = (b : Int)) ∨ (p.f0 = (b : Int) ∧ p.f1 = (a : Int)))
def adj (ps : List S98) (a b : Nat) : Bool := ps.any (fun p => pAdj p a b)
theorem adj_comm (ps : List S98) (a b : Nat) : adj ps a b = adj ps b a := by
  unfold adj pAdj
  congr 1
  funext p
  rw [decide_eq_decide]
  exact Or.comm
theorem rd98 (ps : List S98) (i : Nat) (h : i < ps.length) : rd_T98 ps (i : Int) = ps[i] := by
  simp [rd_T98, List.getD_eq_getElem?_getD, h]
theorem adj_self {n : Int} {ps : List S98} (h : Good n ps) (a : Nat) : adj ps a a = false := by
  unfold adj
  rw [List.any_eq_false]
  intro p hp
  obtain ⟨i, hi, rfl⟩ := List.getElem_of_mem hp
  have := (h.2.2 i hi).2.1
  rw [rd98 ps i hi] at this
  simp only [pAdj, decide_eq_true_iff]
  omega
theorem adj_take (ps : List S98) (i : Nat) (h : i < ps.length) (a b : Nat) : adj (ps.take (i + 1)) a b = (adj (ps.take i) a b || pAdj ps[i] a b) := by
  unfold adj
  rw [List.take_succ_eq_append_getElem h, List.any_append]
  simp
structure TabI (n : Nat) (T : List (List Bool)) (ps : List S98) : Prop where
  len : T.length = n
  row : ∀ a, a < n → (T.getD a []).length = n
  at_ : ∀ a b, a < n → b < n → tab T a b = adj ps a b
theorem tab_set (T : List (List Bool)) (a b c d : Nat) (ha : a < T.length) (hb : b < (T.getD a []).length) :
    tab (T.set a ((T.getD a []).set b true)) c d = (tab T c d || decide (c = a ∧ d = b)) := by
  unfold tab
  simp only [List.getD_eq_getElem?_getD] at *
  by_cases hc : c = a
  · subst hc
    rw [List.getElem?_set_self (by simpa using ha)]
    simp only [Option.getD_some]
    by_cases hd : d = b
    · subst hd
      rw [List.getElem?_set_self hb]; simp
    · rw [List.getElem?_set_ne (by omega)]; simp [hd]
  · rw [List.getElem?_set_ne (by omega)]; simp [hc]
theorem row_set (T : List (List Bool)) (a b c : Nat) (ha : a < T.length) : ((T.set a ((T.getD a []).set b true)).getD c []).length = (T.getD c []).length := by
  simp only [List.getD_eq_getElem?_getD] at *
  by_cases hc : c = a
  · subst hc
    rw [List.getElem?_set_self (by simpa using ha)]; simp
  · rw [List.getElem?_set_ne (by omega)]
theorem paTable_l1 (n : Nat) (ps : List S98) (hg : Good (n : Int) ps) (hl : ps.length < 4611686018427387904) : ∀ (d i : Nat) (x : List (List Bool)), i + d = ps.length → TabI n x (ps.take i) →
    ∃ T, TabI n T ps ∧ Ev (fun k => spec_paTable.l1 k x ps (ps.length : Int) (i : Int)) T := by
  intro d
  induction d with
  | zero =>
    intro i x hi hx
    rw [List.take_of_length_le (by omega)] at hx
    exact ⟨x, hx, Ev.step (fun k => spec_paTable.l1.eq_2 ..) (Ev.ifn (by omega) (Ev.pure _))⟩
  | succ d ih =>
    intro i x hi hx
    have hil : i < ps.length := by omega
    obtain ⟨g1, g2, g3, _⟩ := hg.2.2 i hil
    obtain ⟨p, hp⟩ : ∃ p, p = ps[i] := ⟨_, rfl⟩
    have hp2 := rd98 ps i hil
    rw [← hp] at hp2
    rw [hp2] at g1 g2 g3
    obtain ⟨a, ea⟩ : ∃ a : Nat, p.f0 = (a : Int) := ⟨p.f0.toNat, by omega⟩
    obtain ⟨b, eb⟩ : ∃ b : Nat, p.f1 = (b : Int) := ⟨p.f1.toNat, by omega⟩
    have ha : a < n := by omega
    have hb : b < n := by omega
    have hi1 : wrap64 ((i : Int) + 1) = ((i + 1 : Nat) : Int) := by rw [w64 (by omega) (by omega)]; omega
    have e1 : rd_L4 x (a : Int) = x.getD a [] := rfl
    let y := x.set a ((x.getD a []).set b true)
    have hyl : y.length = n := by simp [y, hx.len]
    have e2 : rd_L4 y (b : Int) = y.getD b [] := rfl
    have hyr : ∀ c, c < n → (y.getD c []).length = n := fun c hc => by rw [row_set x a b c (by rw [hx.len]; exact ha)]; exact hx.row c hc
    obtain ⟨T, hT, hE⟩ := ih (i + 1) (y.set b ((y.getD b []).set a true)) (by omega) ⟨by simp [hyl], fun c hc => by
        rw [row_set y b a c (by omega)]; exact hyr c hc, fun c d hc hd => by
        rw [tab_set y b a c d (by omega) (by rw [hyr b hb]; exact ha), tab_set x a b c d (by rw [hx.len]; exact ha) (by rw [hx.row a ha]; exact hb), hx.at_ c d hc hd, adj_take ps i hil, ← hp, Bool.or_assoc]
        congr 1
        rw [← Bool.decide_or]
        unfold pAdj
        rw [decide_eq_decide]
        omega⟩
    refine ⟨T, hT, Ev.step (fun k => spec_paTable.l1.eq_2 ..) (Ev.ifp (by omega) (Ev.ifp (by omega) (Ev.ifp (by omega) ?_)))⟩
    rw [hp2, ea, eb]
    refine Ev.ifp (by omega) (Ev.ifp (by rw [hx.len]; omega) (Ev.ifp (by omega) (Ev.ifp (by rw [e1, hx.row a ha]; omega) (Ev.bindC (v := y) rfl (Ev.ifp (by rw [hx.len]; omega) (Ev.ifp (by rw [e2, hyr b hb]; omega) ?_))))))
    rw [hi1]
    exact hE
theorem paTable_l0 (n : Nat) (ps : List S98) (hg : Good (n : Int) ps) (hl : ps.length < 4611686018427387904) : ∀ (d i : Nat), i + d = n →
    ∃ T, TabI n T ps ∧ Ev (fun k => spec_paTable.l0 k (List.replicate i (List.replicate n false)) (i : Int) (n : Int) ps) T := by
  intro d
  have hn := hg.2.1
  induction d with
  | zero =>
    intro i hi
    obtain rfl : i = n := by omega
    have hr : ∀ a, a < i → (List.replicate i (List.replicate i false)).getD a [] = List.replicate i false := fun a ha => by
      simp [List.getD_eq_getElem?_getD, List.getElem?_replicate, ha]
    obtain ⟨T, hT, hE⟩ := paTable_l1 i ps hg hl ps.length 0 (List.replicate i (List.replicate i false)) (by omega) ⟨by simp, fun a ha => by rw [hr a ha]; simp, fun a b ha hb => by
      unfold tab
      rw [hr a ha]
      simp [List.getD_eq_getElem?_getD, List.getElem?_replicate, hb, adj]⟩
    exact ⟨T, hT, Ev.step (fun k => spec_paTable.l0.eq_2 ..) (Ev.ifn (by omega) hE)⟩
  | succ d ih =>
    intro i hi
    obtain ⟨T, hT, hE⟩ := ih (i + 1) (by omega)
    refine ⟨T, hT, Ev.step (fun k => spec_paTable.l0.eq_2 ..) (Ev.ifp (by omega) (Ev.ifp (by omega) (Ev.ifp (by omega) (Ev.ifp (by simp; omega) ?_))))⟩
    rw [show wrap64 ((i : Int) + 1) = ((i + 1 : Nat) : Int) by rw [w64 (by omega) (by omega)]; omega, Int.toNat_natCast, ← List.replicate_succ']
    exact hE
theorem paTable_eq (n : Nat) (ps : List S98) (hg : Good (n : Int) ps) (hl : ps.length < 4611686018427387904) : ∃ T, TabI n T ps ∧ Ev (fun k => spec_paTable.f k (n : Int) ps) T := by
  obtain ⟨T, hT, hE⟩ := paTable_l0 n ps hg hl n 0 (by omega)
  exact ⟨T, hT, hE⟩
structure MaskI (n : Nat) (t : List Int) (ps : List S98) : Prop where
  len : t.length = n
  lt : ∀ a, 0 ≤ t.getD a 0 ∧ t.getD a 0 < 2 ^ n
  at_ : ∀ a b, a < n → b < n → (t.getD a 0).toNat.testBit b = adj ps a b
theorem mask_set (n : Nat) (hn : n ≤ 12) (x : List Int) (a b : Nat) (hx : x.length = n) (ha : a < n) (hb : b < n) (hlt : ∀ a, 0 ≤ x.getD a 0 ∧ x.getD a 0 < 2 ^ n) :
    (∀ c, 0 ≤ (x.set a (Go.bits .or .u16 (rd x (a : Int)) (shl .u16 1 (b : Int)))).getD c 0 ∧ (x.set a (Go.bits .or .u16 (rd x (a : Int)) (shl .u16 1 (b : Int)))).getD c 0 < 2 ^ n) ∧
    ∀ c d, ((x.set a (Go.bits .or .u16 (rd x (a : Int)) (shl .u16 1 (b : Int)))).getD c 0).toNat.testBit d = ((x.getD c 0).toNat.testBit d || decide (c = a ∧ d = b)) := by
  have e : rd x (a : Int) = x.getD a 0 := rfl
  obtain ⟨h0, h1⟩ := hlt a
  obtain ⟨v, hv⟩ : ∃ v : Nat, x.getD a 0 = (v : Int) := ⟨(x.getD a 0).toNat, by omega⟩
  have hp : 2 ^ n ≤ 65536 := Nat.pow_le_pow_right (by decide) (by omega : n ≤ 16)
  have hpb : 2 ^ b < 2 ^ n := Nat.pow_lt_pow_right (by decide) hb
  have hv2 : v < 2 ^ n := by
    rw [hv] at h1
    exact_mod_cast h1
  have e2 : Go.bits .or .u16 (rd x (a : Int)) (shl .u16 1 (b : Int)) = ((v ||| 2 ^ b : Nat) : Int) := by
    rw [e, hv, shl16 b (by omega), or16 _ _ (by omega) (by omega)]
  rw [e2]
  constructor
  · intro c
    by_cases hc : c = a
    · subst hc
      simp only [List.getD_eq_getElem?_getD]
      rw [List.getElem?_set_self (by omega), Option.getD_some]
      have := Nat.or_lt_two_pow hv2 hpb
      constructor
      · omega
      · exact_mod_cast this
    · simp only [List.getD_eq_getElem?_getD]
      rw [List.getElem?_set_ne (by omega)]
      have := hlt c
      simpa only [List.getD_eq_getElem?_getD] using this
  · intro c d
    by_cases hc : c = a
    · subst hc
      rw [show (x.set c ((v ||| 2 ^ b : Nat) : Int)).getD c 0 = ((v ||| 2 ^ b : Nat) : Int) by
        simp only [List.getD_eq_getElem?_getD]
        rw [List.getElem?_set_self (by omega), Option.getD_some]]
      rw [hv, Int.toNat_natCast, Int.toNat_natCast, Nat.testBit_or, Nat.testBit_two_pow]
      simp [eq_comm]
    · simp only [List.getD_eq_getElem?_getD]
      rw [List.getElem?_set_ne (by omega)]
      simp [hc]
theorem table_l0 (n : Nat) (ps : List S98) (hg : Good (n : Int) ps) (hl : ps.length < 4611686018427387904) : ∀ (d i : Nat) (x : List Int), i + d = ps.length → MaskI n x (ps.take i) →
    ∃ t, MaskI n t ps ∧ Ev (fun k => impl_Party_table.l0 k x ps (ps.length : Int) (i : Int)) t := by
  intro d
  have hn := hg.2.1
  induction d with
  | zero =>
    intro i x hi hx
    rw [List.take_of_length_le (by omega)] at hx
    exact ⟨x, hx, Ev.step (fun k => impl_Party_table.l0.eq_2 ..) (Ev.ifn (by omega) (Ev.pure _))⟩
  | succ d ih =>
    intro i x hi hx
    have hil : i < ps.length := by omega
    obtain ⟨g1, g2, g3, _⟩ := hg.2.2 i hil
    obtain ⟨p, hp⟩ : ∃ p, p = ps[i] := ⟨_, rfl⟩
    have hp2 := rd98 ps i hil
    rw [← hp] at hp2
    rw [hp2] at g1 g2 g3
    obtain ⟨a, ea⟩ : ∃ a : Nat, p.f0 = (a : Int) := ⟨p.f0.toNat, by omega⟩
    obtain ⟨b, eb⟩ : ∃ b : Nat, p.f1 = (b : Int) := ⟨p.f1.toNat, by omega⟩
    have ha : a < n := by omega
    have hb : b < n := by omega
    have hi1 : wrap64 ((i : Int) + 1) = ((i + 1 : Nat) : Int) := by rw [w64 (by omega) (by omega)]; omega
    obtain ⟨k1, k2⟩ := mask_set n (by omega) x a b hx.len ha hb hx.lt
    have hyl : (x.set a (Go.bits .or .u16 (rd x (a : Int)) (shl .u16 1 (b : Int)))).length = n := by simp [hx.len]
    obtain ⟨m1, m2⟩ := mask_set n (by omega) (x.set a (Go.bits .or .u16 (rd x (a : Int)) (shl .u16 1 (b : Int)))) b a hyl hb ha k1
    obtain ⟨t, ht, hE⟩ := ih (i + 1) _ (by omega) ⟨by simp only [List.length_set]; exact hx.len, m1, fun c d hc hd => by
        rw [m2, k2, hx.at_ c d hc hd, adj_take ps i hil, ← hp, Bool.or_assoc]
        congr 1
        rw [← Bool.decide_or]
        unfold pAdj
        rw [decide_eq_decide]
        omega⟩
    refine ⟨t, ht, Ev.step (fun k => impl_Party_table.l0.eq_2 ..) (Ev.ifp (by omega) (Ev.ifp (by omega) (Ev.ifp (by omega) ?_)))⟩
    rw [hp2, ea, eb]
    refine Ev.ifp (by omega) (Ev.ifp (by rw [hx.len]; omega) (Ev.ifp (by omega) (Ev.bindC rfl (Ev.ifp (by rw [hx.len]; omega) ?_))))
    rw [hi1]
    exact hE
theorem table_eq (n : Nat) (ps : List S98) (hg : Good (n : Int) ps) (hl : ps.length < 4611686018427387904) : ∃ t, MaskI n t ps ∧ Ev (fun k => impl_Party_table.f k (n : Int) ps) t := by
  have hn := hg.2.1
  have hr : ∀ a, (List.replicate n (0 : Int)).getD a 0 = 0 := fun a => by
    simp only [List.getD_eq_getElem?_getD, List.getElem?_replicate]
    split <;> rfl
  obtain ⟨t, ht, hE⟩ := table_l0 n ps hg hl ps.length 0 (List.replicate n 0) (by omega) ⟨by simp, fun a => by
      rw [hr]
      exact ⟨Int.le_refl _, by exact_mod_cast Nat.two_pow_pos n⟩, fun a b ha hb => by rw [hr]; simp [adj]⟩
  refine ⟨t, ht, ?_⟩
  unfold impl_Party_table.f
  refine Ev.ifp (by omega) (Ev.ifp (by omega) ?_)
  rw [Int.toNat_natCast]
  exact hE
theorem all_eq (t : List Int) (h : t.length ≤ 12) : impl_table_all.f t = some ((2 ^ t.length - 1 : Nat) : Int) := by
  unfold impl_table_all.f
  rw [shl16 _ (by omega), wrap_u16]
  have h1 : 2 ^ t.length ≤ 2 ^ 12 := Nat.pow_le_pow_right (by decide) h
  have h2 : 0 < 2 ^ t.length := Nat.two_pow_pos _
  congr 1
  have : (2 : Nat) ^ 12 = 4096 := by decide
  generalize (2 : Nat) ^ t.length = x at *
  omega
end Go.Proofs.YtopahhcojncgaaaDoor.G
namespace Go.Proofs.YtopahhcojncgaaaDoor.G
open Go.RowKit Go.Proofs.YtopahhcojncgaaaDoorW.PrintWords Go.Proofs.YtopahhcojncgaaaDoorW.PrintLast Go.Proofs.YtopahhcojncgaaaDoorW.PrintMore
set_option linter.unusedVariables false
set_option linter.unusedSimpArgs false
theorem bl_upto' (x n : Nat) (hx : x < 2 ^ n) (hn : n ≤ 16) : bl x = (List.range n).filter (fun i => x.testBit i) := by
  unfold bl
  obtain ⟨d, hd⟩ : ∃ d, 16 = n + d := ⟨16 - n, by omega⟩
  rw [hd, List.range_add, List.filter_append, List.append_right_eq_self, List.filter_eq_nil_iff]
  intro a ha
  obtain ⟨c, _, rfl⟩ := List.mem_map.1 ha
  rw [Nat.testBit_lt_two_pow (Nat.lt_of_lt_of_le hx (Nat.pow_le_pow_right (by decide) (by omega)))]
  simp
theorem foldl_flat {σ α β : Type} (f : σ → β → σ) (g : α → List β) (L : List α) (s : σ) : (L.flatMap g).foldl f s = L.foldl (fun s a => (g a).foldl f s) s := by
  induction L generalizing s with
  | nil => rfl
  | cons a L ih => rw [List.flatMap_cons, List.foldl_append, List.foldl_cons, ih]
theorem foldl_cong {σ α : Type} (f g : σ → α → σ) (L : List α) (h : ∀ a ∈ L, ∀ s, f s a = g s a) (s : σ) : L.foldl f s = L.foldl g s := by
  induction L generalizing s with
  | nil => rfl
  | cons a L ih => rw [List.foldl_cons, List.foldl_cons, h a (List.mem_cons_self ..), ih (fun b hb => h b (List.mem_cons_of_mem _ hb))]
theorem gs_gl {σ : Type} (st : σ → List Nat → σ) (t : List Int) (T : List (List Bool)) (n : Nat) (hn : n ≤ 16) (hT : T.length = n) (A : Nat → Nat → Bool)
    (h1 : ∀ a b, a < n → b < n → tab T a b = A a b) (h2 : ∀ a b, a < n → b < n → (t.getD a 0).toNat.testBit b = A a b) (hs : ∀ a b, A a b = A b a) (hi : ∀ a, A a a = false) : ∀ (m : Nat) (p : List Nat) (i left : Nat) (s : σ),
    (∀ x ∈ p, x < n) → left < 2 ^ n → (∀ j, j < n → left.testBit j = (decide (i ≤ j) && joins T p j)) → gsF st t m p left s = (glF T m p i).foldl st s := by
  intro m
  induction m with
  | zero => intro p i left s _ _ _; rfl
  | succ m ih =>
    intro p i left s hp hl hb
    show (bl left).foldl _ _ = _
    rw [show glF T (m + 1) p i = p :: ((List.range T.length).filter (fun a => decide (i ≤ a) && joins T p a)).flatMap (fun a => glF T m (p ++ [a]) (a + 1)) from rfl, List.foldl_cons, foldl_flat, bl_upto' left n hl hn, hT]
    rw [List.filter_congr (fun a ha => hb a (List.mem_range.1 ha))]
    refine foldl_cong _ _ _ (fun a ha s => ?_) _
    have ham := List.mem_filter.1 ha
    have han := List.mem_range.1 ham.1
    have hp16 : 2 ^ n ≤ 65536 := Nat.pow_le_pow_right (by decide) (by omega : n ≤ 16)
    have hia : i ≤ a := by have := ham.2; simp at this; exact this.1
    have hlt : left &&& (t.getD a 0).toNat < 2 ^ n := Nat.lt_of_le_of_lt Nat.and_le_left hl
    refine ih _ _ _ s (fun x hx => (List.mem_append.1 hx).elim (hp x) (fun h => by rw [List.mem_singleton.1 h]; exact han)) (Nat.lt_of_le_of_lt Nat.and_le_left hlt) (fun j hj => ?_)
    unfold onw
    rw [testBit_clr _ _ _ (by omega), Nat.testBit_and, hb j hj, h2 a j han hj, Nat.testBit_two_pow_sub_one]
    have hjo : joins T (p ++ [a]) j = (joins T p j && A a j) := by
      unfold joins
      rw [List.all_append, List.all_cons, List.all_nil, Bool.and_true, h1 j a hj han, hs j a]
    rw [hjo]
    by_cases e : j = a
    · subst e; rw [hi]; simp
    · by_cases e2 : a + 1 ≤ j
      · rw [decide_eq_true (show i ≤ j by omega), decide_eq_false (show ¬ j < a by omega), decide_eq_true e2]; simp
      · rw [decide_eq_false e2, decide_eq_true (show j < a by omega)]; simp
theorem commonT_bit (t : List Int) (p : List Nat) (all j : Nat) : (commonT t all p).testBit j = (all.testBit j && p.all (fun a => (t.getD a 0).toNat.testBit j)) := by
  unfold commonT
  induction p generalizing all with
  | nil => simp
  | cons a p ih => rw [List.foldl_cons, ih, Nat.testBit_and, List.all_cons, Bool.and_assoc]
theorem commonT_le (t : List Int) (p : List Nat) (all : Nat) : commonT t all p ≤ all := by
  unfold commonT
  induction p generalizing all with
  | nil => exact Nat.le_refl _
  | cons a p ih => rw [List.foldl_cons]; exact Nat.le_trans (ih _) Nat.and_le_left
theorem full_common (t : List Int) (T : List (List Bool)) (n : Nat) (hT : T.length = n) (A : Nat → Nat → Bool)
    (h1 : ∀ a b, a < n → b < n → tab T a b = A a b) (h2 : ∀ a b, a < n → b < n → (t.getD a 0).toNat.testBit b = A a b) (hs : ∀ a b, A a b = A b a) (hi : ∀ a, A a a = false) (p : List Nat) (hp : ∀ x ∈ p, x < n) :
    decide (commonT t (2 ^ n - 1) p = 0) = fullT T p := by
  have hj : ∀ a, a < n → joins T p a = p.all (fun b => (t.getD b 0).toNat.testBit a) := by
    intro a ha
    unfold joins
    rw [Bool.eq_iff_iff, List.all_eq_true, List.all_eq_true]
    exact forall_congr' fun b => forall_congr' fun hb => by rw [h1 a b ha (hp b hb), h2 b a (hp b hb) ha, hs a b]
  have hin : ∀ a, a < n → joins T p a = true → ¬ a ∈ p := by
    intro a ha h hap
    have := List.all_eq_true.1 h a hap
    rw [h1 a a ha ha, hi] at this
    cases this
  have hlt : commonT t (2 ^ n - 1) p < 2 ^ n := Nat.lt_of_le_of_lt (commonT_le t p _) (by have := Nat.two_pow_pos n; omega)
  rw [Bool.eq_iff_iff, decide_eq_true_iff]
  unfold fullT
  rw [List.all_eq_true, hT]
  constructor
  · intro h a ha
    have ha := List.mem_range.1 ha
    have := commonT_bit t p (2 ^ n - 1) a
    rw [h, Nat.zero_testBit, Nat.testBit_two_pow_sub_one, decide_eq_true ha, Bool.true_and, ← hj a ha] at this
    rw [← this]; simp
  · intro h
    refine Nat.eq_of_testBit_eq (fun a => ?_)
    rw [Nat.zero_testBit]
    by_cases ha : a < n
    · rw [commonT_bit, Nat.testBit_two_pow_sub_one, decide_eq_true ha, Bool.true_and, ← hj a ha]
      have := h a (List.mem_range.2 ha)
      cases hja : joins T p a
      · rfl
      · rw [hja] at this
        simp at this
        exact absurd this (hin a ha hja)
    · exact Nat.testBit_lt_two_pow (Nat.lt_of_lt_of_le hlt (Nat.pow_le_pow_right (by decide) (by omega)))
theorem foldl_stFull (t : List Int) (all : Nat) (L : List (List Nat)) (s : List (List Nat)) : L.foldl (stFull t all) s = s ++ L.filter (fun g => decide (commonT t all g = 0)) := by
  induction L generalizing s with
  | nil => simp
  | cons g L ih =>
    rw [List.foldl_cons, ih]
    unfold stFull
    by_cases h : commonT t all g = 0
    · rw [if_pos h, List.filter_cons_of_pos (by simpa using h)]; simp
    · rw [if_neg h, List.filter_cons_of_neg (by simpa using h)]
theorem glF_mem (T : List (List Bool)) (n : Nat) (hT : T.length = n) : ∀ (m : Nat) (p : List Nat) (i : Nat), (∀ x ∈ p, x < n) → ∀ g ∈ glF T m p i, ∀ x ∈ g, x < n := by
  intro m
  induction m with
  | zero => intro p i _ g hg; cases hg
  | succ m ih =>
    intro p i hp g hg
    rcases List.mem_cons.1 hg with rfl | hg
    · exact hp
    · obtain ⟨a, ha, hg⟩ := List.mem_flatMap.1 hg
      have := List.mem_range.1 (List.mem_filter.1 ha).1
      exact ih _ _ (fun x hx => (List.mem_append.1 hx).elim (hp x) (fun h => by rw [List.mem_singleton.1 h]; omega)) g hg
theorem fulls_same (t : List Int) (T : List (List Bool)) (n : Nat) (hn : n ≤ 16) (hT : T.length = n) (A : Nat → Nat → Bool)
    (h1 : ∀ a b, a < n → b < n → tab T a b = A a b) (h2 : ∀ a b, a < n → b < n → (t.getD a 0).toNat.testBit b = A a b) (hs : ∀ a b, A a b = A b a) (hi : ∀ a, A a a = false) (m : Nat) :
    gsF (stFull t (2 ^ n - 1)) t m [] (2 ^ n - 1) [] = (glF T m [] 0).filter (fullT T) := by
  rw [gs_gl (stFull t (2 ^ n - 1)) t T n hn hT A h1 h2 hs hi m [] 0 _ [] (fun x hx => by cases hx) (by have := Nat.two_pow_pos n; omega) (fun j hj => by rw [Nat.testBit_two_pow_sub_one, decide_eq_true hj]; simp [joins]), foldl_stFull, List.nil_append]
  refine List.filter_congr (fun g hg => full_common t T n hT A h1 h2 hs hi g (glF_mem T n hT m [] 0 (fun x hx => by cases hx) g hg))
end Go.Proofs.YtopahhcojncgaaaDoor.G
namespace Go.Proofs.YtopahhcojncgaaaDoor.G
open Go.RowKit Go.Proofs.YtopahhcojncgaaaDoorW.PrintWords Go.Proofs.YtopahhcojncgaaaDoorW.PrintLast Go.Proofs.YtopahhcojncgaaaDoorW.PrintMore
attribute [local go_sem] max2_int min2_int max_two min_two max_three min_three max_four min_four
set_option linter.unusedVariables false
set_option linter.unusedSimpArgs false
def laws_markPairS.l0 : Nat → List (S98) → Int → Int → Option (Int × (List (S98)))
 | 0, _, _, _ => none
 | k + 1, x0, x1, x5 => if x5 < (x0.length : Int) then (if 0 ≤ x5 then ((some (x0.set (x5 : Int).toNat (⟨x1, (rd_T98 x0 x5).f1⟩ : S98) : List (S98))).bind fun y280 => (laws_markPairS.l0 k (y280.set (x5 : Int).toNat (⟨(rd_T98 y280 x5).f0, wrap64 (x1 + 1)⟩ : S98)) (wrap64 ((wrap64 (x1 + 1)) + 1)) (wrap64 (x5 + 1)))) else (none)) else (some (x1, x0))
def laws_markPairS.f (k : Nat) (l0 : List (S98)) (a1 : Int) : Option (Int × (List (S98))) := laws_markPairS.l0 k l0 a1 0
theorem laws_markPairS.mono_l : ∀ k, (∀ y0 y1 y2, LeO (laws_markPairS.l0 k y0 y1 y2) (laws_markPairS.l0 (k + 1) y0 y1 y2))
 | 0 => fun _ _ _ r h => by simp [laws_markPairS.l0] at h
 | k + 1 => by
  have ih0 := laws_markPairS.mono_l k
  ·intro y0 y1 y2
   unfold laws_markPairS.l0
   repeat' first
   | (with_reducible exact ih0 _ _ _)
   | (with_reducible exact LeO.refl _)
   | (with_reducible exact LeO.none _)
   | (with_reducible refine LeO.ite ?_ ?_)
   | (with_reducible refine LeO.bind ?_ (fun _ => ?_))
   | exact ih0 _ _ _
   | exact LeO.none _
   | refine LeO.ite ?_ ?_
   | refine LeO.bind ?_ (fun _ => ?_)
theorem laws_markPairS.mono : ∀ a0 a1 k, LeO (laws_markPairS.f k a0 a1) (laws_markPairS.f (k + 1) a0 a1) := by
 intro a0 a1 k
 have ih0 := laws_markPairS.mono_l k
 unfold laws_markPairS.f
 repeat' first
   | (with_reducible exact ih0 _ _ _)
   | (with_reducible exact LeO.refl _)
   | (with_reducible exact LeO.none _)
   | (with_reducible refine LeO.ite ?_ ?_)
   | (with_reducible refine LeO.bind ?_ (fun _ => ?_))
   | exact ih0 _ _ _
   | exact LeO.none _
   | refine LeO.ite ?_ ?_
   | refine LeO.bind ?_ (fun _ => ?_)
set_option maxHeartbeats 8000000 in
set_option maxRecDepth 100000 in
theorem laws_markPairS.calls (k : Nat) (P0_ : Nat → Prop) (u9000_ : Value) (l0 : List (S98)) (a1 : Int) (r1 : Int) (r2 : List (S98)) (w0 w : World) (hB : Below w0.heap.size w0 w) (ho0 : Kd.R k98 98 w w0.heap.size P0_ u9000_ l0) (h : laws_markPairS.f k l0 a1 = some (r1, r2)) :
  Calls Tryd.prog 24 #[u9000_, .int .i64 a1] w fun e w' => e = .returned (.int .i64 r1) ∧ Kd.R k98 98 w' w0.heap.size (fun k_ => (P0_ k_ ∨ w.heap.size ≤ k_)) u9000_ r2 ∧ Below w0.heap.size w0 w' ∧ Kept w w' (fun k_ => P0_ k_) := by
 have HO0 := Aside0.mk (show Kd.R k98 98 w w0.heap.size (fun k_ => (P0_ k_ ∨ w.heap.size ≤ k_)) u9000_ l0 from Kd.R_mono ho0 (fun k_ hk => (.inl hk)))
 have HK := Aside0.mk (Kept.refl w (fun k_ => P0_ k_))
 have HW0 := Aside0.mk hB.size
 have HB := Aside0.mk hB
 clear hB
 have H : (laws_markPairS.l0 k l0 a1 0) = some (r1, r2) := h
 clear h
 have H' := Aside0.mk H
 clear H
 go_enter Tryd.func24, Tryd.ntmps24
 go_wp2
 go_loopg [1, 5] k (fun kq v1 v5 w' => ∃ (x0_1 : List (S98)) (x1_1 : Int) (x5_1 : Int), v1 = .int .i64 x1_1 ∧ v5 = .int .i64 x5_1 ∧ Aside0 (laws_markPairS.l0 kq x0_1 x1_1 x5_1 = some (r1, r2)) ∧ Aside0 (kq ≤ k) ∧ Aside0 (Kd.R k98 98 w' w0.heap.size (fun k_ => (P0_ k_ ∨ w.heap.size ≤ k_)) u9000_ x0_1) ∧ Aside0 (Kept w w' (fun k_ => P0_ k_)) ∧ Aside0 (Below w0.heap.size w0 w'))
 case atStart => exact ⟨(l0), (a1), (0), (by first | rfl | (simp; done) | (simp [*]; done)), (by first | rfl | (simp; done) | (simp [*]; done)), H', ⟨Nat.le_refl _⟩, ⟨by (with_reducible repeat (first | apply Kd.R_alloc | apply Kd.R_drewN | apply Kd.R_drew)); exact HO0.out⟩, ⟨by repeat (first | (with_reducible first | exact HK.out | apply Kept.alloc | apply Kept.drewN | apply Kept.drew) | exact HK.out)⟩, ⟨by repeat (first | (with_reducible first | exact HB.out | apply below_alloc | apply pw_below_drewN | apply below_drew1) | exact HB.out)⟩⟩
 case round =>
  clear H'
  try clear c2
  try clear p2
  obtain ⟨x0_1, x1_1, x5_1, rfl, rfl, HA, HK1, HO_0, HK, HB⟩ := hrel
  cases gk with
  | zero => exact absurd HA.out (by simp [laws_markPairS.l0])
  | succ k1 =>
   have H := HA.out
   clear HA
   simp only [laws_markPairS.l0] at H
   by_cases c3 : x5_1 < (x0_1.length : Int)
   ·rw [if_pos c3] at H
    have c3b0 : decide (x5_1 < (x0_1.length : Int)) = true := decide_eq_true c3
    clear c3
    by_cases c4 : 0 ≤ x5_1
    ·rw [if_pos c4] at H
     have c4b0 : decide (0 ≤ x5_1) = true := decide_eq_true c4
     clear c4
     obtain ⟨y280, hy280⟩ : ∃ y_ : List (S98), y_ = (x0_1.set (x5_1 : Int).toNat (⟨x1_1, (rd_T98 x0_1 x5_1).f1⟩ : S98)) := ⟨_, rfl⟩
     replace H : (laws_markPairS.l0 k1 (y280.set (x5_1 : Int).toNat (⟨(rd_T98 y280 x5_1).f0, wrap64 (x1_1 + 1)⟩ : S98)) (wrap64 ((wrap64 (x1_1 + 1)) + 1)) (wrap64 (x5_1 + 1))) = some (r1, r2) := by first | (rw [hy280]; with_reducible exact H) | (have H2_ := (Option.bind_some _ _).symm.trans H; rw [hy280]; with_reducible exact H2_) | (have H2_ := (Option.bind_some _ _).symm.trans H; with_reducible exact H2_) | with_reducible exact H | (rw [hy280]; exact H) | exact H
     have Ny280 := Aside0.mk hy280
     clear hy280
     obtain ⟨y281, hy281⟩ : ∃ y_ : List (S98), y_ = (y280.set (x5_1 : Int).toNat (⟨(rd_T98 y280 x5_1).f0, wrap64 (x1_1 + 1)⟩ : S98)) := ⟨_, rfl⟩
     replace H : (laws_markPairS.l0 k1 y281 (wrap64 ((wrap64 (x1_1 + 1)) + 1)) (wrap64 (x5_1 + 1))) = some (r1, r2) := by first | (rw [hy281]; with_reducible exact H) | (have H2_ := (Option.bind_some _ _).symm.trans H; rw [hy281]; with_reducible exact H2_) | (have H2_ := (Option.bind_some _ _).symm.trans H; with_reducible exact H2_) | with_reducible exact H | (rw [hy281]; exact H) | exact H
     have Ny281 := Aside0.mk hy281
     clear hy281
     have H' := Aside0.mk H
     clear H
     obtain ⟨Ao7, co7, eo7⟩ := Kd.R_slice HO_0.out
     subst eo7
     have p5 : 0 ≤ (x5_1 : Int) := of_decide_eq_true (by first | (with_reducible assumption) | assumption)
     have q5 : (x5_1 : Int) < ((x0_1.length : Int) : Int) := of_decide_eq_true (by first | (with_reducible assumption) | assumption)
     obtain ⟨go5, co5, eo5, gb5, gl5, cl5, HG5⟩ := Kd.R_form HO_0.out (by omega)
     (first | cases eo5 | (injection eo5 with ea_ en_ ec_; (first | subst ea_ | (injection ea_ with ea_; subst ea_)); subst ec_; clear en_))
     have GB5 := Aside0.mk gb5
     have GG5 := Aside0.mk HG5
     clear gb5 gl5 HG5
     have HMgo5 := Aside0.mk (show (P0_ go5 ∨ w.heap.size ≤ go5) from (HO_0.out.1 _ rfl))
     obtain ⟨ce5, hcl5, hM5, hcc5, hfr5⟩ := Kd.R_elem HO_0.out z98 (x5_1 : Int) p5 q5
     obtain rfl := k98_openM hM5
     have hx5_0 : wr.cell? ⟨go5, (x5_1 : Int).toNat * 2, none⟩ = some (.int .i64 ((rd_T98 x0_1 x5_1).f0)) := hcc5 0 _ rfl
     have hx5_1 : wr.cell? ⟨go5, (x5_1 : Int).toNat * 2 + 1, none⟩ = some (.int .i64 ((rd_T98 x0_1 x5_1).f1)) := hcc5 1 _ rfl
     have hf5_0 : wr.frozen? ⟨go5, (x5_1 : Int).toNat * 2, none⟩ = false := hfr5 0
     have hf5_1 : wr.frozen? ⟨go5, (x5_1 : Int).toNat * 2 + 1, none⟩ = false := hfr5 1
     clear hcl5 hcc5 hfr5; (try clear hM5)
     replace p5 := eq_true p5
     replace q5 := eq_true q5
     have HX8 := Aside0.mk (show Kd.R k98 98 wr w0.heap.size (fun k_ => (P0_ k_ ∨ w.heap.size ≤ k_)) (.slice (some ⟨go5, 0, none⟩) x0_1.length co7) x0_1 from (by (with_reducible repeat (first | apply Kd.R_alloc | apply Kd.R_drewN | apply Kd.R_drew)); exact HO_0.out))
     obtain ⟨ce8, hcl8, hM8, hcc8, hfr8⟩ := Kd.R_elem HX8.out z98 (x5_1 : Int) (of_decide_eq_true (by first | (with_reducible assumption) | assumption)) (by have h_ : (x5_1 : Int) < ((x0_1.length : Int) : Int) := of_decide_eq_true (by first | (with_reducible assumption) | assumption); first | exact h_ | (have e_ := (Kd.R_reads' HO_0.out).1; omega) | simpa using h_)
     obtain rfl := k98_openM hM8
     have HP8 := Kd.R_seg HX8.out (x5_1 : Int) (of_decide_eq_true (by first | (with_reducible assumption) | assumption)) (by have h_ : (x5_1 : Int) < ((x0_1.length : Int) : Int) := of_decide_eq_true (by first | (with_reducible assumption) | assumption); first | exact h_ | (have e_ := (Kd.R_reads' HO_0.out).1; omega) | simpa using h_) (seg := [.int .i64 x1_1]) (j := 0) hcl8 hcc8 (show 1 ≤ 2 from by decide) (x' := (⟨x1_1, (rd_T98 x0_1 x5_1).f1⟩ : S98)) (k98_mkM _ _ _ (⟨x1_1, (rd_T98 x0_1 x5_1).f1⟩ : S98) ) (fun _ hk => hk)
     have hx8_0 := hcc8 0 _ rfl
     (try simp only [show (k98).sz = 2 from rfl, Nat.mul_one, Nat.add_zero] at hx8_0)
     have hf8_0 := hfr8 0
     (try simp only [show (k98).sz = 2 from rfl, Nat.mul_one, Nat.add_zero] at hf8_0)
     clear hcl8 hcc8 hfr8; (try clear hM8)
     go_wp2_with (first | ((with_reducible refine gate_store (t := 3) (p := 16) rfl ?_); refine store_event (t := 3) (p := 16) (v := ?vo_w9) (w1 := (wr.setCell ⟨go5, (x5_1 : Int).toNat * 2, none⟩ (.int .i64 x1_1))) ?hg ?ho ?hn ?hr ?_; (case ho => rfl); (case hg => rfl); (case hn => rfl); (case hr => first | (go_simp; done) | (go_simp; rfl)); intro w9 hw; have hg : wr.grownBy w9 (some go5) := (by rw [hw]; exact HP8.2); have hp_ : Kd.R k98 98 w9 w0.heap.size (fun k_ => (P0_ k_ ∨ w.heap.size ≤ k_)) (.slice (some ⟨go5, 0, none⟩) x0_1.length co7) y280 := (by rw [hw, Ny280.out]; exact HP8.1); clear HP8; have n0_ := Aside0.mk (hp_); have n1_ := Aside0.mk ((by rw [hw]; exact below_set (HB.out) GB5.out : Below w0.heap.size w0 w9)); have n2_ := Aside0.mk (Kept.of_grown (S := (fun k_ => P0_ k_)) hg (by repeat (first | (with_reducible first | exact HK.out | apply Kept.alloc | apply Kept.drewN | apply Kept.drew) | exact HK.out)) (fun k_ e_ => (HO_0.out.1 k_ e_))); clear HO_0; clear HB; clear HK; have HO_0 := n0_; have HB := n1_; have HK := n2_; clear n0_ n1_ n2_; clear hg hw hp_; have p6 : 0 ≤ (x5_1 : Int) := of_decide_eq_true (by first | (with_reducible assumption) | assumption); have q6 : (x5_1 : Int) < ((x0_1.length : Int) : Int) := of_decide_eq_true (by first | (with_reducible assumption) | assumption); obtain ⟨ce6, hcl6, hM6, hcc6, hfr6⟩ := Kd.R_elem HO_0.out z98 (x5_1 : Int) p6 q6; obtain rfl := k98_openM hM6; have hx6_0 : w9.cell? ⟨go5, (x5_1 : Int).toNat * 2, none⟩ = some (.int .i64 ((rd_T98 y280 x5_1).f0)) := hcc6 0 _ rfl; have hx6_1 : w9.cell? ⟨go5, (x5_1 : Int).toNat * 2 + 1, none⟩ = some (.int .i64 ((rd_T98 y280 x5_1).f1)) := hcc6 1 _ rfl; have hf6_0 : w9.frozen? ⟨go5, (x5_1 : Int).toNat * 2, none⟩ = false := hfr6 0; have hf6_1 : w9.frozen? ⟨go5, (x5_1 : Int).toNat * 2 + 1, none⟩ = false := hfr6 1; clear hcl6 hcc6 hfr6; (try clear hM6); replace p6 := eq_true p6; replace q6 := eq_true q6; have HX10 := Aside0.mk (show Kd.R k98 98 w9 w0.heap.size (fun k_ => (P0_ k_ ∨ w.heap.size ≤ k_)) (.slice (some ⟨go5, 0, none⟩) x0_1.length co7) y280 from (by (with_reducible repeat (first | apply Kd.R_alloc | apply Kd.R_drewN | apply Kd.R_drew)); exact HO_0.out)); obtain ⟨ce10, hcl10, hM10, hcc10, hfr10⟩ := Kd.R_elem HX10.out z98 (x5_1 : Int) (of_decide_eq_true (by first | (with_reducible assumption) | assumption)) (by have h_ : (x5_1 : Int) < ((x0_1.length : Int) : Int) := of_decide_eq_true (by first | (with_reducible assumption) | assumption); first | exact h_ | (have e_ := (Kd.R_reads' HO_0.out).1; omega) | simpa using h_); obtain rfl := k98_openM hM10; have HP10 := Kd.R_seg HX10.out (x5_1 : Int) (of_decide_eq_true (by first | (with_reducible assumption) | assumption)) (by have h_ : (x5_1 : Int) < ((x0_1.length : Int) : Int) := of_decide_eq_true (by first | (with_reducible assumption) | assumption); first | exact h_ | (have e_ := (Kd.R_reads' HO_0.out).1; omega) | simpa using h_) (seg := [.int .i64 (wrap64 (x1_1 + 1))]) (j := 1) hcl10 hcc10 (show 2 ≤ 2 from by decide) (x' := (⟨(rd_T98 y280 x5_1).f0, wrap64 (x1_1 + 1)⟩ : S98)) (k98_mkM _ _ _ (⟨(rd_T98 y280 x5_1).f0, wrap64 (x1_1 + 1)⟩ : S98) ) (fun _ hk => hk); have hx10_1 := hcc10 1 _ rfl; (try simp only [show (k98).sz = 2 from rfl, Nat.mul_one, Nat.add_zero] at hx10_1); have hf10_1 := hfr10 1; (try simp only [show (k98).sz = 2 from rfl, Nat.mul_one, Nat.add_zero] at hf10_1); clear hcl10 hcc10 hfr10; (try clear hM10)) | ((with_reducible refine gate_store (t := 3) (p := 23) rfl ?_); refine store_event (t := 3) (p := 23) (v := ?vo_w11) (w1 := (w9.setCell ⟨go5, (x5_1 : Int).toNat * 2 + 1, none⟩ (.int .i64 (wrap64 (x1_1 + 1))))) ?hg ?ho ?hn ?hr ?_; (case ho => rfl); (case hg => rfl); (case hn => rfl); (case hr => first | (go_simp; done) | (go_simp; rfl)); intro w11 hw; have hg : w9.grownBy w11 (some go5) := (by rw [hw]; exact HP10.2); have hp_ : Kd.R k98 98 w11 w0.heap.size (fun k_ => (P0_ k_ ∨ w.heap.size ≤ k_)) (.slice (some ⟨go5, 0, none⟩) x0_1.length co7) y281 := (by rw [hw, Ny281.out]; exact HP10.1); clear HP10; have n0_ := Aside0.mk (hp_); have n1_ := Aside0.mk ((by rw [hw]; exact below_set (HB.out) GB5.out : Below w0.heap.size w0 w11)); have n2_ := Aside0.mk (Kept.of_grown (S := (fun k_ => P0_ k_)) hg (by repeat (first | (with_reducible first | exact HK.out | apply Kept.alloc | apply Kept.drewN | apply Kept.drew) | exact HK.out)) (fun k_ e_ => (HO_0.out.1 k_ e_))); clear HO_0; clear HB; clear HK; have HO_0 := n0_; have HB := n1_; have HK := n2_; clear n0_ n1_ n2_; clear hg hw hp_))
     go_roundg k1
     case measure => have := HK1.out; omega
     case rel => exact ⟨(y281), (wrap64 ((wrap64 (x1_1 + 1)) + 1)), (wrap64 (x5_1 + 1)), (by first | rfl | (simp; done) | (simp [*]; done)), (by first | rfl | (simp; done) | (simp [*]; done)), H', ⟨by have := HK1.out; omega⟩, ⟨by (with_reducible repeat (first | apply Kd.R_alloc | apply Kd.R_drewN | apply Kd.R_drew)); exact HO_0.out⟩, ⟨by repeat (first | (with_reducible first | exact HK.out | apply Kept.alloc | apply Kept.drewN | apply Kept.drew) | exact HK.out)⟩, ⟨by repeat (first | (with_reducible first | exact HB.out | apply below_alloc | apply pw_below_drewN | apply below_drew1) | exact HB.out)⟩⟩
    ·rw [if_neg c4] at H
     exact absurd H (by simp)
   ·rw [if_neg c3] at H
    have c3b0 : decide (x5_1 < (x0_1.length : Int)) = false := decide_eq_false c3
    clear c3
    simp only [Option.some.injEq, Prod.mk.injEq] at H
    obtain ⟨rfl, rfl⟩ := H
    obtain ⟨Ao12, co12, eo12⟩ := Kd.R_slice HO_0.out
    subst eo12
    go_wp2
    go_ret
    exact ⟨by first | rfl | (simp [errW_none, errW_some] <;> rfl) | (simp [*, errW_none, errW_some] <;> rfl), by (with_reducible repeat (first | apply Kd.R_alloc | apply Kd.R_drewN | apply Kd.R_drew)); exact HO_0.out, by repeat (first | (with_reducible first | exact HB.out | apply below_alloc | apply pw_below_drewN | apply below_drew1) | exact HB.out), by repeat (first | (with_reducible first | exact HK.out | apply Kept.alloc | apply Kept.drewN | apply Kept.drew) | exact HK.out)⟩
end Go.Proofs.YtopahhcojncgaaaDoor.G
namespace Go.Proofs.YtopahhcojncgaaaDoor.G
open Go.RowKit Go.Proofs.YtopahhcojncgaaaDoorW.PrintWords Go.Proofs.YtopahhcojncgaaaDoorW.PrintLast Go.Proofs.YtopahhcojncgaaaDoorW.PrintMore
attribute [local go_sem] max2_int min2_int max_two min_two max_three min_three max_four min_four
set_option linter.unusedVariables false
set_option linter.unusedSimpArgs false
def laws_markParty.f (k : Nat) (a0_0 : Int) (l0_1 : List (S98)) (a1 : Int) : Option (Int × (List (S98))) := (laws_markPairS.f k l0_1 a1).bind fun bt283 => (some (bt283.1, bt283.2))
theorem laws_markParty.mono : ∀ a0 a1 a2 k, LeO (laws_markParty.f k a0 a1 a2) (laws_markParty.f (k + 1) a0 a1 a2) := by
 intro a0 a1 a2 k
 unfold laws_markParty.f
 repeat' first
   | (with_reducible exact laws_markPairS.mono _ _ _)
   | (with_reducible exact LeO.refl _)
   | (with_reducible exact LeO.none _)
   | (with_reducible refine LeO.ite ?_ ?_)
   | (with_reducible refine LeO.bind ?_ (fun _ => ?_))
   | exact laws_markPairS.mono _ _ _
   | exact LeO.none _
   | refine LeO.ite ?_ ?_
   | refine LeO.bind ?_ (fun _ => ?_)
set_option maxHeartbeats 8000000 in
set_option maxRecDepth 100000 in
theorem laws_markParty.calls (k : Nat) (a0_0 : Int) (P0_1_ : Nat → Prop) (u9000_ : Value) (l0_1 : List (S98)) (a1 : Int) (r1 : Int) (r2 : List (S98)) (w0 w : World) (hB : Below w0.heap.size w0 w) (ho0_1 : Kd.R k98 98 w w0.heap.size P0_1_ u9000_ l0_1) (h : laws_markParty.f k a0_0 l0_1 a1 = some (r1, r2)) :
  Calls Tryd.prog 23 #[.agg #[.int .i64 a0_0, u9000_], .int .i64 a1] w fun e w' => e = .returned (.int .i64 r1) ∧ Kd.R k98 98 w' w0.heap.size (fun k_ => (P0_1_ k_ ∨ w.heap.size ≤ k_)) u9000_ r2 ∧ Below w0.heap.size w0 w' ∧ Kept w w' (fun k_ => P0_1_ k_) := by
 have hu30 := Tryd.underlying30
 have HO0_1 := Aside0.mk (show Kd.R k98 98 w w0.heap.size (fun k_ => (P0_1_ k_ ∨ w.heap.size ≤ k_)) u9000_ l0_1 from Kd.R_mono ho0_1 (fun k_ hk => (.inl hk)))
 have HK := Aside0.mk (Kept.refl w (fun k_ => P0_1_ k_))
 have HW0 := Aside0.mk hB.size
 have HB := Aside0.mk hB
 clear hB
 have H : ((laws_markPairS.f k l0_1 a1).bind fun bt283 => (some (bt283.1, bt283.2))) = some (r1, r2) := h
 clear h
 replace H := Option.bind_eq_some_iff.mp H
 obtain ⟨⟨t283, t284⟩, A30, H⟩ := H
 replace H : (some (t283, t284)) = some (r1, r2) := H
 have A3 := Aside0.mk A30
 clear A30
 simp only [Option.some.injEq, Prod.mk.injEq] at H
 obtain ⟨rfl, rfl⟩ := H
 obtain ⟨Ao4, co4, eo4⟩ := Kd.R_slice HO0_1.out
 subst eo4
 go_enter Tryd.func23, Tryd.ntmps23
 go_wp2_with (first | ((with_reducible refine gate_dst (N := 2) rfl ?_); refine box_event ?hg (N := 2) ?hd (cs := #[.int .i64 a0_0, .slice Ao4 l0_1.length co4]) (t := 30) ?hr ?_; (case hd => rfl); (case hg => rfl); (case hr => first | (go_simp; done) | (go_simp; rfl)); intro gb282 hg w5 hbox hb; have n0_ := Aside0.mk (Kd.R_below (by (with_reducible repeat (first | apply Kd.R_alloc | apply Kd.R_drewN | apply Kd.R_drew)); exact HO0_1.out) hb); have n1_ := Aside0.mk (Kept.below (S := (fun k_ => P0_1_ k_)) (by repeat (first | (with_reducible first | exact HK.out | apply Kept.alloc | apply Kept.drewN | apply Kept.drew) | exact HK.out)) hb); have n2_ := Aside0.mk (below_step (by repeat (first | (with_reducible first | exact HB.out | apply below_alloc | apply pw_below_drewN | apply below_drew1) | exact HB.out)) hb); have n3_ := Aside0.mk (hbox); have n4_ := Aside0.mk ((by rw [hg]; exact (by first | exact HK.out.1 | exact (show Kept w _ (fun k_ => P0_1_ k_) from by repeat (first | (with_reducible first | exact HK.out | apply Kept.alloc | apply Kept.drewN | apply Kept.drew) | exact HK.out)).1) : w.heap.size ≤ gb282)); have n5_ := Aside0.mk ((by rw [hg]; exact (below_size (by repeat (first | (with_reducible first | exact HB.out | apply below_alloc | apply pw_below_drewN | apply below_drew1) | exact HB.out))) : w0.heap.size ≤ gb282)); clear HO0_1; clear HK; clear HB; have HO0_1 := n0_; have HK := n1_; have HB := n2_; have BK282 := n3_; have GW282 := n4_; have GE282 := n5_; clear n0_ n1_ n2_ n3_ n4_ n5_; clear hb hbox hg; have hcz6_0 : w5.cell? ⟨gb282, 0, none⟩ = some (.int .i64 a0_0) := (blk_cell BK282.out 0).trans rfl; have hcz6_1 : w5.cell? ⟨gb282, 1, none⟩ = some (.slice Ao4 l0_1.length co4) := (blk_cell BK282.out 1).trans rfl; have hfz6_0 := blk_frozen BK282.out 0; have hfz6_1 := blk_frozen BK282.out 1) | ((with_reducible refine gate_callee (f := 24) rfl ?_); refine goesL_ (some 8) rfl rfl Tryd.func24 (by kernel_rfl) rfl #[.slice Ao4 l0_1.length co4, .int .i64 a1] rfl (by (try simp only [List.map_toArray, List.map_cons, List.map_nil]); first | done | rfl | (simp only [List.length_drop, List.length_take]; rfl)) ?_; (with_reducible refine (laws_markPairS.calls k (fun k_ => some k_ = (.slice Ao4 l0_1.length co4 : Value).ownBlock) (.slice Ao4 l0_1.length co4) l0_1 a1 t283 t284 w0 _ ?side1 ?side2 A3.out).mono ?_); (case side1 => repeat (first | (with_reducible first | exact HB.out | apply below_alloc | apply pw_below_drewN | apply below_drew1 | refine below_set ?_ GE282.out) | exact HB.out)); (case side2 => exact Kd.R_tight rfl HO0_1.out); rintro e w7 ⟨rfl, hy0, hb, hkp⟩; refine ⟨_, rfl, ?_⟩; have n0_ := Aside0.mk (Kd.R_reok rfl hy0 (fun k_ e_ => HO0_1.out.1 k_ e_)); have n1_ := Aside0.mk (blk_kept (by (with_reducible repeat (first | refine blk_drewN ?_ _ | refine blk_drew ?_ | refine blk_alloc ?_ _)); exact BK282.out) hkp (fun hs_ => (fun e_ => (Kd.R_ne HO0_1.out BK282.out (by decide)) e_) hs_)); have n2_ := Aside0.mk (Kept.then_ (S := (fun k_ => P0_1_ k_)) (by repeat (first | (with_reducible first | exact HK.out | apply Kept.alloc | apply Kept.drewN | apply Kept.drew | refine Kept.setCell ?_ (.inr GW282.out) _) | exact HK.out)) hkp (fun k_ hs_ => (fun e_ => (HO0_1.out.1 k_ e_.symm)) hs_)); have n3_ := Aside0.mk (hb); clear HO0_1; clear BK282; clear HK; clear HB; have HO0_1 := n0_; have BK282 := n1_; have HK := n2_; have HB := n3_; clear n0_ n1_ n2_ n3_; (try clear hb); (try clear hkp); (try clear hy0)))
 go_ret
 exact ⟨by first | rfl | (simp [errW_none, errW_some] <;> rfl) | (simp [*, errW_none, errW_some] <;> rfl), by (with_reducible repeat (first | apply Kd.R_alloc | apply Kd.R_drewN | apply Kd.R_drew)); exact HO0_1.out, by repeat (first | (with_reducible first | exact HB.out | apply below_alloc | apply pw_below_drewN | apply below_drew1 | refine below_set ?_ GE282.out) | exact HB.out), by repeat (first | (with_reducible first | exact HK.out | apply Kept.alloc | apply Kept.drewN | apply Kept.drew | refine Kept.setCell ?_ (.inr GW282.out) _) | exact HK.out)⟩
end Go.Proofs.YtopahhcojncgaaaDoor.G
namespace Go.Proofs.YtopahhcojncgaaaDoor.G
open Go.RowKit Go.Proofs.YtopahhcojncgaaaDoorW.PrintWords Go.Proofs.YtopahhcojncgaaaDoorW.PrintLast Go.Proofs.YtopahhcojncgaaaDoorW.PrintMore
set_option linter.unusedVariables false
set_option linter.unusedSimpArgs false
def marks (m : Nat) : List S98 := (List.range m).map fun (i : Nat) => ⟨1 + 2 * (i : Int), 2 + 2 * (i : Int)⟩
theorem marks_len (m : Nat) : (marks m).length = m := by simp [marks]
theorem marks_at (m i : Nat) (h : i < m) : rd_T98 (marks m) (i : Int) = ⟨1 + 2 * (i : Int), 2 + 2 * (i : Int)⟩ := by
  rw [rd98 _ _ (by rw [marks_len]; exact h)]
  simp [marks]
theorem markPairS_l0 (m : Nat) (hl : m ≤ 1048576) : ∀ (d i : Nat) (x : List S98), i + d = m → x.length = m → x.take i = (marks m).take i →
    Ev (fun k => laws_markPairS.l0 k x (1 + 2 * (i : Int)) (i : Int)) (1 + 2 * (m : Int), marks m) := by
  intro d
  induction d with
  | zero =>
    intro i x hi hx ht
    have : x = marks m := by
      rw [List.take_of_length_le (by omega), List.take_of_length_le (by rw [marks_len]; omega)] at ht
      exact ht
    subst this
    obtain rfl : i = m := by omega
    exact Ev.step (fun k => laws_markPairS.l0.eq_2 ..) (Ev.ifn (by omega) (Ev.pure _))
  | succ d ih =>
    intro i x hi hx ht
    have hil : i < x.length := by omega
    refine Ev.step (fun k => laws_markPairS.l0.eq_2 ..) (Ev.ifp (by omega) (Ev.ifp (by omega) (Ev.bindC rfl ?_)))
    rw [w64 (x := (i : Int) + 1) (by omega) (by omega), w64 (x := 1 + 2 * (i : Int) + 1) (by omega) (by omega), w64 (by omega) (by omega)]
    have e1 : (1 + 2 * (i : Int) + 1 + 1) = 1 + 2 * ((i + 1 : Nat) : Int) := by omega
    have e2 : ((i : Int) + 1) = ((i + 1 : Nat) : Int) := by omega
    rw [e1, e2]
    refine ih (i + 1) _ (by omega) (by simp only [List.length_set]; exact hx) ?_
    rw [Int.toNat_natCast]
    have e3 : (rd_T98 (x.set i (⟨1 + 2 * (i : Int), (rd_T98 x (i : Int)).f1⟩ : S98)) (i : Int)).f0 = 1 + 2 * (i : Int) := by
      rw [rd98 _ _ (by rw [List.length_set]; exact hil), List.getElem_set_self]
    rw [e3, List.set_set, List.take_succ_eq_append_getElem (by rw [List.length_set]; omega), List.take_set_of_le (Nat.le_refl _), ht, List.take_succ_eq_append_getElem (by rw [marks_len]; omega), List.getElem_set_self]
    congr 2
    simp [marks]
    omega
theorem markPairS_eq (l : List S98) (hl : l.length ≤ 1048576) : Ev (fun k => laws_markPairS.f k l 1) (1 + 2 * (l.length : Int), marks l.length) := by
  unfold laws_markPairS.f
  exact markPairS_l0 l.length hl l.length 0 l (by omega) rfl (by simp)
theorem markParty_eq (n : Int) (l : List S98) (hl : l.length ≤ 1048576) : Ev (fun k => laws_markParty.f k n l 1) (1 + 2 * (l.length : Int), marks l.length) := by
  unfold laws_markParty.f
  exact Ev.bind (markPairS_eq l hl) (Ev.pure _)
end Go.Proofs.YtopahhcojncgaaaDoor.G
namespace Go.Proofs.YtopahhcojncgaaaDoor.G
open Go.RowKit Go.Proofs.YtopahhcojncgaaaDoorW.PrintWords Go.Proofs.YtopahhcojncgaaaDoorW.PrintLast Go.Proofs.YtopahhcojncgaaaDoorW.PrintMore
attribute [local go_sem] max2_int min2_int max_two min_two max_three min_three max_four min_four
set_option linter.unusedVariables false
set_option linter.unusedSimpArgs false
def laws_eqIntS.l0 : Nat → List Int → List Int → Int → Option (Bool)
 | 0, _, _, _ => none
 | k + 1, x0, x1, x5 => if x5 < (x0.length : Int) then (if 0 ≤ x5 then (if x5 < (x1.length : Int) then (if (rd x0 x5) = (rd x1 x5) then (laws_eqIntS.l0 k x0 x1 (wrap64 (x5 + 1))) else (some false)) else (none)) else (none)) else (some true)
def laws_eqIntS.f (k : Nat) (l0 : List Int) (l1 : List Int) : Option (Bool) := if (l0.length : Int) = (l1.length : Int) then (laws_eqIntS.l0 k l0 l1 0) else (some false)
theorem laws_eqIntS.mono_l : ∀ k, (∀ y0 y1 y2, LeO (laws_eqIntS.l0 k y0 y1 y2) (laws_eqIntS.l0 (k + 1) y0 y1 y2))
 | 0 => fun _ _ _ r h => by simp [laws_eqIntS.l0] at h
 | k + 1 => by
  have ih0 := laws_eqIntS.mono_l k
  ·intro y0 y1 y2
   unfold laws_eqIntS.l0
   repeat' first
   | (with_reducible exact ih0 _ _ _)
   | (with_reducible exact LeO.refl _)
   | (with_reducible exact LeO.none _)
   | (with_reducible refine LeO.ite ?_ ?_)
   | (with_reducible refine LeO.bind ?_ (fun _ => ?_))
   | exact ih0 _ _ _
   | exact LeO.none _
   | refine LeO.ite ?_ ?_
   | refine LeO.bind ?_ (fun _ => ?_)
theorem laws_eqIntS.mono : ∀ a0 a1 k, LeO (laws_eqIntS.f k a0 a1) (laws_eqIntS.f (k + 1) a0 a1) := by
 intro a0 a1 k
 have ih0 := laws_eqIntS.mono_l k
 unfold laws_eqIntS.f
 repeat' first
   | (with_reducible exact ih0 _ _ _)
   | (with_reducible exact LeO.refl _)
   | (with_reducible exact LeO.none _)
   | (with_reducible refine LeO.ite ?_ ?_)
   | (with_reducible refine LeO.bind ?_ (fun _ => ?_))
   | exact ih0 _ _ _
   | exact LeO.none _
   | refine LeO.ite ?_ ?_
   | refine LeO.bind ?_ (fun _ => ?_)
set_option maxHeartbeats 8000000 in
set_option maxRecDepth 100000 in
theorem laws_eqIntS.calls (k : Nat) (A0 : Option Addr) (c0 : Nat) (l0 : List Int) (A1 : Option Addr) (c1 : Nat) (l1 : List Int) (r : Bool) (w : World) (hr0 : Kd.C (Kd.int .i64) w A0 l0.length l0) (hc0 : l0.length ≤ c0) (hr1 : Kd.C (Kd.int .i64) w A1 l1.length l1) (hc1 : l1.length ≤ c1) (h : laws_eqIntS.f k l0 l1 = some r) :
  Calls Tryd.prog 84 #[.slice A0 l0.length c0, .slice A1 l1.length c1] w fun e w' => e = .returned (.bool r) ∧ Drawn0 w w' := by
 have HR0 := Aside0.mk hr0
 have HC0 := Aside0.mk hc0
 clear hr0 hc0
 have HR1 := Aside0.mk hr1
 have HC1 := Aside0.mk hc1
 clear hr1 hc1
 have H : (if (l0.length : Int) = (l1.length : Int) then (laws_eqIntS.l0 k l0 l1 0) else (some false)) = some r := h
 clear h
 by_cases c3 : (l0.length : Int) = (l1.length : Int)
 ·rw [if_pos c3] at H
  have c3b0 : ((l0.length : Int) == (l1.length : Int)) = true := beq_iff_eq.mpr c3
  have c3b1 : ((l0.length : Int) != (l1.length : Int)) = false := bne_eq_false_iff_eq.mpr c3
  have c3b2 : (l0.length == l1.length) = true := by first | simpa using c3 | (simp at c3 ⊢; omega)
  clear c3
  have H' := Aside0.mk H
  clear H
  go_enter Tryd.func84, Tryd.ntmps84
  go_wp2
  repeat (go_quiet (fail); try go_wp2)
  go_loopg [5] k (fun kq v5 w' => ∃ (x5_1 : Int), v5 = .int .i64 x5_1 ∧ Aside0 (laws_eqIntS.l0 kq l0 l1 x5_1 = some r) ∧ Aside0 (kq ≤ k) ∧ Drawn0 w w')
  case atStart => exact ⟨(0), (by first | rfl | (simp; done) | (simp [*]; done)), H', ⟨Nat.le_refl _⟩, by repeat (first | exact Drawn0.refl _ | apply Drawn0.step)⟩
  case round =>
   clear H'
   try clear c1
   try clear p2
   try clear c3
   try clear c3b0
   try clear c3b1
   try clear c3b2
   obtain ⟨x5_1, rfl, HA, HK1, ⟨m1, rfl⟩⟩ := hrel
   cases gk with
   | zero => exact absurd HA.out (by simp [laws_eqIntS.l0])
   | succ k1 =>
    have H := HA.out
    clear HA
    simp only [laws_eqIntS.l0] at H
    by_cases c4 : x5_1 < (l0.length : Int)
    ·rw [if_pos c4] at H
     have c4b0 : decide (x5_1 < (l0.length : Int)) = true := decide_eq_true c4
     clear c4
     by_cases c5 : 0 ≤ x5_1
     ·rw [if_pos c5] at H
      have c5b0 : decide (0 ≤ x5_1) = true := decide_eq_true c5
      clear c5
      by_cases c6 : x5_1 < (l1.length : Int)
      ·rw [if_pos c6] at H
       have c6b0 : decide (x5_1 < (l1.length : Int)) = true := decide_eq_true c6
       clear c6
       by_cases c7 : (rd l0 x5_1) = (rd l1 x5_1)
       ·rw [if_pos c7] at H
        have c7b0 : ((rd l0 x5_1) == (rd l1 x5_1)) = true := beq_iff_eq.mpr c7
        have c7b1 : ((rd l0 x5_1) != (rd l1 x5_1)) = false := bne_eq_false_iff_eq.mpr c7
        clear c7
        have H' := Aside0.mk H
        clear H
        have p440 : 0 ≤ (x5_1 : Int) := of_decide_eq_true (by first | (with_reducible assumption) | assumption)
        have q440 : x5_1 < (l0.length : Int) := of_decide_eq_true (by first | (with_reducible assumption) | assumption)
        obtain ⟨ad440, e440, hx440_0⟩ := Kd.at_int HR0.out x5_1 p440 q440
        cases e440
        replace p440 := eq_true p440
        replace q440 := eq_true q440
        have p441 : 0 ≤ (x5_1 : Int) := of_decide_eq_true (by first | (with_reducible assumption) | assumption)
        have q441 : x5_1 < (l1.length : Int) := of_decide_eq_true (by first | (with_reducible assumption) | assumption)
        obtain ⟨ad441, e441, hx441_0⟩ := Kd.at_int HR1.out x5_1 p441 q441
        cases e441
        replace p441 := eq_true p441
        replace q441 := eq_true q441
        go_wp2
        repeat (go_quiet (fail); try go_wp2)
        go_roundg k1
        case measure => have := HK1.out; omega
        case rel => exact ⟨(wrap64 (x5_1 + 1)), (by first | rfl | (simp; done) | (simp [*]; done)), H', ⟨by have := HK1.out; omega⟩, by repeat (first | exact Drawn0.refl _ | apply Drawn0.step)⟩
       ·rw [if_neg c7] at H
        have c7b0 : ((rd l0 x5_1) == (rd l1 x5_1)) = false := beq_eq_false_iff_ne.mpr c7
        have c7b1 : ((rd l0 x5_1) != (rd l1 x5_1)) = true := bne_iff_ne.mpr c7
        obtain rfl := Option.some.inj H
        have p440 : 0 ≤ (x5_1 : Int) := of_decide_eq_true (by first | (with_reducible assumption) | assumption)
        have q440 : x5_1 < (l0.length : Int) := of_decide_eq_true (by first | (with_reducible assumption) | assumption)
        obtain ⟨ad440, e440, hx440_0⟩ := Kd.at_int HR0.out x5_1 p440 q440
        cases e440
        replace p440 := eq_true p440
        replace q440 := eq_true q440
        have p441 : 0 ≤ (x5_1 : Int) := of_decide_eq_true (by first | (with_reducible assumption) | assumption)
        have q441 : x5_1 < (l1.length : Int) := of_decide_eq_true (by first | (with_reducible assumption) | assumption)
        obtain ⟨ad441, e441, hx441_0⟩ := Kd.at_int HR1.out x5_1 p441 q441
        cases e441
        replace p441 := eq_true p441
        replace q441 := eq_true q441
        go_wp2
        repeat (go_quiet (fail); try go_wp2)
        go_ret
        exact ⟨by first | rfl | (simp; done) | (simp [*]; done), by repeat (first | exact Drawn0.refl _ | apply Drawn0.step)⟩
      ·rw [if_neg c6] at H
       exact absurd H (by simp)
     ·rw [if_neg c5] at H
      exact absurd H (by simp)
    ·rw [if_neg c4] at H
     have c4b0 : decide (x5_1 < (l0.length : Int)) = false := decide_eq_false c4
     clear c4
     obtain rfl := Option.some.inj H
     go_wp2
     repeat (go_quiet (fail); try go_wp2)
     go_ret
     exact ⟨by first | rfl | (simp; done) | (simp [*]; done), by repeat (first | exact Drawn0.refl _ | apply Drawn0.step)⟩
 ·rw [if_neg c3] at H
  have c3b0 : ((l0.length : Int) == (l1.length : Int)) = false := beq_eq_false_iff_ne.mpr c3
  have c3b1 : ((l0.length : Int) != (l1.length : Int)) = true := bne_iff_ne.mpr c3
  have c3b2 : (l0.length == l1.length) = false := by first | simpa using c3 | (simp at c3 ⊢; omega)
  obtain rfl := Option.some.inj H
  go_enter Tryd.func84, Tryd.ntmps84
  go_wp2
  repeat (go_quiet (fail); try go_wp2)
  go_ret
  exact ⟨by first | rfl | (simp; done) | (simp [*]; done), by repeat (first | exact Drawn0.refl _ | apply Drawn0.step)⟩
end Go.Proofs.YtopahhcojncgaaaDoor.G
namespace Go.Proofs.YtopahhcojncgaaaDoor.G
open Go.RowKit Go.Proofs.YtopahhcojncgaaaDoorW.PrintWords Go.Proofs.YtopahhcojncgaaaDoorW.PrintLast Go.Proofs.YtopahhcojncgaaaDoorW.PrintMore
attribute [local go_sem] max2_int min2_int max_two min_two max_three min_three max_four min_four
set_option linter.unusedVariables false
set_option linter.unusedSimpArgs false
def laws_eqIntSS.l0 : Nat → List (List Int) → List (List Int) → Int → Option (Bool)
 | 0, _, _, _ => none
 | k + 1, x0, x1, x5 => if x5 < (x0.length : Int) then (if 0 ≤ x5 then (if x5 < (x1.length : Int) then ((laws_eqIntS.f k (rd_L8 x0 x5) (rd_L8 x1 x5)).bind fun t444 => (if t444 = true then (laws_eqIntSS.l0 k x0 x1 (wrap64 (x5 + 1))) else (some false))) else (none)) else (none)) else (some true)
def laws_eqIntSS.f (k : Nat) (l0 : List (List Int)) (l1 : List (List Int)) : Option (Bool) := if (l0.length : Int) = (l1.length : Int) then (laws_eqIntSS.l0 k l0 l1 0) else (some false)
theorem laws_eqIntSS.mono_l : ∀ k, (∀ y0 y1 y2, LeO (laws_eqIntSS.l0 k y0 y1 y2) (laws_eqIntSS.l0 (k + 1) y0 y1 y2))
 | 0 => fun _ _ _ r h => by simp [laws_eqIntSS.l0] at h
 | k + 1 => by
  have ih0 := laws_eqIntSS.mono_l k
  ·intro y0 y1 y2
   unfold laws_eqIntSS.l0
   repeat' first
   | (with_reducible exact ih0 _ _ _)
   | (with_reducible exact laws_eqIntS.mono _ _ _)
   | (with_reducible exact LeO.refl _)
   | (with_reducible exact LeO.none _)
   | (with_reducible refine LeO.ite ?_ ?_)
   | (with_reducible refine LeO.bind ?_ (fun _ => ?_))
   | exact ih0 _ _ _
   | exact laws_eqIntS.mono _ _ _
   | exact LeO.none _
   | refine LeO.ite ?_ ?_
   | refine LeO.bind ?_ (fun _ => ?_)
theorem laws_eqIntSS.mono : ∀ a0 a1 k, LeO (laws_eqIntSS.f k a0 a1) (laws_eqIntSS.f (k + 1) a0 a1) := by
 intro a0 a1 k
 have ih0 := laws_eqIntSS.mono_l k
 unfold laws_eqIntSS.f
 repeat' first
   | (with_reducible exact ih0 _ _ _)
   | (with_reducible exact laws_eqIntS.mono _ _ _)
   | (with_reducible exact LeO.refl _)
   | (with_reducible exact LeO.none _)
   | (with_reducible refine LeO.ite ?_ ?_)
   | (with_reducible refine LeO.bind ?_ (fun _ => ?_))
   | exact ih0 _ _ _
   | exact laws_eqIntS.mono _ _ _
   | exact LeO.none _
   | refine LeO.ite ?_ ?_
   | refine LeO.bind ?_ (fun _ => ?_)
set_option maxHeartbeats 8000000 in
set_option maxRecDepth 100000 in
theorem laws_eqIntSS.calls (k : Nat) (A0 : Option Addr) (c0 : Nat) (l0 : List (List Int)) (A1 : Option Addr) (c1 : Nat) (l1 : List (List Int)) (r : Bool) (w : World) (hr0 : Kd.C (Kd.slice 3 (Kd.int .i64)) w A0 l0.length l0) (hc0 : l0.length ≤ c0) (hr1 : Kd.C (Kd.slice 3 (Kd.int .i64)) w A1 l1.length l1) (hc1 : l1.length ≤ c1) (h : laws_eqIntSS.f k l0 l1 = some r) :
  Calls Tryd.prog 30 #[.slice A0 l0.length c0, .slice A1 l1.length c1] w fun e w' => e = .returned (.bool r) ∧ Drawn0 w w' := by
 have HR0 := Aside0.mk hr0
 have HC0 := Aside0.mk hc0
 clear hr0 hc0
 have HR1 := Aside0.mk hr1
 have HC1 := Aside0.mk hc1
 clear hr1 hc1
 have H : (if (l0.length : Int) = (l1.length : Int) then (laws_eqIntSS.l0 k l0 l1 0) else (some false)) = some r := h
 clear h
 by_cases c3 : (l0.length : Int) = (l1.length : Int)
 ·rw [if_pos c3] at H
  have c3b0 : ((l0.length : Int) == (l1.length : Int)) = true := beq_iff_eq.mpr c3
  have c3b1 : ((l0.length : Int) != (l1.length : Int)) = false := bne_eq_false_iff_eq.mpr c3
  have c3b2 : (l0.length == l1.length) = true := by first | simpa using c3 | (simp at c3 ⊢; omega)
  clear c3
  have H' := Aside0.mk H
  clear H
  go_enter Tryd.func30, Tryd.ntmps30
  go_wp2
  repeat (go_quiet (fail); try go_wp2)
  go_loopg [5] k (fun kq v5 w' => ∃ (x5_1 : Int), v5 = .int .i64 x5_1 ∧ Aside0 (laws_eqIntSS.l0 kq l0 l1 x5_1 = some r) ∧ Aside0 (kq ≤ k) ∧ Drawn0 w w')
  case atStart => exact ⟨(0), (by first | rfl | (simp; done) | (simp [*]; done)), H', ⟨Nat.le_refl _⟩, by repeat (first | exact Drawn0.refl _ | apply Drawn0.step)⟩
  case round =>
   clear H'
   try clear c1
   try clear p2
   try clear c3
   try clear c3b0
   try clear c3b1
   try clear c3b2
   obtain ⟨x5_1, rfl, HA, HK1, ⟨m1, rfl⟩⟩ := hrel
   cases gk with
   | zero => exact absurd HA.out (by simp [laws_eqIntSS.l0])
   | succ k1 =>
    have H := HA.out
    clear HA
    simp only [laws_eqIntSS.l0] at H
    by_cases c4 : x5_1 < (l0.length : Int)
    ·rw [if_pos c4] at H
     have c4b0 : decide (x5_1 < (l0.length : Int)) = true := decide_eq_true c4
     clear c4
     by_cases c5 : 0 ≤ x5_1
     ·rw [if_pos c5] at H
      have c5b0 : decide (0 ≤ x5_1) = true := decide_eq_true c5
      clear c5
      by_cases c6 : x5_1 < (l1.length : Int)
      ·rw [if_pos c6] at H
       have c6b0 : decide (x5_1 < (l1.length : Int)) = true := decide_eq_true c6
       clear c6
       replace H := Option.bind_eq_some_iff.mp H
       obtain ⟨t444, A70, H⟩ := H
       replace H : (if t444 = true then (laws_eqIntSS.l0 k1 l0 l1 (wrap64 (x5_1 + 1))) else (some false)) = some r := H
       have A7 := Aside0.mk A70
       clear A70
       by_cases c8 : t444 = true
       ·subst c8
        have H1 : (laws_eqIntSS.l0 k1 l0 l1 (wrap64 (x5_1 + 1))) = some r := by rw [if_pos rfl] at H; exact H
        clear H
        have H := H1
        clear H1
        have H' := Aside0.mk H
        clear H
        have p442 : 0 ≤ (x5_1 : Int) := of_decide_eq_true (by first | (with_reducible assumption) | assumption)
        have q442 : x5_1 < (l0.length : Int) := of_decide_eq_true (by first | (with_reducible assumption) | assumption)
        obtain ⟨ad442, A442_0, c442_0, e442, hx442_0, hl442_0, hi442_0⟩ := at_L8 HR0.out x5_1 p442 q442
        cases e442
        have HR442_0 := Aside0.mk hi442_0
        have HC442_0 := Aside0.mk hl442_0
        clear hi442_0 hl442_0
        replace p442 := eq_true p442
        replace q442 := eq_true q442
        have p443 : 0 ≤ (x5_1 : Int) := of_decide_eq_true (by first | (with_reducible assumption) | assumption)
        have q443 : x5_1 < (l1.length : Int) := of_decide_eq_true (by first | (with_reducible assumption) | assumption)
        obtain ⟨ad443, A443_0, c443_0, e443, hx443_0, hl443_0, hi443_0⟩ := at_L8 HR1.out x5_1 p443 q443
        cases e443
        have HR443_0 := Aside0.mk hi443_0
        have HC443_0 := Aside0.mk hl443_0
        clear hi443_0 hl443_0
        replace p443 := eq_true p443
        replace q443 := eq_true q443
        go_wp2_with (first | (go_at_call 84; (with_reducible refine (laws_eqIntS.calls k1 _ _ (rd_L8 l0 x5_1) _ _ (rd_L8 l1 x5_1) true _ ?side1 ?side2 ?side3 ?side4 A7.out).mono ?_); (case side1 => repeat (first | exact HR442_0.out | (with_reducible refine Kd.C_alloc ?_ _) | (with_reducible refine Kd.C_drewN ?_ _) | (with_reducible refine Kd.C_drew ?_))); (case side2 => exact HC442_0.out); (case side3 => repeat (first | exact HR443_0.out | (with_reducible refine Kd.C_alloc ?_ _) | (with_reducible refine Kd.C_drewN ?_ _) | (with_reducible refine Kd.C_drew ?_))); (case side4 => exact HC443_0.out); rintro e w' ⟨rfl, ⟨nd, rfl⟩⟩; (try first | exact ⟨rfl, _, World.drewN_drewN _ _ _⟩ | exact ⟨rfl, _, Eq.trans (World.drewN_drewN _ _ _) (congrArg (World.drewN _) (Nat.add_assoc _ _ _))⟩)))
        repeat (go_quiet (first | (go_at_call 84; (with_reducible refine (laws_eqIntS.calls k1 _ _ (rd_L8 l0 x5_1) _ _ (rd_L8 l1 x5_1) true _ ?side1 ?side2 ?side3 ?side4 A7.out).mono ?_); (case side1 => repeat (first | exact HR442_0.out | (with_reducible refine Kd.C_alloc ?_ _) | (with_reducible refine Kd.C_drewN ?_ _) | (with_reducible refine Kd.C_drew ?_))); (case side2 => exact HC442_0.out); (case side3 => repeat (first | exact HR443_0.out | (with_reducible refine Kd.C_alloc ?_ _) | (with_reducible refine Kd.C_drewN ?_ _) | (with_reducible refine Kd.C_drew ?_))); (case side4 => exact HC443_0.out); rintro e w' ⟨rfl, ⟨nd, rfl⟩⟩; (try first | exact ⟨rfl, _, World.drewN_drewN _ _ _⟩ | exact ⟨rfl, _, Eq.trans (World.drewN_drewN _ _ _) (congrArg (World.drewN _) (Nat.add_assoc _ _ _))⟩))); try go_wp2_with (first | (go_at_call 84; (with_reducible refine (laws_eqIntS.calls k1 _ _ (rd_L8 l0 x5_1) _ _ (rd_L8 l1 x5_1) true _ ?side1 ?side2 ?side3 ?side4 A7.out).mono ?_); (case side1 => repeat (first | exact HR442_0.out | (with_reducible refine Kd.C_alloc ?_ _) | (with_reducible refine Kd.C_drewN ?_ _) | (with_reducible refine Kd.C_drew ?_))); (case side2 => exact HC442_0.out); (case side3 => repeat (first | exact HR443_0.out | (with_reducible refine Kd.C_alloc ?_ _) | (with_reducible refine Kd.C_drewN ?_ _) | (with_reducible refine Kd.C_drew ?_))); (case side4 => exact HC443_0.out); rintro e w' ⟨rfl, ⟨nd, rfl⟩⟩; (try first | exact ⟨rfl, _, World.drewN_drewN _ _ _⟩ | exact ⟨rfl, _, Eq.trans (World.drewN_drewN _ _ _) (congrArg (World.drewN _) (Nat.add_assoc _ _ _))⟩))))
        go_roundg k1
        case measure => have := HK1.out; omega
        case rel => exact ⟨(wrap64 (x5_1 + 1)), (by first | rfl | (simp; done) | (simp [*]; done)), H', ⟨by have := HK1.out; omega⟩, by repeat (first | exact Drawn0.refl _ | apply Drawn0.step)⟩
       ·replace c8 := Bool.eq_false_iff.mpr c8
        subst c8
        have H1 : (some false) = some r := by rw [if_neg (show ¬ (false = true) by decide)] at H; exact H
        clear H
        have H := H1
        clear H1
        obtain rfl := Option.some.inj H
        have p442 : 0 ≤ (x5_1 : Int) := of_decide_eq_true (by first | (with_reducible assumption) | assumption)
        have q442 : x5_1 < (l0.length : Int) := of_decide_eq_true (by first | (with_reducible assumption) | assumption)
        obtain ⟨ad442, A442_0, c442_0, e442, hx442_0, hl442_0, hi442_0⟩ := at_L8 HR0.out x5_1 p442 q442
        cases e442
        have HR442_0 := Aside0.mk hi442_0
        have HC442_0 := Aside0.mk hl442_0
        clear hi442_0 hl442_0
        replace p442 := eq_true p442
        replace q442 := eq_true q442
        have p443 : 0 ≤ (x5_1 : Int) := of_decide_eq_true (by first | (with_reducible assumption) | assumption)
        have q443 : x5_1 < (l1.length : Int) := of_decide_eq_true (by first | (with_reducible assumption) | assumption)
        obtain ⟨ad443, A443_0, c443_0, e443, hx443_0, hl443_0, hi443_0⟩ := at_L8 HR1.out x5_1 p443 q443
        cases e443
        have HR443_0 := Aside0.mk hi443_0
        have HC443_0 := Aside0.mk hl443_0
        clear hi443_0 hl443_0
        replace p443 := eq_true p443
        replace q443 := eq_true q443
        go_wp2_with (first | (go_at_call 84; (with_reducible refine (laws_eqIntS.calls k1 _ _ (rd_L8 l0 x5_1) _ _ (rd_L8 l1 x5_1) false _ ?side1 ?side2 ?side3 ?side4 A7.out).mono ?_); (case side1 => repeat (first | exact HR442_0.out | (with_reducible refine Kd.C_alloc ?_ _) | (with_reducible refine Kd.C_drewN ?_ _) | (with_reducible refine Kd.C_drew ?_))); (case side2 => exact HC442_0.out); (case side3 => repeat (first | exact HR443_0.out | (with_reducible refine Kd.C_alloc ?_ _) | (with_reducible refine Kd.C_drewN ?_ _) | (with_reducible refine Kd.C_drew ?_))); (case side4 => exact HC443_0.out); rintro e w' ⟨rfl, ⟨nd, rfl⟩⟩; (try first | exact ⟨rfl, _, World.drewN_drewN _ _ _⟩ | exact ⟨rfl, _, Eq.trans (World.drewN_drewN _ _ _) (congrArg (World.drewN _) (Nat.add_assoc _ _ _))⟩)))
        repeat (go_quiet (first | (go_at_call 84; (with_reducible refine (laws_eqIntS.calls k1 _ _ (rd_L8 l0 x5_1) _ _ (rd_L8 l1 x5_1) false _ ?side1 ?side2 ?side3 ?side4 A7.out).mono ?_); (case side1 => repeat (first | exact HR442_0.out | (with_reducible refine Kd.C_alloc ?_ _) | (with_reducible refine Kd.C_drewN ?_ _) | (with_reducible refine Kd.C_drew ?_))); (case side2 => exact HC442_0.out); (case side3 => repeat (first | exact HR443_0.out | (with_reducible refine Kd.C_alloc ?_ _) | (with_reducible refine Kd.C_drewN ?_ _) | (with_reducible refine Kd.C_drew ?_))); (case side4 => exact HC443_0.out); rintro e w' ⟨rfl, ⟨nd, rfl⟩⟩; (try first | exact ⟨rfl, _, World.drewN_drewN _ _ _⟩ | exact ⟨rfl, _, Eq.trans (World.drewN_drewN _ _ _) (congrArg (World.drewN _) (Nat.add_assoc _ _ _))⟩))); try go_wp2_with (first | (go_at_call 84; (with_reducible refine (laws_eqIntS.calls k1 _ _ (rd_L8 l0 x5_1) _ _ (rd_L8 l1 x5_1) false _ ?side1 ?side2 ?side3 ?side4 A7.out).mono ?_); (case side1 => repeat (first | exact HR442_0.out | (with_reducible refine Kd.C_alloc ?_ _) | (with_reducible refine Kd.C_drewN ?_ _) | (with_reducible refine Kd.C_drew ?_))); (case side2 => exact HC442_0.out); (case side3 => repeat (first | exact HR443_0.out | (with_reducible refine Kd.C_alloc ?_ _) | (with_reducible refine Kd.C_drewN ?_ _) | (with_reducible refine Kd.C_drew ?_))); (case side4 => exact HC443_0.out); rintro e w' ⟨rfl, ⟨nd, rfl⟩⟩; (try first | exact ⟨rfl, _, World.drewN_drewN _ _ _⟩ | exact ⟨rfl, _, Eq.trans (World.drewN_drewN _ _ _) (congrArg (World.drewN _) (Nat.add_assoc _ _ _))⟩))))
        go_ret
        exact ⟨by first | rfl | (simp; done) | (simp [*]; done), by repeat (first | exact Drawn0.refl _ | apply Drawn0.step)⟩
      ·rw [if_neg c6] at H
       exact absurd H (by simp)
     ·rw [if_neg c5] at H
      exact absurd H (by simp)
    ·rw [if_neg c4] at H
     have c4b0 : decide (x5_1 < (l0.length : Int)) = false := decide_eq_false c4
     clear c4
     obtain rfl := Option.some.inj H
     go_wp2
     repeat (go_quiet (fail); try go_wp2)
     go_ret
     exact ⟨by first | rfl | (simp; done) | (simp [*]; done), by repeat (first | exact Drawn0.refl _ | apply Drawn0.step)⟩
 ·rw [if_neg c3] at H
  have c3b0 : ((l0.length : Int) == (l1.length : Int)) = false := beq_eq_false_iff_ne.mpr c3
  have c3b1 : ((l0.length : Int) != (l1.length : Int)) = true := bne_iff_ne.mpr c3
  have c3b2 : (l0.length == l1.length) = false := by first | simpa using c3 | (simp at c3 ⊢; omega)
  obtain rfl := Option.some.inj H
  go_enter Tryd.func30, Tryd.ntmps30
  go_wp2
  repeat (go_quiet (fail); try go_wp2)
  go_ret
  exact ⟨by first | rfl | (simp; done) | (simp [*]; done), by repeat (first | exact Drawn0.refl _ | apply Drawn0.step)⟩
end Go.Proofs.YtopahhcojncgaaaDoor.G
namespace Go.Proofs.YtopahhcojncgaaaDoor.G
open Go.RowKit Go.Proofs.YtopahhcojncgaaaDoorW.PrintWords Go.Proofs.YtopahhcojncgaaaDoorW.PrintLast Go.Proofs.YtopahhcojncgaaaDoorW.PrintMore
attribute [local go_sem] max2_int min2_int max_two min_two max_three min_three max_four min_four
set_option linter.unusedVariables false
set_option linter.unusedSimpArgs false
def laws_heldIntS.l0 : Nat → List Int → Int → Int → Option (Int)
 | 0, _, _, _ => none
 | k + 1, x0, x1, x5 => if x5 < (x0.length : Int) then (if 0 ≤ x5 then (if (rd x0 x5) = x1 then (laws_heldIntS.l0 k x0 (wrap64 (x1 + 1)) (wrap64 (x5 + 1))) else (some (-1))) else (none)) else (some x1)
def laws_heldIntS.f (k : Nat) (l0 : List Int) (a1 : Int) : Option (Int) := laws_heldIntS.l0 k l0 a1 0
theorem laws_heldIntS.mono_l : ∀ k, (∀ y0 y1 y2, LeO (laws_heldIntS.l0 k y0 y1 y2) (laws_heldIntS.l0 (k + 1) y0 y1 y2))
 | 0 => fun _ _ _ r h => by simp [laws_heldIntS.l0] at h
 | k + 1 => by
  have ih0 := laws_heldIntS.mono_l k
  ·intro y0 y1 y2
   unfold laws_heldIntS.l0
   repeat' first
   | (with_reducible exact ih0 _ _ _)
   | (with_reducible exact LeO.refl _)
   | (with_reducible exact LeO.none _)
   | (with_reducible refine LeO.ite ?_ ?_)
   | (with_reducible refine LeO.bind ?_ (fun _ => ?_))
   | exact ih0 _ _ _
   | exact LeO.none _
   | refine LeO.ite ?_ ?_
   | refine LeO.bind ?_ (fun _ => ?_)
theorem laws_heldIntS.mono : ∀ a0 a1 k, LeO (laws_heldIntS.f k a0 a1) (laws_heldIntS.f (k + 1) a0 a1) := by
 intro a0 a1 k
 have ih0 := laws_heldIntS.mono_l k
 unfold laws_heldIntS.f
 repeat' first
   | (with_reducible exact ih0 _ _ _)
   | (with_reducible exact LeO.refl _)
   | (with_reducible exact LeO.none _)
   | (with_reducible refine LeO.ite ?_ ?_)
   | (with_reducible refine LeO.bind ?_ (fun _ => ?_))
   | exact ih0 _ _ _
   | exact LeO.none _
   | refine LeO.ite ?_ ?_
   | refine LeO.bind ?_ (fun _ => ?_)
set_option maxHeartbeats 8000000 in
set_option maxRecDepth 100000 in
theorem laws_heldIntS.calls (k : Nat) (A0 : Option Addr) (c0 : Nat) (l0 : List Int) (a1 : Int) (r : Int) (w : World) (hr0 : Kd.C (Kd.int .i64) w A0 l0.length l0) (hc0 : l0.length ≤ c0) (h : laws_heldIntS.f k l0 a1 = some r) :
  Calls Tryd.prog 86 #[.slice A0 l0.length c0, .int .i64 a1] w fun e w' => e = .returned (.int .i64 r) ∧ Drawn0 w w' := by
 have HR0 := Aside0.mk hr0
 have HC0 := Aside0.mk hc0
 clear hr0 hc0
 have H : (laws_heldIntS.l0 k l0 a1 0) = some r := h
 clear h
 have H' := Aside0.mk H
 clear H
 go_enter Tryd.func86, Tryd.ntmps86
 go_wp2
 go_loopg [1, 5] k (fun kq v1 v5 w' => ∃ (x1_1 : Int) (x5_1 : Int), v1 = .int .i64 x1_1 ∧ v5 = .int .i64 x5_1 ∧ Aside0 (laws_heldIntS.l0 kq l0 x1_1 x5_1 = some r) ∧ Aside0 (kq ≤ k) ∧ Drawn0 w w')
 case atStart => exact ⟨(a1), (0), (by first | rfl | (simp; done) | (simp [*]; done)), (by first | rfl | (simp; done) | (simp [*]; done)), H', ⟨Nat.le_refl _⟩, by repeat (first | exact Drawn0.refl _ | apply Drawn0.step)⟩
 case round =>
  clear H'
  try clear p2
  obtain ⟨x1_1, x5_1, rfl, rfl, HA, HK1, ⟨m1, rfl⟩⟩ := hrel
  cases gk with
  | zero => exact absurd HA.out (by simp [laws_heldIntS.l0])
  | succ k1 =>
   have H := HA.out
   clear HA
   simp only [laws_heldIntS.l0] at H
   by_cases c3 : x5_1 < (l0.length : Int)
   ·rw [if_pos c3] at H
    have c3b0 : decide (x5_1 < (l0.length : Int)) = true := decide_eq_true c3
    clear c3
    by_cases c4 : 0 ≤ x5_1
    ·rw [if_pos c4] at H
     have c4b0 : decide (0 ≤ x5_1) = true := decide_eq_true c4
     clear c4
     by_cases c5 : (rd l0 x5_1) = x1_1
     ·rw [if_pos c5] at H
      have c5b0 : ((rd l0 x5_1) == x1_1) = true := beq_iff_eq.mpr c5
      have c5b1 : ((rd l0 x5_1) != x1_1) = false := bne_eq_false_iff_eq.mpr c5
      clear c5
      have H' := Aside0.mk H
      clear H
      have p447 : 0 ≤ (x5_1 : Int) := of_decide_eq_true (by first | (with_reducible assumption) | assumption)
      have q447 : x5_1 < (l0.length : Int) := of_decide_eq_true (by first | (with_reducible assumption) | assumption)
      obtain ⟨ad447, e447, hx447_0⟩ := Kd.at_int HR0.out x5_1 p447 q447
      cases e447
      replace p447 := eq_true p447
      replace q447 := eq_true q447
      go_wp2
      go_roundg k1
      case measure => have := HK1.out; omega
      case rel => exact ⟨(wrap64 (x1_1 + 1)), (wrap64 (x5_1 + 1)), (by first | rfl | (simp; done) | (simp [*]; done)), (by first | rfl | (simp; done) | (simp [*]; done)), H', ⟨by have := HK1.out; omega⟩, by repeat (first | exact Drawn0.refl _ | apply Drawn0.step)⟩
     ·rw [if_neg c5] at H
      have c5b0 : ((rd l0 x5_1) == x1_1) = false := beq_eq_false_iff_ne.mpr c5
      have c5b1 : ((rd l0 x5_1) != x1_1) = true := bne_iff_ne.mpr c5
      obtain rfl := Option.some.inj H
      have p447 : 0 ≤ (x5_1 : Int) := of_decide_eq_true (by first | (with_reducible assumption) | assumption)
      have q447 : x5_1 < (l0.length : Int) := of_decide_eq_true (by first | (with_reducible assumption) | assumption)
      obtain ⟨ad447, e447, hx447_0⟩ := Kd.at_int HR0.out x5_1 p447 q447
      cases e447
      replace p447 := eq_true p447
      replace q447 := eq_true q447
      go_wp2
      go_ret
      exact ⟨by first | rfl | (simp; done) | (simp [*]; done), by repeat (first | exact Drawn0.refl _ | apply Drawn0.step)⟩
    ·rw [if_neg c4] at H
     exact absurd H (by simp)
   ·rw [if_neg c3] at H
    have c3b0 : decide (x5_1 < (l0.length : Int)) = false := decide_eq_false c3
    clear c3
    obtain rfl := Option.some.inj H
    go_wp2
    go_ret
    exact ⟨by first | rfl | (simp; done) | (simp [*]; done), by repeat (first | exact Drawn0.refl _ | apply Drawn0.step)⟩
end Go.Proofs.YtopahhcojncgaaaDoor.G
namespace Go.Proofs.YtopahhcojncgaaaDoor.G
open Go.RowKit Go.Proofs.YtopahhcojncgaaaDoorW.PrintWords Go.Proofs.YtopahhcojncgaaaDoorW.PrintLast Go.Proofs.YtopahhcojncgaaaDoorW.PrintMore
attribute [local go_sem] max2_int min2_int max_two min_two max_three min_three max_four min_four
set_option linter.unusedVariables false
set_option linter.unusedSimpArgs false
def laws_heldIntSS.l0 : Nat → List (List Int) → Int → Int → Option (Int)
 | 0, _, _, _ => none
 | k + 1, x0, x1, x5 => if x5 < (x0.length : Int) then (if 0 ≤ x5 then ((laws_heldIntS.f k (rd_L8 x0 x5) x1).bind fun t449 => (if t449 < 0 then (some (-1)) else (laws_heldIntSS.l0 k x0 t449 (wrap64 (x5 + 1))))) else (none)) else (some x1)
def laws_heldIntSS.f (k : Nat) (l0 : List (List Int)) (a1 : Int) : Option (Int) := laws_heldIntSS.l0 k l0 a1 0
theorem laws_heldIntSS.mono_l : ∀ k, (∀ y0 y1 y2, LeO (laws_heldIntSS.l0 k y0 y1 y2) (laws_heldIntSS.l0 (k + 1) y0 y1 y2))
 | 0 => fun _ _ _ r h => by simp [laws_heldIntSS.l0] at h
 | k + 1 => by
  have ih0 := laws_heldIntSS.mono_l k
  ·intro y0 y1 y2
   unfold laws_heldIntSS.l0
   repeat' first
   | (with_reducible exact ih0 _ _ _)
   | (with_reducible exact laws_heldIntS.mono _ _ _)
   | (with_reducible exact LeO.refl _)
   | (with_reducible exact LeO.none _)
   | (with_reducible refine LeO.ite ?_ ?_)
   | (with_reducible refine LeO.bind ?_ (fun _ => ?_))
   | exact ih0 _ _ _
   | exact laws_heldIntS.mono _ _ _
   | exact LeO.none _
   | refine LeO.ite ?_ ?_
   | refine LeO.bind ?_ (fun _ => ?_)
theorem laws_heldIntSS.mono : ∀ a0 a1 k, LeO (laws_heldIntSS.f k a0 a1) (laws_heldIntSS.f (k + 1) a0 a1) := by
 intro a0 a1 k
 have ih0 := laws_heldIntSS.mono_l k
 unfold laws_heldIntSS.f
 repeat' first
   | (with_reducible exact ih0 _ _ _)
   | (with_reducible exact laws_heldIntS.mono _ _ _)
   | (with_reducible exact LeO.refl _)
   | (with_reducible exact LeO.none _)
   | (with_reducible refine LeO.ite ?_ ?_)
   | (with_reducible refine LeO.bind ?_ (fun _ => ?_))
   | exact ih0 _ _ _
   | exact laws_heldIntS.mono _ _ _
   | exact LeO.none _
   | refine LeO.ite ?_ ?_
   | refine LeO.bind ?_ (fun _ => ?_)
set_option maxHeartbeats 8000000 in
set_option maxRecDepth 100000 in
theorem laws_heldIntSS.calls (k : Nat) (A0 : Option Addr) (c0 : Nat) (l0 : List (List Int)) (a1 : Int) (r : Int) (w : World) (hr0 : Kd.C (Kd.slice 3 (Kd.int .i64)) w A0 l0.length l0) (hc0 : l0.length ≤ c0) (h : laws_heldIntSS.f k l0 a1 = some r) :
  Calls Tryd.prog 32 #[.slice A0 l0.length c0, .int .i64 a1] w fun e w' => e = .returned (.int .i64 r) ∧ Drawn0 w w' := by
 have HR0 := Aside0.mk hr0
 have HC0 := Aside0.mk hc0
 clear hr0 hc0
 have H : (laws_heldIntSS.l0 k l0 a1 0) = some r := h
 clear h
 have H' := Aside0.mk H
 clear H
 go_enter Tryd.func32, Tryd.ntmps32
 go_wp2
 go_loopg [1, 5] k (fun kq v1 v5 w' => ∃ (x1_1 : Int) (x5_1 : Int), v1 = .int .i64 x1_1 ∧ v5 = .int .i64 x5_1 ∧ Aside0 (laws_heldIntSS.l0 kq l0 x1_1 x5_1 = some r) ∧ Aside0 (kq ≤ k) ∧ Drawn0 w w')
 case atStart => exact ⟨(a1), (0), (by first | rfl | (simp; done) | (simp [*]; done)), (by first | rfl | (simp; done) | (simp [*]; done)), H', ⟨Nat.le_refl _⟩, by repeat (first | exact Drawn0.refl _ | apply Drawn0.step)⟩
 case round =>
  clear H'
  try clear p2
  obtain ⟨x1_1, x5_1, rfl, rfl, HA, HK1, ⟨m1, rfl⟩⟩ := hrel
  cases gk with
  | zero => exact absurd HA.out (by simp [laws_heldIntSS.l0])
  | succ k1 =>
   have H := HA.out
   clear HA
   simp only [laws_heldIntSS.l0] at H
   by_cases c3 : x5_1 < (l0.length : Int)
   ·rw [if_pos c3] at H
    have c3b0 : decide (x5_1 < (l0.length : Int)) = true := decide_eq_true c3
    clear c3
    by_cases c4 : 0 ≤ x5_1
    ·rw [if_pos c4] at H
     have c4b0 : decide (0 ≤ x5_1) = true := decide_eq_true c4
     clear c4
     replace H := Option.bind_eq_some_iff.mp H
     obtain ⟨t449, A50, H⟩ := H
     replace H : (if t449 < 0 then (some (-1)) else (laws_heldIntSS.l0 k1 l0 t449 (wrap64 (x5_1 + 1)))) = some r := H
     have A5 := Aside0.mk A50
     clear A50
     by_cases c6 : t449 < 0
     ·rw [if_pos c6] at H
      have c6b0 : decide (t449 < 0) = true := decide_eq_true c6
      clear c6
      obtain rfl := Option.some.inj H
      have p448 : 0 ≤ (x5_1 : Int) := of_decide_eq_true (by first | (with_reducible assumption) | assumption)
      have q448 : x5_1 < (l0.length : Int) := of_decide_eq_true (by first | (with_reducible assumption) | assumption)
      obtain ⟨ad448, A448_0, c448_0, e448, hx448_0, hl448_0, hi448_0⟩ := at_L8 HR0.out x5_1 p448 q448
      cases e448
      have HR448_0 := Aside0.mk hi448_0
      have HC448_0 := Aside0.mk hl448_0
      clear hi448_0 hl448_0
      replace p448 := eq_true p448
      replace q448 := eq_true q448
      go_wp2_with (first | ((with_reducible refine gate_callee (f := 86) rfl ?_); refine goesL_ (some 17) rfl rfl Tryd.func86 (by kernel_rfl) rfl #[.slice A448_0 (rd_L8 l0 x5_1).length c448_0, .int .i64 x1_1] rfl (by (try simp only [List.map_toArray, List.map_cons, List.map_nil]); first | done | rfl | (simp only [List.length_drop, List.length_take]; rfl)) ?_; (with_reducible refine (laws_heldIntS.calls k1 _ _ (rd_L8 l0 x5_1) x1_1 t449 _ ?side1 ?side2 A5.out).mono ?_); (case side1 => repeat (first | exact HR448_0.out | (with_reducible refine Kd.C_alloc ?_ _) | (with_reducible refine Kd.C_drewN ?_ _) | (with_reducible refine Kd.C_drew ?_))); (case side2 => exact HC448_0.out); rintro e w' ⟨rfl, ⟨nd, rfl⟩⟩; refine ⟨_, rfl, ?_⟩))
      go_ret
      exact ⟨by first | rfl | (simp; done) | (simp [*]; done), by repeat (first | exact Drawn0.refl _ | apply Drawn0.step)⟩
     ·rw [if_neg c6] at H
      have c6b0 : decide (t449 < 0) = false := decide_eq_false c6
      clear c6
      have H' := Aside0.mk H
      clear H
      have p448 : 0 ≤ (x5_1 : Int) := of_decide_eq_true (by first | (with_reducible assumption) | assumption)
      have q448 : x5_1 < (l0.length : Int) := of_decide_eq_true (by first | (with_reducible assumption) | assumption)
      obtain ⟨ad448, A448_0, c448_0, e448, hx448_0, hl448_0, hi448_0⟩ := at_L8 HR0.out x5_1 p448 q448
      cases e448
      have HR448_0 := Aside0.mk hi448_0
      have HC448_0 := Aside0.mk hl448_0
      clear hi448_0 hl448_0
      replace p448 := eq_true p448
      replace q448 := eq_true q448
      go_wp2_with (first | ((with_reducible refine gate_callee (f := 86) rfl ?_); refine goesL_ (some 17) rfl rfl Tryd.func86 (by kernel_rfl) rfl #[.slice A448_0 (rd_L8 l0 x5_1).length c448_0, .int .i64 x1_1] rfl (by (try simp only [List.map_toArray, List.map_cons, List.map_nil]); first | done | rfl | (simp only [List.length_drop, List.length_take]; rfl)) ?_; (with_reducible refine (laws_heldIntS.calls k1 _ _ (rd_L8 l0 x5_1) x1_1 t449 _ ?side1 ?side2 A5.out).mono ?_); (case side1 => repeat (first | exact HR448_0.out | (with_reducible refine Kd.C_alloc ?_ _) | (with_reducible refine Kd.C_drewN ?_ _) | (with_reducible refine Kd.C_drew ?_))); (case side2 => exact HC448_0.out); rintro e w' ⟨rfl, ⟨nd, rfl⟩⟩; refine ⟨_, rfl, ?_⟩))
      go_roundg k1
      case measure => have := HK1.out; omega
      case rel => exact ⟨(t449), (wrap64 (x5_1 + 1)), (by first | rfl | (simp; done) | (simp [*]; done)), (by first | rfl | (simp; done) | (simp [*]; done)), H', ⟨by have := HK1.out; omega⟩, by repeat (first | exact Drawn0.refl _ | apply Drawn0.step)⟩
    ·rw [if_neg c4] at H
     exact absurd H (by simp)
   ·rw [if_neg c3] at H
    have c3b0 : decide (x5_1 < (l0.length : Int)) = false := decide_eq_false c3
    clear c3
    obtain rfl := Option.some.inj H
    go_wp2
    go_ret
    exact ⟨by first | rfl | (simp; done) | (simp [*]; done), by repeat (first | exact Drawn0.refl _ | apply Drawn0.step)⟩
end Go.Proofs.YtopahhcojncgaaaDoor.G
namespace Go.Proofs.YtopahhcojncgaaaDoor.G
open Go.RowKit Go.Proofs.YtopahhcojncgaaaDoorW.PrintWords Go.Proofs.YtopahhcojncgaaaDoorW.PrintLast Go.Proofs.YtopahhcojncgaaaDoorW.PrintMore
attribute [local go_sem] max2_int min2_int max_two min_two max_three min_three max_four min_four
set_option linter.unusedVariables false
set_option linter.unusedSimpArgs false
def laws_markIntS.l0 : Nat → List Int → Int → Int → Option (Int × List Int)
 | 0, _, _, _ => none
 | k + 1, x0, x1, x5 => if x5 < (x0.length : Int) then (if 0 ≤ x5 then (laws_markIntS.l0 k (x0.set (x5 : Int).toNat x1) (wrap64 (x1 + 1)) (wrap64 (x5 + 1))) else (none)) else (some (x1, x0))
def laws_markIntS.f (k : Nat) (l0 : List Int) (a1 : Int) : Option (Int × List Int) := laws_markIntS.l0 k l0 a1 0
theorem laws_markIntS.mono_l : ∀ k, (∀ y0 y1 y2, LeO (laws_markIntS.l0 k y0 y1 y2) (laws_markIntS.l0 (k + 1) y0 y1 y2))
 | 0 => fun _ _ _ r h => by simp [laws_markIntS.l0] at h
 | k + 1 => by
  have ih0 := laws_markIntS.mono_l k
  ·intro y0 y1 y2
   unfold laws_markIntS.l0
   repeat' first
   | (with_reducible exact ih0 _ _ _)
   | (with_reducible exact LeO.refl _)
   | (with_reducible exact LeO.none _)
   | (with_reducible refine LeO.ite ?_ ?_)
   | (with_reducible refine LeO.bind ?_ (fun _ => ?_))
   | exact ih0 _ _ _
   | exact LeO.none _
   | refine LeO.ite ?_ ?_
   | refine LeO.bind ?_ (fun _ => ?_)
theorem laws_markIntS.mono : ∀ a0 a1 k, LeO (laws_markIntS.f k a0 a1) (laws_markIntS.f (k + 1) a0 a1) := by
 intro a0 a1 k
 have ih0 := laws_markIntS.mono_l k
 unfold laws_markIntS.f
 repeat' first
   | (with_reducible exact ih0 _ _ _)
   | (with_reducible exact LeO.refl _)
   | (with_reducible exact LeO.none _)
   | (with_reducible refine LeO.ite ?_ ?_)
   | (with_reducible refine LeO.bind ?_ (fun _ => ?_))
   | exact ih0 _ _ _
   | exact LeO.none _
   | refine LeO.ite ?_ ?_
   | refine LeO.bind ?_ (fun _ => ?_)
set_option maxHeartbeats 8000000 in
set_option maxRecDepth 100000 in
theorem laws_markIntS.calls (k : Nat) (P0_ : Nat → Prop) (u9000_ : Value) (l0 : List Int) (a1 : Int) (r1 : Int) (r2 : List Int) (w0 w : World) (hB : Below w0.heap.size w0 w) (ho0 : Kd.R (Kd.int .i64) 3 w w0.heap.size P0_ u9000_ l0) (h : laws_markIntS.f k l0 a1 = some (r1, r2)) :
  Calls Tryd.prog 85 #[u9000_, .int .i64 a1] w fun e w' => e = .returned (.int .i64 r1) ∧ Kd.R (Kd.int .i64) 3 w' w0.heap.size (fun k_ => (P0_ k_ ∨ w.heap.size ≤ k_)) u9000_ r2 ∧ Below w0.heap.size w0 w' ∧ Kept w w' (fun k_ => P0_ k_) := by
 have HO0 := Aside0.mk (show Kd.R (Kd.int .i64) 3 w w0.heap.size (fun k_ => (P0_ k_ ∨ w.heap.size ≤ k_)) u9000_ l0 from Kd.R_mono ho0 (fun k_ hk => (.inl hk)))
 have HK := Aside0.mk (Kept.refl w (fun k_ => P0_ k_))
 have HW0 := Aside0.mk hB.size
 have HB := Aside0.mk hB
 clear hB
 have H : (laws_markIntS.l0 k l0 a1 0) = some (r1, r2) := h
 clear h
 have H' := Aside0.mk H
 clear H
 go_enter Tryd.func85, Tryd.ntmps85
 go_wp2
 go_loopg [1, 5] k (fun kq v1 v5 w' => ∃ (x0_1 : List Int) (x1_1 : Int) (x5_1 : Int), v1 = .int .i64 x1_1 ∧ v5 = .int .i64 x5_1 ∧ Aside0 (laws_markIntS.l0 kq x0_1 x1_1 x5_1 = some (r1, r2)) ∧ Aside0 (kq ≤ k) ∧ Aside0 (Kd.R (Kd.int .i64) 3 w' w0.heap.size (fun k_ => (P0_ k_ ∨ w.heap.size ≤ k_)) u9000_ x0_1) ∧ Aside0 (Kept w w' (fun k_ => P0_ k_)) ∧ Aside0 (Below w0.heap.size w0 w'))
 case atStart => exact ⟨(l0), (a1), (0), (by first | rfl | (simp; done) | (simp [*]; done)), (by first | rfl | (simp; done) | (simp [*]; done)), H', ⟨Nat.le_refl _⟩, ⟨by (with_reducible repeat (first | apply Kd.R_alloc | apply Kd.R_drewN | apply Kd.R_drew)); exact HO0.out⟩, ⟨by repeat (first | (with_reducible first | exact HK.out | apply Kept.alloc | apply Kept.drewN | apply Kept.drew) | exact HK.out)⟩, ⟨by repeat (first | (with_reducible first | exact HB.out | apply below_alloc | apply pw_below_drewN | apply below_drew1) | exact HB.out)⟩⟩
 case round =>
  clear H'
  try clear p2
  obtain ⟨x0_1, x1_1, x5_1, rfl, rfl, HA, HK1, HO_0, HK, HB⟩ := hrel
  cases gk with
  | zero => exact absurd HA.out (by simp [laws_markIntS.l0])
  | succ k1 =>
   have H := HA.out
   clear HA
   simp only [laws_markIntS.l0] at H
   by_cases c3 : x5_1 < (x0_1.length : Int)
   ·rw [if_pos c3] at H
    have c3b0 : decide (x5_1 < (x0_1.length : Int)) = true := decide_eq_true c3
    clear c3
    by_cases c4 : 0 ≤ x5_1
    ·rw [if_pos c4] at H
     have c4b0 : decide (0 ≤ x5_1) = true := decide_eq_true c4
     clear c4
     obtain ⟨y445, hy445⟩ : ∃ y_ : List Int, y_ = (x0_1.set (x5_1 : Int).toNat x1_1) := ⟨_, rfl⟩
     replace H : (laws_markIntS.l0 k1 y445 (wrap64 (x1_1 + 1)) (wrap64 (x5_1 + 1))) = some (r1, r2) := by first | (rw [hy445]; with_reducible exact H) | (have H2_ := (Option.bind_some _ _).symm.trans H; rw [hy445]; with_reducible exact H2_) | (have H2_ := (Option.bind_some _ _).symm.trans H; with_reducible exact H2_) | with_reducible exact H | (rw [hy445]; exact H) | exact H
     have Ny445 := Aside0.mk hy445
     clear hy445
     have H' := Aside0.mk H
     clear H
     obtain ⟨Ao6, co6, eo6⟩ := Kd.R_slice HO_0.out
     subst eo6
     have p5 : 0 ≤ (x5_1 : Int) := of_decide_eq_true (by first | (with_reducible assumption) | assumption)
     have q5 : (x5_1 : Int) < ((x0_1.length : Int) : Int) := of_decide_eq_true (by first | (with_reducible assumption) | assumption)
     obtain ⟨go5, co5, eo5, gb5, gl5, cl5, HG5⟩ := Kd.R_form HO_0.out (by omega)
     (first | cases eo5 | (injection eo5 with ea_ en_ ec_; (first | subst ea_ | (injection ea_ with ea_; subst ea_)); subst ec_; clear en_))
     have GB5 := Aside0.mk gb5
     have GG5 := Aside0.mk HG5
     clear gb5 gl5 HG5
     have HMgo5 := Aside0.mk (show (P0_ go5 ∨ w.heap.size ≤ go5) from (HO_0.out.1 _ rfl))
     obtain ⟨hx5_0, hf5_0⟩ := Kd.R_celln 0 HO_0.out (x5_1 : Int) p5 q5
     replace p5 := eq_true p5
     replace q5 := eq_true q5
     have HP7 := Kd.R_putg HO_0.out (x5_1 : Int) x1_1
     go_wp2_with (first | ((with_reducible refine gate_store (t := 3) (p := 15) rfl ?_); refine store_event (t := 3) (p := 15) (v := ?vo_w8) (w1 := (wr.setCell ⟨go5, (x5_1 : Int).toNat, none⟩ (.int .i64 x1_1))) ?hg ?ho ?hn ?hr ?_; (case ho => rfl); (case hg => rfl); (case hn => rfl); (case hr => first | (go_simp; done) | (go_simp; rfl)); intro w8 hw; have hg : wr.grownBy w8 (some go5) := (by rw [hw]; exact HP7.2); have hp_ : Kd.R (Kd.int .i64) 3 w8 w0.heap.size (fun k_ => (P0_ k_ ∨ w.heap.size ≤ k_)) (.slice (some ⟨go5, 0, none⟩) x0_1.length co6) y445 := (by rw [hw, Ny445.out]; exact HP7.1); clear HP7; have n0_ := Aside0.mk (hp_); have n1_ := Aside0.mk ((by rw [hw]; exact below_set (HB.out) GB5.out : Below w0.heap.size w0 w8)); have n2_ := Aside0.mk (Kept.of_grown (S := (fun k_ => P0_ k_)) hg (by repeat (first | (with_reducible first | exact HK.out | apply Kept.alloc | apply Kept.drewN | apply Kept.drew) | exact HK.out)) (fun k_ e_ => (HO_0.out.1 k_ e_))); clear HO_0; clear HB; clear HK; have HO_0 := n0_; have HB := n1_; have HK := n2_; clear n0_ n1_ n2_; clear hg hw hp_))
     go_roundg k1
     case measure => have := HK1.out; omega
     case rel => exact ⟨(y445), (wrap64 (x1_1 + 1)), (wrap64 (x5_1 + 1)), (by first | rfl | (simp; done) | (simp [*]; done)), (by first | rfl | (simp; done) | (simp [*]; done)), H', ⟨by have := HK1.out; omega⟩, ⟨by (with_reducible repeat (first | apply Kd.R_alloc | apply Kd.R_drewN | apply Kd.R_drew)); exact HO_0.out⟩, ⟨by repeat (first | (with_reducible first | exact HK.out | apply Kept.alloc | apply Kept.drewN | apply Kept.drew) | exact HK.out)⟩, ⟨by repeat (first | (with_reducible first | exact HB.out | apply below_alloc | apply pw_below_drewN | apply below_drew1) | exact HB.out)⟩⟩
    ·rw [if_neg c4] at H
     exact absurd H (by simp)
   ·rw [if_neg c3] at H
    have c3b0 : decide (x5_1 < (x0_1.length : Int)) = false := decide_eq_false c3
    clear c3
    simp only [Option.some.injEq, Prod.mk.injEq] at H
    obtain ⟨rfl, rfl⟩ := H
    obtain ⟨Ao9, co9, eo9⟩ := Kd.R_slice HO_0.out
    subst eo9
    go_wp2
    go_ret
    exact ⟨by first | rfl | (simp [errW_none, errW_some] <;> rfl) | (simp [*, errW_none, errW_some] <;> rfl), by (with_reducible repeat (first | apply Kd.R_alloc | apply Kd.R_drewN | apply Kd.R_drew)); exact HO_0.out, by repeat (first | (with_reducible first | exact HB.out | apply below_alloc | apply pw_below_drewN | apply below_drew1) | exact HB.out), by repeat (first | (with_reducible first | exact HK.out | apply Kept.alloc | apply Kept.drewN | apply Kept.drew) | exact HK.out)⟩
end Go.Proofs.YtopahhcojncgaaaDoor.G
namespace Go.Proofs.YtopahhcojncgaaaDoor.G
open Go.RowKit Go.Proofs.YtopahhcojncgaaaDoorW.PrintWords Go.Proofs.YtopahhcojncgaaaDoorW.PrintLast Go.Proofs.YtopahhcojncgaaaDoorW.PrintMore
set_option linter.unusedVariables false
set_option linter.unusedSimpArgs false
def mkI (m : Int) (n : Nat) : List Int := (List.range n).map (fun (i : Nat) => m + (i : Int))
theorem mkI_len (m n) : (mkI m n).length = n := by simp [mkI]
theorem mkI_at (m : Int) (n i : Nat) (h : i < n) : (mkI m n).getD i 0 = m + i := by simp [mkI, List.getD_eq_getElem?_getD, h]
theorem w64i (i : Nat) (h : i < 4611686018427387904) : wrap64 ((i : Int) + 1) = ((i + 1 : Nat) : Int) := by rw [w64 (by omega) (by omega)]; omega
theorem set_take (l : List Int) (m : Int) (i : Nat) (h : i < l.length) : (mkI m i ++ l.drop i).set i (m + i) = mkI m (i + 1) ++ l.drop (i + 1) := by
  rw [List.set_append_right i _ (by rw [mkI_len]; omega), mkI_len, Nat.sub_self, List.drop_eq_getElem_cons h, List.set_cons_zero]
  unfold mkI
  rw [List.range_succ, List.map_append]; simp
theorem markIntS_eq (l : List Int) (m : Int) (h0 : 0 ≤ m) (hm : m + l.length < 4611686018427387904) : Ev (fun k => laws_markIntS.f k l m) (m + l.length, mkI m l.length) := by
  have key : ∀ (d i : Nat), i + d = l.length → Ev (fun k => laws_markIntS.l0 k (mkI m i ++ l.drop i) (m + i) (i : Int)) (m + l.length, mkI m l.length) := by
    intro d
    induction d with
    | zero =>
      intro i hi
      obtain rfl : i = l.length := by omega
      rw [List.drop_length, List.append_nil]
      exact Ev.step (fun k => laws_markIntS.l0.eq_2 ..) (Ev.ifn (by rw [mkI_len]; omega) (Ev.pure _))
    | succ d ih =>
      intro i hi
      refine Ev.step (fun k => laws_markIntS.l0.eq_2 ..) (Ev.ifp (by rw [List.length_append, mkI_len, List.length_drop]; omega) (Ev.ifp (by omega) ?_))
      rw [Int.toNat_natCast, set_take l m i (by omega), w64i i (by omega), show wrap64 (m + (i : Int) + 1) = m + ((i + 1 : Nat) : Int) from by rw [w64 (by omega) (by omega)]; omega]
      exact ih (i + 1) (by omega)
  have := key l.length 0 (by omega)
  unfold laws_markIntS.f
  simpa [mkI] using this
theorem heldIntS_eq (n : Nat) (m : Int) (h0 : 0 ≤ m) (hm : m + n < 4611686018427387904) : Ev (fun k => laws_heldIntS.f k (mkI m n) m) (m + n) := by
  have key : ∀ (d i : Nat), i + d = n → Ev (fun k => laws_heldIntS.l0 k (mkI m n) (m + i) (i : Int)) (m + n) := by
    intro d
    induction d with
    | zero =>
      intro i hi
      obtain rfl : i = n := by omega
      exact Ev.step (fun k => laws_heldIntS.l0.eq_2 ..) (Ev.ifn (by rw [mkI_len]; omega) (Ev.pure _))
    | succ d ih =>
      intro i hi
      refine Ev.step (fun k => laws_heldIntS.l0.eq_2 ..) (Ev.ifp (by rw [mkI_len]; omega) (Ev.ifp (by omega) (Ev.ifp ?_ ?_)))
      · show (mkI m n).getD (i : Int).toNat 0 = _
        rw [Int.toNat_natCast, mkI_at _ _ _ (by omega)]
      · rw [w64i i (by omega), show wrap64 (m + (i : Int) + 1) = m + ((i + 1 : Nat) : Int) from by rw [w64 (by omega) (by omega)]; omega]
        exact ih (i + 1) (by omega)
  have := key n 0 (by omega)
  unfold laws_heldIntS.f
  simpa using this
def szSS (l : List (List Int)) : Nat := (l.map List.length).sum
def mkSS : List (List Int) → Int → List (List Int)
  | [], _ => []
  | r :: rs, m => mkI m r.length :: mkSS rs (m + r.length)
theorem szSS_snoc (l r) : szSS (l ++ [r]) = szSS l + r.length := by simp [szSS]
theorem mkSS_len (l m) : (mkSS l m).length = l.length := by
  induction l generalizing m with
  | nil => rfl
  | cons r rs ih => show (mkSS rs _).length + 1 = _; rw [ih]; rfl
theorem mkSS_snoc (l : List (List Int)) (r : List Int) (m : Int) : mkSS (l ++ [r]) m = mkSS l m ++ [mkI (m + szSS l) r.length] := by
  induction l generalizing m with
  | nil => simp [mkSS, szSS]
  | cons x l ih =>
    show mkI m x.length :: mkSS (l ++ [r]) _ = mkI m x.length :: (mkSS l _ ++ _)
    rw [ih]
    have : szSS (x :: l) = x.length + szSS l := by simp [szSS]
    rw [this]
    congr 4
    omega
theorem mkSS_at (l : List (List Int)) (m : Int) (i : Nat) (h : i < l.length) : (mkSS l m).getD i [] = mkI (m + szSS (l.take i)) ((l.getD i []).length) := by
  induction l generalizing m i with
  | nil => exact absurd h (Nat.not_lt_zero _)
  | cons r rs ih =>
    cases i with
    | zero => simp [mkSS, szSS]
    | succ i =>
      show (mkSS rs _).getD i [] = mkI _ ((rs.getD i []).length)
      rw [ih _ _ (by simpa using h)]
      have : szSS ((r :: rs).take (i + 1)) = r.length + szSS (rs.take i) := by simp [szSS]
      rw [this]
      congr 1
      omega
theorem take_succ_l {α : Type} (l : List α) (d : α) (k : Nat) (h : k < l.length) : l.take (k + 1) = l.take k ++ [l.getD k d] := by
  rw [List.take_succ_eq_append_getElem h, List.getD_eq_getElem?_getD, List.getElem?_eq_getElem h]; rfl
theorem szSS_take (l : List (List Int)) (i : Nat) : szSS (l.take i) ≤ szSS l := by
  have : szSS l = szSS (l.take i) + szSS (l.drop i) := by
    unfold szSS
    rw [← List.sum_append, ← List.map_append, List.take_append_drop]
  omega
theorem set_takeSS (l : List (List Int)) (m : Int) (i : Nat) (h : i < l.length) : (mkSS (l.take i) m ++ l.drop i).set i (mkI (m + szSS (l.take i)) (l.getD i []).length) = mkSS (l.take (i + 1)) m ++ l.drop (i + 1) := by
  have hl : (mkSS (l.take i) m).length = i := by rw [mkSS_len, List.length_take]; omega
  rw [List.set_append_right i _ (by omega), hl, Nat.sub_self, List.drop_eq_getElem_cons h, List.set_cons_zero, take_succ_l l [] i h, mkSS_snoc]; simp
theorem heldIntSS_eq (l : List (List Int)) (m : Int) (h0 : 0 ≤ m) (hm : m + szSS l < 4611686018427387904) (hl : l.length < 4611686018427387904) : Ev (fun k => laws_heldIntSS.f k (mkSS l m) m) (m + szSS l) := by
  have key : ∀ (d i : Nat), i + d = l.length → Ev (fun k => laws_heldIntSS.l0 k (mkSS l m) (m + szSS (l.take i)) (i : Int)) (m + szSS l) := by
    intro d
    induction d with
    | zero =>
      intro i hi
      obtain rfl : i = l.length := by omega
      rw [List.take_length]
      exact Ev.step (fun k => laws_heldIntSS.l0.eq_2 ..) (Ev.ifn (by rw [mkSS_len]; omega) (Ev.pure _))
    | succ d ih =>
      intro i hi
      have e : rd_L8 (mkSS l m) (i : Int) = mkI (m + szSS (l.take i)) ((l.getD i []).length) := by
        show (mkSS l m).getD (i : Int).toNat [] = _
        rw [Int.toNat_natCast, mkSS_at _ _ _ (by omega)]
      have hs := szSS_take l (i + 1)
      have hs2 : szSS (l.take (i + 1)) = szSS (l.take i) + (l.getD i []).length := by rw [take_succ_l l [] i (by omega), szSS_snoc]
      refine Ev.step (fun k => laws_heldIntSS.l0.eq_2 ..) (Ev.ifp (by rw [mkSS_len]; omega) (Ev.ifp (by omega) ?_))
      rw [e]
      refine Ev.bind (heldIntS_eq _ _ (by omega) (by omega)) (Ev.ifn (by omega) ?_)
      rw [w64i i (by omega), show m + (szSS (l.take i) : Int) + ((l.getD i []).length : Int) = m + (szSS (l.take (i + 1)) : Int) by omega]
      exact ih (i + 1) (by omega)
  have := key l.length 0 (by omega)
  unfold laws_heldIntSS.f
  simpa [szSS] using this
theorem eqIntS_refl (l : List Int) (hl : l.length < 4611686018427387904) : Ev (fun k => laws_eqIntS.f k l l) true := by
  have key : ∀ (d i : Nat), i + d = l.length → Ev (fun k => laws_eqIntS.l0 k l l (i : Int)) true := by
    intro d
    induction d with
    | zero => intro i hi; exact Ev.step (fun k => laws_eqIntS.l0.eq_2 ..) (Ev.ifn (by omega) (Ev.pure _))
    | succ d ih =>
      intro i hi
      refine Ev.step (fun k => laws_eqIntS.l0.eq_2 ..) (Ev.ifp (by omega) (Ev.ifp (by omega) (Ev.ifp (by omega) (Ev.ifp rfl ?_))))
      rw [w64i i (by omega)]
      exact ih (i + 1) (by omega)
  exact Ev.ifp rfl (key l.length 0 (by omega))
theorem eqIntSS_refl (l : List (List Int)) (hl : l.length < 4611686018427387904) (hr : ∀ r ∈ l, r.length < 4611686018427387904) : Ev (fun k => laws_eqIntSS.f k l l) true := by
  have key : ∀ (d i : Nat), i + d = l.length → Ev (fun k => laws_eqIntSS.l0 k l l (i : Int)) true := by
    intro d
    induction d with
    | zero => intro i hi; exact Ev.step (fun k => laws_eqIntSS.l0.eq_2 ..) (Ev.ifn (by omega) (Ev.pure _))
    | succ d ih =>
      intro i hi
      have e : (rd_L8 l (i : Int)).length < 4611686018427387904 := by
        show (l.getD (i : Int).toNat []).length < _
        rw [Int.toNat_natCast, List.getD_eq_getElem?_getD, List.getElem?_eq_getElem (show i < l.length by omega)]
        exact hr _ (List.getElem_mem _)
      refine Ev.step (fun k => laws_eqIntSS.l0.eq_2 ..) (Ev.ifp (by omega) (Ev.ifp (by omega) (Ev.ifp (by omega) (Ev.bind (eqIntS_refl _ e) (Ev.ifp rfl ?_)))))
      rw [w64i i (by omega)]
      exact ih (i + 1) (by omega)
  exact Ev.ifp rfl (key l.length 0 (by omega))
end Go.Proofs.YtopahhcojncgaaaDoor.G
namespace Go.Proofs.YtopahhcojncgaaaDoor.G
open Go.RowKit Go.Proofs.YtopahhcojncgaaaDoorW.PrintWords Go.Proofs.YtopahhcojncgaaaDoorW.PrintLast Go.Proofs.YtopahhcojncgaaaDoorW.PrintMore
set_option linter.unusedVariables false
set_option linter.unusedSimpArgs false
set_option maxHeartbeats 4000000 in
set_option maxRecDepth 100000 in
theorem laws_markIntSS.walk (w0 w : World) (P0 : Nat → Prop) (A : Option Addr) (c : Nat) (l : List (List Int)) (m : Int) (n : Nat) (hn : n = l.length) (h0 : 0 ≤ m) (hm : m + szSS l < 4611686018427387904) (hB : Below w0.heap.size w0 w) (hS : Kd.S (Kd.slice 3 (Kd.int .i64)) 58 w w0.heap.size P0 (.slice A n c) l) (hl : l.length ≤ 1000000) :
  Calls Tryd.prog 31 #[.slice A n c, .int .i64 m] w fun e w' => e = .returned (.int .i64 (m + szSS l)) ∧ Kd.S (Kd.slice 3 (Kd.int .i64)) 58 w' w0.heap.size P0 (.slice A n c) (mkSS l m) ∧ Below w0.heap.size w0 w' ∧ Kept w w' P0 := by
 subst hn
 have HB := Aside0.mk hB
 have HS := Aside0.mk hS
 have Hm := Aside0.mk hm
 have H0 := Aside0.mk h0
 clear hB hS hm h0
 go_enter Tryd.func31, Tryd.ntmps31
 go_wp2
 go_loopw [1, 5] (fun v1 v5 wr => ∃ i : Nat, i ≤ l.length ∧ v5 = .int .i64 i ∧ v1 = .int .i64 (m + szSS (l.take i)) ∧ Aside0 (Kd.S (Kd.slice 3 (Kd.int .i64)) 58 wr w0.heap.size P0 (.slice A l.length c) (mkSS (l.take i) m ++ l.drop i) ∧ Below w0.heap.size w0 wr ∧ Kept w wr P0)) (fun _ v5 _ => l.length - (intOf v5).toNat)
 case atStart => exact ⟨0, Nat.zero_le _, rfl, by simp [szSS], ⟨⟨by simpa [mkSS] using HS.out, HB.out, Kept.refl _ _⟩⟩⟩
 case round =>
  clear HS HB
  obtain ⟨i, hi, rfl, rfl, I⟩ := hrel
  by_cases hil : i < l.length
  ·have hdec : decide (i < l.length) = true := by simp; omega
   have hs := szSS_take l (i + 1)
   have hs2 : szSS (l.take (i + 1)) = szSS (l.take i) + (l.getD i []).length := by rw [take_succ_l l [] i hil, szSS_snoc]
   have Hset := Aside0.mk (set_takeSS l m i hil)
   have hlen : (mkSS (l.take i) m ++ l.drop i).length = l.length := by rw [List.length_append, mkSS_len, List.length_take, List.length_drop]; omega
   have hat : (mkSS (l.take i) m ++ l.drop i).getD i [] = l.getD i [] := by
    rw [List.getD_eq_getElem?_getD, List.getElem?_append_right (by rw [mkSS_len, List.length_take]; omega), mkSS_len, List.length_take, List.getElem?_drop, show i + (i - min i l.length) = i by omega, ← List.getD_eq_getElem?_getD]
   generalize hQ : mkSS (l.take i) m ++ l.drop i = Q at I Hset hlen hat
   clear hQ
   obtain ⟨g, cap, e1, _, _, _⟩ := Kd.S_form I.out.1 (by omega)
   injection e1 with eA en ec
   clear en
   subst eA ec
   obtain ⟨oki, ce, hcl, hM, hcc, hoki, hH⟩ := Kd.S_lend I.out.1 [] (i : Int) (by omega) (by omega)
   obtain ⟨vr, rfl, hr⟩ := hM
   rw [Int.toNat_natCast, hat] at hr
   generalize hrow : l.getD i [] = row at hr hs2 Hset
   clear hrow hat
   obtain ⟨Ar, cr, er⟩ := Kd.R_slice hr
   subst er
   have hx := hcc 0 _ rfl
   rw [Int.toNat_natCast, show (Kd.slice 3 (Kd.int .i64)).sz = 1 from rfl, Nat.mul_one, Nat.add_zero] at hx
   have hq0 : 0 ≤ m + (szSS (l.take i) : Int) := by have := H0.out; omega
   have hq1 : m + (szSS (l.take i) : Int) + (row.length : Int) < 4611686018427387904 := by have := Hm.out; omega
   generalize hq : m + (szSS (l.take i) : Int) = q at hq0 hq1 Hset
   have hqn : m + (szSS (l.take (i + 1)) : Int) = q + (row.length : Int) := by omega
   obtain ⟨KM, hKM⟩ := markIntS_eq row q hq0 hq1
   have HM := Aside0.mk (hKM KM (Nat.le_refl _))
   have HR := Aside0.mk hr
   have HH := Aside0.mk hH
   have Hok := Aside0.mk hoki
   clear hr hcl hcc hoki hH hKM hs hs2
   go_wp2_with (first | ((with_reducible refine gate_callee (f := 85) rfl ?_); (with_reducible refine gate_dst (N := 17) rfl ?_); refine goesL_ (some 17) rfl rfl Tryd.func85 (by kernel_rfl) rfl #[.slice Ar row.length cr, .int .i64 q] rfl (by (try simp only [List.map_toArray, List.map_cons, List.map_nil]); first | done | rfl) ?_; (with_reducible refine (laws_markIntS.calls KM oki (.slice Ar row.length cr) row q _ _ w0 wr I.out.2.1 HR.out HM.out).mono ?_); rintro e w5_ ⟨rfl, hR5, hB5, hk5⟩; refine ⟨_, rfl, ?_⟩; have I9 : Aside0 (Kd.S (Kd.slice 3 (Kd.int .i64)) 58 w5_ w0.heap.size P0 (.slice (some ⟨g, 0, none⟩) l.length c) (mkSS (l.take (i + 1)) m ++ l.drop (i + 1)) ∧ Below w0.heap.size w0 w5_ ∧ Kept w w5_ P0) := ⟨⟨(by have h_ := Kd.H_back (Kd.H_kept HH.out hk5 (fun k _ hn hS => hn hS)) (x' := mkI q row.length) (okp := oki) (Kd.M_row (Kd.R_mono (Kd.R_tight rfl hR5) (fun k hk => HR.out.1 k hk.symm))) (fun k hk => hk); rw [Int.toNat_natCast, Hset.out] at h_; exact h_), hB5, I.out.2.2.then_ hk5 (fun k hk => .inl (Hok.out k hk).1)⟩⟩; clear hR5 hB5 hk5 I HR HH hx))
   go_roundw
   case rel => exact ⟨i + 1, by omega, by go_num, by rw [hqn], I9⟩
   case measure => simp [intOf]; omega
  ·have hie : i = l.length := by omega
   subst hie
   have hdec : decide (l.length < l.length) = false := by simp
   rw [List.take_length, List.drop_length, List.append_nil] at I
   rw [List.take_length]
   go_wp2
   go_ret
   exact ⟨rfl, I.out.1, I.out.2.1, I.out.2.2⟩
end Go.Proofs.YtopahhcojncgaaaDoor.G
namespace Go.Proofs.YtopahhcojncgaaaDoor.G
open Go.RowKit Go.Proofs.YtopahhcojncgaaaDoorW.PrintWords Go.Proofs.YtopahhcojncgaaaDoorW.PrintLast Go.Proofs.YtopahhcojncgaaaDoorW.PrintMore
set_option linter.unusedVariables false
set_option linter.unusedSimpArgs false
set_option maxHeartbeats 4000000 in
set_option maxRecDepth 100000 in
theorem slices_Clone_int.calls (A : Option Addr) (c : Nat) (l : List Int) (w : World) (n : Nat) (hn : n = l.length) (hr : Kd.C (Kd.int .i64) w A l.length l) (hc : l.length ≤ c) (hl : l.length ≤ 100000) :
  Calls Tryd.prog 174 #[.slice A n c] w fun e w' => ∃ v0_ : Value, e = .returned (v0_) ∧ Kd.R (Kd.int .i64) 3 w' w.heap.size (fun _ => True) v0_ l ∧ Below w.heap.size w w' := by
 subst hn
 have HR0 := Aside0.mk hr
 have HC0 := Aside0.mk hc
 clear hr hc
 have q58 : ∀ (w : World) (a : Option Addr) (n c n' c' : Nat), (binOp .eql 58 (.slice a n c) (.slice none n' c')).run Tryd.prog w = .ok (.bool a.isNone) w := fun w a n c n' c' => Lib.run_eql_slice_nil w _ _ a n c n' c' Tryd.underlying58
 cases A with
 | none =>
  have hl0 : l = [] := by
   rcases l with _ | ⟨x, l⟩
   ·rfl
   ·obtain ⟨ad, h, _⟩ := HR0.out.2.2 (Nat.succ_pos _)
    cases h
  subst hl0
  have HNIL := Aside0.mk (Kd.R_nil (Kd.int .i64) 3 w w.heap.size (fun _ => True))
  go_enter Tryd.func174, Tryd.ntmps174
  go_wp2
  go_ret
  exact ⟨_, rfl, HNIL.out, Below.refl _ _⟩
 | some ad =>
  go_enter Tryd.func174, Tryd.ntmps174
  go_wp2_with (first | ((with_reducible refine gate_dst (N := 5) rfl ?_); refine Kd.R_lit (Kd.int .i64) _ 3 ?hg (N := 5) ?hd (xs := ([] : List Int)) (inner := []) (ok := fun _ => True) (okp := fun _ => True) ?hr ?hp (fun _ hk => hk) trivial (Below.refl _ _) (Nat.le_refl _) (by simp) ?_; (case hd => rfl); (case hg => rfl); (case hr => first | (go_simp; done) | (go_simp; rfl)); (case hp => exact (Reps.none _ _)); intro v1 w1_ ho hb hg_ hnew_; have HO1 := Aside0.mk ho; have HB1 := Aside0.mk hb; clear ho hb hg_ hnew_) | ((with_reducible refine gate_builtin (b := .append) (xs := #[.tmp 5, .tmp 6]) rfl ?_); at_builtin; refine Kd.R_append_rows (Kd.int .i64) (Rr := (Kd.int .i64).K w1_) (w0 := w) w.heap.size rfl (.tmp 5) (.tmp 6) 58 3 (.int .i64 0) 8 rfl Tryd.underlying58 info3 rfl (by decide) (by decide) v1 ([] : List Int) l _ _ _ (fun _ => True) (fun _ => False) rfl rfl ?aO ?aR (fun x cs h => h) (fun _ h => h.elim) ?aF ?aB ?aS ?aL ?_; (case aR => exact (Kd.C_below HR0.out HB1.out)); (case aB => exact HB1.out); (case aF => exact (fun _ _ => trivial)); (case aO => exact HO1.out); (case aS => exact HB1.out.size); (case aL => (simp only [List.length_nil]; omega)); intro v2 w2_ ho hb hg hat; rw [List.nil_append] at ho; have HO2 := Aside0.mk ho; have HB2 := Aside0.mk hb; clear ho hb hg hat))
  go_ret
  exact ⟨_, rfl, HO2.out, HB2.out⟩
end Go.Proofs.YtopahhcojncgaaaDoor.G
namespace Go.Proofs.YtopahhcojncgaaaDoor.G
open Go.RowKit Go.Proofs.YtopahhcojncgaaaDoorW.PrintWords Go.Proofs.YtopahhcojncgaaaDoorW.PrintLast Go.Proofs.YtopahhcojncgaaaDoorW.PrintMore
set_option linter.unusedVariables false
set_option linter.unusedSimpArgs false
structure Each {σ : Type} (w0 : World) (gf : Nat) (g : FuncId) (caps : Array Value) (n : Nat) (st : σ → List Nat → σ) (room : σ → Nat → Prop) (I : World → σ → Nat → Prop) : Prop where
 B : ∀ W s M, I W s M → Below w0.heap.size w0 W
 step : ∀ W W' s M, I W s M → Below W.heap.size W W' → I W' s M
 mono : ∀ W s M M', I W s M → M ≤ M' → I W s M'
 call : ∀ W s M (l : List Nat) A c, I W s M → gf < M → M ≤ W.heap.size → room s 1 → (∀ x ∈ l, x < n) → l.length ≤ 100 → Kd.R (Kd.int .i64) 3 W M (fun k => some k = (Value.slice A l.length c).ownBlock) (.slice A l.length c) (ints l) →
  Calls Tryd.prog g (#[.slice A l.length c] ++ caps) W fun e w' => e = .returned (.tuple #[]) ∧ I w' (st s l) w'.heap.size ∧ Kept W w' (SG w0.heap.size gf W)
theorem pow_child (k' K j : Nat) (hj : j < K) (h : k' ≤ K - j - 1) : 2 ^ k' ≤ 2 ^ (K - j) - 1 + 0 := by
 have h1 := Nat.pow_le_pow_right (n := 2) (by decide) h
 have h2 : 2 ^ (K - j) = 2 ^ (K - j - 1) + 2 ^ (K - j - 1) := by
  rw [show K - j = K - j - 1 + 1 by omega, Nat.pow_succ, Nat.add_sub_cancel]; omega
 have h3 := Nat.two_pow_pos (K - j - 1)
 omega
theorem C_one (W : World) (a : Int) : (Kd.int .i64).C (W.alloc (.cells #[.int .i64 a] 3)) (some ⟨W.heap.size, 0, none⟩) 1 [a] :=
 (Kd.R_reads' (Kd.R_of_own (enc := Value.int .i64) (h1 := fun _ => rfl) (ok := fun _ => True) (xs := [a]) (own_lit W W.heap.size 3 .i64 [a] (Nat.le_refl _) (by simp)) (fun _ _ => trivial))).2.2
structure CI {σ : Type} (w0 : World) (gf gE gR gT : Nat) (vE : Value) (A0 : Option Addr) (ct : Nat) (t : List Int) (I : World → σ → Nat → Prop) (W : World) (s : σ) : Prop where
 E : W.heap[gE]? = some (.cells #[vE] 153 (0, 0))
 R : W.heap[gR]? = some (.cells #[(.func (.func 173) #[] #[.pointer (some ⟨gE, 0, none⟩), .pointer (some ⟨gR, 0, none⟩), .pointer (some ⟨gT, 0, none⟩)])] 181 (0, 0))
 T : W.heap[gT]? = some (.cells #[.slice A0 t.length ct] 88 (0, 0))
 C : ∀ W', Kept W W' (SG w0.heap.size gf W) → Kd.C (Kd.int .u16) W' A0 t.length t
 I : I W s W.heap.size
 ne : gE ≠ gf ∧ gR ≠ gf ∧ gT ≠ gf
 lt : gf < W.heap.size
section
variable {σ : Type} {w0 w W W' : World} {gf gE gR gT : Nat} {vE : Value} {A0 : Option Addr} {ct : Nat} {t : List Int} {I : World → σ → Nat → Prop} {s s' : σ} {g : FuncId} {caps : Array Value} {n : Nat} {st : σ → List Nat → σ} {room : σ → Nat → Prop}
theorem CI.below (hE : Each w0 gf g caps n st room I) (h : CI w0 gf gE gR gT vE A0 ct t I W s) (hb : Below W.heap.size W W') : CI w0 gf gE gR gT vE A0 ct t I W' s :=
 ⟨blk_below h.E hb, blk_below h.R hb, blk_below h.T hb, fun W2 hk => h.C W2 (SG_trans (Kept.of_below hb _) hk), hE.mono _ _ _ _ (hE.step _ _ _ _ h.I hb) hb.size, h.ne, Nat.lt_of_lt_of_le h.lt hb.size⟩
theorem not_SG {N0 k : Nat} {cs : Array Value} {ty : TypeId} (hb : W.heap[k]? = some (.cells cs ty (0, 0))) (ht : ty ≠ 58) (hne : k ≠ gf) : ¬ SG N0 gf W k := by
 rintro (e | ⟨_, cells, hc⟩)
 ·exact hne e
 ·rw [hb] at hc
  injection hc with hc
  injection hc with _ h2
  exact ht h2
theorem CI.kept (h : CI w0 gf gE gR gT vE A0 ct t I W s) (hk : Kept W W' (SG w0.heap.size gf W)) (hI : I W' s' W'.heap.size) : CI w0 gf gE gR gT vE A0 ct t I W' s' :=
 ⟨blk_kept h.E hk (not_SG h.E (by decide) h.ne.1), blk_kept h.R hk (not_SG h.R (by decide) h.ne.2.1), blk_kept h.T hk (not_SG h.T (by decide) h.ne.2.2), fun W2 hk2 => h.C W2 (SG_trans hk hk2), hI, h.ne, Nat.lt_of_lt_of_le h.lt hk.1⟩
end
set_option maxHeartbeats 4000000 in
set_option maxRecDepth 100000 in
theorem impl_groups_1.walk {σ : Type} (w0 : World) (hG : Laid32 w0) (gf gE gR gT : Nat) (g : FuncId) (fn : Func) (hfn : Tryd.prog.funcs[g]? = some fn) (hname : (fn.name == "runtime.NumGoroutine") = false) (hbody : fn.body.isSome = true) (caps : Array Value) (A0 : Option Addr) (ct : Nat) (t : List Int) (hct : t.length ≤ ct) (ht16 : t.length ≤ 16) (htr : ∀ i, 0 ≤ t.getD i 0 ∧ t.getD i 0 < 65536) (hts : ∀ a, (t.getD a 0).toNat.testBit a = false)
  (st : σ → List Nat → σ) (room : σ → Nat → Prop) (hR : Room st room) (I : World → σ → Nat → Prop) (hE : Each w0 gf g caps t.length st room I) (m : Nat) :
  ∀ (l : List Nat) (left : Nat) (A : Option Addr) (c : Nat) (w : World) (s : σ) (M : Nat) (nl : Nat), nl = l.length → left < 2 ^ t.length → (bl left).length < m → (∀ x ∈ l, x < t.length) → l.length + m ≤ 100 → room s (2 ^ (bl left).length) →
  CI w0 gf gE gR gT (.func (.func g) #[] caps) A0 ct t I w s → I w s M → gf < M → M ≤ w.heap.size → Kd.R (Kd.int .i64) 3 w M (fun k => some k = (Value.slice A l.length c).ownBlock) (.slice A l.length c) (ints l) →
  Calls Tryd.prog 173 #[.slice A nl c, .int .u16 (left : Int), .pointer (some ⟨gE, 0, none⟩), .pointer (some ⟨gR, 0, none⟩), .pointer (some ⟨gT, 0, none⟩)] w
   fun e w' => e = .returned (.tuple #[]) ∧ CI w0 gf gE gR gT (.func (.func g) #[] caps) A0 ct t I w' (gsF st t m l left s) ∧ Kept w w' (SG w0.heap.size gf w) := by
 induction m with
 | zero => intro l left A c w s M nl _ _ h; omega
 | succ m ih =>
  intro l left A c w s M nl hnl hleft hm hlt hlm hroom hC hI hgM hMw hRow
  subst hnl
  have CC := Aside0.mk hC
  have IM := Aside0.mk hI
  have RW := Aside0.mk hRow
  have IH := Aside0.mk ih
  have Htr := Aside0.mk htr
  have Hlt := Aside0.mk hlt
  have HE := Aside0.mk hE
  have Hroom := Aside0.mk hroom
  have HG := Aside0.mk hG
  have Hl2 := Aside0.mk hleft
  have hl16 : left < 65536 := Nat.lt_of_lt_of_le hleft (Nat.pow_le_pow_right (n := 2) (by decide) ht16)
  have Hst := Aside0.mk (gsF_step st t m l left s)
  have HRB := Aside0.mk (room_both hR t hts m l left s 0 hl16 (by omega) hroom)
  have hlen := ints_len l
  clear hC hI hRow ih htr hlt hE hroom hG hleft
  have hxE : w.cell? ⟨gE, 0, none⟩ = some (.func (.func g) #[] caps) := (blk_cell CC.out.E 0).trans rfl
  go_enter Tryd.func173, Tryd.ntmps173
  go_wp2_with (first | ((with_reducible refine gate_dst (N := 11) rfl ?_); refine goesVL_ (some 11) rfl rfl hfn hname hbody (#[.slice A l.length c] ++ caps) rfl rfl (by (try simp only [List.map_toArray, List.map_cons, List.map_nil]); first | done | rfl) ?_; (with_reducible refine (HE.out.call w s M l A c IM.out hgM hMw (hR.mono _ _ _ Hroom.out (Nat.two_pow_pos _)) Hlt.out (by omega) RW.out).mono ?_); rintro e w1_ ⟨rfl, hI1, hk1⟩; refine ⟨_, rfl, ?_⟩; have C1 := Aside0.mk (CC.out.kept hk1 hI1); have K1 := Aside0.mk hk1; have HS0 := Aside0.mk (own3_SG (N0 := w0.heap.size) (gf := gf) RW.out (fun k hk e => by have h_ := Kd.R_base RW.out k hk; omega)); have R1 := Aside0.mk (Kd.R_kept RW.out hk1 (fun k hk => HS0.out k hk)); clear hI1 hk1 hxE CC) | ((with_reducible refine gate_callee (f := 71) rfl ?_); (with_reducible refine gate_dst (N := 13) rfl ?_); refine goesL_ (some 13) rfl rfl Tryd.func71 (by kernel_rfl) rfl #[.int .u16 (left : Int)] rfl (by (try simp only [List.map_toArray, List.map_cons, List.map_nil]); first | done | rfl) ?_; (with_reducible refine (impl_listed.calls 17 (left : Int) (ints (bl left)) _ (HG.out.below (HE.out.B _ _ _ C1.out.I)) (listed_eq left 17 hl16 (Nat.le_refl _))).mono ?_); rintro e w2_ ⟨v1, rfl, ho, hb⟩; refine ⟨_, rfl, ?_⟩; obtain ⟨A2, c2, e2⟩ := Kd.R_slice ho; subst e2; have C2 := Aside0.mk (C1.out.below HE.out hb); have K2 := Aside0.mk (K1.out.below hb); have HO2 := Aside0.mk (Kd.R_tight rfl ho); have R2 := Aside0.mk (Kd.R_below R1.out hb); have HS2 := Aside0.mk (own3_SG (N0 := w0.heap.size) (gf := gf) ho (fun k hk e => by have h_ := Kd.R_base ho k hk; have h2_ := C1.out.lt; omega)); have RS2 := Aside0.mk (own3_SG (N0 := w0.heap.size) (gf := gf) R2.out (fun k hk e => by have h_ := Kd.R_base R2.out k hk; omega)); clear ho hb C1 K1 R1 HS0))
  have HCL : Aside0 (∀ W', Kept w2_ W' (SG w0.heap.size gf w2_) → Kd.C (Kd.int .i64) W' A2 (ints (bl left)).length (ints (bl left))) := ⟨Kd.C_kept_own HO2.out (fun k hk => HS2.out k hk)⟩
  obtain ⟨L, HL⟩ : ∃ L, Aside0 (bl left = L) := ⟨_, ⟨rfl⟩⟩
  rw [HL.out] at HO2 HRB Hst hm HCL ⊢
  have hLb : L.length ≤ 16 := by rw [← HL.out]; exact bl_length left
  have hLl : (ints L).length = L.length := by simp [ints]
  rw [hLl] at HO2 HCL ⊢
  have hmL : ∀ k, k < L.length → L.getD k 0 < t.length := by
   intro k hk
   have hmem : L.getD k 0 ∈ bl left := by rw [HL.out, List.getD_eq_getElem?_getD, List.getElem?_eq_getElem hk]; exact List.getElem_mem hk
   have h1 := (mem_bl left _ hl16).1 hmem
   rcases Nat.lt_or_ge (L.getD k 0) t.length with h | h
   ·exact h
   ·rw [Nat.testBit_lt_two_pow (Nat.lt_of_lt_of_le Hl2.out (Nat.pow_le_pow_right (by decide) h))] at h1; cases h1
  have HmL := Aside0.mk hmL
  clear hmL
  have HCG : Aside0 (∀ W', Kept w2_ W' (SG w0.heap.size gf w2_) → Kd.C (Kd.int .i64) W' A l.length (ints l)) := ⟨Kd.C_kept_own R2.out (fun k hk => RS2.out k hk)⟩
  clear HS2 RS2
  go_loopw [15] (fun v wr => ∃ j : Nat, j ≤ L.length ∧ v = .int .i64 j ∧ Aside0 (CI w0 gf gE gR gT (.func (.func g) #[] caps) A0 ct t I wr (gsL st t m l left (st s l) (L.take j)) ∧ Kept w2_ wr (SG w0.heap.size gf w2_))) (fun v _ => L.length - (intOf v).toNat)
  case atStart => exact ⟨0, Nat.zero_le _, rfl, ⟨⟨C2.out, Kept.refl _ _⟩⟩⟩
  case round =>
   clear C2
   obtain ⟨j, hj, rfl, C3⟩ := hrel
   by_cases hjL : j < L.length
   ·have hdec : decide (j < L.length) = true := by simp; omega
    have Hsn := Aside0.mk (gsL_snoc st t m l left (st s l) (L.take j) (L.getD j 0))
    rw [← take_succ_n L j hjL] at Hsn
    have Hb := Aside0.mk (fun a ha => bl_onw t left a j (hts a) hl16 (show j < (bl left).length by rw [HL.out]; exact hjL) (show (bl left).getD j 0 = a by rw [HL.out]; exact ha))
    have HRj := Aside0.mk (HRB.out j (Nat.le_of_lt hjL))
    generalize gsL st t m l left (st s l) (L.take j) = sj at C3 Hsn HRj
    have ha := HmL.out j hjL
    obtain ⟨ad, hA2, hxa⟩ := Kd.at_int (HCL.out _ C3.out.2) (j : Int) (by omega) (by omega)
    subst hA2
    rw [Int.toNat_natCast, rd_ints8 _ _ hjL] at hxa
    obtain ⟨a, Ha⟩ : ∃ a, Aside0 (L.getD j 0 = a) := ⟨_, ⟨rfl⟩⟩
    have Hba := Aside0.mk (Hb.out a Ha.out)
    rw [Ha.out] at ha hxa Hsn
    rw [HL.out] at Hba
    clear Hb
    obtain ⟨x, Hx⟩ : ∃ x : Nat, Aside0 (t.getD a 0 = (x : Int)) := ⟨(t.getD a 0).toNat, ⟨by have := (Htr.out a).1; omega⟩⟩
    have hx16 : x < 65536 := by have := (Htr.out a).2; rw [Hx.out] at this; omega
    have Honw : Aside0 (onw t left a = clr (left &&& x) (2 ^ a - 1)) := ⟨by unfold onw; rw [Hx.out, Int.toNat_natCast]⟩
    obtain ⟨adt, hA0, hxt⟩ := Kd.at_int (C3.out.1.C _ (Kept.refl _ _)) (a : Int) (by omega) (by omega)
    subst hA0
    rw [Int.toNat_natCast, show rd t (a : Int) = (x : Int) from by rw [← Hx.out]; simp [rd]] at hxt
    have HCGj := Aside0.mk (HCG.out _ C3.out.2)
    have hcl : l.length ≤ c := (Kd.R_reads' RW.out).2.1
    have hp16 : 2 ^ a < 65536 := Nat.pow_lt_pow_right (by decide) (show a < 16 by omega) (n := 16)
    have hpp := Nat.two_pow_pos a
    have hraw : bits BinOp.andNot IntKind.u16 (bits BinOp.and IntKind.u16 (left : Int) (x : Int)) (IntKind.u16.wrap (IntKind.u16.wrap (2 ^ a) - 1)) = ((clr (left &&& x) (2 ^ a - 1) : Nat) : Int) := by
     have e : ((2 : Int) ^ a) = ((2 ^ a : Nat) : Int) := by simp
     rw [and16 left x hl16 hx16, e]
     have e2 : IntKind.u16.wrap (IntKind.u16.wrap ((2 ^ a : Nat) : Int) - 1) = ((2 ^ a - 1 : Nat) : Int) := by
      rw [wrap_u16, wrap_u16]
      generalize 2 ^ a = p at hp16 hpp
      omega
     rw [e2]
     exact andNot16 _ _ (Nat.lt_of_le_of_lt Nat.and_le_left hl16) (by omega)
    have Hraw := Aside0.mk hraw
    clear hraw hpp hp16
    go_upto_region 4 with (fail)
    refine start_ (n := 17) (S := fun w' => w'.cell? ⟨gR, 0, none⟩ = some (.func (.func 173) #[] #[.pointer (some ⟨gE, 0, none⟩), .pointer (some ⟨gR, 0, none⟩), .pointer (some ⟨gT, 0, none⟩)]) ∧ w'.cell? ⟨gT, 0, none⟩ = some (.slice (some adt) t.length ct) ∧ w'.cell? (adt.add a) = some (.int .u16 (x : Int))) (ds := [16]) #[false, false, false, false, false, false, false, false, false, false, false, false, false, false, false, false, false] (by kernel_rfl) rfl rfl ⟨(blk_cell (blk_drew C3.out.1.R) 0).trans rfl, (blk_cell (blk_drew C3.out.1.T) 0).trans rfl, hxt⟩ (fun hHeld => ?_)
    replace C3 := Aside0.mk (And.intro (C3.out.1.below HE.out (below_drew (Below.refl _ _))) (C3.out.2.drew))
    replace HCGj := Aside0.mk (Kd.C_below HCGj.out (below_drew (Below.refl _ _)))
    have HX := Aside0.mk (pw_cell_below (below_drew (Below.refl _ _)) hxt)
    generalize wr.drew = w6 at C3 HCGj HX hHeld ⊢
    refine take_ (i := 0) (N := some 19) (v := ?_) (a' := ?_) #[true, false, false, false, false, false, false, false, false, false, false, false, false, false, false, false, false] rfl rfl (by kernel_rfl) (fun _ _ _ h => h) (Or.inl ⟨by rfl, ?_⟩) hHeld ?_ ?_
    rotate_left
    ·rintro w' ⟨s0, s1, s2⟩
     go_simp
     with_reducible rfl
    rotate_left
    ·simp only [Act.put, List.setIfInBounds_toArray, List.set_cons_zero, List.set_cons_succ, i64_w, i32_w]
     rfl
    refine pure_ (i := 1) (N := some 20) (v := ?_) (a' := ?_) #[true, true, false, false, false, false, false, false, false, false, false, false, false, false, false, false, false] rfl rfl (by kernel_rfl) (fun _ _ _ h => h) (Or.inl ⟨by rfl, ?_⟩) ?_ ?_
    rotate_left
    ·intro w'
     go_simp
     with_reducible rfl
    rotate_left
    ·simp only [Act.put, List.setIfInBounds_toArray, List.set_cons_zero, List.set_cons_succ, i64_w, i32_w]
     rfl
    refine pure_ (i := 3) (N := some 22) (v := ?_) (a' := ?_) #[true, true, false, true, false, false, false, false, false, false, false, false, false, false, false, false, false] rfl rfl (by kernel_rfl) (fun _ _ _ h => h) (Or.inl ⟨by rfl, ?_⟩) ?_ ?_
    rotate_left
    ·intro w'
     go_simp
     with_reducible rfl
    rotate_left
    ·simp only [Act.put, List.setIfInBounds_toArray, List.set_cons_zero, List.set_cons_succ, i64_w, i32_w]
     rfl
    refine pure_ (i := 6) (N := some 25) (v := ?_) (a' := ?_) #[true, true, false, true, false, false, true, false, false, false, false, false, false, false, false, false, false] rfl rfl (by kernel_rfl) (fun _ _ _ h => h) (Or.inl ⟨by rfl, ?_⟩) ?_ ?_
    rotate_left
    ·intro w'
     go_simp
     with_reducible rfl
    rotate_left
    ·simp only [Act.put, List.setIfInBounds_toArray, List.set_cons_zero, List.set_cons_succ, i64_w, i32_w]
     rfl
    refine take_ (i := 7) (N := some 26) (v := ?_) (a' := ?_) #[true, true, false, true, false, false, true, true, false, false, false, false, false, false, false, false, false] rfl rfl (by kernel_rfl) (fun _ _ _ h => h) (Or.inl ⟨by rfl, ?_⟩) hHeld ?_ ?_
    rotate_left
    ·rintro w' ⟨s0, s1, s2⟩
     go_simp
     with_reducible rfl
    rotate_left
    ·simp only [Act.put, List.setIfInBounds_toArray, List.set_cons_zero, List.set_cons_succ, i64_w, i32_w]
     rfl
    refine pure_ (i := 8) (N := some 27) (v := ?_) (a' := ?_) #[true, true, false, true, false, false, true, true, true, false, false, false, false, false, false, false, false] rfl rfl (by kernel_rfl) (fun _ _ _ h => h) (Or.inl ⟨by rfl, ?_⟩) ?_ ?_
    rotate_left
    ·intro w'
     go_simp
     with_reducible rfl
    rotate_left
    ·simp only [Act.put, List.setIfInBounds_toArray, List.set_cons_zero, List.set_cons_succ, i64_w, i32_w]
     rfl
    refine pure_ (i := 9) (N := some 28) (v := ?_) (a' := ?_) #[true, true, false, true, false, false, true, true, true, true, false, false, false, false, false, false, false] rfl rfl (by kernel_rfl) (fun _ _ _ h => h) (Or.inl ⟨by rfl, ?_⟩) ?_ ?_
    rotate_left
    ·intro w'
     go_simp
     with_reducible rfl
    rotate_left
    ·simp only [Act.put, List.setIfInBounds_toArray, List.set_cons_zero, List.set_cons_succ, i64_w, i32_w]
     rfl
    refine take_ (i := 10) (N := some 29) (v := ?_) (a' := ?_) #[true, true, false, true, false, false, true, true, true, true, true, false, false, false, false, false, false] rfl rfl (by kernel_rfl) (fun _ _ _ h => h) (Or.inl ⟨by rfl, ?_⟩) hHeld ?_ ?_
    rotate_left
    ·rintro w' ⟨s0, s1, s2⟩
     go_simp
     with_reducible rfl
    rotate_left
    ·simp only [Act.put, List.setIfInBounds_toArray, List.set_cons_zero, List.set_cons_succ, i64_w, i32_w]
     rfl
    refine pure_ (i := 11) (N := some 30) (v := ?_) (a' := ?_) #[true, true, false, true, false, false, true, true, true, true, true, true, false, false, false, false, false] rfl rfl (by kernel_rfl) (fun _ _ _ h => h) (Or.inl ⟨by rfl, ?_⟩) ?_ ?_
    rotate_left
    ·intro w'
     go_simp
     with_reducible rfl
    rotate_left
    ·simp only [Act.put, List.setIfInBounds_toArray, List.set_cons_zero, List.set_cons_succ, i64_w, i32_w]
     rfl
    refine pure_ (i := 12) (N := some 31) (v := ?_) (a' := ?_) #[true, true, false, true, false, false, true, true, true, true, true, true, true, false, false, false, false] rfl rfl (by kernel_rfl) (fun _ _ _ h => h) (Or.inl ⟨by rfl, ?_⟩) ?_ ?_
    rotate_left
    ·intro w'
     go_simp
     with_reducible rfl
    rotate_left
    ·simp only [Act.put, List.setIfInBounds_toArray, List.set_cons_zero, List.set_cons_succ, i64_w, i32_w]
     rfl
    refine pure_ (i := 13) (N := some 32) (v := ?_) (a' := ?_) #[true, true, false, true, false, false, true, true, true, true, true, true, true, true, false, false, false] rfl rfl (by kernel_rfl) (fun _ _ _ h => h) (Or.inl ⟨by rfl, ?_⟩) ?_ ?_
    rotate_left
    ·intro w'
     go_simp
     with_reducible rfl
    rotate_left
    ·simp only [Act.put, List.setIfInBounds_toArray, List.set_cons_zero, List.set_cons_succ, i64_w, i32_w]
     rfl
    refine pure_ (i := 14) (N := some 33) (v := ?_) (a' := ?_) #[true, true, false, true, false, false, true, true, true, true, true, true, true, true, true, false, false] rfl rfl (by kernel_rfl) (fun _ _ _ h => h) (Or.inl ⟨by rfl, ?_⟩) ?_ ?_
    rotate_left
    ·intro w'
     go_simp
     with_reducible rfl
    rotate_left
    ·simp only [Act.put, List.setIfInBounds_toArray, List.set_cons_zero, List.set_cons_succ, i64_w, i32_w]
     rfl
    refine pure_ (i := 15) (N := some 34) (v := ?_) (a' := ?_) #[true, true, false, true, false, false, true, true, true, true, true, true, true, true, true, true, false] rfl rfl (by kernel_rfl) (fun _ _ _ h => h) (Or.inl ⟨by rfl, ?_⟩) ?_ ?_
    rotate_left
    ·intro w'
     go_simp
     with_reducible rfl
    rotate_left
    ·simp only [Act.put, List.setIfInBounds_toArray, List.set_cons_zero, List.set_cons_succ, i64_w, i32_w]
     rfl
    refine join_ (σ := Value × Value) 2 #[true, true, true, true, true, false, true, true, true, true, true, true, true, true, true, true, false] (fun s_ => [(21, s_.1), (23, s_.2)]) (fun s_ w' => ∃ gb : Nat, s_.2 = .slice (some ⟨gb, 0, none⟩) 1 1 ∧ (Kd.int .i64).C w' (some ⟨gb, 0, none⟩) 1 [(a : Int)] ∧ Kd.R (Kd.int .i64) 3 w' w6.heap.size (fun _ => True) s_.1 (ints l) ∧ Below w6.heap.size w6 w') ?_ ?_
    rotate_left
    ·intro hCont
     refine two_ (i := 2) (j := 4) (Ni := some 21) (Nj := some 23) #[true, true, true, true, false, false, true, true, true, true, true, true, true, true, true, true, false] #[true, true, false, true, true, false, true, true, true, true, true, true, true, true, true, true, false] rfl rfl rfl rfl (by kernel_rfl) (by decide) (by decide) (fun K hK => ?_) (fun K hK => ?_)
     ·refine goes_ Tryd.func174 (by kernel_rfl) rfl #[.slice A l.length c] (by rfl) rfl rfl (by (try simp only [List.map_toArray, List.map_cons, List.map_nil]); first | done | rfl) ?_
      refine (slices_Clone_int.calls A c (ints l) w6 l.length hlen.symm (by rw [hlen]; exact HCGj.out) (by rw [hlen]; exact hcl) (by rw [hlen]; omega)).mono ?_
      rintro e w7_ ⟨v3, rfl, ho, hb⟩
      refine ⟨_, rfl, ?_⟩
      refine hK.out _ _ ⟨(blk_cell (blk_below C3.out.1.R hb) 0).trans rfl, (blk_cell (blk_below C3.out.1.T hb) 0).trans rfl, pw_cell_below hb HX.out⟩ (fun hHeld => ?_)
      clear hK K
      refine norm_ (a' := ?_) ?_ ?_
      rotate_left
      ·show Act.put _ (some 21) _ = _
       simp only [Act.put, List.setIfInBounds_toArray, List.set_cons_zero, List.set_cons_succ, i64_w, i32_w]
       rfl
      refine one_ (i := 4) (N := some 23) #[true, true, true, true, true, false, true, true, true, true, true, true, true, true, true, true, false] rfl rfl (by kernel_rfl) (by decide) (fun K hK => ?_)
      refine value_ (w1 := ?_) (v := ?_) (by rfl) rfl ?_ ?_
      rotate_left 2
      ·go_simp
       constructor
       ·rfl
       ·rfl
      refine hK.out _ _ ⟨(blk_cell (blk_below C3.out.1.R (below_alloc hb _)) 0).trans rfl, (blk_cell (blk_below C3.out.1.T (below_alloc hb _)) 0).trans rfl, pw_cell_below (below_alloc hb _) HX.out⟩ (fun hHeld => ?_)
      clear hK K
      exact hCont (v3, _) _ ⟨_, rfl, C_one _ _, Kd.R_alloc ho _, below_alloc hb _⟩
     ·refine value_ (w1 := ?_) (v := ?_) (by rfl) rfl ?_ ?_
      rotate_left 2
      ·go_simp
       constructor
       ·rfl
       ·rfl
      refine hK.out _ _ ⟨(blk_cell (blk_below C3.out.1.R (below_alloc (Below.refl _ _) _)) 0).trans rfl, (blk_cell (blk_below C3.out.1.T (below_alloc (Below.refl _ _) _)) 0).trans rfl, pw_cell_below (below_alloc (Below.refl _ _) _) HX.out⟩ (fun hHeld => ?_)
      clear hK K
      refine norm_ (a' := ?_) ?_ ?_
      rotate_left
      ·show Act.put _ (some 23) _ = _
       simp only [Act.put, List.setIfInBounds_toArray, List.set_cons_zero, List.set_cons_succ, i64_w, i32_w]
       rfl
      refine one_ (i := 2) (N := some 21) #[true, true, true, true, true, false, true, true, true, true, true, true, true, true, true, true, false] rfl rfl (by kernel_rfl) (by decide) (fun K hK => ?_)
      refine goes_ Tryd.func174 (by kernel_rfl) rfl #[.slice A l.length c] (by rfl) rfl rfl (by (try simp only [List.map_toArray, List.map_cons, List.map_nil]); first | done | rfl) ?_
      refine (slices_Clone_int.calls A c (ints l) _ l.length hlen.symm (by rw [hlen]; exact (Kd.C_below HCGj.out (below_alloc (Below.refl _ _) _))) (by rw [hlen]; exact hcl) (by rw [hlen]; omega)).mono ?_
      rintro e w7_ ⟨v3, rfl, ho, hb⟩
      refine ⟨_, rfl, ?_⟩
      have hb2 := below_step (below_alloc (Below.refl _ _) _) hb
      refine hK.out _ _ ⟨(blk_cell (blk_below C3.out.1.R hb2) 0).trans rfl, (blk_cell (blk_below C3.out.1.T hb2) 0).trans rfl, pw_cell_below hb2 HX.out⟩ (fun hHeld => ?_)
      clear hK K
      exact hCont (v3, _) _ ⟨_, rfl, Kd.C_below (C_one _ _) hb, Kd.R_lower ho (below_alloc (Below.refl w6.heap.size w6) _).size, hb2⟩
    rintro ⟨v3, s2⟩ w7_ ⟨gb, e2, hCb, ho, hb⟩
    simp only at e2 ho
    subst e2
    have C4 := Aside0.mk (C3.out.1.below HE.out hb)
    have HX4 := Aside0.mk (pw_cell_below hb HX.out)
    have HO4 := Aside0.mk ho
    have HB4 := Aside0.mk hb
    have HCb := Aside0.mk hCb
    clear ho hb HCGj HX hCb
    refine norm_ (a' := ?_) ?_ ?_
    rotate_left
    ·simp only [putAll, Act.put, List.setIfInBounds_toArray, List.set_cons_zero, List.set_cons_succ, i64_w, i32_w]
     rfl
    refine one_ (i := 5) (N := some 24) #[true, true, true, true, true, true, true, true, true, true, true, true, true, true, true, true, false] rfl rfl (by kernel_rfl) (by decide) (fun K hK => ?_)
    refine Kd.R_append_rows_step (Kd.int .i64) (Rr := (Kd.int .i64).K w7_) (w0 := w6) w6.heap.size (by rfl) (.tmp 21) (.tmp 23) 58 3 (.int .i64 0) 8 rfl Tryd.underlying58 info3 rfl (by decide) (by decide) v3 (ints l) [(a : Int)] _ _ _ (fun _ => True) (fun _ => False) rfl rfl ?aO ?aR (fun x cs h => h) (fun k hk => hk.elim) ?aF ?aB ?aS ?aL ?_
    (case aR => exact HCb.out)
    (case aF => exact (fun _ _ => trivial))
    (case aO => exact HO4.out)
    (case aB => exact HB4.out)
    (case aS => exact HB4.out.size)
    (case aL => rw [hlen]; omega)
    intro v8 w8_ ho hb hg hat
    obtain ⟨A8, c8, e8⟩ := Kd.R_slice ho
    rw [List.length_append, List.length_singleton, hlen] at e8
    subst e8
    have C8 := Aside0.mk (C3.out.1.below HE.out hb)
    have K8 := Aside0.mk (C3.out.2.below hb)
    have R8 := Aside0.mk (Kd.R_tight rfl ho)
    have HX8 := Aside0.mk (show w8_.cell? (adt.add a) = some (.int .u16 (x : Int)) from (by obtain ⟨ad9, e9, h9⟩ := Kd.at_int (C8.out.C _ (Kept.refl _ _)) (a : Int) (by omega) (by omega); injection e9 with e9; subst e9; rw [Int.toNat_natCast, show rd t (a : Int) = (x : Int) from by rw [← Hx.out]; simp [rd]] at h9; exact h9))
    have I8 := Aside0.mk (HE.out.step _ _ _ _ C3.out.1.I hb)
    have L8 := C3.out.1.lt
    have M8 := hb.size
    clear ho hb hg hat C4 HX4 HO4 HB4 HCb
    refine hK.out _ _ ⟨(blk_cell C8.out.R 0).trans rfl, (blk_cell C8.out.T 0).trans rfl, HX8.out⟩ (fun hHeld => ?_)
    clear hK K
    refine norm_ (a' := ?_) ?_ ?_
    rotate_left
    ·show Act.put _ (some 24) _ = _
     simp only [Act.put, List.setIfInBounds_toArray, List.set_cons_zero, List.set_cons_succ, i64_w, i32_w]
     rfl
    refine last_ (i := 16) (N := some 35) #[true, true, true, true, true, true, true, true, true, true, true, true, true, true, true, true, true] rfl rfl (by kernel_rfl) (by decide) (fun K hK => ?_)
    refine goesV_ Tryd.func173 (by kernel_rfl) rfl #[.slice A8 (l.length + 1) c8, .int .u16 (bits BinOp.andNot IntKind.u16 (bits BinOp.and IntKind.u16 (left : Int) (x : Int)) (IntKind.u16.wrap (IntKind.u16.wrap (2 ^ a) - 1))), .pointer (some ⟨gE, 0, none⟩), .pointer (some ⟨gR, 0, none⟩), .pointer (some ⟨gT, 0, none⟩)] (by rfl) rfl rfl rfl (by (try simp only [List.map_toArray, List.map_cons, List.map_nil, List.append_toArray, List.cons_append, List.nil_append]); rfl) ?_
    rw [Hraw.out, ← Honw.out]
    have Hsi := Aside0.mk (show ints (l ++ [a]) = ints l ++ [(a : Int)] by simp [ints])
    refine (IH.out (l ++ [a]) (onw t left a) A8 c8 w8_ sj w6.heap.size (l.length + 1) (by rw [List.length_append, List.length_singleton]) (onw_lt _ _ _ _ Hl2.out) (by have h_ := Hba.out; omega) (fun x hx => (List.mem_append.1 hx).elim (Hlt.out x) (fun h => by rw [List.mem_singleton.1 h]; exact ha)) (by rw [List.length_append, List.length_singleton]; omega) (hR.mono _ _ _ HRj.out (pow_child _ _ _ hjL (by have h_ := Hba.out; omega))) C8.out I8.out L8 M8 (by rw [List.length_append, List.length_singleton, Hsi.out]; exact R8.out)).mono ?_
    rintro e w9_ ⟨rfl, hC9, hk9⟩
    refine ⟨_, rfl, ?_⟩
    have C9 : Aside0 (CI w0 gf gE gR gT (.func (.func g) #[] caps) (some adt) ct t I w9_ (gsL st t m l left (st s l) (L.take (j + 1))) ∧ Kept w2_ w9_ (SG w0.heap.size gf w2_)) := ⟨⟨by rw [Hsn.out]; exact hC9, SG_trans K8.out hk9⟩⟩
    clear hC9 hk9 C8 K8 R8 HX8 I8 L8 M8 C3
    refine hK.out _ _ ?_
    clear hK K
    refine done_ (by kernel_rfl) ?_
    go_wp2
    go_roundw
    case rel => exact ⟨j + 1, by omega, by go_num, C9⟩
    case measure => simp [intOf]; omega
   ·have hje : j = L.length := by omega
    subst hje
    have hdec : decide (L.length < L.length) = false := by simp
    rw [List.take_length] at C3
    go_wp2
    refine bodyPost_end (results_none rfl _ _ _) rfl ?_
    refine ⟨rfl, ?_, SG_trans K2.out C3.out.2⟩
    rw [Hst.out]
    exact C3.out.1
end Go.Proofs.YtopahhcojncgaaaDoor.G
namespace Go.Proofs.YtopahhcojncgaaaDoor.G
open Go.RowKit Go.Proofs.YtopahhcojncgaaaDoorW.PrintWords Go.Proofs.YtopahhcojncgaaaDoorW.PrintLast Go.Proofs.YtopahhcojncgaaaDoorW.PrintMore
set_option linter.unusedVariables false
set_option linter.unusedSimpArgs false
set_option maxHeartbeats 4000000 in
set_option maxRecDepth 100000 in
theorem impl_groups.walk {σ : Type} (w0 w : World) (hG : Laid32 w0) (gf : Nat) (g : FuncId) (fn : Func) (hfn : Tryd.prog.funcs[g]? = some fn) (hname : (fn.name == "runtime.NumGoroutine") = false) (hbody : fn.body.isSome = true) (caps : Array Value) (A0 : Option Addr) (ct : Nat) (t : List Int) (hct : t.length ≤ ct) (ht16 : t.length < 16) (htr : ∀ i, 0 ≤ t.getD i 0 ∧ t.getD i 0 < 65536) (hts : ∀ a, (t.getD a 0).toNat.testBit a = false)
  (st : σ → List Nat → σ) (room : σ → Nat → Prop) (hR : Room st room) (I : World → σ → Nat → Prop) (hE : Each w0 gf g caps t.length st room I) (s : σ) (hI : I w s w.heap.size) (hroom : room s 65536) (hgf : gf < w.heap.size) (hC : ∀ W', Kept w W' (SG w0.heap.size gf w) → Kd.C (Kd.int .u16) W' A0 t.length t) :
  Calls Tryd.prog 135 #[.slice A0 t.length ct, .func (.func g) #[] caps] w
   fun e w' => e = .returned (.tuple #[]) ∧ I w' (gsF st t 17 [] (2 ^ t.length - 1) s) w'.heap.size ∧ Kept w w' (SG w0.heap.size gf w) := by
 have IW := Aside0.mk hI
 have Htr := Aside0.mk htr
 have HE := Aside0.mk hE
 have HG := Aside0.mk hG
 have HC := Aside0.mk hC
 have Hroom := Aside0.mk hroom
 clear hI htr hE hG hC hroom
 have hp16 : 2 ^ t.length < 65536 := Nat.pow_lt_pow_right (by decide) ht16 (n := 16)
 have hpp := Nat.two_pow_pos t.length
 have hall : IntKind.u16.wrap (IntKind.u16.wrap (2 ^ t.length) - 1) = ((2 ^ t.length - 1 : Nat) : Int) := by
  have e : ((2 : Int) ^ t.length) = ((2 ^ t.length : Nat) : Int) := by simp
  rw [e, wrap_u16, wrap_u16]
  generalize 2 ^ t.length = p at hp16 hpp
  omega
 have Hall := Aside0.mk hall
 have Hlt := Aside0.mk (show 2 ^ t.length - 1 < 2 ^ t.length by omega)
 have Hb16 := Aside0.mk (bl_length (2 ^ t.length - 1))
 clear hall hp16 hpp
 go_enter Tryd.func135, Tryd.ntmps135
 go_wp2_with (first | ((with_reducible refine gate_dst (N := 2) rfl ?_); refine box_event ?hg (N := 2) ?hd (cs := #[.slice A0 t.length ct]) (t := 88) ?hr ?_; (case hd => rfl); (case hg => rfl); (case hr => first | (go_simp; done) | (go_simp; rfl)); intro gT hg w1 hbox hb; have HB1 := Aside0.mk hb; have T1 := Aside0.mk hbox; have GT := Aside0.mk (show w.heap.size ≤ gT from by rw [hg]; exact Nat.le_refl _); clear hg hbox hb) | ((with_reducible refine gate_dst (N := 3) rfl ?_); refine box_event ?hg (N := 3) ?hd (cs := #[.func (.func g) #[] caps]) (t := 153) ?hr ?_; (case hd => rfl); (case hg => rfl); (case hr => first | (go_simp; done) | (go_simp; rfl)); intro gE hg w2 hbox hb; have HB2 := Aside0.mk (below_step HB1.out hb); have T2 := Aside0.mk (blk_below T1.out hb); have E2 := Aside0.mk hbox; have GE := Aside0.mk (show w.heap.size ≤ gE from by rw [hg]; exact HB1.out.size); clear HB1 T1; clear hg hbox hb) | ((with_reducible refine gate_dst (N := 4) rfl ?_); refine box_event ?hg (N := 4) ?hd (cs := #[.nilFunc]) (t := 181) ?hr ?_; (case hd => rfl); (case hg => rfl); (case hr => first | (go_simp; done) | (go_simp; rfl)); intro gR hg w3 hbox hb; have HB3 := Aside0.mk (below_step HB2.out hb); have T3 := Aside0.mk (blk_below T2.out hb); have E3 := Aside0.mk (blk_below E2.out hb); have R3 := Aside0.mk hbox; have GR := Aside0.mk (show w.heap.size ≤ gR from by rw [hg]; exact HB2.out.size); have hz0 : w3.cell? ⟨gR, 0, none⟩ = some .nilFunc := (blk_cell R3.out 0).trans rfl; have hz1 : w3.frozen? ⟨gR, 0, none⟩ = false := blk_frozen R3.out 0; clear HB2 T2 E2; clear hg hbox hb) | ((with_reducible refine gate_store (t := 181) (p := 4) rfl ?_); refine store_event (t := 181) (p := 4) (v := ?vo_w4b1) (w1 := (w3.setCell ⟨gR, 0, none⟩ (.func (.func 173) #[] #[.pointer (some ⟨gE, 0, none⟩), .pointer (some ⟨gR, 0, none⟩), .pointer (some ⟨gT, 0, none⟩)]))) ?hg ?ho ?hn ?hr ?_; (case ho => rfl); (case hg => rfl); (case hn => rfl); (case hr => first | (go_simp; done) | (go_simp; rfl)); intro w4b hw; have HB4 : Aside0 (Below w.heap.size w w4b) := ⟨by rw [hw]; exact below_set HB3.out GR.out⟩; have T4 : Aside0 (w4b.heap[gT]? = some (.cells #[.slice A0 t.length ct] 88 (0, 0))) := ⟨by rw [hw]; exact blk_far T3.out (blk_ne T3.out R3.out (by decide)) _⟩; have E4 : Aside0 (w4b.heap[gE]? = some (.cells #[.func (.func g) #[] caps] 153 (0, 0))) := ⟨by rw [hw]; exact blk_far E3.out (blk_ne E3.out R3.out (by decide)) _⟩; have R4 : Aside0 (w4b.heap[gR]? = some (.cells #[(.func (.func 173) #[] #[.pointer (some ⟨gE, 0, none⟩), .pointer (some ⟨gR, 0, none⟩), .pointer (some ⟨gT, 0, none⟩)])] 181 (0, 0))) := ⟨by rw [hw]; exact blk_set R3.out 0 _⟩; clear HB3 T3 E3 R3 hz0 hz1; have C4 : Aside0 (CI w0 gf gE gR gT (.func (.func g) #[] caps) A0 ct t I w4b s ∧ Kept w w4b (SG w0.heap.size gf w)) := ⟨⟨E4.out, R4.out, T4.out, fun W2 hk => HC.out W2 (SG_trans (Kept.of_below HB4.out _) hk), HE.out.mono _ _ _ _ (HE.out.step _ _ _ _ IW.out HB4.out) HB4.out.size, ⟨by have := GE.out; omega, by have := GR.out; omega, by have := GT.out; omega⟩, Nat.lt_of_lt_of_le hgf HB4.out.size⟩, Kept.of_below HB4.out _⟩; clear HB4 T4 E4 R4; clear hw))
 refine start_ (n := 7) (S := fun w' => w'.cell? ⟨gR, 0, none⟩ = some (.func (.func 173) #[] #[.pointer (some ⟨gE, 0, none⟩), .pointer (some ⟨gR, 0, none⟩), .pointer (some ⟨gT, 0, none⟩)]) ∧ w'.cell? ⟨gT, 0, none⟩ = some (.slice A0 t.length ct)) (ds := [6]) #[false, false, false, false, false, false, false] (by kernel_rfl) rfl rfl ⟨(blk_cell (blk_drew C4.out.1.R) 0).trans rfl, (blk_cell (blk_drew C4.out.1.T) 0).trans rfl⟩ (fun hHeld => ?_)
 replace C4 := Aside0.mk (And.intro (C4.out.1.below HE.out (below_drew (Below.refl _ _))) (C4.out.2.drew))
 generalize w4b.drew = w6 at C4 hHeld ⊢
 refine take_ (i := 0) (N := some 6) (v := ?_) (a' := ?_) #[true, false, false, false, false, false, false] rfl rfl (by kernel_rfl) (fun _ _ _ h => h) (Or.inl ⟨by rfl, ?_⟩) hHeld ?_ ?_
 rotate_left
 ·rintro w' ⟨s0, s1⟩
  go_simp
  with_reducible rfl
 rotate_left
 ·simp only [Act.put, List.setIfInBounds_toArray, List.set_cons_zero, List.set_cons_succ, i64_w, i32_w]
  rfl
 refine take_ (i := 2) (N := some 8) (v := ?_) (a' := ?_) #[true, false, true, false, false, false, false] rfl rfl (by kernel_rfl) (fun _ _ _ h => h) (Or.inl ⟨by rfl, ?_⟩) hHeld ?_ ?_
 rotate_left
 ·rintro w' ⟨s0, s1⟩
  go_simp
  with_reducible rfl
 rotate_left
 ·simp only [Act.put, List.setIfInBounds_toArray, List.set_cons_zero, List.set_cons_succ, i64_w, i32_w]
  rfl
 refine pure_ (i := 3) (N := some 9) (v := ?_) (a' := ?_) #[true, false, true, true, false, false, false] rfl rfl (by kernel_rfl) (fun _ _ _ h => h) (Or.inl ⟨by rfl, ?_⟩) ?_ ?_
 rotate_left
 ·intro w'
  go_simp
  with_reducible rfl
 rotate_left
 ·simp only [Act.put, List.setIfInBounds_toArray, List.set_cons_zero, List.set_cons_succ, i64_w, i32_w]
  rfl
 refine pure_ (i := 4) (N := some 10) (v := ?_) (a' := ?_) #[true, false, true, true, true, false, false] rfl rfl (by kernel_rfl) (fun _ _ _ h => h) (Or.inl ⟨by rfl, ?_⟩) ?_ ?_
 rotate_left
 ·intro w'
  go_simp
  with_reducible rfl
 rotate_left
 ·simp only [Act.put, List.setIfInBounds_toArray, List.set_cons_zero, List.set_cons_succ, i64_w, i32_w]
  rfl
 refine pure_ (i := 5) (N := some 11) (v := ?_) (a' := ?_) #[true, false, true, true, true, true, false] rfl rfl (by kernel_rfl) (fun _ _ _ h => h) (Or.inl ⟨by rfl, ?_⟩) ?_ ?_
 rotate_left
 ·intro w'
  go_simp
  with_reducible rfl
 rotate_left
 ·simp only [Act.put, List.setIfInBounds_toArray, List.set_cons_zero, List.set_cons_succ, i64_w, i32_w]
  rfl
 refine one_ (i := 1) (N := some 7) #[true, true, true, true, true, true, false] rfl rfl (by kernel_rfl) (by decide) (fun K hK => ?_)
 refine Kd.R_lit_step (Kd.int .i64) (w0 := w6) w6.heap.size 3 (by rfl) (N := 7) rfl (xs := ([] : List Int)) (inner := []) (ok := fun _ => True) (okp := fun _ => True) ?lr ?lp (fun _ hk => hk) trivial (Below.refl _ _) (Nat.le_refl _) (by simp) ?_
 (case lr => first | (go_simp; done) | (go_simp; rfl))
 (case lp => exact (Reps.none _ _))
 intro v1 w7 ho hb hg_ hnew_
 obtain ⟨A7, c7, e7⟩ := Kd.R_slice ho
 rw [List.length_nil] at e7
 subst e7
 have C7 := Aside0.mk (And.intro (C4.out.1.below HE.out hb) (C4.out.2.below hb))
 have R7 := Aside0.mk (Kd.R_tight rfl ho)
 have I7 := Aside0.mk (HE.out.step _ _ _ _ C4.out.1.I hb)
 have L7 := C4.out.1.lt
 have M7 := hb.size
 clear ho hb hg_ hnew_ C4
 refine hK.out _ _ ⟨(blk_cell C7.out.1.R 0).trans rfl, (blk_cell C7.out.1.T 0).trans rfl⟩ (fun hHeld => ?_)
 clear hK K
 refine norm_ (a' := ?_) ?_ ?_
 rotate_left
 ·show Act.put _ (some 7) _ = _
  simp only [Act.put, List.setIfInBounds_toArray, List.set_cons_zero, List.set_cons_succ, i64_w, i32_w]
  rfl
 refine last_ (i := 6) (N := some 12) #[true, true, true, true, true, true, true] rfl rfl (by kernel_rfl) (by decide) (fun K hK => ?_)
 refine goesV_ Tryd.func173 (by kernel_rfl) rfl #[.slice A7 0 c7, .int .u16 (IntKind.u16.wrap (IntKind.u16.wrap (2 ^ t.length) - 1)), .pointer (some ⟨gE, 0, none⟩), .pointer (some ⟨gR, 0, none⟩), .pointer (some ⟨gT, 0, none⟩)] (by rfl) rfl rfl rfl (by (try simp only [List.map_toArray, List.map_cons, List.map_nil, List.append_toArray, List.cons_append, List.nil_append]); rfl) ?_
 rw [Hall.out]
 refine (impl_groups_1.walk w0 HG.out gf gE gR gT g fn hfn hname hbody caps A0 ct t hct (Nat.le_of_lt ht16) Htr.out hts st room hR I HE.out 17 [] (2 ^ t.length - 1) A7 c7 w7 s w6.heap.size 0 rfl Hlt.out (by have h_ := Hb16.out; omega) (fun x hx => absurd hx List.not_mem_nil) (by simp) (hR.mono _ _ _ Hroom.out (Nat.le_trans (Nat.pow_le_pow_right (n := 2) (by decide) Hb16.out) (by decide))) C7.out.1 I7.out L7 M7 R7.out).mono ?_
 rintro e w9_ ⟨rfl, hC9, hk9⟩
 refine ⟨_, rfl, ?_⟩
 have C9 := Aside0.mk (And.intro hC9 (SG_trans C7.out.2 hk9))
 clear hC9 hk9 C7 R7 I7 L7 M7
 refine hK.out _ _ ?_
 clear hK K
 refine done_ (by kernel_rfl) ?_
 go_wp2
 refine bodyPost_end (results_none rfl _ _ _) rfl ?_
 exact ⟨rfl, C9.out.1.I, C9.out.2⟩
end Go.Proofs.YtopahhcojncgaaaDoor.G
namespace Go.Proofs.YtopahhcojncgaaaDoor.G
open Go.RowKit Go.Proofs.YtopahhcojncgaaaDoorW.PrintWords Go.Proofs.YtopahhcojncgaaaDoorW.PrintLast Go.Proofs.YtopahhcojncgaaaDoorW.PrintMore
set_option linter.unusedVariables false
set_option linter.unusedSimpArgs false
structure FI (w0 : World) (gT gf : Nat) (A0 : Option Addr) (ct : Nat) (t : List Int) (W : World) (s : List (List Nat)) (M : Nat) : Prop where
 B : Below w0.heap.size w0 W
 T : W.heap[gT]? = some (.cells #[.slice A0 t.length ct] 88 (0, 0))
 C : ∀ W', Kept W W' (SG w0.heap.size gf W) → Kd.C (Kd.int .u16) W' A0 t.length t
 F : ∃ vf, W.heap[gf]? = some (.cells #[vf] 39 (0, 0)) ∧ Kd.S (Kd.slice 3 (Kd.int .i64)) 58 W w0.heap.size (fun k => k ≠ gf ∧ k < M) vf (s.map ints)
 ge : w0.heap.size ≤ gf
section
variable {w0 W W' : World} {gT gf : Nat} {A0 : Option Addr} {ct : Nat} {t : List Int} {s : List (List Nat)} {M M' : Nat}
theorem FI.step (h : FI w0 gT gf A0 ct t W s M) (hb : Below W.heap.size W W') : FI w0 gT gf A0 ct t W' s M := by
 obtain ⟨vf, h1, h2⟩ := h.F
 exact ⟨below_step h.B hb, blk_below h.T hb, fun W2 hk => h.C W2 (SG_trans (Kept.of_below hb _) hk), ⟨vf, blk_below h1 hb, Kd.S_below h2 hb⟩, h.ge⟩
theorem FI.mono (h : FI w0 gT gf A0 ct t W s M) (hM : M ≤ M') : FI w0 gT gf A0 ct t W s M' := by
 obtain ⟨vf, h1, h2⟩ := h.F
 exact ⟨h.B, h.T, h.C, ⟨vf, h1, Kd.S_mono h2 (fun k hk => ⟨hk.1, Nat.lt_of_lt_of_le hk.2 hM⟩)⟩, h.ge⟩
theorem FI.stored (h : FI w0 gT gf A0 ct t W s M) {vf : Value} (hF : W.heap[gf]? = some (.cells #[vf] 39 (0, 0))) (hS : Kd.S (Kd.slice 3 (Kd.int .i64)) 58 W w0.heap.size (fun k => k ≠ gf ∧ k < M) vf (s.map ints)) {W1 : World} {v1 : Value} {s1 : List (List Nat)} (hg : W.grownBy W1 vf.ownBlock) (hR : Kd.S (Kd.slice 3 (Kd.int .i64)) 58 W1 w0.heap.size (fun k => k ≠ gf) v1 (s1.map ints)) :
  FI w0 gT gf A0 ct t (W1.setCell ⟨gf, 0, none⟩ v1) s1 (W1.setCell ⟨gf, 0, none⟩ v1).heap.size ∧ Kept W (W1.setCell ⟨gf, 0, none⟩ v1) (SG w0.heap.size gf W) := by
 have hk1 : Kept W W1 (SG w0.heap.size gf W) := Kept.of_grown hg (Kept.refl _ _) (fun k hk => by
  obtain ⟨cells, hc⟩ := Kd.S_typed hS k hk
  exact .inl (.inr ⟨Kd.S_base hS k hk, cells, hc⟩))
 have hk2 : Kept W (W1.setCell ⟨gf, 0, none⟩ v1) (SG w0.heap.size gf W) := hk1.setCell (.inl (.inl rfl)) _
 have hF1 : W1.heap[gf]? = some (.cells #[vf] 39 (0, 0)) := blk_grown hF hg (fun e => (hS.choose_spec.1 gf e.symm).1 rfl)
 have hT1 : (W1.setCell ⟨gf, 0, none⟩ v1).heap[gT]? = some (.cells #[.slice A0 t.length ct] 88 (0, 0)) := blk_kept h.T hk2 (not_SG h.T (by decide) (blk_ne h.T hF (by decide)))
 refine ⟨⟨below_set (h.B.grown hg h.B.size (fun k hk => Kd.S_base hS k hk)) h.ge, hT1, fun W2 hk => h.C W2 (SG_trans hk2 hk), ⟨v1, blk_set hF1 0 _, ?_⟩, h.ge⟩, hk2⟩
 exact Kd.S_mono (Kd.S_bound (Kd.S_far hR (fun k hk => hk) _)) (fun k hk => ⟨hk.1, hk.2.2.1⟩)
end
theorem commonT_take (t : List Int) (all : Nat) (l : List Nat) (j : Nat) (h : j < l.length) : commonT t all (l.take (j + 1)) = commonT t all (l.take j) &&& (t.getD (l.getD j 0) 0).toNat := by
 unfold commonT; rw [take_succ_n l j h, List.foldl_append]; rfl
theorem commonT_le' (t : List Int) (p : List Nat) (all : Nat) : commonT t all p ≤ all := by
 unfold commonT
 induction p generalizing all with
 | nil => exact Nat.le_refl _
 | cons a p ih => rw [List.foldl_cons]; exact Nat.le_trans (ih _) Nat.and_le_left
theorem all_of (t : List Int) (h : t.length < 16) : impl_table_all.f t = some ((2 ^ t.length - 1 : Nat) : Int) := by
 unfold impl_table_all.f
 rw [shl16 _ h, wrap_u16]
 have h1 : 2 ^ t.length ≤ 2 ^ 15 := Nat.pow_le_pow_right (by decide) (by omega)
 have h2 : 0 < 2 ^ t.length := Nat.two_pow_pos _
 congr 1
 have : (2 : Nat) ^ 15 = 32768 := by decide
 rw [this] at h1
 generalize 2 ^ t.length = p at h1 h2
 omega
theorem stFull_room (t : List Int) (all : Nat) : Room (stFull t all) (fun s k => s.length + k ≤ 100000) where
 mono := fun s k j h hj => by omega
 step := fun s l k h => by
  unfold stFull
  split
  ·rw [List.length_append, List.length_singleton]; omega
  ·omega
set_option maxHeartbeats 4000000 in
set_option maxRecDepth 100000 in
theorem impl_full_1.each (w0 : World) (gT gf : Nat) (A0 : Option Addr) (ct : Nat) (t : List Int) (hct : t.length ≤ ct) (ht16 : t.length < 16) (htr : ∀ i, 0 ≤ t.getD i 0 ∧ t.getD i 0 < 65536) :
  Each w0 gf 136 #[.pointer (some ⟨gT, 0, none⟩), .pointer (some ⟨gf, 0, none⟩)] t.length (stFull t (2 ^ t.length - 1)) (fun s k => s.length + k ≤ 100000) (FI w0 gT gf A0 ct t) where
 B := fun W s M h => h.B
 step := fun W W' s M h hb => h.step hb
 mono := fun W s M M' h hM => h.mono hM
 call := by
  intro w s M l A c hI hgM hMw hroom hlt hlm hRow
  have II := Aside0.mk hI
  have RW := Aside0.mk hRow
  have Hlt := Aside0.mk hlt
  have Htr := Aside0.mk htr
  have Hall := Aside0.mk (all_of t ht16)
  have hlen := ints_len l
  have hp16 : 2 ^ t.length - 1 < 65536 := Nat.lt_of_lt_of_le (Nat.sub_lt (Nat.two_pow_pos _) (by decide)) (Nat.pow_le_pow_right (n := 2) (by decide) (show t.length ≤ 16 by omega))
  obtain ⟨all, hall⟩ : ∃ all, 2 ^ t.length - 1 = all := ⟨_, rfl⟩
  rw [hall] at Hall hp16 ⊢
  have HALL := Aside0.mk hall
  clear hI hRow hlt htr hall
  have ML := Aside0.mk (And.intro (Nat.le_trans II.out.ge (Nat.le_of_lt hgM)) hgM)
  have hxT : w.cell? ⟨gT, 0, none⟩ = some (.slice A0 t.length ct) := (blk_cell II.out.T 0).trans rfl
  show Calls Tryd.prog 136 #[.slice A l.length c, .pointer (some ⟨gT, 0, none⟩), .pointer (some ⟨gf, 0, none⟩)] w _
  go_enter Tryd.func136, Tryd.ntmps136
  go_wp2_with (first | ((with_reducible refine gate_callee (f := 72) rfl ?_); (with_reducible refine gate_dst (N := 8) rfl ?_); refine goesL_ (some 8) rfl rfl Tryd.func72 (by kernel_rfl) rfl #[.slice A0 t.length ct] rfl (by (try simp only [List.map_toArray, List.map_cons, List.map_nil]); first | done | rfl) ?_; (with_reducible refine (impl_table_all.calls A0 ct t (all : Int) w (II.out.C _ (Kept.refl _ _)) hct Hall.out).mono ?_); rintro e w1_ ⟨rfl, hdr⟩; refine ⟨_, rfl, ?_⟩; have I1 := Aside0.mk (II.out.step hdr.below); have K1 : Aside0 (Kept w w1_ (SG w0.heap.size gf w)) := ⟨Kept.of_below hdr.below _⟩; have R1 := Aside0.mk (Kd.R_below RW.out hdr.below); have MW : Aside0 (M ≤ w1_.heap.size) := ⟨Nat.le_trans hMw hdr.below.size⟩; clear hdr II hxT; have hxT : w1_.cell? ⟨gT, 0, none⟩ = some (.slice A0 t.length ct) := (blk_cell I1.out.T 0).trans rfl))
  go_loopw [4, 11] (fun v4 v11 wr => ∃ j : Nat, j ≤ l.length ∧ v11 = .int .i64 j ∧ v4 = .int .u16 ((commonT t all (l.take j) : Nat) : Int) ∧ wr = w1_) (fun _ v11 _ => l.length - (intOf v11).toNat)
  case atStart => refine ⟨0, Nat.zero_le _, ?_, ?_, ?_⟩ <;> first | rfl | trivial
  case round =>
   obtain ⟨j, hj, rfl, rfl, rfl⟩ := hrel
   by_cases hjl : j < l.length
   ·have hdec : decide (j < l.length) = true := by simp; omega
    have Hct := Aside0.mk (commonT_take t all l j hjl)
    obtain ⟨ad, hA, hxa⟩ := Kd.at_int (Kd.R_reads' R1.out).2.2 (j : Int) (by omega) (by rw [hlen]; omega)
    subst hA
    rw [Int.toNat_natCast, rd_ints8 _ _ hjl] at hxa
    have ha : l.getD j 0 < t.length := Hlt.out _ (by rw [List.getD_eq_getElem?_getD, List.getElem?_eq_getElem hjl]; exact List.getElem_mem hjl)
    generalize l.getD j 0 = a at hxa ha Hct
    obtain ⟨x, Hx⟩ : ∃ x : Nat, Aside0 (t.getD a 0 = (x : Int)) := ⟨(t.getD a 0).toNat, ⟨by have := (Htr.out a).1; omega⟩⟩
    have hx16 : x < 65536 := by have := (Htr.out a).2; rw [Hx.out] at this; omega
    rw [Hx.out, Int.toNat_natCast] at Hct
    have hcl := commonT_le' t (l.take j) all
    generalize commonT t all (l.take j) = cm at Hct hcl
    obtain ⟨adt, hA0, hxt⟩ := Kd.at_int (I1.out.C _ (Kept.refl _ _)) (a : Int) (by omega) (by omega)
    subst hA0
    rw [Int.toNat_natCast, show rd t (a : Int) = (x : Int) from by rw [← Hx.out]; simp [rd]] at hxt
    have hand : bits BinOp.and IntKind.u16 (cm : Int) (x : Int) = ((cm &&& x : Nat) : Int) := and16 cm x (by omega) hx16
    go_wp2
    go_roundw
    case rel => exact ⟨j + 1, by omega, by go_num, by rw [Hct.out], by first | rfl | trivial⟩
    case measure => simp [intOf]; omega
   ·have hje : j = l.length := by omega
    subst hje
    have hdec : decide (l.length < l.length) = false := by simp
    have Htk := Aside0.mk (List.take_length (l := l))
    rw [Htk.out]
    by_cases hz : commonT t all l = 0
    ·have hzb : (((commonT t all l : Nat) : Int) == 0) = true := by rw [hz]; rfl
     have Hst := Aside0.mk (show stFull t all s l = s ++ [l] by unfold stFull; rw [if_pos hz])
     obtain ⟨vf, hF, hS⟩ := I1.out.F
     have HF := Aside0.mk hF
     have HS := Aside0.mk hS
     have hxf : wr.cell? ⟨gf, 0, none⟩ = some vf := (blk_cell hF 0).trans rfl
     clear hF hS hz
     go_wp2_with (first | ((with_reducible refine gate_builtin (b := .append) (xs := #[.tmp 24, .tmp 26]) rfl ?_); at_builtin; refine Kd.S_append (Kd.slice 3 (Kd.int .i64)) (w0 := w0) w0.heap.size rfl (.tmp 24) (.tmp 26) 39 58 (.slice none 0 0) 24 rfl Tryd.underlying39 info58 rfl (by decide) (by decide) vf (s.map ints) (ints l) [.slice A l.length c] (fun k => k ≠ gf) (fun k => some k = (Value.slice A l.length c).ownBlock) rfl rfl ?aP ?aK ?aF ?aO I1.out.B I1.out.B.size ?aL ?_; (case aP => exact Kd.M_row (Kd.R_lower R1.out ML.out.1)); (case aK => exact (fun k hk => ⟨by have h1 := Kd.R_base R1.out k hk.symm; have h2 := ML.out.2; omega, fun e => by have h1 := Kd.R_base R1.out k hk.symm; have h3 := (HS.out.choose_spec.1 k e.symm).2; omega⟩)); (case aF => exact (fun k hk => by have h2 := blk_lt HF.out; omega)); (case aO => exact (Kd.S_mono HS.out (fun k hk => ⟨hk.1, fun e => by have h1 := Kd.R_base R1.out k e.symm; omega⟩))); (case aL => rw [List.length_map]; omega); intro v4 w4_ ho hb hg hat; obtain ⟨A9, c9, e9⟩ := Kd.S_slice ho; generalize (s.map ints ++ [ints l]).length = n9 at e9; subst e9; obtain ⟨i5, k5⟩ := I1.out.stored HF.out HS.out (s1 := s ++ [l]) hg (by rw [List.map_append]; exact ho); have I5 := Aside0.mk i5; have K5 := Aside0.mk (SG_trans K1.out k5); have hx9 : w4_.cell? ⟨gf, 0, none⟩ = some vf := (blk_cell (blk_grown HF.out hg (fun e => (HS.out.choose_spec.1 gf e.symm).1 rfl)) 0).trans rfl; have hf9 : w4_.frozen? ⟨gf, 0, none⟩ = false := blk_frozen (blk_grown HF.out hg (fun e => (HS.out.choose_spec.1 gf e.symm).1 rfl)) 0; clear i5 k5 ho hb hg hat) | ((with_reducible refine gate_store (t := 39) (p := 2) rfl ?_); refine store_event (t := 39) (p := 2) (v := ?vo_w5_1) (w1 := (w4_.setCell ⟨gf, 0, none⟩ (.slice A9 n9 c9))) ?hg ?ho ?hn ?hr ?_; (case ho => rfl); (case hg => rfl); (case hn => rfl); (case hr => first | (go_simp; done) | (go_simp; rfl)); intro w5_ hw; rw [← hw] at I5 K5; clear hx9 hf9; clear hw))
     refine bodyPost_end (results_none rfl _ _ _) rfl ?_
     refine ⟨rfl, ?_, K5.out⟩
     rw [Hst.out]
     exact I5.out
    ·have hzb : (((commonT t all l : Nat) : Int) == 0) = false := by simpa using hz
     have Hst := Aside0.mk (show stFull t all s l = s by unfold stFull; rw [if_neg hz])
     clear hz
     go_wp2
     refine bodyPost_end (results_none rfl _ _ _) rfl ?_
     refine ⟨rfl, ?_, K1.out⟩
     rw [Hst.out]
     exact I1.out.mono (MW.out)
def impl_table_full.f (l0 : List Int) : Option (List (List Int)) := if l0.length < 16 ∧ (∀ i, i < l0.length → 0 ≤ l0.getD i 0 ∧ l0.getD i 0 < 65536) ∧ (∀ a, a < l0.length → (l0.getD a 0).toNat.testBit a = false) then some ((gsF (stFull l0 (2 ^ l0.length - 1)) l0 17 [] (2 ^ l0.length - 1) []).map ints) else none
set_option maxHeartbeats 4000000 in
set_option maxRecDepth 100000 in
theorem impl_table_full.calls (A0 : Option Addr) (c0 : Nat) (l0 : List Int) (r : List (List Int)) (w : World) (hG : Laid32 w) (hr0 : Kd.C (Kd.int .u16) w A0 l0.length l0) (hc0 : l0.length ≤ c0) (h : impl_table_full.f l0 = some r) :
  Calls Tryd.prog 83 #[.slice A0 l0.length c0] w fun e w' => ∃ v0_ : Value, e = .returned (v0_) ∧ Kd.S (Kd.slice 3 (Kd.int .i64)) 58 w' w.heap.size (fun _ => True) v0_ r ∧ Below w.heap.size w w' := by
 unfold impl_table_full.f at h
 split at h
 ·rename_i hc
  obtain ⟨hn, htr0, hself0⟩ := hc
  have htr : ∀ i, 0 ≤ l0.getD i 0 ∧ l0.getD i 0 < 65536 := by
   intro i
   by_cases hi : i < l0.length
   ·exact htr0 i hi
   ·rw [List.getD_eq_getElem?_getD, List.getElem?_eq_none (by omega)]; simp
  have hself : ∀ a, (l0.getD a 0).toNat.testBit a = false := by
   intro i
   by_cases hi : i < l0.length
   ·exact hself0 i hi
   ·rw [List.getD_eq_getElem?_getD, List.getElem?_eq_none (by omega)]; simp
  clear htr0 hself0
  have H := Aside0.mk (Option.some.inj h)
  have HR0 := Aside0.mk hr0
  have HG := Aside0.mk hG
  have Htr := Aside0.mk htr
  have Hself := Aside0.mk hself
  clear h hr0 hG htr hself
  go_enter Tryd.func83, Tryd.ntmps83
  go_wp2_with (first | ((with_reducible refine gate_dst (N := 1) rfl ?_); refine box_event ?hg (N := 1) ?hd (cs := #[.slice A0 l0.length c0]) (t := 88) ?hr ?_; (case hd => rfl); (case hg => rfl); (case hr => first | (go_simp; done) | (go_simp; rfl)); intro gT hg w1 hbox hb; have HB1 := Aside0.mk hb; have T1 := Aside0.mk hbox; clear hg hbox hb) | ((with_reducible refine gate_dst (N := 4) rfl ?_); refine Kd.S_lit (Kd.slice 3 (Kd.int .i64)) (w0 := w1) w1.heap.size 58 ?hg (N := 4) ?hd (xs := ([] : List (List Int))) (inner := []) (ok := fun _ => True) (okp := fun _ => True) ?hr ?hp (fun _ hk => hk) trivial (Below.refl _ _) (Nat.le_refl _) (by simp) ?_; (case hd => rfl); (case hg => rfl); (case hr => first | (go_simp; done) | (go_simp; rfl)); (case hp => exact (Reps.none _ _)); intro v2 w2_ ho hb hg_ hnew_; obtain ⟨A2, c2, e2⟩ := Kd.S_slice ho; rw [List.length_nil] at e2; subst e2; have HB2 := Aside0.mk (below_step HB1.out hb); have T2 := Aside0.mk (blk_below T1.out hb); have HO2 := Aside0.mk (Kd.S_lower (Kd.S_mono (Kd.S_bound ho) (fun k hk => hk.2.2.1)) HB1.out.size); clear ho hb hg_ hnew_ HB1 T1) | ((with_reducible refine gate_dst (N := 3) rfl ?_); refine box_event ?hg (N := 3) ?hd (cs := #[.slice none 0 0]) (t := 39) ?hr ?_; (case hd => rfl); (case hg => rfl); (case hr => first | (go_simp; done) | (go_simp; rfl)); intro gf hg w3 hbox hb; have HB3 := Aside0.mk (below_step HB2.out hb); have T3 := Aside0.mk (blk_below T2.out hb); have HO3 := Aside0.mk (Kd.S_mono (Kd.S_below HO2.out hb) (ok' := fun k => k ≠ gf ∧ k < w3.heap.size) (fun k hk => ⟨by rw [hg]; omega, Nat.lt_of_lt_of_le hk hb.size⟩)); have F3 := Aside0.mk hbox; have GF := Aside0.mk (show w.heap.size ≤ gf from by rw [hg]; exact HB2.out.size); have hz0 : w3.cell? ⟨gf, 0, none⟩ = some (.slice none 0 0) := (blk_cell F3.out 0).trans rfl; have hz1 : w3.frozen? ⟨gf, 0, none⟩ = false := blk_frozen F3.out 0; clear HB2 T2 HO2; clear hg hbox hb) | ((with_reducible refine gate_store (t := 39) (p := 3) rfl ?_); refine store_event (t := 39) (p := 3) (v := ?vo_w4b2) (w1 := (w3.setCell ⟨gf, 0, none⟩ (.slice A2 0 c2))) ?hg ?ho ?hn ?hr ?_; (case ho => rfl); (case hg => rfl); (case hn => rfl); (case hr => first | (go_simp; done) | (go_simp; rfl)); intro w4b hw; have I4 : Aside0 (FI w gT gf A0 c0 l0 w4b [] w4b.heap.size) := ⟨by rw [hw]; exact ⟨below_set HB3.out GF.out, blk_far T3.out (blk_ne T3.out F3.out (by decide)) _, Kd.C_kept_came (Kd.heap_int .u16) HR0.out (below_set HB3.out GF.out) (fun k hk => hk.elim (fun e => by rw [e]; exact GF.out) (fun h => h.1)), ⟨_, blk_set F3.out 0 _, Kd.S_mono (Kd.S_far HO3.out (fun k hk => hk.1) _) (fun k hk => ⟨hk.1, by simpa [World.setCell] using hk.2⟩)⟩, GF.out⟩⟩; clear HB3 T3 HO3 F3 hz0 hz1; have hx4 : w4b.cell? ⟨gT, 0, none⟩ = some (.slice A0 l0.length c0) := (blk_cell I4.out.T 0).trans rfl; clear hw) | ((with_reducible refine gate_callee (f := 135) rfl ?_); (with_reducible refine gate_dst (N := 7) rfl ?_); refine goesL_ (some 7) rfl rfl Tryd.func135 (by kernel_rfl) rfl #[.slice A0 l0.length c0, .func (.func 136) #[] #[.pointer (some ⟨gT, 0, none⟩), .pointer (some ⟨gf, 0, none⟩)]] rfl (by (try simp only [List.map_toArray, List.map_cons, List.map_nil]); first | done | rfl) ?_; (with_reducible refine (impl_groups.walk w w4b HG.out gf 136 Tryd.f136 Tryd.func136 (by kernel_rfl) rfl _ A0 c0 l0 hc0 hn Htr.out Hself.out (stFull l0 (2 ^ l0.length - 1)) _ (stFull_room _ _) (FI w gT gf A0 c0 l0) (impl_full_1.each w gT gf A0 c0 l0 hc0 hn Htr.out) [] I4.out ?r1 ?r2 I4.out.C).mono ?_); (case r1 => simp); (case r2 => obtain ⟨v_, h_, _⟩ := I4.out.F; exact blk_lt h_); rintro e w6_ ⟨rfl, hI, hk⟩; refine ⟨_, rfl, ?_⟩; have I6 := Aside0.mk hI; clear hI hk I4 hx4; obtain ⟨vf, hF6, hS6⟩ := I6.out.F; have HS6 := Aside0.mk hS6; obtain ⟨A9, c9, e9⟩ := Kd.S_slice hS6; generalize ((gsF (stFull l0 (2 ^ l0.length - 1)) l0 17 [] (2 ^ l0.length - 1) []).map ints).length = n9 at e9; subst e9; have hx9 : w6_.cell? ⟨gf, 0, none⟩ = some (.slice A9 n9 c9) := (blk_cell hF6 0).trans rfl; clear hF6 hS6))
  go_ret
  refine ⟨_, rfl, ?_, I6.out.B⟩
  rw [H.out] at HS6
  exact Kd.S_mono HS6.out (fun _ _ => trivial)
 ·cases h
end Go.Proofs.YtopahhcojncgaaaDoor.G
