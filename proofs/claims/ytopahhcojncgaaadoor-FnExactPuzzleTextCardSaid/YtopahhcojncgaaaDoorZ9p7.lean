/- The law FnExactPuzzleText: for every party the call returns true, and the party reads behind it as before; tied to the program's text. Conditions: those of the given row and card, no other. -/
import Derived.Test.YtopahhcojncgaaaDoorZ9p2
import Derived.Test.YtopahhcojncgaaaDoorZ9p6
import Derived.Test.YtopahhcojncgaaaDoorTie
import Derived.Test.YtopahhcojncgaaaDoorCards
import Derived.WalkKit
import Derived.ChangeOld
import Derived.Below
import Derived.SevenTiedAt
import Derived.Deep.Strs
namespace Go.Proofs.YtopahhcojncgaaaDoor.G
open Go.RowKit Go.Proofs.YtopahhcojncgaaaDoorW.PrintWords Go.Proofs.YtopahhcojncgaaaDoorW.PrintLast Go.Proofs.YtopahhcojncgaaaDoorW.PrintMore
open Go.ChangeShapes Go.WideShapes Go.ChangeAt Go.Deep Go.WideElems
set_option linter.unusedVariables false
def laid9 : List (String × DataW Unit) := [("math/bits.deBruijn32tab", Rows.laid_math_bits_deBruijn32tab), ("math/bits.deBruijn64tab", Rows.laid_math_bits_deBruijn64tab), ("internal/strconv.uint64pow10", Rows.laid_internal_strconv_uint64pow10)]
instance : Inhabited S158 := ⟨z158⟩
set_option maxRecDepth 100000 in
theorem opens158 : Opens Tryd.prog k158 158 (fun _ => True) := by
  intro H enc w base spare held fuel cs x h
  obtain ⟨y0, y1, y2, n, _, hl, e0, e1, e2⟩ := trod_struct3 Tryd.underlying158 h
  have h3 : Tryd.prog.cellsOf 158 = 3 := by kernel_rfl
  have h1 : Tryd.prog.cellsOf 3 = 1 := by kernel_rfl
  rw [h3] at hl
  obtain ⟨u0, u1, u2, rfl⟩ : ∃ u0 u1 u2, cs = [u0, u1, u2] := by
    match cs, hl with
    | [u0, u1, u2], _ => exact ⟨_, _, _, rfl⟩
  have e0' : DataW.trod enc Tryd.prog w base spare held n 3 [u0] = some y0 := by
    have h_ := e0; dsimp only at h_; rw [h1] at h_; exact h_
  have e1' : DataW.trod enc Tryd.prog w base spare held n 3 [u1] = some y1 := by
    have h_ := e1; dsimp only at h_; rw [h1] at h_; exact h_
  have e2' : DataW.trod enc Tryd.prog w base spare held n 3 [u2] = some y2 := by
    have h_ := e2; dsimp only at h_; rw [h1] at h_; exact h_
  obtain ⟨a, f0, _, _⟩ := DataW.trod_int Tryd.underlying3 e0'
  obtain ⟨b, f1, _, _⟩ := DataW.trod_int Tryd.underlying3 e1'
  obtain ⟨c, f2, _, _⟩ := DataW.trod_int Tryd.underlying3 e2'
  obtain rfl := List.singleton_inj.1 f0
  obtain rfl := List.singleton_inj.1 f1
  obtain rfl := List.singleton_inj.1 f2
  exact ⟨⟨a, b, c⟩, ⟨[_], [_, _], rfl, rfl, ⟨[_], [_], rfl, rfl, rfl⟩⟩, trivial⟩
set_option maxRecDepth 100000 in
theorem open_puzzle {H : Type} {enc : TypeId × Value → H} {W : World} {base b0 : Nat} {spare : Nat → Bool} {held : Bool} {r : Reach} {v : Value} {d : DataW H} {p : List MemPlace} (hv : Value.okWide Tryd.prog W r b0 46 v) (h : DataW.Trod enc Tryd.prog W base spare held 46 v d p) :
    ∃ (n : Int) (A : Option Addr) (c : Nat) (l : List S158), v = .agg #[.int .i64 n, .slice A l.length c] ∧ Kd.C k158 W A l.length l ∧ l.length ≤ c ∧ (Lit.int .i64 n).wf = true := by
  obtain ⟨v0, v1, y0, y1, m, rfl, _, _, h0, h1⟩ := Joins.open_agg2 Tryd.underlying46 (by kernel_rfl) (by kernel_rfl) hv h
  obtain ⟨n, e0, _, hw⟩ := DataW.trod_int Tryd.underlying3 h0
  obtain ⟨l, ⟨A, c, e1, hc, hC⟩, _⟩ := Opens.slice Tryd.underlying44 (by kernel_rfl) opens158 _ _ _ _ _ _ _ _ _ h1
  obtain rfl := List.singleton_inj.1 e0
  obtain rfl := List.singleton_inj.1 e1
  exact ⟨n, A, c, l, rfl, hC, hc, hw⟩
theorem FnExactPuzzleText_met (os : Os) (args : Array Value) : laidMetH Tryd.prog laid9 ((World.doorLaid Tryd.prog 400 os).forCall (fun _ _ => 0) ⟨#[], args, []⟩).memory :=
  laidMetH_of_parts3 (fuel := 8) (laidMet_of_run' 8 (by kernel_rfl) (by kernel_rfl)) (by kernel_rfl) (by kernel_rfl)
set_option maxRecDepth 100000 in
theorem FnExactPuzzleText_lifted (os : Os) (started : os.Started) (H : Type) (enc : TypeId × Value → H) :
    ReturnsInHanded {} Tryd.checked os 9 .any (fun w args => (Rows.fnExactPuzzleTextSpec.pre enc Tryd.prog Tryd.f9 [] false w args ∧ laidMetH Tryd.prog laid9 w) ∧ sizedMet enc Tryd.prog Tryd.f9 (OpenSpec.ofChange Rows.fnExactPuzzleTextSpec) false w args)
      (Rows.fnExactPuzzleTextSpec.post enc Tryd.prog Tryd.f9 false true false false) := by
  refine returnsInHanded_of_change_and (C := Tryd.checked) (X := fun w _ => laidMetH Tryd.prog laid9 w) (fun _ _ _ hh h => h.of_heap hh) own started (by kernel_rfl) Tryd.func9
    (ChangeSpec.witness_shaped (enc := enc) (C := Tryd.checked) (os := os) (X := fun w _ => laidMetH Tryd.prog laid9 w) false (World.doorLaid Tryd.prog 400 os) #[.agg #[.int .i64 0, .slice none 0 0]] 8 rfl (World.shaped_of_RefB (by kernel_rfl) (by kernel_rfl)) (by kernel_rfl) (by kernel_rfl) (by kernel_rfl) (FnExactPuzzleText_met os _)) ?_
  intro W base args ds gs before hval0 hW _ _ hL _
  have hval : ∀ (j : Nat) t v, Tryd.f9.params[j]? = some t → args[j]? = some v → Value.okWide Tryd.prog W .any base t v := hval0
  have hW' := hW
  obtain ⟨p, q, hA0, hV, rfl, hfz, hnd⟩ := hW
  have hA : DataW.TrodAll enc Tryd.prog W 0 (fun _ => true) true Tryd.f9.params.toList args.toList ds p := hA0
  rw [Tryd.params9] at hA hval
  obtain ⟨v0, d0, rfl, rfl, h0⟩ := trodAll_one hA
  obtain ⟨rfl, rfl⟩ := trodVars_none hV
  have k0 := h0
  have lt0 : ∀ x ∈ p, x.block < W.heap.size := by obtain ⟨m, hm⟩ := k0; exact DataW.trod_lt m _ _ _ hm
  obtain ⟨n0, A0, c0, l0, rfl, hC, hc, _⟩ := open_puzzle (hval 0 46 v0 rfl rfl) h0
  clear hA0 hval0
  obtain ⟨k, hk⟩ := FnExactPuzzleText_true n0 l0 hC.2.1
  refine (laws_FnExactPuzzleText.calls k n0 A0 c0 l0 true W hC hc hk).mono fun e W' ⟨he, bel⟩ => ?_
  subst he
  exact ⟨_, rfl, _, _, _, [], _, [], hW', trodAll_mk1 (shut_bool Tryd.underlying4 _), (trodAll_cons_mk (Below.trod laidOut (by kernel_rfl) (of_decide_eq_true (by kernel_rfl)) k0 bel lt0) trodAll_mk0), rfl, bel.frame _, fun h => by cases h⟩
theorem FnExactPuzzleText_row : Rows.FnExactPuzzleTextSaid :=
  OpenClaim.holds_of_wide 9 Tryd.f9 rfl rfl rfl rfl rfl rfl rfl ⟨rfl, rfl, rfl, rfl, rfl⟩ rfl rfl rfl rfl rfl (by kernel_rfl) Tryd.func9 (by kernel_rfl)
    (of_decide_eq_true (by kernel_rfl)) (by unfold Func.isWrapper; first | (rw [if_pos (by decide +kernel)]; kernel_rfl) | (rw [if_neg (by decide +kernel)]; exact ⟨rfl, rfl⟩))
    (fun os started H enc _ => FnExactPuzzleText_lifted os started H enc)
end Go.Proofs.YtopahhcojncgaaaDoor.G
namespace Go.Proofs.YtopahhcojncgaaaDoor
open Go
theorem fnExactPuzzleText_card : Rows.FnExactPuzzleTextCardSaid :=
  Claim7.holds_tied_plain_at .later [] [.data, .data, .data] true (true, "42c1d6ad290b30150451754d54092ff1fae1430f1ed8c76695dd3d022d6220aa") false
    G.FnExactPuzzleText_row (fun _ h => by cases h) (by kernel_rfl) (fun _ h => by cases h) fnExactPuzzleText_row_tie rfl ⟨rfl, rfl⟩ (by kernel_rfl) rfl
    (fun f fn hf hfn => by
      obtain rfl : f = 9 := Option.some.inj ((show Tryd.prog.funcNamed "loop.example/g01257/laws.FnExactPuzzleText" = some 9 by kernel_rfl).symm.trans hf) |>.symm
      obtain rfl : fn = Tryd.f9 := (Option.some.inj (Tryd.func9.symm.trans hfn)).symm
      exact ⟨by kernel_rfl, fun j t ht => by
        rw [Tryd.params9] at ht
        have hm : t ∈ [46] := by simpa using Array.mem_of_getElem? ht
        have hall : ([46].all fun u => !Tryd.prog.wantsStandIn u) = true := by kernel_rfl
        exact (show Tryd.prog.wantsStandIn t = false by simpa using List.all_eq_true.1 hall t hm)⟩)
    (by kernel_rfl)
#print axioms fnExactPuzzleText_card
end Go.Proofs.YtopahhcojncgaaaDoor
