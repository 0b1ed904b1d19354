/- AttrNames: THE LAW WITHOUT ARGUMENTS RETURNS TRUE: its text is run by the interpreter B, which is proved right (BiS34), by the kernel. Condition: the listed variables are as the program's text lays them (tied on the card). -/
import Derived.Test.YtjofohhnkdbfbaaGreatDoorBiEv0
import Derived.Test.YtjofohhnkdbfbaaGreatDoorBiJ0
import Derived.Test.YtjofohhnkdbfbaaGreatDoorBiGo0
import Derived.Test.YtjofohhnkdbfbaaGreatDoorTie
import Derived.Test.YtjofohhnkdbfbaaGreatDoorCards
import Derived.ProofKit
import Derived.Lay
import Derived.MakeChecks
import Derived.SevenTiedAt
set_option linter.unusedVariables false
namespace Go.Proofs.YtjofohhnkdbfbaaGreatDoor
open Go Go.BI Go.ChangeShapes Go.WideShapes Go.ChangeAt Go.RowKit

theorem own : ownKnob Tryz.prog.godebug = none := by kernel_rfl
theorem plainLaid (w : World) : laidMetH Tryz.prog Rows.attrNamesRow.laid w = laidMet Tryz.prog Rows.attrNamesRow.laid w := MakeChecks.laidMetH_plain _ _ _ (by kernel_rfl)

attribute [local irreducible] NextOk in
theorem law_call {W : World} (hL : laidMetH Tryz.prog Rows.attrNamesRow.laid W) : Calls Tryz.prog 4 #[] W fun e W' => e = .returned (.bool true) ∧ Below W.heap.size W W' := by
  rw [plainLaid] at hL
  obtain ⟨hG, hS⟩ := globOk hL
  have h := calls_of_eval (par := parZ) parZOk (fn := Tryz.f4) lawFn lawBody (vals := #[]) (w := W) evalOk hS hG rfl (fun i v y hv => by simp at hv)
  refine Calls.mono h ?_
  rintro e W' ⟨v, rfl, S', _, _, hb, hr⟩
  obtain rfl := hr.bool_eq
  exact ⟨rfl, hb⟩

set_option maxHeartbeats 40000000 in
set_option maxRecDepth 100000 in
theorem law_lifted (os : Os) (started : os.Started) (H : Type) (enc : TypeId × Value → H) :
    ReturnsInHanded {} Tryz.checked os 4 .any (fun w args => (Rows.attrNamesSpec.pre enc Tryz.prog Tryz.f4 [] false w args ∧ laidMetH Tryz.prog Rows.attrNamesRow.laid w) ∧ sizedMet enc Tryz.prog Tryz.f4 (OpenSpec.ofChange Rows.attrNamesSpec) false w args)
      (Rows.attrNamesSpec.post enc Tryz.prog Tryz.f4 false true false false) := by
  refine returnsInHanded_of_change_and (C := Tryz.checked) (X := fun w _ => laidMetH Tryz.prog Rows.attrNamesRow.laid w) (fun _ _ _ hh h => h.of_heap hh) own started (by kernel_rfl) Tryz.func4
    (ChangeSpec.witness_shaped (enc := enc) (C := Tryz.checked) (os := os) (X := fun w _ => laidMetH Tryz.prog Rows.attrNamesRow.laid w) false (World.laidAll Tryz.prog os Rows.attrNamesRow.laid) #[] 8 (World.laidAll_os _ _ _)
      (World.shaped_of_ZipB (by kernel_rfl) (by kernel_rfl)) (by kernel_rfl) (by kernel_rfl) (by kernel_rfl)
      (by rw [plainLaid]; exact laidMet_laidAll _ (by kernel_rfl) (by kernel_rfl))) ?_
  intro W base args ds gs before hval0 hW _ _ hL _
  have hW' := hW
  obtain ⟨p, q, hA0, hV, rfl, _, _⟩ := hW
  have hA : DataW.TrodAll enc Tryz.prog W 0 (fun _ => true) true Tryz.f4.params.toList args.toList ds p := hA0
  rw [Tryz.params4] at hA
  obtain ⟨rfl, rfl, rfl⟩ := trodAll_none hA
  obtain ⟨rfl, rfl⟩ := trodVars_none hV
  simp only [List.append_nil] at hW'
  refine (law_call hL).mono fun e W' ⟨he, hb⟩ => ?_
  subst he
  exact ⟨_, rfl, _, _, _, [], [], [], hW', trodAll_mk1 (shut_bool Tryz.underlying4 _), trodAll_mk0, rfl, hb.frame _, fun h => by cases h⟩

set_option maxHeartbeats 40000000 in
theorem law_holds : Rows.AttrNamesSaid :=
  OpenClaim.holds_of_wide 4 Tryz.f4 rfl rfl rfl rfl rfl rfl rfl ⟨rfl, rfl, rfl, rfl, rfl⟩ rfl rfl rfl rfl rfl (by as_aux_lemma => kernel_rfl) Tryz.func4 law_facts
    (of_decide_eq_true (by as_aux_lemma => kernel_rfl)) (by unfold Func.isWrapper; first | (rw [if_pos (by decide +kernel)]; kernel_rfl) | (rw [if_neg (by decide +kernel)]; exact ⟨rfl, rfl⟩))
    (fun os started H enc _ => law_lifted os started H enc)

set_option maxHeartbeats 40000000 in
theorem law_card : Rows.AttrNamesCardSaid :=
  Claim7.holds_tied_plain_at .later [] [.data, .data, .data, .data, .sentinel, .sentinel, .data, .data, .data, .data, .data, .data, .widerDeep, .pinned] true (true, "c995c395c79d6414f2b11651866e79e3ff305c303a63b73a65a160f173724d4e") true law_holds (fun _ h => by cases h) (by as_aux_lemma => kernel_rfl) (fun _ h => by cases h) attrNames_row_tie rfl ⟨rfl, rfl⟩ (by as_aux_lemma => kernel_rfl) rfl
    (fun f fn hf hfn => by
      obtain rfl : f = 4 := Option.some.inj ((show Tryz.prog.funcNamed "postmark/postmarklaw21.AttrNames" = some 4 by as_aux_lemma => kernel_rfl).symm.trans hf) |>.symm
      obtain rfl : fn = Tryz.f4 := (Option.some.inj (Tryz.func4.symm.trans hfn)).symm
      exact ⟨by as_aux_lemma => kernel_rfl, fun j t ht => by
        rw [Tryz.params4] at ht
        simp at ht⟩)
    law_goes
#print axioms law_card
end Go.Proofs.YtjofohhnkdbfbaaGreatDoor
