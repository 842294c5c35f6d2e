/- toponymlaw32.TreeNobody: the tied card: for every act and scope the call returns true, and its arguments read as they did, where the listed package-level variables start as the program's text lays them. -/
import Derived.Test.YtcanjngalglfiaaGreatDoorAeI
import Derived.Test.YtcanjngalglfiaaGreatDoorAeJ
set_option maxRecDepth 100000
namespace Go.Proofs.YtcanjngalglfiaaGreatDoor
open Go.AE Go.ChangeShapes Go.WideShapes Go.ChangeAt Go.RowKit

theorem tn_inst : Tryz.f3.isInstance Tryz.pinned.checked.prog Rows.treeNobodyRow.origin Rows.treeNobodyRow.targs := of_decide_eq_true (by kernel_rfl)
theorem tn_wrap : Tryz.f3.isWrapper Tryz.pinned.checked.prog Rows.treeNobodyRow.wrapper Rows.treeNobodyRow.mainSum := by
  unfold Func.isWrapper; first | (rw [if_pos (by decide +kernel)]; kernel_rfl) | (rw [if_neg (by decide +kernel)]; exact ⟨rfl, rfl⟩)
theorem tn_named : Tryz.pinned.checked.prog.funcNamed Rows.treeNobodyRow.func = some 3 := by kernel_rfl
theorem tn_holds : Rows.TreeNobodySaid :=
  OpenClaim.holds_of_wide 3 Tryz.f3 rfl rfl rfl rfl rfl rfl rfl ⟨rfl, rfl, rfl, rfl, rfl⟩ rfl rfl rfl rfl rfl tn_named Tryz.func3 jfAll tn_inst tn_wrap
    (fun os started H enc _ => tn_lifted os started H enc)
#print axioms tn_holds
theorem treeNobody_holds : Rows.TreeNobodyCardSaid :=
  Claim7.holds_tied_plain_at .later [] [.data, .data, .data, .data, .sentinel, .sentinel, .pinned] true (true, "bfbc42611a9662fa2b542c4b64c98bc851910fc04551f6933d04c18e4e718805") true
    tn_holds (fun _ h => by cases h) (by as_aux_lemma => kernel_rfl) (fun _ h => by cases h) treeNobody_row_tie rfl ⟨rfl, rfl⟩ (by as_aux_lemma => kernel_rfl) rfl
    (fun f fn hf hfn => by
      obtain rfl : f = 3 := Option.some.inj ((show Tryz.prog.funcNamed "toponym/toponymlaw32.TreeNobody" = some 3 by kernel_rfl).symm.trans hf) |>.symm
      obtain rfl : fn = Tryz.f3 := (Option.some.inj (Tryz.func3.symm.trans hfn)).symm
      exact ⟨by kernel_rfl, fun j t ht => by
        rw [Tryz.params3] at ht
        have hm : t ∈ [28, 3] := by simpa using Array.mem_of_getElem? ht
        have hall : ([28, 3].all fun u => !Tryz.prog.wantsStandIn u) = true := by kernel_rfl
        exact (show Tryz.prog.wantsStandIn t = false by simpa using List.all_eq_true.1 hall t hm)⟩)
    (by as_aux_lemma => kernel_rfl)
#print axioms treeNobody_holds
end Go.Proofs.YtcanjngalglfiaaGreatDoor
