/- toponymlaw32.TreeNobody, for every act and scope: it returns true, and its arguments read as they did. The row lists package-level variables with what they hold when the call begins; the card ties them to the program's text. -/
import Derived.Test.YtcanjngalglfiaaGreatDoorAeH
import Derived.Test.YtcanjngalglfiaaGreatDoorTie
import Derived.Test.YtcanjngalglfiaaGreatDoorCards
import Derived.ProofKit
import Derived.OpenShut
import Derived.LaidMore
import Derived.Lay
import Derived.SevenTiedAt
import Derived.Stop.Joined
import Derived.Carry
namespace Go.Proofs.YtcanjngalglfiaaGreatDoor
open Go.AE Go.ChangeShapes Go.WideShapes Go.ChangeAt Go.RowKit

theorem tnOwn : ownKnob Tryz.prog.godebug = none := by kernel_rfl
theorem tnLaidOut : laidOutB Tryz.prog = true := by kernel_rfl
theorem tnRead : Tryz.prog.readableRec 28 = true := by kernel_rfl
theorem tnSize : 28 < Tryz.prog.types.size := of_decide_eq_true (by kernel_rfl)

theorem tn_calls {W : World} {cs : Array Value} {act : PTreeNobody.S28} (hok : Ok28 act) (hv : VL noSg noO W true (c28 act) cs.toList) (sc : Int) :
    Calls Tryz.prog 3 #[.agg cs, .int .i64 sc] W fun e w' => e = .returned (.bool true) ∧ Below W.heap.size W w' := by
  have h := law_pure act hok sc noO W [.agg cs, .int .i64 sc] (fun g cs h => by cases h) (fun b h => h.elim)
    (by rw [VL]; refine ⟨_, _, rfl, nofun, by rw [V]; exact ⟨cs, rfl, hv⟩, ?_⟩; rw [VL]; exact ⟨_, _, rfl, nofun, V_i', VL_nil⟩)
  refine h.mono ?_
  rintro e w' ⟨v, rfl, h1, h2⟩
  rw [V_b h1]
  exact ⟨rfl, ⟨h2.os, h2.tape, h2.output, h2.size, h2.block⟩⟩

set_option maxRecDepth 100000 in
theorem tn_lifted (os : Os) (started : os.Started) (H : Type) (enc : TypeId × Value → H) :
    ReturnsInHanded {} Tryz.checked os 3 .any (fun w args => (Rows.treeNobodySpec.pre enc Tryz.prog Tryz.f3 Rows.treeNobodyRow.domain false w args ∧ laidMetH Tryz.prog Rows.treeNobodyRow.laid w) ∧ sizedMet enc Tryz.prog Tryz.f3 (OpenSpec.ofChange Rows.treeNobodySpec) false w args)
      (Rows.treeNobodySpec.post enc Tryz.prog Tryz.f3 false true false false) := by
  refine returnsInHanded_of_change_and (C := Tryz.checked) (X := fun w _ => laidMetH Tryz.prog Rows.treeNobodyRow.laid w) (fun _ _ _ hh h => h.of_heap hh) tnOwn started (by kernel_rfl) Tryz.func3
    (ChangeSpec.witness_shaped (enc := enc) (C := Tryz.checked) (os := os) (X := fun w _ => laidMetH Tryz.prog Rows.treeNobodyRow.laid w) false (World.laidAll Tryz.prog os Rows.treeNobodyRow.laid) #[.agg #[.int .i64 0, .string ⟨#[]⟩, .slice none 0 0, .slice none 0 0], .int .i64 0] 8 (World.laidAll_os _ _ _)
      (World.shaped_of_ZipB (by kernel_rfl) (by kernel_rfl)) (by kernel_rfl) (by kernel_rfl) (by kernel_rfl)
      (by rw [MakeChecks.laidMetH_plain _ _ _ (by kernel_rfl)]; exact laidMet_laidAll _ (by kernel_rfl) (by kernel_rfl))) ?_
  intro W base args ds gs before hval0 hW _ _ _ _
  have hval : ∀ (j : Nat) t v, Tryz.f3.params[j]? = some t → args[j]? = some v → Value.okWide Tryz.prog W .any base t v := hval0
  have hW' := hW
  obtain ⟨p, q, hA0, hV, rfl, _, _⟩ := hW
  have hA : DataW.TrodAll enc Tryz.prog W 0 (fun _ => true) true Tryz.f3.params.toList args.toList ds p := hA0
  rw [Tryz.params3] at hA hval
  obtain ⟨v0, v1, d0, d1, p0, p1, rfl, rfl, rfl, h0, h1⟩ := trodAll_two hA
  obtain ⟨rfl, rfl⟩ := trodVars_none hV
  obtain ⟨sc, rfl, rfl, rfl, w1⟩ := open_int Tryz.underlying3 (hval 1 3 v1 rfl rfl) h1
  have hv0 := hval 0 28 v0 rfl rfl
  unfold Value.okWide at hv0
  rw [Tryz.underlying28] at hv0
  obtain ⟨cs, rfl, _, _⟩ := hv0
  obtain ⟨fuel, hf⟩ := id h0
  obtain ⟨act, hok, hvl⟩ := rd28 _ _ _ _ _ _ _ _ _ hf
  have hlt : ∀ x ∈ p0, x.block < W.heap.size := fun x hx => hW'.lt x (by simp [hx])
  clear hA0 hval0
  refine (tn_calls hok hvl sc).mono fun e W' ⟨he, hb⟩ => ?_
  subst he
  refine ⟨_, rfl, _, _, _, [], p0 ++ [], [], hW', ?_, ?_, rfl, hb.frame _, fun h => by cases h⟩
  · exact trodAll_mk1 (shut_bool Tryz.underlying4 true)
  · exact trodAll_mk2 (Below.trod tnLaidOut tnRead tnSize h0 hb hlt) (shut_int Tryz.underlying3 w1)

end Go.Proofs.YtcanjngalglfiaaGreatDoor
