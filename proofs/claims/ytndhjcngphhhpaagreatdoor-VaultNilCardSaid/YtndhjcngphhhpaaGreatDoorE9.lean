/-
  'vault nil': the tied card of the law VaultNil holds: whatever the three numbers that come in, the call answers true. Condition: the two tables of the layer sha are as the program's text lays them (the card ties them).
-/
import Derived.Test.YtndhjcngphhhpaaGreatDoorE8
import Derived.Test.YtndhjcngphhhpaaGreatDoorCards
import Derived.Test.YtndhjcngphhhpaaGreatDoorTie
set_option linter.unusedVariables false
set_option linter.unusedSimpArgs false
namespace Go.Proofs.YtndhjcngphhhpaaGreatDoor.vaultNil
open Go Go.Ent Go.ChangeShapes Go.WideShapes Go.ChangeAt Go.RowKit
theorem c_wf : Rows.vaultNilRow.wfByText (OpenSpec.ofChange Rows.vaultNilSpec) = true := by kernel_rfl
theorem c_main : Tryz.prog.mainIs = some (true, "d5002d8cc45d89bc094b8713957137d8614dbe537c469086c8ac5c4d3ba42717".toList) := by kernel_rfl
theorem c_looks : true = Tryz.prog.looks [] := by kernel_rfl
theorem c_stand : ([22, 22, 3].all fun u => !Tryz.prog.wantsStandIn u) = true := by kernel_rfl
theorem c_goes : false = Rows.vaultNilRow.goesBy Tryz.prog := by kernel_rfl
theorem c_named : Tryz.prog.funcNamed "entrust/entrustlaw21.VaultNil" = some 5 := by kernel_rfl
theorem card_holds : Rows.VaultNilCardSaid :=
  Claim7.holds_tied_plain_at .later [] [.data, .data] true (true, "d5002d8cc45d89bc094b8713957137d8614dbe537c469086c8ac5c4d3ba42717") true
    over (fun _ h => by cases h) c_wf (fun _ h => by cases h) vaultNil_row_tie rfl ⟨rfl, rfl⟩ c_main rfl
    (fun f fn hf hfn => by
      obtain rfl : f = 5 := Option.some.inj (c_named.symm.trans hf) |>.symm
      obtain rfl : fn = Tryz.f5 := (Option.some.inj (Tryz.func5.symm.trans hfn)).symm
      exact ⟨c_looks, fun j t ht => by
        rw [Tryz.params5] at ht
        have hm : t ∈ [22, 22, 3] := by simpa using Array.mem_of_getElem? ht
        exact (show Tryz.prog.wantsStandIn t = false by simpa using List.all_eq_true.1 c_stand t hm)⟩)
    c_goes
#print axioms card_holds
end Go.Proofs.YtndhjcngphhhpaaGreatDoor.vaultNil
