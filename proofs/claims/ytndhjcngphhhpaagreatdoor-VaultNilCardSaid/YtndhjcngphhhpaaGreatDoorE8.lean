/-
  a part of the proof: contracts of functions, and the engine by which they are walked.
-/
import Derived.Test.YtndhjcngphhhpaaGreatDoorE6
import Derived.Test.YtndhjcngphhhpaaGreatDoorCards
import Derived.Test.YtndhjcngphhhpaaGreatDoorTie
import Derived.WalkKit
import Derived.ProofKit
import Derived.LaidMore
import Derived.OpenShut
import Derived.Stop.Joined
import Derived.Test.YtndhjcngphhhpaaGreatDoorE7
set_option linter.unusedVariables false
set_option linter.unusedSimpArgs false
namespace Go.Ent
open Go Go.Proofs
/-- a table of numbers, as a listed variable tells it. -/
theorem cells_of_laid {w : World} {nm : String} {g t e : Nat} {cs : Array Value} {fuel m s b ts tb : Nat} {l : List Int} {p : List MemPlace} (hg : Tryz.prog.globalNamed nm = some g) (hv : w.var? Tryz.prog nm = some cs)
    (ht : tab t = some ⟨.arr m e, ts, tb⟩) (he : tab e = some ⟨.int .u32, s, b⟩) (hc : Tryz.prog.cellsOf e = 1) (hm : m = l.length)
    (hd : DataW.trod (fun _ => ()) Tryz.prog w 0 (fun _ => true) false fuel t cs.toList = some (.agg (l.map fun x => .lit (.int .u32 x)), p)) : CellsAt g 0 (uL l) (hpart w) := by
  obtain ⟨xs, m1, rfl, hx1, hlen, hn, hel⟩ := DataW.trod_array (tab_ok.arr ht) hd
  simp only [Prod.mk.injEq, DataW.agg.injEq] at hx1
  obtain ⟨T, fr, hh⟩ : ∃ T fr, w.heap[g]? = some (.cells cs T fr) := by
    unfold World.var? at hv
    rw [hg] at hv
    simp only [Option.bind_some] at hv
    split at hv
    · rename_i c T fr hh
      cases hv
      exact ⟨T, fr, hh⟩
    · cases hv
  refine ⟨cs, T, fr, hh, fun j v hj => ?_⟩
  have hlt : j < l.length := by
    have := (List.getElem?_eq_some_iff.1 hj).1
    simpa [uL] using this
  have hxs : xs.length = l.length := by omega
  have hj2 := hel j (by omega)
  rw [hc, Nat.mul_one, List.getElem?_eq_getElem (by omega)] at hj2
  obtain ⟨n, e1, e2, _⟩ := DataW.trod_int (tab_ok.int he) hj2
  have e3 : (xs.map (·.1))[j]? = (l.map fun x => (DataW.lit (.int .u32 x) : DataW Unit))[j]? := by rw [hx1.1]
  rw [List.getElem?_map, List.getElem?_map, List.getElem?_eq_getElem (by omega), List.getElem?_eq_getElem hlt] at e3
  simp only [Option.map_some, Option.some.injEq] at e3
  rw [e2] at e3
  simp only [DataW.lit.injEq, Lit.int.injEq, true_and] at e3
  have e4 : cs.toList[j]? = some (.int .u32 n) := by
    have := congrArg (fun q : List Value => q[0]?) e1
    simpa [List.getElem?_take, List.getElem?_drop] using this
  have e5 : uV l[j] = v := by
    simp only [uL, List.getElem?_map, List.getElem?_eq_getElem hlt, Option.map_some, Option.some.injEq] at hj
    exact hj
  rw [Nat.zero_add, ← Array.getElem?_toList, e4, ← e5, e3]
  rfl
theorem keptBut_of_le {w w' : World} (ho : w'.os = w.os) (hp : w'.output = w.output) (h : Part.le (hpart w) (hpart w')) (may : MemPlace → Prop) : w.keptBut w' may := by
  refine ⟨ho, hp, fun i hi => ?_⟩
  obtain ⟨o, hoo⟩ : ∃ o, w.heap[i]? = some o := ⟨w.heap[i], by simp [hi]⟩
  have h' : w'.heap[i]? = some o := h i o hoo
  rw [hoo, h']
  cases o <;> simp
/-- a contract, as a call in any memory. -/
theorem Trip.calls {f : FuncId} {args : List Value} {D : Assn} {X : Type} {r : X → Value} {B : X → List Assn} (t : Trip Tryz.prog f args D [] r B) (hm : ∀ h k, Part.le h k → D h → D k) (w : World) (hD : D (hpart w)) :
    Calls Tryz.prog f args.toArray w fun e w' => ∃ x, e = .returned (r x) ∧ w'.os = w.os ∧ w'.output = w.output ∧ Part.le (hpart w) (hpart w') := by
  refine (t.run (fun h => Part.le (hpart w) h) w (fun h hF => hm _ _ hF hD) (sep_frame (A := []) (G := [fun h => Part.le (hpart w) h]) (fun h s => ?_) ?_)).mono fun e w' he => ?_
  · obtain ⟨h1, _, _, l1, _, a, _⟩ := s
    exact Part.le_trans a l1
  · exact ⟨hpart w, fun _ => none, fun _ _ _ _ e => by simp at e, Part.le_refl _, fun _ _ e => by simp at e, Part.le_refl _, trivial⟩
  · obtain ⟨x, he, hs⟩ := he
    refine ⟨x, he, hs.same.os, hs.same.output, ?_⟩
    obtain ⟨_, h2, _, _, l2, _, a⟩ := sep_append hs.sep
    obtain ⟨h3, _, _, l3, _, b, _⟩ := a
    exact Part.le_trans b (Part.le_trans l3 l2)
end Go.Ent
namespace Go.Proofs.YtndhjcngphhhpaaGreatDoor.vaultNil
open Go Go.Ent Go.ChangeShapes Go.WideShapes Go.ChangeAt Go.RowKit
set_option linter.unusedVariables false
theorem own : ownKnob Tryz.prog.godebug = none := by kernel_rfl
abbrev laid : List (String × DataW Unit) := [("entrust/sha.constants", Rows.laid_entrust_sha_constants), ("entrust/sha.initials", Rows.laid_entrust_sha_initials)]
/-- the door's own heap meets the condition. -/
theorem door_met (os : Os) (args : Array Value) : laidMetH Tryz.prog laid ((World.doorLaid Tryz.prog 29 os).forCall (fun _ _ => 0) ⟨#[], args, []⟩).memory :=
  laidMetH_of_parts3 (fuel := 8) (laidMet_of_run' 8 (by kernel_rfl) (by kernel_rfl)) (by kernel_rfl) (by kernel_rfl)
theorem gC : Tryz.prog.globalNamed "entrust/sha.constants" = some 1 := by kernel_rfl
theorem gI : Tryz.prog.globalNamed "entrust/sha.initials" = some 0 := by kernel_rfl
theorem tC : (Tryz.prog.globals[1]?).map (·.type) = some 409 := by kernel_rfl
theorem tI : (Tryz.prog.globals[0]?).map (·.type) = some 343 := by kernel_rfl
theorem dC : (Rows.laid_entrust_sha_constants : DataW Unit) = .agg (constL.map fun x => .lit (.int .u32 x)) := rfl
theorem dI : (Rows.laid_entrust_sha_initials : DataW Unit) = .agg (initL.map fun x => .lit (.int .u32 x)) := rfl
theorem glob_of {W : World} (h : laidMetH Tryz.prog laid W) : Glob (hpart W) := by
  rw [MakeChecks.laidMetH_plain _ _ _ (by kernel_rfl)] at h
  obtain ⟨ps, ⟨g0, t0, cs0, f0, p0, q0, hg0, ht0, hv0, hd0, ⟨g1, t1, cs1, f1, p1, q1, hg1, ht1, hv1, hd1, _, _⟩, _⟩, _, _⟩ := h
  obtain rfl := Option.some.inj (gC.symm.trans hg0)
  obtain rfl := Option.some.inj (gI.symm.trans hg1)
  obtain rfl := Option.some.inj (tC.symm.trans ht0)
  obtain rfl := Option.some.inj (tI.symm.trans ht1)
  rw [dC] at hd0
  rw [dI] at hd1
  exact ⟨cells_of_laid gC hv0 rfl rfl (by kernel_rfl) rfl hd0, cells_of_laid gI hv1 rfl rfl (by kernel_rfl) rfl hd1⟩
set_option maxRecDepth 100000 in
theorem lifted (os : Os) (started : os.Started) (H : Type) (enc : TypeId × Value → H) :
    ReturnsInHanded {} Tryz.checked os 5 .any (fun w args => (Rows.vaultNilSpec.pre enc Tryz.prog Tryz.f5 [] false w args ∧ laidMetH Tryz.prog laid w) ∧ sizedMet enc Tryz.prog Tryz.f5 (OpenSpec.ofChange Rows.vaultNilSpec) false w args)
      (Rows.vaultNilSpec.post enc Tryz.prog Tryz.f5 false true false false) := by
  refine returnsInHanded_of_change_and (C := Tryz.checked) (X := fun w _ => laidMetH Tryz.prog laid w) (fun _ _ _ hh h => h.of_heap hh) own started (by kernel_rfl) Tryz.func5
    (ChangeSpec.witness_shaped (enc := enc) (C := Tryz.checked) (os := os) (X := fun w _ => laidMetH Tryz.prog laid w) false (World.doorLaid Tryz.prog 29 os) #[.int .u64 0, .int .u64 0, .int .i64 0] 8 rfl (World.shaped_of_RefB (by kernel_rfl) (by kernel_rfl)) (by kernel_rfl) (by kernel_rfl) (by kernel_rfl) (door_met os _)) ?_
  intro W base args ds gs before hval0 hW _ _ hL _
  have hval : ∀ (j : Nat) t v, Tryz.f5.params[j]? = some t → args[j]? = some v → Value.okWide Tryz.prog W .any base t v := hval0
  have hW' := hW
  obtain ⟨p, q, hA0, hV, rfl, hfz, hnd⟩ := hW
  have hA : DataW.TrodAll enc Tryz.prog W 0 (fun _ => true) true Tryz.f5.params.toList args.toList ds p := hA0
  rw [Tryz.params5] at hA hval
  obtain ⟨v0, vs0, d0, ds0, p0, q0, hargs, rfl, rfl, h0, r0⟩ := trodAll_cons hA
  obtain ⟨v1, vs1, d1, ds1, p1, q1, rfl, rfl, rfl, h1, r1⟩ := trodAll_cons r0
  obtain ⟨v2, vs2, d2, ds2, p2, q2, rfl, rfl, rfl, h2, r2⟩ := trodAll_cons r1
  obtain ⟨rfl, rfl, rfl⟩ := trodAll_nil r2
  obtain rfl : args = #[v0, v1, v2] := by cases args; simp_all
  obtain ⟨rfl, rfl⟩ := trodVars_none hV
  obtain ⟨a0, rfl, rfl, rfl, w0⟩ := open_int Tryz.underlying22 (hval 0 22 v0 rfl rfl) h0
  obtain ⟨a1, rfl, rfl, rfl, w1⟩ := open_int Tryz.underlying22 (hval 1 22 v1 rfl rfl) h1
  obtain ⟨a2, rfl, rfl, rfl, w2⟩ := open_int Tryz.underlying3 (hval 2 3 v2 rfl rfl) h2
  clear hA0 hval0
  simp only [List.append_nil] at hW'
  have w0' := w0
  have w1' := w1
  simp only [Lit.wf, IntKind.min, IntKind.max, IntKind.signed, IntKind.bits, Bool.and_eq_true, decide_eq_true_eq] at w0' w1'
  obtain ⟨n0, rfl⟩ : ∃ n : Nat, a0 = (n : Int) := ⟨a0.toNat, by simp at w0'; omega⟩
  obtain ⟨n1, rfl⟩ : ∃ n : Nat, a1 = (n : Int) := ⟨a1.toNat, by simp at w1'; omega⟩
  refine ((VaultNil_ok n0 n1 a2 (by simp at w0'; omega)).calls (fun _ _ => Glob.mono) W (glob_of hL)).mono fun e W' he => ?_
  obtain ⟨_, rfl, ho, hp, hle⟩ := he
  refine ⟨_, rfl, _, _, _, [], [], [], hW', ?_, ?_, ?_, keptBut_of_le ho hp hle _, fun h => by cases h⟩
  · exact trodAll_cons_mk (shut_bool Tryz.underlying4 _) trodAll_mk0
  · exact trodAll_cons_mk (shut_int Tryz.underlying22 w0) (trodAll_cons_mk (shut_int Tryz.underlying22 w1) (trodAll_cons_mk (shut_int Tryz.underlying3 w2) trodAll_mk0))
  · exact rfl
end Go.Proofs.YtndhjcngphhhpaaGreatDoor.vaultNil
namespace Go.Proofs.YtndhjcngphhhpaaGreatDoor.vaultNil
open Go Go.Ent Go.ChangeShapes Go.WideShapes Go.ChangeAt Go.RowKit
theorem over : Rows.VaultNilSaid :=
  OpenClaim.holds_of_wide 5 Tryz.f5 rfl rfl rfl rfl rfl rfl rfl ⟨rfl, rfl, rfl, rfl, rfl⟩ rfl rfl rfl rfl rfl (by kernel_rfl) Tryz.func5 closed
    (of_decide_eq_true (by kernel_rfl)) (by unfold Func.isWrapper; first | (rw [if_pos (by decide +kernel)]; kernel_rfl) | (rw [if_neg (by decide +kernel)]; exact ⟨rfl, rfl⟩))
    (fun os started H enc _ => lifted os started H enc)
end Go.Proofs.YtndhjcngphhhpaaGreatDoor.vaultNil
