/-
  a part of the proof: contracts of functions, and the engine by which they are walked.
-/
import Derived.Test.YtndhjcngphhhpaaGreatDoorE3
import Derived.Test.YtndhjcngphhhpaaGreatDoorE2
set_option linter.unusedVariables false
set_option linter.unusedSimpArgs false
namespace Go.Ent
open Go Go.Proofs
def sectorsN (n : Nat) : Nat := (20 + n + 55 - 1) / 55
theorem small63 {n : Nat} (h : n < 4611686018427387904) : n < 2 ^ 63 := Nat.lt_of_lt_of_eq (Nat.lt_trans h (by decide)) two63
theorem Sectors_ok (n : Nat) (h1 : 1 ≤ n) (h2 : n ≤ 65536) : Trip Tryz.prog 211 [.int .i64 (n : Int)] none_ [] (X := Unit) (fun _ => .int .i64 (sectorsN n : Int)) (fun _ => []) := by
  refine Trip.start (n := 14) Tryz.func211 (by kernel_rfl) rfl rfl rfl ?_
  intro F w hD
  repeat (refine JL.flat ?_)
  refine JL.go 200 ?_
  repeat (refine JL.flat ?_)
  refine JL.go 3 ?_
  refine Seq.set 5 (.bool false) rfl (congrArg Value.bool (by simp; omega)) ?_
  refine Seq.on 2 ?_
  refine Seq.set 7 (.bool false) rfl (congrArg Value.bool (by simp; omega)) ?_
  refine Seq.on 200 ?_
  repeat (refine JL.flat ?_)
  refine JL.ifF rfl ?_
  try refine JL.skip ?_
  repeat (refine JL.flat ?_)
  refine JL.go 2 ?_
  refine Seq.set 10 (.int .i64 ((20 + n : Nat) : Int)) rfl (congrArg (Value.int .i64) (by rw [show (20 + (n : Int)) = ((20 + n : Nat) : Int) by omega]; exact wrapI (small63 (by omega)))) ?_
  refine Seq.on 1 ?_
  refine Seq.set 11 (.int .i64 ((20 + n + 55 : Nat) : Int)) rfl (congrArg (Value.int .i64) (by rw [show (((20 + n : Nat) : Int) + 55) = ((20 + n + 55 : Nat) : Int) by omega]; exact wrapI (small63 (by omega)))) ?_
  refine Seq.on 1 ?_
  refine Seq.set 12 (.int .i64 ((20 + n + 55 - 1 : Nat) : Int)) rfl (congrArg (Value.int .i64) (by rw [show (((20 + n + 55 : Nat) : Int) - 1) = ((20 + n + 55 - 1 : Nat) : Int) by omega]; exact wrapI (small63 (by omega)))) ?_
  refine Seq.on 1 ?_
  refine Seq.set 13 (.int .i64 (sectorsN n : Int)) rfl (congrArg (Value.int .i64) (by
    show IntKind.i64.wrap ((sectorsN n : Nat) : Int) = _
    exact wrapI (small63 (by unfold sectorsN; omega)))) ?_
  refine Seq.on 200 ?_
  repeat (refine JL.flat ?_)
  refine JL.ret ?_
  repeat (first | refine At.then_ret ?_ | refine At.block_ret ?_)
  refine At.done1 rfl (()) rfl ?_
  exact (Gives.sound (by repeat (first | exact Gives.nil | (apply Gives.cons; · repeat (first | exact Pick.here | apply Pick.there)))))
/-- a log at p. -/
def LgC (d : Nat) (first size gen used : Nat) (tag : List UInt8) : List Value := ptrV d :: .int .i64 (first : Int) :: .int .i64 (size : Int) :: .int .u32 (gen : Int) :: .int .i64 (used : Int) :: (bytesV tag ++ [.bool false])
def Lg (p d first size gen used : Nat) (tag : List UInt8) : Assn := pt p (.cells (LgC d first size gen used tag).toArray 422 (0, 0))
theorem at_ok (d k : Nat) (S W : Secs) (q : List Value) (first size gen : Nat) (h1 : 1 ≤ size) (h2 : first < k) (h3 : size ≤ k - first) (h4 : gen ≠ 0) (hk : k ≤ 16384) : Trip Tryz.prog 239 [ptrV d, .int .i64 (first : Int), .int .i64 (size : Int), .int .u32 (gen : Int)] none_ [Dk d k S W q] (X := Nat)
    (fun p => .tuple #[ptrV p, .nilIface]) (fun p => [Lg p d first size gen 0 (List.replicate 16 0), Dk d k S W q]) := by
  refine Trip.start (n := 46) Tryz.func239 (by kernel_rfl) rfl rfl rfl ?_
  intro F w hD
  repeat (refine JL.flat ?_)
  refine JL.go 200 ?_
  repeat (refine JL.flat ?_)
  refine JL.block ?_
  repeat (refine JL.flat ?_)
  refine JL.go 200 ?_
  repeat (refine JL.flat ?_)
  refine JL.ifF rfl ?_
  try refine JL.skip ?_
  repeat (refine JL.flat ?_)
  refine JL.go 2 ?_
  refine Seq.set 16 (.bool false) rfl (congrArg Value.bool (by simp)) ?_
  refine Seq.on 3 ?_
  refine Seq.set 19 (.bool false) rfl (congrArg Value.bool (by simp; omega)) ?_
  refine Seq.on 200 ?_
  apply Seq.call (Len_ok d k S W q) rfl rfl rfl rfl rfl rfl
  ·
    repeat (first | exact Picks.nil | (apply Picks.cons; · repeat (first | exact Pick.here | apply Pick.there)))
  · exact Tells.none
  intro _
  refine Seq.on 1 ?_
  refine Seq.set 25 (.bool false) rfl (congrArg Value.bool (by simp; omega)) ?_
  refine Seq.on 200 ?_
  apply Seq.call (Len_ok d k S W q) rfl rfl rfl rfl rfl rfl
  ·
    repeat (first | exact Picks.nil | (apply Picks.cons; · repeat (first | exact Pick.here | apply Pick.there)))
  · exact Tells.none
  intro _
  refine Seq.on 2 ?_
  refine Seq.set 32 (.int .i64 ((k - first : Nat) : Int)) rfl (congrArg (Value.int .i64) (by rw [show ((k : Int) - (first : Int)) = ((k - first : Nat) : Int) by omega]; exact wrapI (small63 (by omega)))) ?_
  refine Seq.on 1 ?_
  refine Seq.set 33 (.bool false) rfl (congrArg Value.bool (by simp; omega)) ?_
  refine Seq.on 4 ?_
  refine Seq.set 37 (.bool false) rfl (congrArg Value.bool (beq_eq_false_iff_ne.2 (by omega))) ?_
  refine Seq.on 200 ?_
  repeat (refine JL.flat ?_)
  refine JL.ifF rfl ?_
  try refine JL.skip ?_
  repeat (refine JL.flat ?_)
  refine JL.nil (At.block_normal (At.then_normal (JL.at ?_)))
  repeat (refine JL.flat ?_)
  refine JL.go 200 ?_
  refine Seq.yield rfl rfl (Yl.build rfl rfl rfl rfl rfl) ?_
  refine Seq.eff rfl rfl (Ef.box rfl rfl) ?_
  intro p
  refine Seq.on 200 ?_
  repeat (refine JL.flat ?_)
  refine JL.ret ?_
  repeat (first | refine At.then_ret ?_ | refine At.block_ret ?_)
  refine At.done2 rfl (p) rfl rfl rfl ?_
  exact (Gives.sound (by repeat (first | exact Gives.nil | (apply Gives.cons; · repeat (first | exact Pick.here | apply Pick.there)))))
end Go.Ent
namespace Go.Ent
open Go Go.Proofs
/-- no sector behind the records bears the generation. -/
def Clean (S W : Secs) (first size gen used : Nat) : Prop := ∀ j, used ≤ j → j < size → numB ((lastS S W ((first + j : Nat) : Int)).take 4) ≠ gen
set_option maxHeartbeats 800000 in
theorem wipe_ok (p d k : Nat) (S W : Secs) (q : List Value) (first size gen used : Nat) (tag : List UInt8) (h1 : used ≤ size) (h2 : first + size ≤ k) (hk : k ≤ 16384) (hg : gen < 4294967296) (hS : Good S) (hW : Good W) (hc : Clean S W first size gen used) :
    Trip Tryz.prog 240 [ptrV p] none_ [Lg p d first size gen used tag, Dk d k S W q] (X := Unit) (fun _ => .nilIface) (fun _ => [Lg p d first size gen used tag, Dk d k S W q]) := by
  refine Trip.start (n := 70) Tryz.func240 (by kernel_rfl) rfl rfl rfl ?_
  intro F w hD
  repeat (refine JL.flat ?_)
  refine JL.go 200 ?_
  repeat (refine JL.flat ?_)
  refine JL.go 200 ?_
  repeat (refine JL.flat ?_)
  refine JL.go 200 ?_
  apply Seq.loadLit rfl rfl rfl rfl rfl
  · repeat (first | exact Pick.here | apply Pick.there)
  · rfl
  · rfl
  refine Seq.on 200 ?_
  repeat (refine JL.flat ?_)
  refine JL.block ?_
  refine JL.loop (X := {j : Nat // used ≤ j ∧ j ≤ size}) ⟨used, by omega⟩ (fun j => [(0, ptrV p), (3, .bool false), (4, .int .i64 (j.1 : Int))]) (fun _ => [Lg p d first size gen used tag, Dk d k S W q, F]) (fun j => size - j.1) ?_ ?_ ?_
  ·
    repeat (first | exact Sub.nil | refine Sub.cons rfl ?_)
  · exact (Gives.sound (by repeat (first | exact Gives.nil | (apply Gives.cons; · repeat (first | exact Pick.here | apply Pick.there)))))
  rintro ⟨j, hj1, hj2⟩
  dsimp only
  repeat (refine JL.flat ?_)
  refine JL.go 200 ?_
  apply Seq.loadLit rfl rfl rfl rfl rfl
  · repeat (first | exact Pick.here | apply Pick.there)
  · rfl
  · rfl
  refine Seq.on 200 ?_
  rcases Nat.lt_or_ge j size with hlt | hge
  · refine JL.set 17 (.bool true) rfl (congrArg Value.bool (by simp; omega)) ?_
    repeat (refine JL.flat ?_)
    refine JL.ifT rfl ?_
    try refine JL.skip ?_
    repeat (refine JL.flat ?_)
    refine JL.block ?_
    repeat (refine JL.flat ?_)
    refine JL.draw ([0, 1, 2, 3, 4, 5, 6, 7, 8, 9, 99, 0, 1, 2, 3, 4, 5, 6, 7, 8, 9]) (by kernel_rfl) (fun hR => ?_)
    refine Ord.on hR 200 ?_
    apply Ord.loadLit hR NP.nop rfl rfl rfl rfl rfl rfl rfl
    · repeat (first | exact Pick.here | apply Pick.there)
    · rfl
    · rfl
    refine Ord.on hR 200 ?_
    apply Ord.loadLit hR NP.nop rfl rfl rfl rfl rfl rfl rfl
    · repeat (first | exact Pick.here | apply Pick.there)
    · rfl
    · rfl
    refine Ord.on hR 200 ?_
    refine Ord.set 30 (.int .i64 ((first + j : Nat) : Int)) rfl (congrArg (Value.int .i64) (by rw [← Int.natCast_add]; exact wrapI (small63 (by omega)))) ?_
    have hcl := hc j hj1 hlt
    have h64 := lastS_length hS hW ((first + j : Nat) : Int)
    have hread := Read_ok d k S W q ((first + j : Nat) : Int) (by omega) (by omega)
    generalize lastS S W ((first + j : Nat) : Int) = L at hcl h64 hread
    refine Ord.fork (L := [10, 14]) (k := 6) hR rfl (by kernel_rfl) rfl rfl ?_
    refine Forks.act (ord := [11, 12, 13, 14, 15, 16]) rfl rfl rfl rfl (Ef.call rfl rfl rfl rfl hread (Picks.cons (by repeat (first | exact Pick.here | apply Pick.there)) Picks.nil) Tells.none) (fun _ => ?_) (by kernel_rfl) (by kernel_rfl) (fun _ => ?_) ?_
    · repeat (first | exact Keep.nil | (refine Keep.load rfl rfl rfl (by repeat (first | exact Pick.here | apply Pick.there)) (by rfl) (by rfl) ?_) | (refine Keep.waits (by kernel_rfl) ?_))
    ·
      refine Ord.on hR 200 ?_
      refine Ord.eff hR rfl rfl rfl rfl (Ef.alloc tab_zero rfl rfl) (fun b5 => ?_) (fun b5 => ?_)
      · repeat (first | exact Keep.nil | (refine Keep.load rfl rfl rfl (by repeat (first | exact Pick.here | apply Pick.there)) (by rfl) (by rfl) ?_) | (refine Keep.waits (by kernel_rfl) ?_))
      refine Ord.storeAll hR rfl rfl rfl rfl rfl rfl rfl rfl (by repeat (first | exact Pick.here | apply Pick.there)) (by simp [sec, Value.cells, bytesV, h64]) (Ones_bytesV _) rfl ?_ ?_
      · repeat (first | exact Keep.nil | (refine Keep.waits (by kernel_rfl) ?_))
      refine Ord.on hR 200 ?_
      repeat (refine JL.flat ?_)
      refine JL.block ?_
      repeat (refine JL.flat ?_)
      refine JL.go 200 ?_
      repeat (refine JL.flat ?_)
      refine JL.ifF rfl ?_
      try refine JL.skip ?_
      repeat (refine JL.flat ?_)
      refine JL.draw ([3, 4, 5, 6, 7, 0, 1, 2, 8, 9]) (by kernel_rfl) (fun hR => ?_)
      refine Ord.on hR 200 ?_
      apply Ord.loadLit hR NP.nop rfl rfl rfl rfl rfl rfl rfl
      · repeat (first | exact Pick.here | apply Pick.there)
      · rfl
      · rfl
      refine Ord.on hR 200 ?_
      refine Ord.pure hR NP.nop rfl rfl rfl rfl (fun a w ha => run_sliceArr 0 4 rfl rfl rfl rfl rfl rfl rfl rfl (by omega) (by omega) a w ha) ?_
      have hL4 : (L.take 4).length = 4 := by simp [h64]
      refine Ord.set 39 (.slice (some ⟨b5, 0, none⟩) (L.take 4).length 64) rfl (by rw [hL4]; rfl) ?_
      apply Ord.call (From_ok (some ⟨b5, 0, none⟩) (L.take 4) 64 (by omega)) hR rfl rfl rfl rfl rfl rfl rfl rfl
      ·
        repeat (first | exact Picks.nil | (apply Picks.cons; · repeat (first | exact Pick.here | apply Pick.there)))
      · exact Tells.pick (A := pt b5 (.cells (bytesV L).toArray 298 (0, 0))) (by repeat (first | exact Pick.here | apply Pick.there)) (fun _ _ => BIn.mono) (fun h hx => by
          have := BIn.of_pt (lo := 0) (k := 4) (by omega) h hx
          simpa using this)
      · intro _
        repeat (first | exact Keep.nil | (refine Keep.load rfl rfl rfl (by repeat (first | exact Pick.here | apply Pick.there)) (by rfl) (by rfl) ?_) | (refine Keep.waits (by kernel_rfl) ?_))
      intro pr
      refine Ord.on hR 200 ?_
      apply Ord.call (RNum_4 pr (L.take 4) (by omega) (by omega)) hR rfl rfl rfl rfl rfl rfl rfl rfl
      ·
        repeat (first | exact Picks.nil | (apply Picks.cons; · repeat (first | exact Pick.here | apply Pick.there)))
      · exact Tells.none
      · intro _
        repeat (first | exact Keep.nil | (refine Keep.load rfl rfl rfl (by repeat (first | exact Pick.here | apply Pick.there)) (by rfl) (by rfl) ?_) | (refine Keep.waits (by kernel_rfl) ?_))
      intro _
      refine Ord.on hR 200 ?_
      have htt : (L.take 4).take 4 = L.take 4 := by rw [List.take_take]; rfl
      have hgw : IntKind.u64.wrap (gen : Int) = (gen : Int) := wrap_int (by omega) (by omega)
      refine JL.set 38 (.bool true) rfl (congrArg Value.bool (by
        show ((numB ((L.take 4).take 4) : Int) != IntKind.u64.wrap (gen : Int)) = true
        rw [htt, hgw]
        simp only [bne, int_beq]
        simpa using hcl)) ?_
      repeat (refine JL.flat ?_)
      refine JL.ifT rfl ?_
      try refine JL.skip ?_
      repeat (refine JL.flat ?_)
      refine JL.exit ?_
      repeat (first | refine At.then_exit ?_ | refine At.block_pass rfl ?_)
      refine At.block_exit (At.then_normal (JL.at ?_))
      repeat (refine JL.flat ?_)
      refine JL.go 200 ?_
      refine JL.set 4 (.int .i64 ((j + 1 : Nat) : Int)) rfl (congrArg (Value.int .i64) (by rw [show (j : Int) + 1 = ((j + 1 : Nat) : Int) by omega]; exact wrapI (small63 (by omega)))) ?_
      repeat (refine JL.flat ?_)
      refine JL.nil (At.then_normal ?_)
      refine At.again (X := {j : Nat // used ≤ j ∧ j ≤ size}) (x := ⟨j, hj1, hj2⟩) ⟨j + 1, by omega⟩ (by show size - (j + 1) < size - j; omega) (Sub.look ?_) ?_
      ·
        repeat (first | exact Sub.nil | refine Sub.cons rfl ?_)
      · exact (Gives.sound (by repeat (first | exact Gives.nil | (apply Gives.cons; · repeat (first | exact Pick.here | apply Pick.there)))))
    refine Forks.act (ord := [10, 11, 12, 13, 15, 16]) rfl rfl rfl rfl (Ef.alloc tab_zero rfl rfl) (fun b5 => ?_) (by kernel_rfl) (by kernel_rfl) (fun b5 => ?_) Forks.nil
    · repeat (first | exact Keep.nil | (refine Keep.load rfl rfl rfl (by repeat (first | exact Pick.here | apply Pick.there)) (by rfl) (by rfl) ?_) | (refine Keep.waits (by kernel_rfl) ?_))
    ·
      apply Ord.call (hread) hR rfl rfl rfl rfl rfl rfl rfl rfl
      ·
        repeat (first | exact Picks.nil | (apply Picks.cons; · repeat (first | exact Pick.here | apply Pick.there)))
      · exact Tells.none
      · intro _
        repeat (first | exact Keep.nil | (refine Keep.load rfl rfl rfl (by repeat (first | exact Pick.here | apply Pick.there)) (by rfl) (by rfl) ?_) | (refine Keep.waits (by kernel_rfl) ?_))
      intro _
      refine Ord.on hR 200 ?_
      refine Ord.storeAll hR rfl rfl rfl rfl rfl rfl rfl rfl (by repeat (first | exact Pick.here | apply Pick.there)) (by simp [sec, Value.cells, bytesV, h64]) (Ones_bytesV _) rfl ?_ ?_
      · repeat (first | exact Keep.nil | (refine Keep.waits (by kernel_rfl) ?_))
      refine Ord.on hR 200 ?_
      repeat (refine JL.flat ?_)
      refine JL.block ?_
      repeat (refine JL.flat ?_)
      refine JL.go 200 ?_
      repeat (refine JL.flat ?_)
      refine JL.ifF rfl ?_
      try refine JL.skip ?_
      repeat (refine JL.flat ?_)
      refine JL.draw ([3, 4, 5, 6, 7, 0, 1, 2, 8, 9]) (by kernel_rfl) (fun hR => ?_)
      refine Ord.on hR 200 ?_
      apply Ord.loadLit hR NP.nop rfl rfl rfl rfl rfl rfl rfl
      · repeat (first | exact Pick.here | apply Pick.there)
      · rfl
      · rfl
      refine Ord.on hR 200 ?_
      refine Ord.pure hR NP.nop rfl rfl rfl rfl (fun a w ha => run_sliceArr 0 4 rfl rfl rfl rfl rfl rfl rfl rfl (by omega) (by omega) a w ha) ?_
      have hL4 : (L.take 4).length = 4 := by simp [h64]
      refine Ord.set 39 (.slice (some ⟨b5, 0, none⟩) (L.take 4).length 64) rfl (by rw [hL4]; rfl) ?_
      apply Ord.call (From_ok (some ⟨b5, 0, none⟩) (L.take 4) 64 (by omega)) hR rfl rfl rfl rfl rfl rfl rfl rfl
      ·
        repeat (first | exact Picks.nil | (apply Picks.cons; · repeat (first | exact Pick.here | apply Pick.there)))
      · exact Tells.pick (A := pt b5 (.cells (bytesV L).toArray 298 (0, 0))) (by repeat (first | exact Pick.here | apply Pick.there)) (fun _ _ => BIn.mono) (fun h hx => by
          have := BIn.of_pt (lo := 0) (k := 4) (by omega) h hx
          simpa using this)
      · intro _
        repeat (first | exact Keep.nil | (refine Keep.load rfl rfl rfl (by repeat (first | exact Pick.here | apply Pick.there)) (by rfl) (by rfl) ?_) | (refine Keep.waits (by kernel_rfl) ?_))
      intro pr
      refine Ord.on hR 200 ?_
      apply Ord.call (RNum_4 pr (L.take 4) (by omega) (by omega)) hR rfl rfl rfl rfl rfl rfl rfl rfl
      ·
        repeat (first | exact Picks.nil | (apply Picks.cons; · repeat (first | exact Pick.here | apply Pick.there)))
      · exact Tells.none
      · intro _
        repeat (first | exact Keep.nil | (refine Keep.load rfl rfl rfl (by repeat (first | exact Pick.here | apply Pick.there)) (by rfl) (by rfl) ?_) | (refine Keep.waits (by kernel_rfl) ?_))
      intro _
      refine Ord.on hR 200 ?_
      have htt : (L.take 4).take 4 = L.take 4 := by rw [List.take_take]; rfl
      have hgw : IntKind.u64.wrap (gen : Int) = (gen : Int) := wrap_int (by omega) (by omega)
      refine JL.set 38 (.bool true) rfl (congrArg Value.bool (by
        show ((numB ((L.take 4).take 4) : Int) != IntKind.u64.wrap (gen : Int)) = true
        rw [htt, hgw]
        simp only [bne, int_beq]
        simpa using hcl)) ?_
      repeat (refine JL.flat ?_)
      refine JL.ifT rfl ?_
      try refine JL.skip ?_
      repeat (refine JL.flat ?_)
      refine JL.exit ?_
      repeat (first | refine At.then_exit ?_ | refine At.block_pass rfl ?_)
      refine At.block_exit (At.then_normal (JL.at ?_))
      repeat (refine JL.flat ?_)
      refine JL.go 200 ?_
      refine JL.set 4 (.int .i64 ((j + 1 : Nat) : Int)) rfl (congrArg (Value.int .i64) (by rw [show (j : Int) + 1 = ((j + 1 : Nat) : Int) by omega]; exact wrapI (small63 (by omega)))) ?_
      repeat (refine JL.flat ?_)
      refine JL.nil (At.then_normal ?_)
      refine At.again (X := {j : Nat // used ≤ j ∧ j ≤ size}) (x := ⟨j, hj1, hj2⟩) ⟨j + 1, by omega⟩ (by show size - (j + 1) < size - j; omega) (Sub.look ?_) ?_
      ·
        repeat (first | exact Sub.nil | refine Sub.cons rfl ?_)
      · exact (Gives.sound (by repeat (first | exact Gives.nil | (apply Gives.cons; · repeat (first | exact Pick.here | apply Pick.there)))))
  · obtain rfl : j = size := by omega
    refine JL.set 17 (.bool false) rfl (congrArg Value.bool (by simp)) ?_
    repeat (refine JL.flat ?_)
    refine JL.ifF rfl ?_
    try refine JL.skip ?_
    repeat (refine JL.flat ?_)
    refine JL.exit ?_
    repeat (first | refine At.then_exit ?_ | refine At.block_pass rfl ?_)
    refine At.block_exit (At.then_normal (JL.at ?_))
    repeat (refine JL.flat ?_)
    refine JL.go 200 ?_
    repeat (refine JL.flat ?_)
    refine JL.ifT rfl ?_
    try refine JL.skip ?_
    repeat (refine JL.flat ?_)
    refine JL.go 200 ?_
    repeat (refine JL.flat ?_)
    refine JL.ret ?_
    repeat (first | refine At.then_ret ?_ | refine At.block_ret ?_)
    refine At.done1 rfl (()) rfl ?_
    exact (Gives.sound (by repeat (first | exact Gives.nil | (apply Gives.cons; · repeat (first | exact Pick.here | apply Pick.there)))))
end Go.Ent
namespace Go.Ent
open Go Go.Proofs
theorem Fresh_ok (d k : Nat) (S W : Secs) (q : List Value) (first size gen : Nat) (h1 : 1 ≤ size) (h2 : first + size ≤ k) (h4 : gen ≠ 0) (hg : gen < 4294967296) (hk : k ≤ 16384) (hS : Good S) (hW : Good W) (hc : Clean S W first size gen 0) :
    Trip Tryz.prog 163 [ptrV d, .int .i64 (first : Int), .int .i64 (size : Int), .int .u32 (gen : Int)] none_ [Dk d k S W q] (X := Nat)
    (fun p => .tuple #[ptrV p, .nilIface]) (fun p => [Lg p d first size gen 0 (List.replicate 16 0), Dk d k S W q]) := by
  refine Trip.start (n := 30) Tryz.func163 (by kernel_rfl) rfl rfl rfl ?_
  intro F w hD
  repeat (refine JL.flat ?_)
  refine JL.go 200 ?_
  repeat (refine JL.flat ?_)
  refine JL.go 200 ?_
  apply Seq.call (at_ok d k S W q first size gen h1 (by omega) (by omega) h4 hk) rfl rfl rfl rfl rfl rfl
  ·
    repeat (first | exact Picks.nil | (apply Picks.cons; · repeat (first | exact Pick.here | apply Pick.there)))
  · exact Tells.none
  intro p
  refine Seq.on 200 ?_
  repeat (refine JL.flat ?_)
  refine JL.go 200 ?_
  repeat (refine JL.flat ?_)
  refine JL.ifF rfl ?_
  try refine JL.skip ?_
  repeat (refine JL.flat ?_)
  refine JL.go 200 ?_
  apply Seq.call (wipe_ok p d k S W q first size gen 0 (List.replicate 16 0) (by omega) h2 hk hg hS hW hc) rfl rfl rfl rfl rfl rfl
  ·
    repeat (first | exact Picks.nil | (apply Picks.cons; · repeat (first | exact Pick.here | apply Pick.there)))
  · exact Tells.none
  intro _
  refine Seq.on 200 ?_
  repeat (refine JL.flat ?_)
  refine JL.go 200 ?_
  repeat (refine JL.flat ?_)
  refine JL.ifF rfl ?_
  try refine JL.skip ?_
  repeat (refine JL.flat ?_)
  refine JL.go 200 ?_
  repeat (refine JL.flat ?_)
  refine JL.ret ?_
  repeat (first | refine At.then_ret ?_ | refine At.block_ret ?_)
  refine At.done2 rfl (p) rfl rfl rfl ?_
  exact (Gives.sound (by repeat (first | exact Gives.nil | (apply Gives.cons; · repeat (first | exact Pick.here | apply Pick.there)))))
def genB (gen : Nat) : List UInt8 := [oct (shr .u32 (gen : Int) 24), oct (shr .u32 (gen : Int) 16), oct (shr .u32 (gen : Int) 8), oct (gen : Int)]
/-- a record's tag, behind another one's. -/
def tagB (tag : List UInt8) (gen : Nat) (b : List UInt8) : List UInt8 := (sumB (tag ++ genB gen ++ b)).take 16
theorem tagB_length (tag : List UInt8) (gen : Nat) (b : List UInt8) : (tagB tag gen b).length = 16 := by simp [tagB, sumB_length]
theorem tagged_ok (tag : List UInt8) (gen : Nat) (a : Option Addr) (b : List UInt8) (c : Nat) (ht : tag.length = 16) (hl : b.length ≤ 1000000) : Trip Tryz.prog 281 [.agg (bytesV tag).toArray, .int .u32 (gen : Int), .slice a b.length c] (fun h => Glob h ∧ BIn a b h) [] (X := Unit)
    (fun _ => .agg (bytesV (tagB tag gen b)).toArray) (fun _ => []) := by
  refine Trip.start (n := 27) Tryz.func281 (by kernel_rfl) rfl rfl rfl ?_
  intro F w hD
  repeat (refine JL.flat ?_)
  refine JL.go 0 ?_
  refine Seq.eff rfl rfl (Ef.box rfl rfl) ?_
  intro b3
  refine Seq.eff rfl rfl (Ef.alloc tab_zero rfl rfl) ?_
  intro b6
  refine Seq.on 200 ?_
  repeat (refine JL.flat ?_)
  refine JL.go 0 ?_
  refine Seq.sliceArrB 0 16 rfl rfl rfl rfl rfl rfl rfl rfl rfl rfl rfl (by omega) (by omega) ?_
  refine Seq.set 8 (.slice (some ⟨b3, 0, none⟩) tag.length 16) rfl (by rw [ht]) ?_
  refine Seq.on 3 ?_
  refine Seq.set 11 _ rfl (oct_val _) ?_
  refine Seq.on 3 ?_
  refine Seq.set 14 _ rfl (oct_val _) ?_
  refine Seq.on 3 ?_
  refine Seq.set 17 _ rfl (oct_val _) ?_
  refine Seq.on 2 ?_
  refine Seq.set 19 _ rfl (oct_val _) ?_
  refine Seq.bslice (out := (bytesV (genB gen))) rfl rfl rfl rfl rfl rfl rfl rfl (by rfl) rfl (by rfl) ?_
  intro bg
  refine Seq.on 200 ?_
  refine Seq.bslice (out := [Value.slice (some ⟨b3, 0, none⟩) tag.length 16, Value.slice (some ⟨bg, 0, none⟩) 4 4, Value.slice a b.length c]) rfl rfl rfl rfl rfl rfl rfl rfl (by rfl) rfl (by rfl) ?_
  intro bl
  have hfl : flatP [(some ⟨b3, 0, none⟩, 16, tag), (some ⟨bg, 0, none⟩, 4, genB gen), (a, c, b)] = tag ++ genB gen ++ b := by simp [flatP]
  have hOf := Of_ok (some ⟨bl, 0, none⟩) [(some ⟨b3, 0, none⟩, 16, tag), (some ⟨bg, 0, none⟩, 4, genB gen), (a, c, b)] 3 (by simp) (by simp) (by simp) (by rw [hfl]; simp [ht, genB]; omega)
  rw [hfl] at hOf
  apply Seq.call (hOf) rfl rfl rfl rfl rfl rfl
  ·
    repeat (first | exact Picks.nil | (apply Picks.cons; · repeat (first | exact Pick.here | apply Pick.there)))
  · refine fun h hs => ⟨Tells.frame (D := Glob) (by repeat (first | exact Pick.here | apply Pick.there)) (fun _ _ => Glob.mono) (fun h hF => (hD h hF).1) h hs, ?_, fun x hx => ?_⟩
    · exact Tells.own (by repeat (first | exact Pick.here | apply Pick.there)) h hs
    · simp only [List.mem_cons, List.not_mem_nil, or_false] at hx
      rcases hx with rfl | rfl | rfl
      · exact Tells.pick (A := pt b3 (.cells (bytesV tag).toArray 64 (0, 0))) (by repeat (first | exact Pick.here | apply Pick.there)) (fun _ _ => BIn.mono) (fun h hx => by
          have := BIn.of_pt (lo := 0) (k := tag.length) (by omega) h hx
          simpa using this) h hs
      · exact Tells.own (m := (genB gen).length) (cap := 4) (by repeat (first | exact Pick.here | apply Pick.there)) h hs
      · exact Tells.frame (by repeat (first | exact Pick.here | apply Pick.there)) (fun _ _ => BIn.mono) (fun h hF => (hD h hF).2) h hs
  intro _
  have h32 := sumB_length (tag ++ genB gen ++ b)
  unfold tagB
  generalize sumB (tag ++ genB gen ++ b) = H at h32 ⊢
  refine Seq.eff rfl rfl (Ef.alloc tab_zero rfl rfl) ?_
  intro b7
  refine Seq.storeAll rfl rfl rfl rfl rfl rfl (by repeat (first | exact Pick.here | apply Pick.there)) (by simp [Value.cells, bytesV, h32]) (Ones_bytesV _) rfl ?_
  refine Seq.on 200 ?_
  repeat (refine JL.flat ?_)
  refine JL.go 0 ?_
  refine Seq.sliceArrB 0 16 rfl rfl rfl rfl rfl rfl rfl rfl rfl rfl rfl (by omega) (by omega) ?_
  refine Seq.s2ap rfl rfl rfl rfl rfl (by omega) ?_
  have h16 : (H.take 16).length = 16 := by simp [h32]
  refine Seq.load (cs := bytesV (H.take 16)) rfl rfl rfl rfl rfl (Tells.pick (A := pt b7 (.cells (bytesV H).toArray 70 (0, 0))) (by repeat (first | exact Pick.here | apply Pick.there)) (fun _ _ => CellsAt.mono) (fun h hx => by
    have := CellsAt.of_bytes (lo := 0) (k := 16) h hx
    simpa using this)) (by rw [bytesV_length, h16]) rfl ?_
  refine Seq.storeAll rfl rfl rfl rfl rfl rfl (by repeat (first | exact Pick.here | apply Pick.there)) (by simp [Value.cells, bytesV, h32]) (Ones_bytesV _) rfl ?_
  refine Seq.on 200 ?_
  refine JL.ret (At.doneC rfl () rfl rfl (Tells.all (by repeat (first | exact Pick.here | apply Pick.there))) (by simp [Value.cells, bytesV, h32]) rfl rfl ?_)
  exact (Gives.sound (by repeat (first | exact Gives.nil | (apply Gives.cons; · repeat (first | exact Pick.here | apply Pick.there)))))
end Go.Ent
namespace Go.Ent
open Go Go.Proofs
section
variable {P : Program} {n : Nat} {ds : Fz} {w0 : World} {E : Env} {G : List Assn} {Q : Exit → Act → World → Prop}
theorem Trip.post {f : FuncId} {args : List Value} {D : Assn} {A : List Assn} {X X' : Type} {r : X → Value} {B : X → List Assn} {r' : X' → Value} {B' : X' → List Assn} (t : Trip P f args D A r B) (g : X → X') (hr : ∀ x, r x = r' (g x))
    (hB : ∀ x h, sep (B x) h → sep (B' (g x)) h) : Trip P f args D A r' B' := ⟨t.ok, fun F w hD hs => (t.run F w hD hs).mono fun e w' he => by
  obtain ⟨x, rfl, hx⟩ := he
  exact ⟨g x, by rw [hr], append_sep (star_mono (fun h s => hB x h s) (fun _ h => h) (sep_append hx.sep)), hx.same⟩⟩
theorem Trip.pre {f : FuncId} {args : List Value} {D D' : Assn} {A A' : List Assn} {X : Type} {r : X → Value} {B : X → List Assn} (hA : ∀ h, sep A' h → sep A h) (hD' : ∀ h, D' h → D h) (t : Trip P f args D A r B) : Trip P f args D' A' r B :=
  ⟨t.ok, fun F w hD hs => t.run F w (fun h hF => hD' h (hD h hF)) (append_sep (star_mono (fun h s => hA h s) (fun _ h => h) (sep_append hs)))⟩
theorem Trip.ex {f : FuncId} {args : List Value} {D : Assn} {X0 : Type} {A : X0 → List Assn} {A' : List Assn} {X : Type} {r : X → Value} {B : X → List Assn} (ok : Callable P f) (h : ∀ x, Trip P f args D (A x ++ A') r B) : Trip P f args D (exA A :: A') r B :=
  ⟨ok, fun F w hD hs => by
    obtain ⟨x, hx⟩ := exA_out (G := A' ++ [F]) hs
    rw [← List.append_assoc] at hx
    exact (h x).run F w hD hx⟩
theorem Trip.know {f : FuncId} {args : List Value} {D : Assn} {A : List Assn} {X : Type} {r : X → Value} {B : X → List Assn} {p : Prop} (ok : Callable P f) (hp : ∀ h, sep A h → p) (t : p → Trip P f args D A r B) : Trip P f args D A r B :=
  ⟨ok, fun F w hD hs => by
    obtain ⟨h1, h2, _, _, _, a, _⟩ := sep_append hs
    exact (t (hp _ a)).run F w hD hs⟩
/-- a piece of code whose end is said. -/
theorem JL.cut {c : Code} {cs : List Code} {X : Type} (K : X → Env) (GK : X → List Assn) (h1 : JL P n ds w0 E G (Exit.then (fun a w => ∃ x, Agree n ds (K x) a ∧ St w0 (GK x) w) (Exit.then (wpL ds P Q cs) Q)) [c])
    (h2 : ∀ x, JL P n ds w0 (K x) (GK x) Q cs) : JL P n ds w0 E G Q (c :: cs) :=
  ⟨fun a w ha hw => wpIn_mono (h1.start.run a w ha hw) fun e a' w' he => by
    cases e <;> first | exact he | (obtain ⟨x, hx, hs⟩ := he; exact (h2 x).run a' w' hx hs)⟩
theorem At.mid {X : Type} {K : X → Env} {GK : X → List Assn} (x : X) (hE : Sub (K x) E) (hG : ∀ h, sep G h → sep (GK x) h) : At n ds w0 E G (fun a w => ∃ x, Agree n ds (K x) a ∧ St w0 (GK x) w) :=
  ⟨fun _ _ ha hw => ⟨x, ha.weaken hE.look, hG _ hw.sep, hw.same⟩⟩
end
/-- a disk of k sectors as it is seen: what each sector has; so many writes wait at most. -/
def DvA (p k : Nat) (L : Int → List UInt8) (m : Nat) (r : Secs × Secs × List Value) : List Assn := [Dk p k r.1 r.2.1 r.2.2, fun _ => (∀ n, lastS r.1 r.2.1 n = L n) ∧ r.2.2.length ≤ m]
def Dv (p k : Nat) (L : Int → List UInt8) (m : Nat) : Assn := exA (DvA p k L m)
theorem Dk.good {p k : Nat} {S W : Secs} {q : List Value} (h : Part) (x : Dk p k S W q h) : Good S ∧ Good W := by
  obtain ⟨r, x⟩ := x
  have := pure_of (G := DkA p k S W q r) (p := Good S ∧ Good W ∧ Ones q) (by repeat (first | exact Pick.here | apply Pick.there)) h x
  exact ⟨this.1, this.2.1⟩
theorem Dv.in {p k : Nat} {S W : Secs} {q : List Value} {L : Int → List UInt8} {m : Nat} {G : List Assn} {h : Part} (hL : ∀ n, lastS S W n = L n) (hm : q.length ≤ m) (s : sep (Dk p k S W q :: G) h) : sep (Dv p k L m :: G) h :=
  exA_in (A := DvA p k L m) (S, W, q) (star_mono (fun _ h => h) (fun _ hs => sep_pure (fun _ => ⟨hL, hm⟩) hs) s)
theorem Dv.sees {p k : Nat} {L : Int → List UInt8} {m : Nat} (h : Part) (x : Dv p k L m h) : ∀ n, (L n).length = 64 := by
  obtain ⟨⟨S, W, q⟩, x⟩ := x
  intro n
  have hp := pure_of (G := DvA p k L m (S, W, q)) (p := (∀ n, lastS S W n = L n) ∧ q.length ≤ m) (by repeat (first | exact Pick.here | apply Pick.there)) h x
  obtain ⟨h1, _, _, _, _, hd, _⟩ := x
  have hg := Dk.good _ hd
  rw [← hp.1]
  exact lastS_length hg.1 hg.2 n
theorem Dv.mono_m {p k : Nat} {L : Int → List UInt8} {m m' : Nat} (hm : m ≤ m') (h : Part) (x : Dv p k L m h) : Dv p k L m' h := by
  obtain ⟨⟨S, W, q⟩, x⟩ := x
  have hp := pure_of (G := DvA p k L m (S, W, q)) (p := (∀ n, lastS S W n = L n) ∧ q.length ≤ m) (by repeat (first | exact Pick.here | apply Pick.there)) h x
  refine ⟨(S, W, q), star_mono (fun _ h => h) (fun _ _ => sep_pure (fun _ => ⟨hp.1, Nat.le_trans hp.2 hm⟩) trivial) x⟩
section
variable {P : Program}
/-- a contract of disks, as they are seen. -/
theorem Trip.view {f : FuncId} {args : List Value} {D : Assn} {p k m : Nat} {L : Int → List UInt8} {A : List Assn} {X : Type} {r : X → Value} {B : X → List Assn} (ok : Callable P f)
    (h : ∀ S W q, (∀ n, lastS S W n = L n) → q.length ≤ m → Good S → Good W → Trip P f args D (Dk p k S W q :: A) r B) : Trip P f args D (Dv p k L m :: A) r B := by
  refine Trip.ex ok fun x => ?_
  obtain ⟨S, W, q⟩ := x
  refine Trip.know (p := ((∀ n, lastS S W n = L n) ∧ q.length ≤ m) ∧ Good S ∧ Good W) ok (fun h s => ?_) (fun hp => ?_)
  · refine ⟨pure_of (G := DvA p k L m (S, W, q) ++ A) (by unfold DvA; simp only [List.cons_append, List.nil_append]; repeat (first | exact Pick.here | apply Pick.there)) h s, ?_⟩
    obtain ⟨_, _, _, _, _, hd, _⟩ := s
    exact Dk.good _ hd
  · refine Trip.pre (A := Dk p k S W q :: A) (fun h s => ?_) (fun _ h => h) (h S W q hp.1.1 hp.1.2 hp.2.1 hp.2.2)
    refine star_mono (fun _ h => h) (fun h s => ?_) s
    obtain ⟨_, _, _, _, l2, _, b⟩ := s
    exact sep_mono_part l2 b
end
def updL (L : Int → List UInt8) (n : Int) (l : List UInt8) : Int → List UInt8 := fun m => if m = n then l else L m
theorem lastS_upd {S W : Secs} {L : Int → List UInt8} (h : ∀ n, lastS S W n = L n) (a : Int) (l : List UInt8) (n : Int) : lastS S (updS W a l) n = updL L a l n := by
  unfold updL updS lastS
  have := h n
  unfold lastS at this
  by_cases e : n = a
  · simp [e]
  · simp only [e, if_false]; exact this
theorem lastS_over {S W : Secs} {L : Int → List UInt8} (h : ∀ n, lastS S W n = L n) (n : Int) : lastS (overS S W) noS n = L n := by
  rw [← h n]
  unfold lastS overS noS
  cases W n <;> rfl
theorem ReadV (p k : Nat) (L : Int → List UInt8) (m : Nat) (at_ : Int) (h0 : 0 ≤ at_) (h1 : at_ < k) : Trip Tryz.prog 242 [ptrV p, .int .i64 at_] none_ [Dv p k L m] (X := Unit)
    (fun _ => .tuple #[sec (L at_), .nilIface]) (fun _ => [Dv p k L m]) :=
  Trip.view ⟨_, Tryz.func242, by kernel_rfl, rfl⟩ fun S W q hL hm _ _ => (Read_ok p k S W q at_ h0 h1).post (fun x => x) (fun _ => by rw [hL]) (fun _ _ s => Dv.in hL hm s)
theorem LenV (p k : Nat) (L : Int → List UInt8) (m : Nat) : Trip Tryz.prog 34 [ptrV p] none_ [Dv p k L m] (X := Unit) (fun _ => .int .i64 (k : Int)) (fun _ => [Dv p k L m]) :=
  Trip.view ⟨_, Tryz.func34, by kernel_rfl, rfl⟩ fun S W q hL hm _ _ => (Len_ok p k S W q).post (fun x => x) (fun _ => rfl) (fun _ _ s => Dv.in hL hm s)
theorem SyncV (p k : Nat) (L : Int → List UInt8) (m : Nat) : Trip Tryz.prog 147 [ptrV p] none_ [Dv p k L m] (X := Unit) (fun _ => .nilIface) (fun _ => [Dv p k L 0]) :=
  Trip.view ⟨_, Tryz.func147, by kernel_rfl, rfl⟩ fun S W q hL hm _ _ => (Sync_ok p k S W q).post (fun x => x) (fun _ => rfl) (fun _ _ s => Dv.in (lastS_over hL) (Nat.le_refl _) s)
theorem WriteV (p k : Nat) (L : Int → List UInt8) (m : Nat) (at_ : Int) (l : List UInt8) (h0 : 0 ≤ at_) (h1 : at_ < k) (hl : l.length = 64) (hm : m ≤ 100000) : Trip Tryz.prog 161 [ptrV p, .int .i64 at_, sec l] none_ [Dv p k L m] (X := Unit)
    (fun _ => .nilIface) (fun _ => [Dv p k (updL L at_ l) (m + 1)]) :=
  Trip.view ⟨_, Tryz.func161, by kernel_rfl, rfl⟩ fun S W q hL hq _ _ => (Write_ok p k S W q at_ l h0 h1 hl (Nat.le_trans hq hm)).post (fun _ => ()) (fun _ => rfl) (fun x _ s => Dv.in (lastS_upd hL at_ l) (Nat.le_trans x.2 (Nat.succ_le_succ hq)) s)
theorem DkV {p k : Nat} {S W : Secs} {q : List Value} (h : Part) (x : Dk p k S W q h) : Dv p k (lastS S W) q.length h :=
  ⟨(S, W, q), h, fun _ => none, fun _ _ _ _ e => by simp at e, Part.le_refl _, fun _ _ e => by simp at e, x, sep_pure (fun _ => ⟨fun _ => rfl, Nat.le_refl _⟩) trivial⟩
/-- no sector behind the records bears the generation. -/
def CleanL (L : Int → List UInt8) (first size gen used : Nat) : Prop := ∀ j, used ≤ j → j < size → numB ((L ((first + j : Nat) : Int)).take 4) ≠ gen
theorem atV (d k : Nat) (L : Int → List UInt8) (m : Nat) (first size gen : Nat) (h1 : 1 ≤ size) (h2 : first < k) (h3 : size ≤ k - first) (h4 : gen ≠ 0) (hk : k ≤ 16384) : Trip Tryz.prog 239 [ptrV d, .int .i64 (first : Int), .int .i64 (size : Int), .int .u32 (gen : Int)] none_ [Dv d k L m] (X := Nat)
    (fun p => .tuple #[ptrV p, .nilIface]) (fun p => [Lg p d first size gen 0 (List.replicate 16 0), Dv d k L m]) :=
  Trip.view ⟨_, Tryz.func239, by kernel_rfl, rfl⟩ fun S W q hL hm _ _ => (at_ok d k S W q first size gen h1 h2 h3 h4 hk).post (fun x => x) (fun _ => rfl) (fun _ _ s => star_mono (fun _ h => h) (fun _ s => Dv.in hL hm s) s)
theorem swap2 {A B : Assn} (h : Part) (s : sep [A, B] h) : sep [B, A] h := star_left s
theorem wipeV (p d k : Nat) (L : Int → List UInt8) (m : Nat) (first size gen used : Nat) (tag : List UInt8) (h1 : used ≤ size) (h2 : first + size ≤ k) (hk : k ≤ 16384) (hg : gen < 4294967296) (hc : CleanL L first size gen used) :
    Trip Tryz.prog 240 [ptrV p] none_ [Lg p d first size gen used tag, Dv d k L m] (X := Unit) (fun _ => .nilIface) (fun _ => [Lg p d first size gen used tag, Dv d k L m]) :=
  Trip.pre (A := [Dv d k L m, Lg p d first size gen used tag]) (fun _ s => swap2 _ s) (fun _ h => h)
    (Trip.view ⟨_, Tryz.func240, by kernel_rfl, rfl⟩ fun S W q hL hm hS hW => Trip.pre (fun _ s => swap2 _ s) (fun _ h => h) ((wipe_ok p d k S W q first size gen used tag h1 h2 hk hg hS hW (fun j a b => by rw [hL]; exact hc j a b)).post (fun x => x) (fun _ => rfl) (fun _ _ s => star_mono (fun _ h => h) (fun _ s => Dv.in hL hm s) s)))
theorem FreshV (d k : Nat) (L : Int → List UInt8) (m : Nat) (first size gen : Nat) (h1 : 1 ≤ size) (h2 : first + size ≤ k) (h4 : gen ≠ 0) (hg : gen < 4294967296) (hk : k ≤ 16384) (hc : CleanL L first size gen 0) :
    Trip Tryz.prog 163 [ptrV d, .int .i64 (first : Int), .int .i64 (size : Int), .int .u32 (gen : Int)] none_ [Dv d k L m] (X := Nat)
    (fun p => .tuple #[ptrV p, .nilIface]) (fun p => [Lg p d first size gen 0 (List.replicate 16 0), Dv d k L m]) :=
  Trip.view ⟨_, Tryz.func163, by kernel_rfl, rfl⟩ fun S W q hL hm hS hW => (Fresh_ok d k S W q first size gen h1 h2 h4 hg hk hS hW (fun j a b => by rw [hL]; exact hc j a b)).post (fun x => x) (fun _ => rfl) (fun _ _ s => star_mono (fun _ h => h) (fun _ s => Dv.in hL hm s) s)
end Go.Ent
namespace Go.Ent
open Go Go.Proofs
theorem Equal_ok (a1 a2 : Option Addr) (l : List UInt8) (c1 c2 : Nat) (hl : l.length ≤ 1000000) : Trip Tryz.prog 300 [.slice a1 l.length c1, .slice a2 l.length c2] (fun h => BIn a1 l h ∧ BIn a2 l h) [] (X := Unit) (fun _ => .bool true) (fun _ => []) := by
  refine Trip.start (n := 26) Tryz.func300 (by kernel_rfl) rfl rfl rfl ?_
  intro F w hD
  repeat (refine JL.flat ?_)
  refine JL.go 200 ?_
  repeat (refine JL.flat ?_)
  refine JL.go 200 ?_
  refine JL.set 10 (.bool false) rfl (congrArg Value.bool (by simp)) ?_
  repeat (refine JL.flat ?_)
  refine JL.ifF rfl ?_
  try refine JL.skip ?_
  repeat (refine JL.flat ?_)
  refine JL.go 200 ?_
  repeat (refine JL.flat ?_)
  refine JL.block ?_
  refine JL.loop (X := {i : Nat // i ≤ l.length}) ⟨0, by omega⟩ (fun i => [(0, .slice a1 l.length c1), (1, .slice a2 l.length c2), (12, .int .i64 (l.length : Int)), (13, .int .i64 (i.1 : Int))]) (fun _ => [F]) (fun i => l.length - i.1) ?_ ?_ ?_
  ·
    repeat (first | exact Sub.nil | refine Sub.cons rfl ?_)
  · exact (Gives.sound (by repeat (first | exact Gives.nil | (apply Gives.cons; · repeat (first | exact Pick.here | apply Pick.there)))))
  rintro ⟨i, hi⟩
  dsimp only
  repeat (refine JL.flat ?_)
  refine JL.go 200 ?_
  rcases Nat.lt_or_ge i l.length with hlt | hge
  · refine JL.set 14 (.bool true) rfl (congrArg Value.bool (by simp; omega)) ?_
    repeat (refine JL.flat ?_)
    refine JL.ifT rfl ?_
    try refine JL.skip ?_
    repeat (refine JL.flat ?_)
    refine JL.block ?_
    repeat (refine JL.flat ?_)
    refine JL.go 200 ?_
    refine JL.fact (Tells.shape (k := 1) (m := l.length) (a := a1) (xs := bytesV l) (Tells.frame (by repeat (first | exact Pick.here | apply Pick.there)) (fun _ _ => SlIn.mono) (fun h hF => (hD h hF).1)) (by omega)) ?_
    rintro ⟨p1, o1, rfl⟩
    refine JL.fact (Tells.shape (k := 1) (m := l.length) (a := a2) (xs := bytesV l) (Tells.frame (by repeat (first | exact Pick.here | apply Pick.there)) (fun _ _ => SlIn.mono) (fun h hF => (hD h hF).2)) (by omega)) ?_
    rintro ⟨p2, o2, rfl⟩
    repeat (refine JL.flat ?_)
    refine JL.draws (by kernel_rfl) (fun hR => ?_)
    refine Ord.on hR 200 ?_
    refine Ord.idx i hR NP.nop rfl rfl rfl rfl rfl rfl rfl rfl rfl hlt ?_
    refine Ord.load hR NP.nop rfl rfl rfl rfl rfl rfl rfl (Tells.frame (by repeat (first | exact Pick.here | apply Pick.there)) (fun _ _ => CellsAt.mono) (fun h hF => BIn.cell i hlt h (hD h hF).1)) rfl rfl ?_
    refine Ord.on hR 200 ?_
    refine Ord.idx i hR NP.nop rfl rfl rfl rfl rfl rfl rfl rfl rfl hlt ?_
    refine Ord.load hR NP.nop rfl rfl rfl rfl rfl rfl rfl (Tells.frame (by repeat (first | exact Pick.here | apply Pick.there)) (fun _ _ => CellsAt.mono) (fun h hF => BIn.cell i hlt h (hD h hF).2)) rfl rfl ?_
    refine Ord.on hR 200 ?_
    refine JL.set 24 (.bool false) rfl (congrArg Value.bool (by simp)) ?_
    repeat (refine JL.flat ?_)
    refine JL.ifF rfl ?_
    try refine JL.skip ?_
    repeat (refine JL.flat ?_)
    refine JL.nil (At.block_normal (At.then_normal (JL.at ?_)))
    repeat (refine JL.flat ?_)
    refine JL.go 200 ?_
    refine JL.set 13 (.int .i64 ((i + 1 : Nat) : Int)) rfl (congrArg (Value.int .i64) (by rw [show (i : Int) + 1 = ((i + 1 : Nat) : Int) by omega]; exact wrapI (small63 (by omega)))) ?_
    repeat (refine JL.flat ?_)
    refine JL.nil (At.then_normal ?_)
    refine At.again (X := {i : Nat // i ≤ l.length}) (x := ⟨i, hi⟩) ⟨i + 1, by omega⟩ (by show l.length - (i + 1) < l.length - i; omega) (Sub.look ?_) ?_
    ·
      repeat (first | exact Sub.nil | refine Sub.cons rfl ?_)
    · exact (Gives.sound (by repeat (first | exact Gives.nil | (apply Gives.cons; · repeat (first | exact Pick.here | apply Pick.there)))))
  · obtain rfl : i = l.length := by omega
    refine JL.set 14 (.bool false) rfl (congrArg Value.bool (by simp)) ?_
    repeat (refine JL.flat ?_)
    refine JL.ifF rfl ?_
    try refine JL.skip ?_
    repeat (refine JL.flat ?_)
    refine JL.exit ?_
    repeat (first | refine At.then_exit ?_ | refine At.block_pass rfl ?_)
    refine At.block_exit (At.then_normal (JL.at ?_))
    repeat (refine JL.flat ?_)
    refine JL.go 200 ?_
    repeat (refine JL.flat ?_)
    refine JL.ret ?_
    repeat (first | refine At.then_ret ?_ | refine At.block_ret ?_)
    refine At.done1 rfl (()) rfl ?_
    exact (Gives.sound (by repeat (first | exact Gives.nil | (apply Gives.cons; · repeat (first | exact Pick.here | apply Pick.there)))))
end Go.Ent
namespace Go.Ent
open Go Go.Proofs
def recHead (gen place kind : Nat) (part : List UInt8) : List UInt8 := beB gen 4 ++ beB place 4 ++ beB kind 1 ++ part
/-- a sector of a record. -/
def recSec (gen place kind : Nat) (part : List UInt8) : List UInt8 := recHead gen place kind part ++ List.replicate (55 - part.length) 0
theorem recHead_length (gen place kind : Nat) (part : List UInt8) : (recHead gen place kind part).length = 9 + part.length := by simp [recHead, beB_length]; omega
theorem recSec_length {gen place kind : Nat} {part : List UInt8} (h : part.length ≤ 55) : (recSec gen place kind part).length = 64 := by simp [recSec, recHead_length]; omega
theorem over_zeros {l : List UInt8} {n : Nat} (h : l.length ≤ n) : over (bytesV (List.replicate n 0)) 0 (bytesV l) = bytesV (l ++ List.replicate (n - l.length) 0) := by
  unfold over
  rw [List.take_zero, List.nil_append, bytesV_append, bytesV_length, Nat.zero_add, ← bytesV_drop, List.drop_replicate]
theorem sector_ok (p d first size gen used : Nat) (tag : List UInt8) (place kind : Nat) (a : Option Addr) (part : List UInt8) (c : Nat) (hg : gen < 4294967296) (hp : place < 4294967296) (hk : kind < 256) (hl : part.length ≤ 55) :
    Trip Tryz.prog 317 [ptrV p, .int .i64 (place : Int), .int .i64 (kind : Int), .slice a part.length c] (BIn a part) [Lg p d first size gen used tag] (X := Unit)
    (fun _ => .tuple #[sec (recSec gen place kind part), .nilIface]) (fun _ => [Lg p d first size gen used tag]) := by
  refine Trip.start (n := 43) Tryz.func317 (by kernel_rfl) rfl rfl rfl ?_
  intro F w hD
  repeat (refine JL.flat ?_)
  refine JL.go 0 ?_
  refine Seq.eff rfl rfl (Ef.alloc tab_zero rfl rfl) ?_
  intro b8
  refine Seq.on 200 ?_
  repeat (refine JL.flat ?_)
  refine JL.go 0 ?_
  refine Seq.eff rfl rfl (Ef.alloc tab_zero rfl rfl) ?_
  intro b10
  refine Seq.on 200 ?_
  repeat (refine JL.flat ?_)
  refine JL.go 200 ?_
  refine Seq.yield rfl rfl (Yl.build rfl rfl rfl rfl rfl) ?_
  refine Seq.eff rfl rfl (Ef.box rfl rfl) ?_
  intro pw
  refine Seq.on 200 ?_
  refine JL.to [Wr pw .nilIface [], pt b10 (.cells (bytesV (List.replicate 64 0)).toArray 298 (0, 0)), pt b8 (.cells (bytesV (List.replicate 64 0)).toArray 298 (0, 0)), Lg p d first size gen used tag, F] (fun h hs => star_mono (fun h hx => Wr.new h hx) (fun _ h => h) hs) ?_
  repeat (refine JL.flat ?_)
  refine JL.go 200 ?_
  apply Seq.loadLit rfl rfl rfl rfl rfl
  · repeat (first | exact Pick.here | apply Pick.there)
  · rfl
  · rfl
  refine Seq.on 1 ?_
  refine Seq.set 22 (.int .u64 (gen : Int)) rfl (congrArg (Value.int .u64) (wrap_int (by omega) (by omega))) ?_
  refine Seq.on 200 ?_
  apply Seq.call (Num_4 pw .nilIface [] gen (by simpa using hg) (by simp)) rfl rfl rfl rfl rfl rfl
  ·
    repeat (first | exact Picks.nil | (apply Picks.cons; · repeat (first | exact Pick.here | apply Pick.there)))
  · exact Tells.none
  intro _
  refine Seq.on 2 ?_
  refine Seq.set 25 (.int .u64 (place : Int)) rfl (congrArg (Value.int .u64) (wrap_int (by omega) (by omega))) ?_
  refine Seq.on 200 ?_
  apply Seq.call (Num_4 pw .nilIface ([] ++ beB gen 4) place (by simpa using hp) (by simp [beB_length])) rfl rfl rfl rfl rfl rfl
  ·
    repeat (first | exact Picks.nil | (apply Picks.cons; · repeat (first | exact Pick.here | apply Pick.there)))
  · exact Tells.none
  intro _
  refine Seq.on 2 ?_
  refine Seq.set 28 (.int .u64 (kind : Int)) rfl (congrArg (Value.int .u64) (wrap_int (by omega) (by omega))) ?_
  refine Seq.on 200 ?_
  apply Seq.call (Num_1 pw .nilIface ([] ++ beB gen 4 ++ beB place 4) kind (by simpa using hk) (by simp [beB_length])) rfl rfl rfl rfl rfl rfl
  ·
    repeat (first | exact Picks.nil | (apply Picks.cons; · repeat (first | exact Pick.here | apply Pick.there)))
  · exact Tells.none
  intro _
  refine Seq.on 200 ?_
  apply Seq.call (Raw_ok pw .nilIface ([] ++ beB gen 4 ++ beB place 4 ++ beB kind 1) part a c (by simp [beB_length]; omega)) rfl rfl rfl rfl rfl rfl
  ·
    repeat (first | exact Picks.nil | (apply Picks.cons; · repeat (first | exact Pick.here | apply Pick.there)))
  · exact Tells.frame (by repeat (first | exact Pick.here | apply Pick.there)) (fun _ _ => BIn.mono) hD
  intro _
  refine Seq.on 200 ?_
  have hrl := recHead_length gen place kind part
  have hre : [] ++ beB gen 4 ++ beB place 4 ++ beB kind 1 ++ part = recHead gen place kind part := rfl
  have hrs : recSec gen place kind part = recHead gen place kind part ++ List.replicate (64 - (recHead gen place kind part).length) 0 := by
    rw [recHead_length]; unfold recSec; congr 2; omega
  have hsl : (recSec gen place kind part).length = 64 := recSec_length hl
  rw [hre]
  generalize recSec gen place kind part = R at hrs hsl ⊢
  generalize recHead gen place kind part = H at hrl hrs ⊢
  apply Seq.call (Done_ok pw H (by omega)) rfl rfl rfl rfl rfl rfl
  ·
    repeat (first | exact Picks.nil | (apply Picks.cons; · repeat (first | exact Pick.here | apply Pick.there)))
  · exact Tells.none
  intro r
  refine Seq.on 200 ?_
  repeat (refine JL.flat ?_)
  refine JL.go 200 ?_
  repeat (refine JL.flat ?_)
  refine JL.ifF rfl ?_
  try refine JL.skip ?_
  repeat (refine JL.flat ?_)
  refine JL.go 200 ?_
  refine Seq.sliceArrB 0 64 rfl rfl rfl rfl rfl rfl rfl rfl rfl rfl rfl (by omega) (by omega) ?_
  refine Seq.on 200 ?_
  refine Seq.eff rfl rfl (Ef.copyB (c := bytesV (List.replicate 64 0)) (ys := H) rfl rfl rfl rfl rfl (by repeat (first | exact Pick.here | apply Pick.there)) (Tells.own (by repeat (first | exact Pick.here | apply Pick.there))) (by omega) (by rw [bytesV_length]; simp; omega)) ?_
  intro _
  rw [over_zeros (by omega), ← hrs]
  refine Seq.on 200 ?_
  repeat (refine JL.flat ?_)
  refine JL.go 200 ?_
  refine Seq.loadAll rfl rfl rfl rfl rfl rfl (by repeat (first | exact Pick.here | apply Pick.there)) (by simp [bytesV, hsl]) ?_
  refine Seq.storeAll rfl rfl rfl rfl rfl rfl (by repeat (first | exact Pick.here | apply Pick.there)) (by simp [Value.cells, bytesV, hsl]) (Ones_bytesV _) rfl ?_
  refine Seq.on 200 ?_
  refine JL.ret (At.doneC2 rfl () rfl rfl (Tells.all (by repeat (first | exact Pick.here | apply Pick.there))) (by simp [Value.cells, bytesV, hsl]) rfl rfl rfl ?_)
  exact (Gives.sound (by repeat (first | exact Gives.nil | (apply Gives.cons; · repeat (first | exact Pick.here | apply Pick.there)))))
/-- sectors behind so many of a frame's parts. -/
def wrL (L : Int → List UInt8) (first used gen : Nat) (l : List UInt8) : Nat → Int → List UInt8
  | 0 => L
  | i + 1 => updL (wrL L first used gen l i) ((first + (used + i) : Nat) : Int) (recSec gen (used + i) (if i = 0 then 1 else 2) (chunkAt l 55 i))
set_option maxHeartbeats 800000 in
theorem write_ok (p d k : Nat) (L : Int → List UInt8) (m : Nat) (first size gen used : Nat) (tag : List UInt8) (a : Option Addr) (l : List UInt8) (c : Nat) (hlc : l.length ≤ c) (hl : l.length ≤ 100000) (hfit : used + chunks l 55 ≤ size) (h2 : first + size ≤ k) (hk : k ≤ 16384) (hm : m ≤ 1000) (hg : gen < 4294967296) :
    Trip Tryz.prog 282 [ptrV p, .slice a l.length c] (BIn a l) [Lg p d first size gen used tag, Dv d k L m] (X := Unit)
    (fun _ => .nilIface) (fun _ => [Lg p d first size gen used tag, Dv d k (wrL L first used gen l (chunks l 55)) (m + chunks l 55)]) := by
  refine Trip.startM (n := 46) Tryz.func282 (by kernel_rfl) rfl rfl rfl ?_
  intro F w hD
  repeat (refine JL.flat ?_)
  refine JL.go 0 ?_
  refine Seq.eff rfl rfl (Ef.box rfl rfl) ?_
  intro b2
  refine Seq.eff rfl rfl (Ef.alloc tab_zero rfl rfl) ?_
  intro b4
  refine Seq.on 200 ?_
  repeat (refine JL.flat ?_)
  refine JL.go 200 ?_
  apply Seq.loadLit rfl rfl rfl rfl rfl
  · repeat (first | exact Pick.here | apply Pick.there)
  · rfl
  · rfl
  refine Seq.on 200 ?_
  apply Seq.loadLit rfl rfl rfl rfl rfl
  · repeat (first | exact Pick.here | apply Pick.there)
  · rfl
  · rfl
  refine Seq.on 200 ?_
  refine Seq.eff rfl rfl (Ef.alloc tab_zero rfl rfl) ?_
  intro b5
  refine Seq.eff rfl rfl (Ef.alloc tab_zero rfl rfl) ?_
  intro b6
  apply Seq.storeLit rfl rfl rfl rfl rfl rfl
  · repeat (first | exact Pick.here | apply Pick.there)
  · rfl
  · rfl
  · rfl
  apply Seq.storeLit rfl rfl rfl rfl rfl rfl
  · repeat (first | exact Pick.here | apply Pick.there)
  · rfl
  · rfl
  · rfl
  refine Seq.on 200 ?_
  repeat (refine JL.flat ?_)
  refine JL.go 200 ?_
  apply Seq.call (Chunk_ok a l.length c 55 (by omega)) rfl rfl rfl rfl rfl rfl
  ·
    repeat (first | exact Picks.nil | (apply Picks.cons; · repeat (first | exact Pick.here | apply Pick.there)))
  · exact Tells.none
  intro rc
  refine Seq.on 200 ?_
  repeat (refine JL.flat ?_)
  refine JL.block ?_
  refine JL.of (J.rangeFunc (cap := [ptrV rc.1, ptrV rc.2]) rfl rfl (Chunk1_iter rc.1 rc.2 a l c 55 (by omega) hlc (by omega) (by omega)) rfl (fun _ _ => rfl)
    (fun i => [pt b5 (.cells [Value.int .i64 ((used + i : Nat) : Int)].toArray 3 (0, 0)), pt b6 (.cells [Value.int .i64 (if i = 0 then 1 else 2)].toArray 3 (0, 0)), pt b2 (.cells [ptrV p].toArray 239 (0, 0)), pt b4 (.cells [Value.nilIface].toArray 43 (0, 0)), Lg p d first size gen used tag, Dv d k (wrL L first used gen l i) (m + i), F]) [fun _ => False] none (fun _ h s => ?_) ?_
    (fun i y => [(2, ptrV b2), (5, ptrV b5), (6, ptrV b6), (7, .slice y (chunkAt l 55 i).length (chunkAt l 55 i).length)]) ?_ ?_ ?_ ?_)
  · obtain ⟨_, _, _, _, _, h, _⟩ := s
    exact h
  · exact (Gives.sound (by repeat (first | exact Gives.nil | (apply Gives.cons; · repeat (first | exact Pick.here | apply Pick.there)))))
  · intro i y l' G' w1
    refine JL.start ?_
    repeat (refine JL.flat ?_)
    refine JL.go 200 ?_
    refine JL.nil (At.then_normal ⟨fun a w ha hw => ⟨ha.weaken (Sub.look ?_), hw⟩⟩)
    repeat (first | exact Sub.nil | refine Sub.cons rfl ?_)
  · intro i hi y l' r' F' w1
    have hcl := chunkAt_length l 55 i
    have hw : wrL L first used gen l (i + 1) = updL (wrL L first used gen l i) ((first + (used + i) : Nat) : Int) (recSec gen (used + i) (if i = 0 then 1 else 2) (chunkAt l 55 i)) := rfl
    rw [hw]
    generalize wrL L first used gen l i = L1
    refine JL.start ?_
    refine JL.know (p := ∀ p, BIn a l p → BIn y (chunkAt l 55 i) p) (by repeat (first | exact Pick.here | apply Pick.there)) (fun hy => ?_)
    generalize chunkAt l 55 i = C at hcl hy ⊢
    have hsl : (recSec gen (used + i) (if i = 0 then 1 else 2) C).length = 64 := recSec_length (by omega)
    repeat (refine JL.flat ?_)
    refine JL.block ?_
    repeat (refine JL.flat ?_)
    refine JL.go 200 ?_
    apply Seq.loadLit rfl rfl rfl rfl rfl
    · repeat (first | exact Pick.here | apply Pick.there)
    · rfl
    · rfl
    refine Seq.on 200 ?_
    apply Seq.loadLit rfl rfl rfl rfl rfl
    · repeat (first | exact Pick.here | apply Pick.there)
    · rfl
    · rfl
    refine Seq.on 200 ?_
    apply Seq.loadLit rfl rfl rfl rfl rfl
    · repeat (first | exact Pick.here | apply Pick.there)
    · rfl
    · rfl
    refine Seq.on 200 ?_
    refine Seq.set 21 (.int .i64 (((if i = 0 then 1 else 2 : Nat)) : Int)) rfl (congrArg (Value.int .i64) (by split <;> rfl)) ?_
    have hsec := sector_ok p d first size gen used tag (used + i) (if i = 0 then 1 else 2) y C C.length hg (by omega) (by split <;> omega) (by omega)
    generalize recSec gen (used + i) (if i = 0 then 1 else 2) C = R at hsl hsec ⊢
    apply Seq.call (hsec) rfl rfl rfl rfl rfl rfl
    ·
      repeat (first | exact Picks.nil | (apply Picks.cons; · repeat (first | exact Pick.here | apply Pick.there)))
    · exact Tells.frame (by repeat (first | exact Pick.here | apply Pick.there)) (fun _ _ => BIn.mono) (fun h hF => hy h (hD h hF))
    intro _
    refine Seq.on 200 ?_
    refine Seq.eff rfl rfl (Ef.alloc tab_zero rfl rfl) ?_
    intro b8
    refine Seq.storeAll rfl rfl rfl rfl rfl rfl (by repeat (first | exact Pick.here | apply Pick.there)) (by simp [sec, Value.cells, bytesV, hsl]) (Ones_bytesV _) rfl ?_
    refine Seq.on 200 ?_
    repeat (refine JL.flat ?_)
    refine JL.go 200 ?_
    repeat (refine JL.flat ?_)
    refine JL.ifF rfl ?_
    try refine JL.skip ?_
    repeat (refine JL.flat ?_)
    refine JL.draws (by kernel_rfl) (fun hR => ?_)
    refine Ord.on hR 200 ?_
    apply Ord.loadLit hR NP.nop rfl rfl rfl rfl rfl rfl rfl
    · repeat (first | exact Pick.here | apply Pick.there)
    · rfl
    · rfl
    refine Ord.on hR 200 ?_
    apply Ord.loadLit hR NP.nop rfl rfl rfl rfl rfl rfl rfl
    · repeat (first | exact Pick.here | apply Pick.there)
    · rfl
    · rfl
    refine Ord.on hR 200 ?_
    apply Ord.loadLit hR NP.nop rfl rfl rfl rfl rfl rfl rfl
    · repeat (first | exact Pick.here | apply Pick.there)
    · rfl
    · rfl
    refine Ord.on hR 200 ?_
    apply Ord.loadLit hR NP.nop rfl rfl rfl rfl rfl rfl rfl
    · repeat (first | exact Pick.here | apply Pick.there)
    · rfl
    · rfl
    refine Ord.on hR 200 ?_
    apply Ord.loadLit hR NP.nop rfl rfl rfl rfl rfl rfl rfl
    · repeat (first | exact Pick.here | apply Pick.there)
    · rfl
    · rfl
    refine Ord.on hR 200 ?_
    refine Ord.set 38 (.int .i64 ((first + (used + i) : Nat) : Int)) rfl (congrArg (Value.int .i64) (by rw [← Int.natCast_add]; exact wrapI (small63 (by omega)))) ?_
    refine Ord.loadAll hR NP.nop rfl rfl rfl rfl rfl rfl rfl rfl (by repeat (first | exact Pick.here | apply Pick.there)) (by simp [sec, Value.cells, bytesV, hsl]) ?_
    apply Ord.call (WriteV d k L1 (m + i) ((first + (used + i) : Nat) : Int) R (by omega) (by omega) hsl (by omega)) hR rfl rfl rfl rfl rfl rfl rfl rfl
    ·
      repeat (first | exact Picks.nil | (apply Picks.cons; · repeat (first | exact Pick.here | apply Pick.there)))
    · exact Tells.none
    · intro _
      repeat (first | exact Keep.nil | (refine Keep.waits (by kernel_rfl) ?_))
    intro _
    refine Ord.on hR 200 ?_
    repeat (refine JL.flat ?_)
    refine JL.go 200 ?_
    repeat (refine JL.flat ?_)
    refine JL.ifF rfl ?_
    try refine JL.skip ?_
    repeat (refine JL.flat ?_)
    refine JL.go 200 ?_
    apply Seq.loadLit rfl rfl rfl rfl rfl
    · repeat (first | exact Pick.here | apply Pick.there)
    · rfl
    · rfl
    refine Seq.on 1 ?_
    refine Seq.set 45 (.int .i64 ((used + (i + 1) : Nat) : Int)) rfl (congrArg (Value.int .i64) (by rw [show ((used + i : Nat) : Int) + 1 = ((used + (i + 1) : Nat) : Int) by omega]; exact wrapI (small63 (by omega)))) ?_
    apply Seq.storeLit rfl rfl rfl rfl rfl rfl
    · repeat (first | exact Pick.here | apply Pick.there)
    · rfl
    · rfl
    · rfl
    apply Seq.storeLit rfl rfl rfl rfl rfl rfl
    · repeat (first | exact Pick.here | apply Pick.there)
    · rfl
    · rfl
    · rfl
    refine Seq.on 200 ?_
    refine JL.nil (At.block_normal (At.then_normal ⟨fun a w ha hw => ⟨?_, hw.same⟩⟩))
    rw [if_neg (by omega)]
    refine (Gives.sound (by repeat (first | exact Gives.nil | (apply Gives.cons; · repeat (first | exact Pick.here | apply Pick.there))))) _ hw.sep
  · intro q l' k
    refine At.then_normal (At.block_normal (At.then_normal (JL.at' rfl ?_)))
    repeat (refine JL.flat ?_)
    refine JL.go 0 ?_
    apply Seq.storeLit rfl rfl rfl rfl rfl rfl
    · repeat (first | exact Pick.here | apply Pick.there)
    · rfl
    · rfl
    · rfl
    refine Seq.on 200 ?_
    refine JL.ret (At.doneMC rfl () (by repeat (first | exact Pick.here | apply Pick.there)) rfl rfl (Tells.all (by repeat (first | exact Pick.here | apply Pick.there))) rfl rfl rfl ?_)
    exact (Gives.sound (by repeat (first | exact Gives.nil | (apply Gives.cons; · repeat (first | exact Pick.here | apply Pick.there)))))
  · intro r' l' k c' hc'
    cases hc'
end Go.Ent
namespace Go.Ent
open Go Go.Proofs
/-- what a sector has of a frame: its generation, its place, its kind. -/
def partOf (s : List UInt8) (gen place kind : Nat) : Option (List UInt8) :=
  if numB (s.take 4) = gen then if numB ((s.drop 4).take 4) = place then if numB ((s.drop 8).take 1) = kind then some ((s.drop 9).take 55) else none else none else none
def partR (L : Int → List UInt8) (first size gen place kind : Nat) : Option (List UInt8) :=
  if place < size then partOf (L ((first + place : Nat) : Int)) gen place kind else none
def partV (x : Option (List UInt8)) (r : Option Addr × Nat) : Value := match x with
  | some ys => .tuple #[.slice r.1 ys.length r.2, .bool true]
  | none => .tuple #[.slice none 0 0, .bool false]
def partA (x : Option (List UInt8)) (r : Option Addr × Nat) : List Assn := match x with
  | some ys => [BOwn r ys]
  | none => []
set_option maxHeartbeats 800000 in
theorem part_ok (p d k : Nat) (L : Int → List UInt8) (m first size gen used : Nat) (tag : List UInt8) (place kind : Nat) (h2 : first + size ≤ k) (hk : k ≤ 16384) (hp : place < 4294967296) (hkd : kind < 256) (hg : gen < 4294967296) :
    Trip Tryz.prog 299 [ptrV p, .int .i64 (place : Int), .int .i64 (kind : Int)] none_ [Lg p d first size gen used tag, Dv d k L m] (X := Option Addr × Nat)
    (fun r => partV (partR L first size gen place kind) r) (fun r => partA (partR L first size gen place kind) r ++ [Lg p d first size gen used tag, Dv d k L m]) := by
  refine Trip.start (n := 59) Tryz.func299 (by kernel_rfl) rfl rfl rfl ?_
  intro F w hD
  repeat (refine JL.flat ?_)
  refine JL.go 200 ?_
  repeat (refine JL.flat ?_)
  refine JL.go 200 ?_
  apply Seq.loadLit rfl rfl rfl rfl rfl
  · repeat (first | exact Pick.here | apply Pick.there)
  · rfl
  · rfl
  refine Seq.on 200 ?_
  rcases Nat.lt_or_ge place size with hlt | hge
  · refine JL.set 16 (.bool false) rfl (congrArg Value.bool (by simp; omega)) ?_
    have hpr : partR L first size gen place kind = partOf (L ((first + place : Nat) : Int)) gen place kind := by simp [partR, hlt]
    rw [hpr]
    repeat (refine JL.flat ?_)
    refine JL.ifF rfl ?_
    try refine JL.skip ?_
    refine JL.fact (Tells.pick (A := Dv d k L m) (by repeat (first | exact Pick.here | apply Pick.there)) (D := fun _ => ∀ n, (L n).length = 64) (fun _ _ _ h => h) (fun h hx => Dv.sees h hx)) (fun hs64 => ?_)
    have h64 := hs64 ((first + place : Nat) : Int)
    have hread := ReadV d k L m ((first + place : Nat) : Int) (by omega) (by omega)
    generalize L ((first + place : Nat) : Int) = R at h64 hread ⊢
    repeat (refine JL.flat ?_)
    refine JL.cut (X := Nat) (fun b8 => [(0, ptrV p), (1, .int .i64 (place : Int)), (2, .int .i64 (kind : Int)), (8, ptrV b8), (9, .nilIface)])
      (fun b8 => [pt b8 (.cells (bytesV R).toArray 298 (0, 0)), Lg p d first size gen used tag, Dv d k L m, F]) ?_ ?_
    ·
      repeat (refine JL.flat ?_)
      refine JL.draw ([0, 1, 2, 3, 4, 5, 6, 7, 8, 9, 99, 0, 1, 2, 3, 4, 5, 6, 7, 8, 9]) (by kernel_rfl) (fun hR => ?_)
      refine Ord.on hR 200 ?_
      apply Ord.loadLit hR NP.nop rfl rfl rfl rfl rfl rfl rfl
      · repeat (first | exact Pick.here | apply Pick.there)
      · rfl
      · rfl
      refine Ord.on hR 200 ?_
      apply Ord.loadLit hR NP.nop rfl rfl rfl rfl rfl rfl rfl
      · repeat (first | exact Pick.here | apply Pick.there)
      · rfl
      · rfl
      refine Ord.on hR 200 ?_
      refine Ord.set 27 (.int .i64 ((first + place : Nat) : Int)) rfl (congrArg (Value.int .i64) (by rw [← Int.natCast_add]; exact wrapI (small63 (by omega)))) ?_
      refine Ord.fork (L := [10, 14]) (k := 6) hR rfl (by kernel_rfl) rfl rfl ?_
      refine Forks.act (ord := [11, 12, 13, 14, 15, 16]) rfl rfl rfl rfl (Ef.call rfl rfl rfl rfl hread (Picks.cons (by repeat (first | exact Pick.here | apply Pick.there)) Picks.nil) Tells.none) (fun _ => ?_) (by kernel_rfl) (by kernel_rfl) (fun _ => ?_) ?_
      · repeat (first | exact Keep.nil | (refine Keep.load rfl rfl rfl (by repeat (first | exact Pick.here | apply Pick.there)) (by rfl) (by rfl) ?_) | (refine Keep.waits (by kernel_rfl) ?_))
      ·
        refine Ord.on hR 200 ?_
        refine Ord.eff hR rfl rfl rfl rfl (Ef.alloc tab_zero rfl rfl) (fun b8 => ?_) (fun b8 => ?_)
        · repeat (first | exact Keep.nil | (refine Keep.load rfl rfl rfl (by repeat (first | exact Pick.here | apply Pick.there)) (by rfl) (by rfl) ?_) | (refine Keep.waits (by kernel_rfl) ?_))
        refine Ord.storeAll hR rfl rfl rfl rfl rfl rfl rfl rfl (by repeat (first | exact Pick.here | apply Pick.there)) (by simp [sec, Value.cells, bytesV, h64]) (Ones_bytesV _) rfl ?_ ?_
        · repeat (first | exact Keep.nil | (refine Keep.waits (by kernel_rfl) ?_))
        refine Ord.on hR 200 ?_
        refine JL.nil (At.then_normal (At.mid b8 ?_ ?_))
        ·
          repeat (first | exact Sub.nil | refine Sub.cons rfl ?_)
        · exact (Gives.sound (by repeat (first | exact Gives.nil | (apply Gives.cons; · repeat (first | exact Pick.here | apply Pick.there)))))
      refine Forks.act (ord := [10, 11, 12, 13, 15, 16]) rfl rfl rfl rfl (Ef.alloc tab_zero rfl rfl) (fun b8 => ?_) (by kernel_rfl) (by kernel_rfl) (fun b8 => ?_) Forks.nil
      · repeat (first | exact Keep.nil | (refine Keep.load rfl rfl rfl (by repeat (first | exact Pick.here | apply Pick.there)) (by rfl) (by rfl) ?_) | (refine Keep.waits (by kernel_rfl) ?_))
      ·
        apply Ord.call (hread) hR rfl rfl rfl rfl rfl rfl rfl rfl
        ·
          repeat (first | exact Picks.nil | (apply Picks.cons; · repeat (first | exact Pick.here | apply Pick.there)))
        · exact Tells.none
        · intro _
          repeat (first | exact Keep.nil | (refine Keep.load rfl rfl rfl (by repeat (first | exact Pick.here | apply Pick.there)) (by rfl) (by rfl) ?_) | (refine Keep.waits (by kernel_rfl) ?_))
        intro _
        refine Ord.on hR 200 ?_
        refine Ord.storeAll hR rfl rfl rfl rfl rfl rfl rfl rfl (by repeat (first | exact Pick.here | apply Pick.there)) (by simp [sec, Value.cells, bytesV, h64]) (Ones_bytesV _) rfl ?_ ?_
        · repeat (first | exact Keep.nil | (refine Keep.waits (by kernel_rfl) ?_))
        refine Ord.on hR 200 ?_
        refine JL.nil (At.then_normal (At.mid b8 ?_ ?_))
        ·
          repeat (first | exact Sub.nil | refine Sub.cons rfl ?_)
        · exact (Gives.sound (by repeat (first | exact Gives.nil | (apply Gives.cons; · repeat (first | exact Pick.here | apply Pick.there)))))
    intro b8
    repeat (refine JL.flat ?_)
    refine JL.go 200 ?_
    repeat (refine JL.flat ?_)
    refine JL.ifF rfl ?_
    try refine JL.skip ?_
    repeat (refine JL.flat ?_)
    refine JL.go 200 ?_
    refine Seq.sliceArrB 0 64 rfl rfl rfl rfl rfl rfl rfl rfl rfl rfl rfl (by omega) (by omega) ?_
    refine Seq.set 33 (.slice (some ⟨b8, 0, none⟩) R.length 64) rfl (by rw [h64]) ?_
    refine Seq.on 200 ?_
    apply Seq.call (From_ok (some ⟨b8, 0, none⟩) R 64 (by omega)) rfl rfl rfl rfl rfl rfl
    ·
      repeat (first | exact Picks.nil | (apply Picks.cons; · repeat (first | exact Pick.here | apply Pick.there)))
    · exact Tells.pick (A := pt b8 (.cells (bytesV R).toArray 298 (0, 0))) (by repeat (first | exact Pick.here | apply Pick.there)) (fun _ _ => BIn.mono) (fun h hx => by
        have := BIn.of_pt (lo := 0) (k := 64) (by omega) h hx
        rw [List.drop_zero, List.take_of_length_le (by omega)] at this
        exact this)
    intro pr
    refine Seq.on 200 ?_
    have hgw : IntKind.u64.wrap (gen : Int) = (gen : Int) := wrap_int (by omega) (by omega)
    have hpw : IntKind.u64.wrap (place : Int) = (place : Int) := wrap_int (by omega) (by omega)
    have hkw : IntKind.u64.wrap (kind : Int) = (kind : Int) := wrap_int (by omega) (by omega)
    repeat (refine JL.flat ?_)
    refine JL.draw ([0, 2, 3, 4, 5, 6, 1, 7, 8, 9, 11, 12, 10, 13, 14, 15, 16, 18, 19, 17, 20, 21]) (by kernel_rfl) (fun hR => ?_)
    refine Ord.on hR 200 ?_
    apply Ord.loadLit hR NP.nop rfl rfl rfl rfl rfl rfl rfl
    · repeat (first | exact Pick.here | apply Pick.there)
    · rfl
    · rfl
    refine Ord.on hR 200 ?_
    apply Ord.call (RNum_4 pr R (by omega) (by omega)) hR rfl rfl rfl rfl rfl rfl rfl rfl
    ·
      repeat (first | exact Picks.nil | (apply Picks.cons; · repeat (first | exact Pick.here | apply Pick.there)))
    · exact Tells.none
    · intro _
      repeat (first | exact Keep.nil | (refine Keep.load rfl rfl rfl (by repeat (first | exact Pick.here | apply Pick.there)) (by rfl) (by rfl) ?_) | (refine Keep.waits (by kernel_rfl) ?_))
    intro _
    refine Ord.on hR 2 ?_
    by_cases h1 : numB (R.take 4) = gen
    · refine Ord.set 43 (.bool false) rfl (congrArg Value.bool (by rw [hgw]; simp [bne, int_beq, h1])) ?_
      refine Ord.on hR 200 ?_
      apply Ord.call (RNum_4 pr (R.drop 4) (by simp; omega) (by simp; omega)) hR rfl rfl rfl rfl rfl rfl rfl rfl
      · repeat (first | exact Picks.nil | (apply Picks.cons; · repeat (first | exact Pick.here | apply Pick.there)))
      · exact Tells.none
      · intro _
        repeat (first | exact Keep.nil | (refine Keep.load rfl rfl rfl (by repeat (first | exact Pick.here | apply Pick.there)) (by rfl) (by rfl) ?_) | (refine Keep.waits (by kernel_rfl) ?_))
      intro _
      refine Ord.on hR 3 ?_
      by_cases h2 : numB ((R.drop 4).take 4) = place
      · refine Ord.set 50 (.bool false) rfl (congrArg Value.bool (by rw [hpw]; simp [bne, int_beq, h2])) ?_
        refine Ord.on hR 200 ?_
        apply Ord.call (RNum_1 pr ((R.drop 4).drop 4) (by simp; omega) (by simp; omega)) hR rfl rfl rfl rfl rfl rfl rfl rfl
        · repeat (first | exact Picks.nil | (apply Picks.cons; · repeat (first | exact Pick.here | apply Pick.there)))
        · exact Tells.none
        · intro _
          repeat (first | exact Keep.nil | (refine Keep.load rfl rfl rfl (by repeat (first | exact Pick.here | apply Pick.there)) (by rfl) (by rfl) ?_) | (refine Keep.waits (by kernel_rfl) ?_))
        intro _
        refine Ord.on hR 200 ?_
        have hd8 : (R.drop 4).drop 4 = R.drop 8 := by rw [List.drop_drop]
        have hd9 : (R.drop 8).drop 1 = R.drop 9 := by rw [List.drop_drop]
        rw [hd8, hd9]
        by_cases h3 : numB ((R.drop 8).take 1) = kind
        · refine JL.set 56 (.bool false) rfl (congrArg Value.bool (by rw [hkw]; simp [bne, int_beq, h3])) ?_
          have hpo : partOf R gen place kind = some ((R.drop 9).take 55) := by simp [partOf, h1, h2, h3]
          rw [hpo]
          repeat (refine JL.flat ?_)
          refine JL.ifF rfl ?_
          try refine JL.skip ?_
          repeat (refine JL.flat ?_)
          refine JL.go 200 ?_
          apply Seq.call (RRaw_ok pr (R.drop 9) 55 (by omega) (by simp; omega) (by simp; omega)) rfl rfl rfl rfl rfl rfl
          · repeat (first | exact Picks.nil | (apply Picks.cons; · repeat (first | exact Pick.here | apply Pick.there)))
          · exact Tells.none
          intro r
          refine Seq.on 200 ?_
          repeat (refine JL.flat ?_)
          refine JL.ret ?_
          repeat (first | refine At.then_ret ?_ | refine At.block_ret ?_)
          refine At.done2 rfl (r) rfl rfl rfl ?_
          exact (Gives.sound (by repeat (first | exact Gives.nil | (apply Gives.cons; · repeat (first | exact Pick.here | apply Pick.there)))))
        · refine JL.set 56 (.bool true) rfl (congrArg Value.bool (by rw [hkw]; simp [bne, int_beq, h3])) ?_
          have hpo : partOf R gen place kind = none := by simp [partOf, h1, h2, h3]
          rw [hpo]
          repeat (refine JL.flat ?_)
          refine JL.ifT rfl ?_
          try refine JL.skip ?_
          repeat (refine JL.flat ?_)
          refine JL.go 200 ?_
          repeat (refine JL.flat ?_)
          refine JL.ret ?_
          repeat (first | refine At.then_ret ?_ | refine At.block_ret ?_)
          refine At.done2 rfl ((none, 0)) rfl rfl rfl ?_
          exact (Gives.sound (by repeat (first | exact Gives.nil | (apply Gives.cons; · repeat (first | exact Pick.here | apply Pick.there)))))
      · refine Ord.set 50 (.bool true) rfl (congrArg Value.bool (by rw [hpw]; simp [bne, int_beq, h2])) ?_
        have hpo : partOf R gen place kind = none := by simp [partOf, h1, h2]
        rw [hpo]
        refine Ord.on hR 200 ?_
        refine Ord.skip_eff hR rfl rfl rfl rfl ?_ ?_
        · repeat (first | exact Keep.nil | (refine Keep.load rfl rfl rfl (by repeat (first | exact Pick.here | apply Pick.there)) (by rfl) (by rfl) ?_) | (refine Keep.waits (by kernel_rfl) ?_))
        refine Ord.on hR 200 ?_
        repeat (refine JL.flat ?_)
        refine JL.ifT rfl ?_
        try refine JL.skip ?_
        repeat (refine JL.flat ?_)
        refine JL.go 200 ?_
        repeat (refine JL.flat ?_)
        refine JL.ret ?_
        repeat (first | refine At.then_ret ?_ | refine At.block_ret ?_)
        refine At.done2 rfl ((none, 0)) rfl rfl rfl ?_
        exact (Gives.sound (by repeat (first | exact Gives.nil | (apply Gives.cons; · repeat (first | exact Pick.here | apply Pick.there)))))
    · refine Ord.set 43 (.bool true) rfl (congrArg Value.bool (by rw [hgw]; simp [bne, int_beq, h1])) ?_
      have hpo : partOf R gen place kind = none := by simp [partOf, h1]
      rw [hpo]
      refine Ord.on hR 200 ?_
      refine Ord.skip_eff hR rfl rfl rfl rfl ?_ ?_
      · repeat (first | exact Keep.nil | (refine Keep.load rfl rfl rfl (by repeat (first | exact Pick.here | apply Pick.there)) (by rfl) (by rfl) ?_) | (refine Keep.waits (by kernel_rfl) ?_))
      refine Ord.on hR 200 ?_
      refine Ord.skip_eff hR rfl rfl rfl rfl ?_ ?_
      · repeat (first | exact Keep.nil | (refine Keep.load rfl rfl rfl (by repeat (first | exact Pick.here | apply Pick.there)) (by rfl) (by rfl) ?_) | (refine Keep.waits (by kernel_rfl) ?_))
      refine Ord.on hR 200 ?_
      repeat (refine JL.flat ?_)
      refine JL.ifT rfl ?_
      try refine JL.skip ?_
      repeat (refine JL.flat ?_)
      refine JL.go 200 ?_
      repeat (refine JL.flat ?_)
      refine JL.ret ?_
      repeat (first | refine At.then_ret ?_ | refine At.block_ret ?_)
      refine At.done2 rfl ((none, 0)) rfl rfl rfl ?_
      exact (Gives.sound (by repeat (first | exact Gives.nil | (apply Gives.cons; · repeat (first | exact Pick.here | apply Pick.there)))))
  · have hpr : partR L first size gen place kind = none := by simp [partR]; omega
    rw [hpr]
    refine JL.set 16 (.bool true) rfl (congrArg Value.bool (by simp; omega)) ?_
    repeat (refine JL.flat ?_)
    refine JL.ifT rfl ?_
    try refine JL.skip ?_
    repeat (refine JL.flat ?_)
    refine JL.go 200 ?_
    repeat (refine JL.flat ?_)
    refine JL.ret ?_
    repeat (first | refine At.then_ret ?_ | refine At.block_ret ?_)
    refine At.done2 rfl ((none, 0)) rfl rfl rfl ?_
    exact (Gives.sound (by repeat (first | exact Gives.nil | (apply Gives.cons; · repeat (first | exact Pick.here | apply Pick.there)))))
end Go.Ent
namespace Go.Ent
open Go Go.Proofs
theorem numB_beB : ∀ (k n : Nat), n < 256 ^ k → numB (beB n k) = n
  | 0, n, h => by simp at h; subst h; rfl
  | k + 1, n, h => by
    have aux : ∀ (l : List UInt8) (x : Nat), l.foldl (fun n (b : UInt8) => n * 256 + b.toNat) x = x * 256 ^ l.length + numB l := by
      intro l
      induction l with
      | nil => intro x; simp [numB]
      | cons b l ih =>
        intro x
        have e : numB (b :: l) = b.toNat * 256 ^ l.length + numB l := by
          have := ih (0 * 256 + b.toNat)
          simpa [numB] using this
        rw [List.foldl_cons, ih, e, List.length_cons, Nat.pow_succ, Nat.add_mul, Nat.mul_assoc, Nat.mul_comm 256, Nat.add_assoc]
    have hb : (byteAt n k).toNat = n / 256 ^ k := by
      rw [byteAt_toNat, Nat.pow_mul]
      exact Nat.mod_eq_of_lt (by rw [Nat.div_lt_iff_lt_mul (Nat.pow_pos (by omega))]; rw [Nat.pow_succ] at h; rw [Nat.mul_comm]; exact h)
    have hmod : ∀ j, j ≤ k → beB n j = beB (n % 256 ^ k) j := by
      intro j
      induction j with
      | zero => intro _; rfl
      | succ j ih =>
        intro hj
        show byteAt n j :: beB n j = byteAt (n % 256 ^ k) j :: beB (n % 256 ^ k) j
        rw [ih (by omega)]
        congr 1
        apply UInt8.toNat_inj.1
        rw [byteAt_toNat, byteAt_toNat, Nat.pow_mul]
        obtain ⟨d, rfl⟩ : ∃ d, k = j + 1 + d := ⟨k - (j + 1), by omega⟩
        have e : (256 : Nat) ^ (j + 1 + d) = 256 ^ j * (256 * 256 ^ d) := by rw [Nat.pow_add, Nat.pow_succ]; rw [Nat.mul_assoc]
        rw [show (2 : Nat) ^ 8 = 256 from rfl, e, Nat.mod_mul_right_div_self, Nat.mod_mul_right_mod]
    have h2 := numB_beB k (n % 256 ^ k) (Nat.mod_lt _ (Nat.pow_pos (by omega)))
    show numB (byteAt n k :: beB n k) = n
    have e : numB (byteAt n k :: beB n k) = (byteAt n k).toNat * 256 ^ (beB n k).length + numB (beB n k) := by
      have := aux (beB n k) (0 * 256 + (byteAt n k).toNat)
      simpa [numB] using this
    rw [e, beB_length, hb, hmod k (Nat.le_refl _), h2]
    exact Nat.div_add_mod' n (256 ^ k)
/-- a record's frame. -/
def frameB (tag : List UInt8) (gen : Nat) (b : List UInt8) : List UInt8 := beB b.length 4 ++ tagB tag gen b ++ b
theorem frameB_length (tag : List UInt8) (gen : Nat) (b : List UInt8) : (frameB tag gen b).length = 20 + b.length := by simp [frameB, beB_length, tagB_length]; omega
theorem chunks_frame (tag : List UInt8) (gen : Nat) (b : List UInt8) : chunks (frameB tag gen b) 55 = sectorsN b.length := by unfold chunks sectorsN; rw [frameB_length]
/-- there is a record at the end of those that are known. -/
structure HasRec (L : Int → List UInt8) (first size gen used : Nat) (tag b : List UInt8) : Prop where
  pos : 1 ≤ b.length
  le : b.length ≤ 65536
  room : used + sectorsN b.length ≤ size
  is : ∀ i, i < sectorsN b.length → L ((first + (used + i) : Nat) : Int) = recSec gen (used + i) (if i = 0 then 1 else 2) (chunkAt (frameB tag gen b) 55 i)
theorem partOf_rec {gen place kind : Nat} {part : List UInt8} (hg : gen < 4294967296) (hp : place < 4294967296) (hk : kind < 256) (hl : part.length ≤ 55) : partOf (recSec gen place kind part) gen place kind = some (part ++ List.replicate (55 - part.length) 0) := by
  have e : recSec gen place kind part = beB gen 4 ++ (beB place 4 ++ (beB kind 1 ++ (part ++ List.replicate (55 - part.length) 0))) := by simp [recSec, recHead]
  have l4 : ∀ n, (beB n 4).length = 4 := fun n => beB_length n 4
  have d4 : ∀ n (l : List UInt8), (beB n 4 ++ l).drop 4 = l := fun n l => by rw [List.drop_left' (l4 n)]
  have t4 : ∀ n (l : List UInt8), (beB n 4 ++ l).take 4 = beB n 4 := fun n l => by rw [List.take_left' (l4 n)]
  have d8 : (recSec gen place kind part).drop 8 = beB kind 1 ++ (part ++ List.replicate (55 - part.length) 0) := by
    rw [show (8 : Nat) = 4 + 4 from rfl, ← List.drop_drop, e, d4, d4]
  have d9 : (recSec gen place kind part).drop 9 = part ++ List.replicate (55 - part.length) 0 := by
    rw [show (9 : Nat) = 8 + 1 from rfl, ← List.drop_drop, d8, List.drop_left' (beB_length kind 1)]
  unfold partOf
  rw [d9, d8, List.take_left' (beB_length kind 1), e, d4, t4, t4, numB_beB 4 gen (by simpa using hg), numB_beB 4 place (by simpa using hp), numB_beB 1 kind (by simpa using hk)]
  simp only [if_true]
  rw [List.take_of_length_le (by simp; omega)]
/-- a frame, filled up. -/
def fullB (tag : List UInt8) (gen : Nat) (b : List UInt8) : List UInt8 := frameB tag gen b ++ List.replicate (55 * sectorsN b.length - (frameB tag gen b).length) 0
theorem fullB_length (tag : List UInt8) (gen : Nat) (b : List UInt8) : (fullB tag gen b).length = 55 * sectorsN b.length := by
  simp [fullB, frameB_length, sectorsN]; omega
theorem full_chunk (tag : List UInt8) (gen : Nat) (b : List UInt8) (i : Nat) (hi : i < sectorsN b.length) :
    chunkAt (frameB tag gen b) 55 i ++ List.replicate (55 - (chunkAt (frameB tag gen b) 55 i).length) 0 = ((fullB tag gen b).drop (55 * i)).take 55 := by
  have hl := frameB_length tag gen b
  unfold fullB chunkAt
  have hs : 55 * sectorsN b.length < 20 + b.length + 55 ∧ 20 + b.length ≤ 55 * sectorsN b.length := by unfold sectorsN; omega
  rw [Nat.mul_comm i 55]
  have hi2 : 55 * i < 20 + b.length := by unfold sectorsN at hi; omega
  rw [List.drop_append_of_le_length (by omega), List.take_append, List.take_replicate]
  congr 1
  congr 1
  simp [hl]
  omega
theorem HasRec.part {L : Int → List UInt8} {first size gen used : Nat} {tag b : List UInt8} (h : HasRec L first size gen used tag b) (hg : gen < 4294967296) (hs : size < 4294967296) (i : Nat) (hi : i < sectorsN b.length) :
    partR L first size gen (used + i) (if i = 0 then 1 else 2) = some (((fullB tag gen b).drop (55 * i)).take 55) := by
  have hr := h.room
  unfold partR
  rw [if_pos (by omega), h.is i hi, partOf_rec hg (by omega) (by split <;> omega) (by rw [chunkAt_length]; omega), full_chunk _ _ _ _ hi]
theorem full_b (tag : List UInt8) (gen : Nat) (b : List UInt8) : ((fullB tag gen b).drop 20).take b.length = b := by
  unfold fullB frameB
  rw [List.append_assoc _ b, List.drop_left' (by simp [beB_length, tagB_length]), List.take_left' rfl]
theorem full_tag (tag : List UInt8) (gen : Nat) (b : List UInt8) : ((fullB tag gen b).drop 4).take 16 = tagB tag gen b := by
  unfold fullB frameB
  rw [List.append_assoc, List.append_assoc, List.drop_left' (beB_length _ 4), List.take_left' (tagB_length tag gen b)]
theorem full_many (tag : List UInt8) (gen : Nat) (b : List UInt8) (h : b.length ≤ 65536) : numB ((fullB tag gen b).take 4) = b.length := by
  unfold fullB frameB
  rw [List.append_assoc, List.append_assoc, List.take_left' (beB_length _ 4)]
  exact numB_beB 4 _ (by omega)
theorem Lg.tag {p d first size gen used : Nat} {tag : List UInt8} (h : Part) (x : Lg p d first size gen used tag h) : CellsAt p 5 (bytesV tag) h := by
  refine ⟨_, _, _, x, fun j v hj => ?_⟩
  have hlt : j < (bytesV tag).length := (List.getElem?_eq_some_iff.1 hj).1
  show (LgC d first size gen used tag).toArray[5 + j]? = some v
  rw [List.getElem?_toArray, show (5 + j) = j + 1 + 1 + 1 + 1 + 1 by omega]
  simp only [LgC, List.getElem?_cons_succ]
  rw [List.getElem?_append_left hlt]
  exact hj
theorem Lg.tagT {p d first size gen used : Nat} {tag : List UInt8} {G G' : List Assn} (k : Pick (Lg p d first size gen used tag) G G') : Tells G (CellsAt p 5 (bytesV tag)) := Tells.pick k (fun _ _ => CellsAt.mono) (fun h hx => Lg.tag h hx)
theorem LgC_used (d first size gen used u : Nat) (tag : List UInt8) : over (LgC d first size gen used tag) 4 [Value.int .i64 (u : Int)] = LgC d first size gen u tag := rfl
theorem LgC_tag (d first size gen used : Nat) {tag t : List UInt8} (h : tag.length = t.length) : over (LgC d first size gen used tag) 5 (bytesV t) = LgC d first size gen used t := by
  unfold over LgC
  simp only [List.take_succ_cons, List.take_zero, List.cons_append, List.nil_append]
  rw [show 5 + (bytesV t).length = (bytesV tag).length + 1 + 1 + 1 + 1 + 1 by simp [bytesV, h]; omega]
  simp only [List.drop_succ_cons]
  rw [List.drop_left' rfl]
/-- the assertion of a log whose tag is of its length. -/
theorem LgC_length (d first size gen used : Nat) {tag : List UInt8} (h : tag.length = 16) : (LgC d first size gen used tag).length = 22 := by simp [LgC, bytesV, h]
section
variable {n : Nat} {ds : Fz} {w0 : World} {E : Env} {G : List Assn} {Q : Exit → Act → World → Prop}
theorem Seq.lgUsed {ops : Array Oper} {o : Oper} {rest : List Oper} {t : TypeId} {i : TI} {x y : Operand} {p d first size gen used u : Nat} {tag : List UInt8} {G' : List Assn} (hg : gv ops E o = some true) (hd : fits n o.dst = true) (ho : o.op = .store t x y)
    (hx : ev E x = some (.pointer (some ⟨p, 4, none⟩))) (hy : ev E y = some (.int .i64 (u : Int))) (ht : tab t = some i) (hs : i.size = 1) (k : Pick (Lg p d first size gen used tag) G G')
    (h : Seq Tryz.prog n ds w0 ops (put E o.dst undef) (Lg p d first size gen u tag :: G') Q rest) : Seq Tryz.prog n ds w0 ops E G Q (o :: rest) := by
  refine Seq.eff hg hd (Ef.store (c := LgC d first size gen used tag) (off := 4) tab_ok ho hx hy ht k (by rw [hs]; rfl) (fun u hu => by simp [Value.cells] at hu; subst hu; rfl) (by rw [hs]; simp [LgC])) fun _ => ?_
  exact h
theorem Seq.lgTag {ops : Array Oper} {o : Oper} {rest : List Oper} {t : TypeId} {i : TI} {x y : Operand} {p d first size gen used : Nat} {tag tag' : List UInt8} {G' : List Assn} (hg : gv ops E o = some true) (hd : fits n o.dst = true) (ho : o.op = .store t x y)
    (hx : ev E x = some (.pointer (some ⟨p, 5, none⟩))) (hy : ev E y = some (.agg (bytesV tag').toArray)) (ht : tab t = some i) (hs : i.size = 16) (k : Pick (Lg p d first size gen used tag) G G') (h1 : tag.length = 16) (h2 : tag'.length = 16)
    (h : Seq Tryz.prog n ds w0 ops (put E o.dst undef) (Lg p d first size gen used tag' :: G') Q rest) : Seq Tryz.prog n ds w0 ops E G Q (o :: rest) := by
  refine Seq.eff hg hd (Ef.store (c := LgC d first size gen used tag) (off := 5) tab_ok ho hx hy ht k (by rw [hs]; simp [Value.cells, bytesV, h2]) (Ones_bytesV _) (by rw [hs, LgC_length _ _ _ _ _ h1]; omega)) fun _ => ?_
  rw [show (Value.agg (bytesV tag').toArray).cells.toList = bytesV tag' from rfl, LgC_tag _ _ _ _ _ (h1.trans h2.symm)]
  exact h
end
section
variable {n : Nat} {ds : Fz} {w0 : World} {E : Env} {G : List Assn} {Q : Exit → Act → World → Prop}
theorem Ord.sliceB {l0 : List Oper} {A : Array Nat} {F : List Early} {q : Nat} {ord rest : List Nat} {o : Oper} {x : Operand} {lo hi : Option Operand} {t e : TypeId} {ts tb : Nat} {ei : TI} {ad : Option Addr} {m cap : Nat} {vl vh : Option Value} (l h : Nat) (ys : List UInt8)
    (hR : Right l0 A ord) (hQ : NP Q) (hn : nth l0 q = some o) (hk : acts o.op = false) (hg : gv l0.toArray E o = some true) (hd : fits n o.dst = true) (ho : o.op = .slice t x lo hi none)
    (hx : ev E x = some (.slice ad m cap)) (hlo : evo E lo = some vl) (hhi : evo E hi = some vh) (ht : tab t = some ⟨.slice e, ts, tb⟩) (he : tab e = some ei) (hs : ei.size = 1) (hl : loOf vl = some (l : Int)) (hh : hiOf m vh = some (h : Int))
    (hm : m = ys.length) (h1 : l ≤ h) (h2 : h ≤ m) (hmc : m ≤ cap)
    (k : ∀ a', (∀ p, BIn ad ys p → BIn a' ((ys.drop l).take (h - l)) p) → Ord Tryz.prog n ds w0 l0 A (⟨q, o, E, .slice a' ((ys.drop l).take (h - l)).length (cap - l)⟩ :: F) (put E o.dst (.slice a' ((ys.drop l).take (h - l)).length (cap - l))) G Q rest) : Ord Tryz.prog n ds w0 l0 A F E G Q (q :: rest) := by
  have hlen : ((ys.drop l).take (h - l)).length = h - l := by simp; omega
  have := k (slAddr ad cap l ei.size) fun p hp => by
    have h3 := slAddr_in (k := 1) hp (lo := l) (hi := h) (cap := cap) (by omega) h1 (by omega)
    rw [hs]
    unfold BIn
    rw [hlen, bytesV_take, bytesV_drop]
    simpa using h3
  rw [hlen] at this
  exact Ord.look hR hQ hn hk hg hd (Yl.sliceB l h ho hx hlo hhi ht he hl hh h1 h2 hmc) this
end
theorem next_none (p d k : Nat) (L : Int → List UInt8) (m first size gen used : Nat) (tag : List UInt8) (h2 : first + size ≤ k) (hk : k ≤ 16384) (hu : used ≤ size) (hg : gen < 4294967296) (hn : partR L first size gen used 1 = none) :
    Trip Tryz.prog 243 [ptrV p] none_ [Lg p d first size gen used tag, Dv d k L m] (X := Unit)
    (fun _ => .tuple #[.slice none 0 0, .bool false]) (fun _ => [Lg p d first size gen used tag, Dv d k L m]) := by
  refine Trip.start (n := 86) Tryz.func243 (by kernel_rfl) rfl rfl rfl ?_
  intro F w hD
  repeat (refine JL.flat ?_)
  refine JL.go 200 ?_
  repeat (refine JL.flat ?_)
  refine JL.go 200 ?_
  apply Seq.loadLit rfl rfl rfl rfl rfl
  · repeat (first | exact Pick.here | apply Pick.there)
  · rfl
  · rfl
  refine Seq.on 200 ?_
  have hpart := part_ok p d k L m first size gen used tag used 1 h2 hk (by omega) (by omega) hg
  rw [hn] at hpart
  apply Seq.call (hpart) rfl rfl rfl rfl rfl rfl
  · repeat (first | exact Picks.nil | (apply Picks.cons; · repeat (first | exact Pick.here | apply Pick.there)))
  · exact Tells.none
  intro r
  refine Seq.on 200 ?_
  repeat (refine JL.flat ?_)
  refine JL.go 200 ?_
  repeat (refine JL.flat ?_)
  refine JL.ifT rfl ?_
  try refine JL.skip ?_
  repeat (refine JL.flat ?_)
  refine JL.go 200 ?_
  repeat (refine JL.flat ?_)
  refine JL.ret ?_
  repeat (first | refine At.then_ret ?_ | refine At.block_ret ?_)
  refine At.done2 rfl (()) rfl rfl rfl ?_
  exact (Gives.sound (by repeat (first | exact Gives.nil | (apply Gives.cons; · repeat (first | exact Pick.here | apply Pick.there)))))

set_option maxHeartbeats 1600000 in
theorem next_some (p d k : Nat) (L : Int → List UInt8) (m first size gen used : Nat) (tag b : List UInt8) (h2 : first + size ≤ k) (hk : k ≤ 16384) (hg : gen < 4294967296) (ht : tag.length = 16) (hr : HasRec L first size gen used tag b) :
    Trip Tryz.prog 243 [ptrV p] Glob [Lg p d first size gen used tag, Dv d k L m] (X := Option Addr × Nat)
    (fun r => .tuple #[.slice r.1 b.length r.2, .bool true]) (fun r => [BIn r.1 b, Lg p d first size gen (used + sectorsN b.length) (tagB tag gen b), Dv d k L m]) := by
  have hpos := hr.pos
  have hle := hr.le
  have hroom := hr.room
  have hsec : 20 + b.length ≤ 55 * sectorsN b.length ∧ 1 ≤ sectorsN b.length ∧ sectorsN b.length ≤ 1200 := by unfold sectorsN; omega
  have hp0 : partR L first size gen used 1 = some (((fullB tag gen b).drop (55 * 0)).take 55) := hr.part hg (by omega) 0 (by omega)
  have hparts := fun i hi => hr.part hg (by omega) i hi
  have hfl := fullB_length tag gen b
  have hfb := full_b tag gen b
  have hft := full_tag tag gen b
  have hfm := full_many tag gen b hle
  have htl := tagB_length tag gen b
  generalize fullB tag gen b = P at hp0 hparts hfl hfb hft hfm
  refine Trip.start (n := 86) Tryz.func243 (by kernel_rfl) rfl rfl rfl ?_
  intro F w hD
  repeat (refine JL.flat ?_)
  refine JL.go 200 ?_
  repeat (refine JL.flat ?_)
  refine JL.go 200 ?_
  apply Seq.loadLit rfl rfl rfl rfl rfl
  · repeat (first | exact Pick.here | apply Pick.there)
  · rfl
  · rfl
  refine Seq.on 200 ?_
  have hpart := part_ok p d k L m first size gen used tag used 1 h2 hk (by omega) (by omega) hg
  rw [hp0, Nat.mul_zero, List.drop_zero] at hpart
  apply Seq.call (hpart) rfl rfl rfl rfl rfl rfl
  · repeat (first | exact Picks.nil | (apply Picks.cons; · repeat (first | exact Pick.here | apply Pick.there)))
  · exact Tells.none
  intro r
  refine Seq.on 200 ?_
  repeat (refine JL.flat ?_)
  refine JL.go 200 ?_
  repeat (refine JL.flat ?_)
  refine JL.ifF rfl ?_
  try refine JL.skip ?_
  have hP55 : (P.take 55).length = 55 := by simp [hfl]; omega
  refine JL.fact (p := (P.take 55).length ≤ r.2) (fun h hs => ?_) (fun hcap => ?_)
  · have hs1 := (Gives.sound (L := [BOwn r (P.take 55)]) (by repeat (first | exact Gives.nil | (apply Gives.cons; · repeat (first | exact Pick.here | apply Pick.there))))) h hs
    obtain ⟨_, _, _, _, _, hb, _⟩ := hs1
    exact hb.2.1
  repeat (refine JL.flat ?_)
  refine JL.go 200 ?_
  refine Seq.sliceB 0 4 (P.take 55) rfl rfl rfl rfl rfl rfl rfl rfl rfl rfl rfl rfl (by omega) (by omega) hcap ?_
  intro a4 ha4
  have h44 : ((P.take 55).drop 0).take (4 - 0) = P.take 4 := by rw [List.drop_zero, List.take_take]; rfl
  rw [h44] at ha4 ⊢
  have hP4 : (P.take 4).length = 4 := by simp [hfl]; omega
  refine Seq.on 200 ?_
  apply Seq.call (From_ok a4 (P.take 4) (r.2 - 0) (by omega)) rfl rfl rfl rfl rfl rfl
  ·
    repeat (first | exact Picks.nil | (apply Picks.cons; · repeat (first | exact Pick.here | apply Pick.there)))
  · exact Tells.pick (A := BOwn r (P.take 55)) (by repeat (first | exact Pick.here | apply Pick.there)) (fun _ _ => BIn.mono) (fun h hx => ha4 h (BOwn_BIn hx))
  intro pr
  refine Seq.on 200 ?_
  apply Seq.call (RNum_4 pr (P.take 4) (by omega) (by omega)) rfl rfl rfl rfl rfl rfl
  · repeat (first | exact Picks.nil | (apply Picks.cons; · repeat (first | exact Pick.here | apply Pick.there)))
  · exact Tells.none
  intro _
  rw [List.take_take, show min 4 4 = 4 from rfl, hfm]
  refine Seq.on 200 ?_
  refine JL.set 6 (.int .i64 (b.length : Int)) rfl (congrArg (Value.int .i64) (wrapI (small63 (by omega)))) ?_
  repeat (refine JL.flat ?_)
  refine JL.go 200 ?_
  apply Seq.call (Sectors_ok b.length hpos hle) rfl rfl rfl rfl rfl rfl
  · repeat (first | exact Picks.nil | (apply Picks.cons; · repeat (first | exact Pick.here | apply Pick.there)))
  · exact Tells.none
  intro _
  refine Seq.on 200 ?_
  repeat (refine JL.flat ?_)
  refine JL.go 200 ?_
  refine JL.set 32 (.bool false) rfl (congrArg Value.bool (by
    show ((sectorsN b.length : Int) == ((0 : Nat) : Int)) = false
    rw [int_beq]; exact beq_eq_false_iff_ne.2 (by omega))) ?_
  repeat (refine JL.flat ?_)
  refine JL.ifF rfl ?_
  try refine JL.skip ?_
  repeat (refine JL.flat ?_)
  refine JL.go 200 ?_
  repeat (refine JL.flat ?_)
  refine JL.block ?_
  refine JL.loop (X := {i : Nat // 1 ≤ i ∧ i ≤ sectorsN b.length} × (Option Addr × Nat)) (⟨1, by omega⟩, r) (fun x => [(0, ptrV p), (4, .slice x.2.1 (P.take (55 * x.1.1)).length x.2.2), (6, .int .i64 (b.length : Int)), (7, .int .i64 (sectorsN b.length : Int)), (8, .int .i64 (x.1.1 : Int))])
    (fun x => [BOwn x.2 (P.take (55 * x.1.1)), Lg p d first size gen used tag, Dv d k L m, F]) (fun x => sectorsN b.length - x.1.1) ?_ ?_ ?_
  ·
    repeat (first | exact Sub.nil | refine Sub.cons rfl ?_)
  · exact (Gives.sound (by repeat (first | exact Gives.nil | (apply Gives.cons; · repeat (first | exact Pick.here | apply Pick.there)))))
  rintro ⟨⟨i, hi1, hi⟩, r1⟩
  dsimp only
  repeat (refine JL.flat ?_)
  refine JL.go 200 ?_
  rcases Nat.lt_or_ge i (sectorsN b.length) with hlt | hge
  · refine JL.set 35 (.bool true) rfl (congrArg Value.bool (by simp; omega)) ?_
    repeat (refine JL.flat ?_)
    refine JL.ifT rfl ?_
    try refine JL.skip ?_
    repeat (refine JL.flat ?_)
    refine JL.block ?_
    repeat (refine JL.flat ?_)
    refine JL.go 200 ?_
    apply Seq.loadLit rfl rfl rfl rfl rfl
    · repeat (first | exact Pick.here | apply Pick.there)
    · rfl
    · rfl
    refine Seq.on 2 ?_
    refine Seq.set 45 (.int .i64 ((used + i : Nat) : Int)) rfl (congrArg (Value.int .i64) (by rw [← Int.natCast_add]; exact wrapI (small63 (by omega)))) ?_
    have hpart := part_ok p d k L m first size gen used tag (used + i) 2 h2 hk (by omega) (by omega) hg
    have hpi := hparts i hlt
    rw [if_neg (by omega)] at hpi
    rw [hpi] at hpart
    apply Seq.call (hpart) rfl rfl rfl rfl rfl rfl
    · repeat (first | exact Picks.nil | (apply Picks.cons; · repeat (first | exact Pick.here | apply Pick.there)))
    · exact Tells.none
    intro r2
    refine Seq.on 200 ?_
    repeat (refine JL.flat ?_)
    refine JL.go 200 ?_
    repeat (refine JL.flat ?_)
    refine JL.ifF rfl ?_
    try refine JL.skip ?_
    have hle1 : (P.take (55 * i)).length = 55 * i := by simp [hfl]; omega
    have hle2 : ((P.drop (55 * i)).take 55).length = 55 := by simp [hfl]; omega
    repeat (refine JL.flat ?_)
    refine JL.go 200 ?_
    refine Seq.appendB (ys := ((P.drop (55 * i)).take 55)) rfl rfl rfl rfl rfl rfl rfl rfl rfl rfl rfl (by repeat (first | exact Pick.here | apply Pick.there)) ?_ ?_ ?_
    · exact Tells.own (by repeat (first | exact Pick.here | apply Pick.there))
    · omega
    intro a' cap'
    have happ : P.take (55 * i) ++ (P.drop (55 * i)).take 55 = P.take (55 * (i + 1)) := by
      rw [show 55 * (i + 1) = 55 * i + 55 by omega, List.take_add]
    rw [happ]
    refine Seq.on 200 ?_
    repeat (refine JL.flat ?_)
    refine JL.nil (At.block_normal (At.then_normal (JL.at ?_)))
    repeat (refine JL.flat ?_)
    refine JL.go 200 ?_
    refine JL.set 8 (.int .i64 ((i + 1 : Nat) : Int)) rfl (congrArg (Value.int .i64) (by rw [show (i : Int) + 1 = ((i + 1 : Nat) : Int) by omega]; exact wrapI (small63 (by omega)))) ?_
    repeat (refine JL.flat ?_)
    refine JL.nil (At.then_normal ?_)
    refine At.again (X := {i : Nat // 1 ≤ i ∧ i ≤ sectorsN b.length} × (Option Addr × Nat)) (x := (⟨i, hi1, hi⟩, r1)) (⟨i + 1, by omega⟩, (a', cap')) (by show sectorsN b.length - (i + 1) < sectorsN b.length - i; omega) (Sub.look ?_) ?_
    ·
      repeat (first | exact Sub.nil | refine Sub.cons rfl ?_)
    · exact (Gives.sound (by repeat (first | exact Gives.nil | (apply Gives.cons; · repeat (first | exact Pick.here | apply Pick.there)))))
  · obtain rfl : i = sectorsN b.length := by omega
    refine JL.set 35 (.bool false) rfl (congrArg Value.bool (by simp)) ?_
    repeat (refine JL.flat ?_)
    refine JL.ifF rfl ?_
    try refine JL.skip ?_
    repeat (refine JL.flat ?_)
    refine JL.exit ?_
    repeat (first | refine At.then_exit ?_ | refine At.block_pass rfl ?_)
    refine At.block_exit (At.then_normal (JL.at ?_))
    have hPP : P.take (55 * sectorsN b.length) = P := List.take_of_length_le (by omega)
    rw [hPP]
    refine JL.fact (p := P.length ≤ r1.2) (fun h hs => ?_) (fun hcap1 => ?_)
    · have hs1 := (Gives.sound (L := [BOwn r1 P]) (by repeat (first | exact Gives.nil | (apply Gives.cons; · repeat (first | exact Pick.here | apply Pick.there))))) h hs
      obtain ⟨_, _, _, _, _, hb, _⟩ := hs1
      exact hb.2.1
    repeat (refine JL.flat ?_)
    refine JL.go 3 ?_
    refine Seq.set 56 (.int .i64 ((20 + b.length : Nat) : Int)) rfl (congrArg (Value.int .i64) (by rw [show (20 + (b.length : Int)) = ((20 + b.length : Nat) : Int) by omega]; exact wrapI (small63 (by omega)))) ?_
    refine Seq.sliceB 20 (20 + b.length) P rfl rfl rfl rfl rfl rfl rfl rfl rfl rfl rfl rfl (by omega) (by omega) hcap1 ?_
    intro ab hab
    rw [Nat.add_sub_cancel_left, hfb] at hab ⊢
    have hTb : ∀ {G G' : List Assn}, Pick (BOwn r1 P) G G' → Tells G (BIn ab b) := fun pk => Tells.pick pk (fun _ _ => BIn.mono) (fun h hx => hab h (BOwn_BIn hx))
    refine Seq.on 200 ?_
    repeat (refine JL.flat ?_)
    refine JL.cut (X := Nat) (fun b12 => [(0, ptrV p), (4, .slice r1.1 P.length r1.2), (7, .int .i64 (sectorsN b.length : Int)), (11, .slice ab b.length (r1.2 - 20)), (12, ptrV b12)])
      (fun b12 => [pt b12 (.cells (bytesV (tagB tag gen b)).toArray 64 (0, 0)), BOwn r1 P, Lg p d first size gen used tag, Dv d k L m, F]) ?_ ?_
    · have htg := tagged_ok tag gen ab b (r1.2 - 20) ht (by omega)
      generalize tagB tag gen b = T at htl htg ⊢
      repeat (refine JL.flat ?_)
      refine JL.draw ([0, 1, 2, 3, 4, 5, 6, 7, 8, 99, 0, 1, 2, 3, 4, 5, 6, 7, 8]) (by kernel_rfl) (fun hR => ?_)
      refine Ord.on hR 200 ?_
      refine Ord.load (cs := bytesV tag) hR NP.nop rfl rfl rfl rfl rfl rfl rfl (Lg.tagT (by repeat (first | exact Pick.here | apply Pick.there))) (by rw [bytesV_length, ht]) rfl ?_
      refine Ord.on hR 200 ?_
      apply Ord.loadLit hR NP.nop rfl rfl rfl rfl rfl rfl rfl
      · repeat (first | exact Pick.here | apply Pick.there)
      · rfl
      · rfl
      refine Ord.on hR 200 ?_
      refine Ord.fork (L := [9, 10]) (k := 2) hR rfl (by kernel_rfl) rfl rfl ?_
      refine Forks.act (ord := [10, 11]) rfl rfl rfl rfl (Ef.call rfl rfl rfl rfl htg Picks.nil (fun h hs => ⟨Tells.frame (D := Glob) (by repeat (first | exact Pick.here | apply Pick.there)) (fun _ _ => Glob.mono) hD h hs, hTb (by repeat (first | exact Pick.here | apply Pick.there)) h hs⟩)) (fun _ => ?_) (by kernel_rfl) (by kernel_rfl) (fun _ => ?_) ?_
      · repeat (first | exact Keep.nil | (refine Keep.loadT rfl rfl rfl (Lg.tagT (by repeat (first | exact Pick.here | apply Pick.there))) (by rw [bytesV_length, ht]) rfl ?_) | (refine Keep.load rfl rfl rfl (by repeat (first | exact Pick.here | apply Pick.there)) (by rfl) (by rfl) ?_) | (refine Keep.waits (by kernel_rfl) ?_))
      ·
        refine Ord.eff hR rfl rfl rfl rfl (Ef.alloc tab_zero rfl rfl) (fun b12 => ?_) (fun b12 => ?_)
        · repeat (first | exact Keep.nil | (refine Keep.loadT rfl rfl rfl (Lg.tagT (by repeat (first | exact Pick.here | apply Pick.there))) (by rw [bytesV_length, ht]) rfl ?_) | (refine Keep.load rfl rfl rfl (by repeat (first | exact Pick.here | apply Pick.there)) (by rfl) (by rfl) ?_) | (refine Keep.waits (by kernel_rfl) ?_))
        refine Ord.storeAll hR rfl rfl rfl rfl rfl rfl rfl rfl (by repeat (first | exact Pick.here | apply Pick.there)) (by simp [Value.cells, bytesV, htl]) (Ones_bytesV _) rfl ?_ ?_
        · repeat (first | exact Keep.nil | (refine Keep.waits (by kernel_rfl) ?_))
        refine Ord.on hR 200 ?_
        refine JL.nil (At.then_normal (At.mid b12 ?_ ?_))
        ·
          repeat (first | exact Sub.nil | refine Sub.cons rfl ?_)
        · exact (Gives.sound (by repeat (first | exact Gives.nil | (apply Gives.cons; · repeat (first | exact Pick.here | apply Pick.there)))))
      refine Forks.act (ord := [9, 11]) rfl rfl rfl rfl (Ef.alloc tab_zero rfl rfl) (fun b12 => ?_) (by kernel_rfl) (by kernel_rfl) (fun b12 => ?_) Forks.nil
      · repeat (first | exact Keep.nil | (refine Keep.loadT rfl rfl rfl (Lg.tagT (by repeat (first | exact Pick.here | apply Pick.there))) (by rw [bytesV_length, ht]) rfl ?_) | (refine Keep.load rfl rfl rfl (by repeat (first | exact Pick.here | apply Pick.there)) (by rfl) (by rfl) ?_) | (refine Keep.waits (by kernel_rfl) ?_))
      ·
        apply Ord.call (htg) hR rfl rfl rfl rfl rfl rfl rfl rfl
        ·
          repeat (first | exact Picks.nil | (apply Picks.cons; · repeat (first | exact Pick.here | apply Pick.there)))
        · exact fun h hs => ⟨Tells.frame (D := Glob) (by repeat (first | exact Pick.here | apply Pick.there)) (fun _ _ => Glob.mono) hD h hs, hTb (by repeat (first | exact Pick.here | apply Pick.there)) h hs⟩
        · intro _
          repeat (first | exact Keep.nil | (refine Keep.loadT rfl rfl rfl (Lg.tagT (by repeat (first | exact Pick.here | apply Pick.there))) (by rw [bytesV_length, ht]) rfl ?_) | (refine Keep.load rfl rfl rfl (by repeat (first | exact Pick.here | apply Pick.there)) (by rfl) (by rfl) ?_) | (refine Keep.waits (by kernel_rfl) ?_))
        intro _
        refine Ord.storeAll hR rfl rfl rfl rfl rfl rfl rfl rfl (by repeat (first | exact Pick.here | apply Pick.there)) (by simp [Value.cells, bytesV, htl]) (Ones_bytesV _) rfl ?_ ?_
        · repeat (first | exact Keep.nil | (refine Keep.waits (by kernel_rfl) ?_))
        refine Ord.on hR 200 ?_
        refine JL.nil (At.then_normal (At.mid b12 ?_ ?_))
        ·
          repeat (first | exact Sub.nil | refine Sub.cons rfl ?_)
        · exact (Gives.sound (by repeat (first | exact Gives.nil | (apply Gives.cons; · repeat (first | exact Pick.here | apply Pick.there)))))
    intro b12
    repeat (refine JL.flat ?_)
    refine JL.draws (by kernel_rfl) (fun hR => ?_)
    refine Ord.on hR 200 ?_
    refine Ord.sliceB 4 20 P hR NP.nop rfl rfl rfl rfl rfl rfl rfl rfl rfl rfl rfl rfl rfl rfl (by omega) (by omega) hcap1 ?_
    intro a16 ha16
    rw [show 20 - 4 = 16 from rfl, hft] at ha16 ⊢
    refine Ord.on hR 200 ?_
    refine Ord.pure hR NP.nop rfl rfl rfl rfl (fun a w ha => run_sliceArr 0 16 rfl rfl rfl rfl rfl rfl rfl rfl (by omega) (by omega) a w ha) ?_
    have heq := Equal_ok a16 (some ⟨b12, 0, none⟩) (tagB tag gen b) (r1.2 - 4) 16 (by omega)
    generalize hT : tagB tag gen b = T at htl heq ha16 ⊢
    refine Ord.set 70 (.slice (some ⟨b12, 0, none⟩) T.length 16) rfl (by rw [htl]; rfl) ?_
    apply Ord.call (heq) hR rfl rfl rfl rfl rfl rfl rfl rfl
    ·
      repeat (first | exact Picks.nil | (apply Picks.cons; · repeat (first | exact Pick.here | apply Pick.there)))
    · exact fun h hs => ⟨Tells.pick (A := BOwn r1 P) (by repeat (first | exact Pick.here | apply Pick.there)) (fun _ _ => BIn.mono) (fun h hx => ha16 h (BOwn_BIn hx)) h hs, Tells.pick (A := pt b12 (.cells (bytesV T).toArray 64 (0, 0))) (by repeat (first | exact Pick.here | apply Pick.there)) (fun _ _ => BIn.mono) (fun h hx => by
        have := BIn.of_pt (lo := 0) (k := 16) (by omega) h hx
        rw [List.drop_zero, List.take_of_length_le (by omega)] at this
        exact this) h hs⟩
    · intro _
      repeat (first | exact Keep.nil | (refine Keep.load rfl rfl rfl (by repeat (first | exact Pick.here | apply Pick.there)) (by rfl) (by rfl) ?_) | (refine Keep.waits (by kernel_rfl) ?_))
    intro _
    refine Ord.on hR 200 ?_
    repeat (refine JL.flat ?_)
    refine JL.ifF rfl ?_
    try refine JL.skip ?_
    repeat (refine JL.flat ?_)
    refine JL.go 200 ?_
    apply Seq.loadLit rfl rfl rfl rfl rfl
    · repeat (first | exact Pick.here | apply Pick.there)
    · rfl
    · rfl
    refine Seq.on 2 ?_
    refine Seq.set 78 (.int .i64 ((used + sectorsN b.length : Nat) : Int)) rfl (congrArg (Value.int .i64) (by rw [← Int.natCast_add]; exact wrapI (small63 (by omega)))) ?_
    refine Seq.on 200 ?_
    refine Seq.lgUsed rfl rfl rfl rfl rfl rfl rfl (by repeat (first | exact Pick.here | apply Pick.there)) ?_
    refine Seq.on 200 ?_
    repeat (refine JL.flat ?_)
    refine JL.go 200 ?_
    refine Seq.loadAll rfl rfl rfl rfl rfl rfl (by repeat (first | exact Pick.here | apply Pick.there)) (by simp [bytesV, htl]) ?_
    refine Seq.on 200 ?_
    refine Seq.lgTag rfl rfl rfl rfl rfl rfl rfl (by repeat (first | exact Pick.here | apply Pick.there)) ht htl ?_
    refine Seq.on 200 ?_
    repeat (refine JL.flat ?_)
    refine JL.go 200 ?_
    repeat (refine JL.flat ?_)
    refine JL.ret ?_
    repeat (first | refine At.then_ret ?_ | refine At.block_ret ?_)
    refine At.done2 rfl ((ab, r1.2 - 20)) rfl rfl rfl ?_
    intro h hs
    have hs1 := (Gives.sound (L := [BOwn r1 P, Lg p d first size gen (used + sectorsN b.length) T, Dv d k L m, F]) (by repeat (first | exact Gives.nil | (apply Gives.cons; · repeat (first | exact Pick.here | apply Pick.there))))) h hs
    exact star_mono (fun h hx => hab h (BOwn_BIn hx)) (fun _ h => h) hs1
end Go.Ent
namespace Go.Ent
open Go Go.Proofs
/-- where the log is behind records, and its tag. -/
def endR (gen : Nat) : Nat × List UInt8 → List (List UInt8) → Nat × List UInt8
  | s, [] => s
  | s, b :: bs => endR gen (s.1 + sectorsN b.length, tagB s.2 gen b) bs
theorem endR_snoc (gen : Nat) (b : List UInt8) : ∀ (l : List (List UInt8)) (s : Nat × List UInt8), endR gen s (l ++ [b]) = ((endR gen s l).1 + sectorsN b.length, tagB (endR gen s l).2 gen b)
  | [], s => rfl
  | c :: l, s => by simp only [List.cons_append, endR]; rw [endR_snoc gen b l]
theorem endR_tag (gen : Nat) : ∀ (l : List (List UInt8)) (s : Nat × List UInt8), s.2.length = 16 → (endR gen s l).2.length = 16
  | [], _, h => h
  | _ :: l, _, _ => endR_tag gen l _ (tagB_length _ _ _)
/-- a log's records, as they lie on the disk. -/
structure Recs (L : Int → List UInt8) (first size gen : Nat) (l : List (List UInt8)) : Prop where
  each : ∀ i (h : i < l.length), HasRec L first size gen (endR gen (0, List.replicate 16 0) (l.take i)).1 (endR gen (0, List.replicate 16 0) (l.take i)).2 l[i]
  fits : (endR gen (0, List.replicate 16 0) l).1 ≤ size
  none : partR L first size gen (endR gen (0, List.replicate 16 0) l).1 1 = Option.none
  clean : CleanL L first size gen (endR gen (0, List.replicate 16 0) l).1
abbrev uAt (gen : Nat) (l : List (List UInt8)) : Nat := (endR gen (0, List.replicate 16 0) l).1
abbrev tAt (gen : Nat) (l : List (List UInt8)) : List UInt8 := (endR gen (0, List.replicate 16 0) l).2
theorem tAt_length (gen : Nat) (l : List (List UInt8)) : (tAt gen l).length = 16 := endR_tag gen l _ (by simp)
theorem uAt_take (gen : Nat) (l : List (List UInt8)) (i : Nat) (h : i < l.length) : uAt gen (l.take (i + 1)) = uAt gen (l.take i) + sectorsN l[i].length ∧ tAt gen (l.take (i + 1)) = tagB (tAt gen (l.take i)) gen l[i] := by
  rw [List.take_succ_eq_append_getElem h]
  unfold uAt tAt
  rw [endR_snoc]
  exact ⟨rfl, rfl⟩
/-- the bytes of pieces. -/
def PiecesB (l : List Piece) : Assn := fun h => ∀ x ∈ l, BIn x.1 x.2.2 h
theorem PiecesB.nil (h : Part) : PiecesB [] h := fun _ hx => by cases hx
theorem PiecesB.snoc {l : List Piece} {y : Piece} {G : List Assn} (h : Part) (s : sep (PiecesB l :: BIn y.1 y.2.2 :: G) h) : sep (PiecesB (l ++ [y]) :: G) h := by
  refine star_mono (fun h s => ?_) (fun _ h => h) (star_assoc' s)
  obtain ⟨h1, h2, _, l1, l2, a, b⟩ := s
  intro x hx
  rcases List.mem_append.1 hx with hx | hx
  · exact BIn.mono l1 (a x hx)
  · simp only [List.mem_cons, List.not_mem_nil, or_false] at hx
    subst hx
    exact BIn.mono l2 b
theorem PiecesB.mono {l : List Piece} {h k : Part} (hk : Part.le h k) (x : PiecesB l h) : PiecesB l k := fun y hy => BIn.mono hk (x y hy)
def emptyA (_ : Part) : Prop := True
set_option maxHeartbeats 1600000 in
theorem Open_ok (d k : Nat) (L : Int → List UInt8) (m first size gen : Nat) (l : List (List UInt8)) (h1 : 1 ≤ size) (h2 : first + size ≤ k) (h4 : gen ≠ 0) (hk : k ≤ 16384) (hg : gen < 4294967296) (hr : Recs L first size gen l) :
    Trip Tryz.prog 166 [ptrV d, .int .i64 (first : Int), .int .i64 (size : Int), .int .u32 (gen : Int)] Glob [Dv d k L m] (X := Nat × (Option Addr × Nat) × {ps : List Piece // ps.map (fun x => x.2.2) = l})
    (fun r => .tuple #[ptrV r.1, .slice r.2.1.1 l.length r.2.1.2, .nilIface]) (fun r => [SlOwn 177 1 r.2.1.1 l.length r.2.1.2 (r.2.2.1.map pieceV), PiecesB r.2.2.1, Lg r.1 d first size gen (uAt gen l) (tAt gen l), Dv d k L m]) := by
  have hN : l.length ≤ size := by
    have aux : ∀ i, i ≤ l.length → i ≤ uAt gen (l.take i) := by
      intro i
      induction i with
      | zero => intro _; exact Nat.zero_le _
      | succ i ih =>
        intro hi
        have := ih (by omega)
        rw [(uAt_take gen l i hi).1]
        have : 1 ≤ sectorsN l[i].length := by unfold sectorsN; omega
        omega
    have := aux l.length (Nat.le_refl _)
    rw [List.take_length] at this
    exact Nat.le_trans this hr.fits
  have hfit : ∀ i, i ≤ l.length → uAt gen (l.take i) ≤ size := by
    intro i hi
    rcases Nat.lt_or_ge i l.length with hlt | hge
    · have := (hr.each i hlt).room
      show (endR gen (0, List.replicate 16 0) (l.take i)).1 ≤ size
      omega
    · rw [List.take_of_length_le hge]; exact hr.fits
  refine Trip.start (n := 50) Tryz.func166 (by kernel_rfl) rfl rfl rfl ?_
  intro F w hD
  repeat (refine JL.flat ?_)
  refine JL.go 200 ?_
  repeat (refine JL.flat ?_)
  refine JL.go 200 ?_
  apply Seq.call (atV d k L m first size gen h1 (by omega) (by omega) h4 hk) rfl rfl rfl rfl rfl rfl
  · repeat (first | exact Picks.nil | (apply Picks.cons; · repeat (first | exact Pick.here | apply Pick.there)))
  · exact Tells.none
  intro p
  refine Seq.on 200 ?_
  repeat (refine JL.flat ?_)
  refine JL.go 200 ?_
  repeat (refine JL.flat ?_)
  refine JL.ifF rfl ?_
  try refine JL.skip ?_
  repeat (refine JL.flat ?_)
  refine JL.go 200 ?_
  have next : ∀ i, i ≤ l.length → Trip Tryz.prog 243 [ptrV p] Glob [Lg p d first size gen (uAt gen (l.take i)) (tAt gen (l.take i)), Dv d k L m] (X := Option Addr × Nat)
      (fun r => .tuple #[if h : i < l.length then .slice r.1 l[i].length r.2 else .slice none 0 0, .bool (decide (i < l.length))])
      (fun r => [if h : i < l.length then BIn r.1 l[i] else emptyA, Lg p d first size gen (uAt gen (l.take (i + 1))) (tAt gen (l.take (i + 1))), Dv d k L m]) := fun i hi => by
    rcases Nat.lt_or_ge i l.length with hlt | hge
    · have := next_some p d k L m first size gen (uAt gen (l.take i)) (tAt gen (l.take i)) l[i] h2 hk hg (tAt_length _ _) (hr.each i hlt)
      rw [(uAt_take gen l i hlt).1, (uAt_take gen l i hlt).2]
      simp only [hlt, dite_true, decide_true]
      exact this
    · have hi' : l.take i = l := List.take_of_length_le hge
      have hi2 : l.take (i + 1) = l := List.take_of_length_le (by omega)
      have := next_none p d k L m first size gen (uAt gen l) (tAt gen l) h2 hk hr.fits hg hr.none
      rw [hi', hi2]
      have hn : ¬ i < l.length := by omega
      simp only [hn, dite_false, decide_false]
      exact Trip.pre (fun _ h => h) (fun _ _ => trivial) (this.post (fun _ => (none, 0)) (fun _ => rfl) (fun _ h s => sep_pure (fun _ => trivial) s))
  repeat (refine JL.flat ?_)
  refine JL.go 200 ?_
  apply Seq.call (next 0 (by omega)) rfl rfl rfl rfl rfl rfl
  ·
    repeat (first | exact Picks.nil | (apply Picks.cons; · repeat (first | exact Pick.here | apply Pick.there)))
  · exact Tells.frame (by repeat (first | exact Pick.here | apply Pick.there)) (fun _ _ => Glob.mono) hD
  intro y
  refine Seq.on 200 ?_
  repeat (refine JL.flat ?_)
  refine JL.block ?_
  refine JL.loop (X := {i : Nat // i ≤ l.length} × {ps : List Piece // True} × (Option Addr × Nat) × (Option Addr × Nat)) (⟨0, by omega⟩, ⟨[], trivial⟩, (none, 0), y)
    (fun x => [(11, ptrV p), (13, .slice x.2.2.1.1 x.1.1 x.2.2.1.2), (14, if h : x.1.1 < l.length then .slice x.2.2.2.1 l[x.1.1].length x.2.2.2.2 else .slice none 0 0), (15, .bool (decide (x.1.1 < l.length)))])
    (fun x => [SlOwn 177 1 x.2.2.1.1 x.1.1 x.2.2.1.2 (x.2.1.1.map pieceV), PiecesB x.2.1.1, fun _ => x.2.1.1.map (fun x => x.2.2) = l.take x.1.1, if h : x.1.1 < l.length then BIn x.2.2.2.1 l[x.1.1] else emptyA, Lg p d first size gen (uAt gen (l.take (x.1.1 + 1))) (tAt gen (l.take (x.1.1 + 1))), Dv d k L m, F]) (fun x => l.length - x.1.1) ?_ ?_ ?_
  ·
    repeat (first | exact Sub.nil | refine Sub.cons rfl ?_)
  · intro h hs
    exact sep_pure (SlOwn.nil _ _) (sep_pure PiecesB.nil (sep_pure (fun _ => rfl) hs))
  rintro ⟨⟨i, hi⟩, ⟨ps, _⟩, q, y1⟩
  dsimp only
  refine JL.know (p := ps.map (fun x => x.2.2) = l.take i) (by repeat (first | exact Pick.here | apply Pick.there)) (fun hps => ?_)
  have hlen : ps.length = i := by
    have := congrArg List.length hps
    simp only [List.length_map, List.length_take] at this
    omega
  repeat (refine JL.flat ?_)
  refine JL.go 200 ?_
  rcases Nat.lt_or_ge i l.length with hlt | hge
  · refine JL.set 15 (.bool true) rfl (congrArg Value.bool (by simp; omega)) ?_
    refine JL.set 33 (.bool true) rfl (congrArg Value.bool (by simp; omega)) ?_
    repeat (refine JL.flat ?_)
    refine JL.ifT rfl ?_
    try refine JL.skip ?_
    repeat (refine JL.flat ?_)
    refine JL.block ?_
    refine JL.set 14 (.slice y1.1 l[i].length y1.2) rfl (by simp only [hlt, dite_true]) ?_
    simp only [hlt, dite_true]
    repeat (refine JL.flat ?_)
    refine JL.go 200 ?_
    refine Seq.bslice (out := [Value.slice y1.1 l[i].length y1.2]) rfl rfl rfl rfl rfl rfl rfl rfl (by rfl) rfl (by rfl) ?_
    intro bx
    refine Seq.append rfl rfl rfl rfl rfl rfl rfl rfl rfl (by repeat (first | exact Pick.here | apply Pick.there)) (Tells.own (by repeat (first | exact Pick.here | apply Pick.there))) (fun u hu => by simp at hu; subst hu; rfl) (by unfold maxLen; omega) (by omega) ?_
    intro a' cap'
    refine Seq.on 200 ?_
    repeat (refine JL.flat ?_)
    refine JL.nil (At.block_normal (At.then_normal (JL.at ?_)))
    repeat (refine JL.flat ?_)
    refine JL.go 200 ?_
    apply Seq.call (next (i + 1) hlt) rfl rfl rfl rfl rfl rfl
    ·
      repeat (first | exact Picks.nil | (apply Picks.cons; · repeat (first | exact Pick.here | apply Pick.there)))
    · exact Tells.frame (by repeat (first | exact Pick.here | apply Pick.there)) (fun _ _ => Glob.mono) hD
    intro y2
    refine Seq.on 200 ?_
    repeat (refine JL.flat ?_)
    refine JL.nil (At.then_normal ?_)
    refine At.again (X := {i : Nat // i ≤ l.length} × {ps : List Piece // True} × (Option Addr × Nat) × (Option Addr × Nat)) (x := (⟨i, hi⟩, ⟨ps, trivial⟩, q, y1)) (⟨i + 1, hlt⟩, ⟨ps ++ [(y1.1, y1.2, l[i])], trivial⟩, (a', cap'), y2) (by show l.length - (i + 1) < l.length - i; omega) (Sub.look ?_) ?_
    ·
      repeat (first | exact Sub.nil | refine Sub.cons rfl ?_)
    · intro h hs
      have hs1 := (Gives.sound (L := [PiecesB ps, BIn y1.1 l[i], SlOwn 177 1 a' (i + 1) cap' (ps.map pieceV ++ [Value.slice y1.1 l[i].length y1.2]), if h : i + 1 < l.length then BIn y2.1 l[i + 1] else emptyA, Lg p d first size gen (uAt gen (l.take (i + 1 + 1))) (tAt gen (l.take (i + 1 + 1))), Dv d k L m, F]) (by repeat (first | exact Gives.nil | (apply Gives.cons; · repeat (first | exact Pick.here | apply Pick.there))))) h hs
      have hs2 := PiecesB.snoc (y := (y1.1, y1.2, l[i])) h hs1
      have hs3 := star_left hs2
      have e1 : ps.map pieceV ++ [Value.slice y1.1 l[i].length y1.2] = (ps ++ [(y1.1, y1.2, l[i])]).map pieceV := by simp [pieceV]
      have e2 : (ps ++ [(y1.1, y1.2, l[i])]).map (fun x => x.2.2) = l.take (i + 1) := by
        rw [List.map_append, hps, List.take_succ_eq_append_getElem hlt]; rfl
      rw [e1] at hs3
      exact star_mono (fun _ h => h) (fun h hs => star_mono (fun _ h => h) (fun h hs => sep_pure (fun _ => e2) hs) hs) hs3
  · obtain rfl : i = l.length := by omega
    refine JL.set 33 (.bool false) rfl (congrArg Value.bool (by simp)) ?_
    have hn : ¬ l.length < l.length := by omega
    simp only [hn, dite_false]
    rw [List.take_of_length_le (show l.length ≤ l.length + 1 by omega)]
    rw [List.take_length] at hps
    repeat (refine JL.flat ?_)
    refine JL.ifF rfl ?_
    try refine JL.skip ?_
    repeat (refine JL.flat ?_)
    refine JL.exit ?_
    repeat (first | refine At.then_exit ?_ | refine At.block_pass rfl ?_)
    refine At.block_exit (At.then_normal (JL.at ?_))
    repeat (refine JL.flat ?_)
    refine JL.go 200 ?_
    apply Seq.call (wipeV p d k L m first size gen (uAt gen l) (tAt gen l) hr.fits h2 hk hg hr.clean) rfl rfl rfl rfl rfl rfl
    · repeat (first | exact Picks.nil | (apply Picks.cons; · repeat (first | exact Pick.here | apply Pick.there)))
    · exact Tells.none
    intro _
    refine Seq.on 200 ?_
    repeat (refine JL.flat ?_)
    refine JL.go 200 ?_
    repeat (refine JL.flat ?_)
    refine JL.ifF rfl ?_
    try refine JL.skip ?_
    repeat (refine JL.flat ?_)
    refine JL.go 200 ?_
    repeat (refine JL.flat ?_)
    refine JL.ret ?_
    repeat (first | refine At.then_ret ?_ | refine At.block_ret ?_)
    refine At.done3 rfl ((p, q, ⟨ps, hps⟩)) rfl rfl rfl rfl ?_
    exact (Gives.sound (by repeat (first | exact Gives.nil | (apply Gives.cons; · repeat (first | exact Pick.here | apply Pick.there)))))
end Go.Ent
namespace Go.Ent
open Go Go.Proofs
theorem Lg.flag {p d first size gen used : Nat} {tag : List UInt8} (ht : tag.length = 16) (h : Part) (x : Lg p d first size gen used tag h) : CellsAt p 21 [Value.bool false] h := by
  refine ⟨_, _, _, x, fun j v hj => ?_⟩
  obtain ⟨hlt, hv⟩ := List.getElem?_eq_some_iff.1 hj
  have hj0 : j = 0 := by simp at hlt; omega
  subst hj0
  show (LgC d first size gen used tag).toArray[21 + 0]? = some v
  rw [List.getElem?_toArray, show (21 + 0) = 16 + 1 + 1 + 1 + 1 + 1 by omega]
  simp only [LgC, List.getElem?_cons_succ]
  rw [List.getElem?_append_right (by simp [bytesV, ht])]
  simp [bytesV, ht] at hv ⊢
  exact hv
theorem wrL_at (L : Int → List UInt8) (first used gen : Nat) (l : List UInt8) (i j : Nat) (h : j < i) : wrL L first used gen l i ((first + (used + j) : Nat) : Int) = recSec gen (used + j) (if j = 0 then 1 else 2) (chunkAt l 55 j) := by
  induction i with
  | zero => omega
  | succ i ih =>
    unfold wrL updL
    by_cases e : j = i
    · subst e; simp
    · rw [if_neg (by omega)]; exact ih (by omega)
theorem wrL_other (L : Int → List UInt8) (first used gen : Nat) (l : List UInt8) (i : Nat) (n : Int) (h : ∀ j, j < i → n ≠ ((first + (used + j) : Nat) : Int)) : wrL L first used gen l i n = L n := by
  induction i with
  | zero => rfl
  | succ i ih =>
    unfold wrL updL
    rw [if_neg (h i (by omega))]
    exact ih fun j hj => h j (by omega)
set_option maxHeartbeats 1600000 in
theorem Append_ok (p d k : Nat) (L : Int → List UInt8) (m first size gen used : Nat) (tag : List UInt8) (a : Option Addr) (b : List UInt8) (c : Nat) (hb1 : 1 ≤ b.length) (hb2 : b.length ≤ 65536) (h2 : first + size ≤ k) (hk : k ≤ 16384) (hg : gen < 4294967296) (ht : tag.length = 16) (hr : used + sectorsN b.length ≤ size) (hm : m ≤ 1000) :
    Trip Tryz.prog 219 [ptrV p, .slice a b.length c] (fun h => Glob h ∧ BIn a b h) [Lg p d first size gen used tag, Dv d k L m] (X := Unit)
    (fun _ => .nilIface) (fun _ => [Lg p d first size gen (used + sectorsN b.length) (tagB tag gen b), Dv d k (wrL L first used gen (frameB tag gen b) (sectorsN b.length)) (m + sectorsN b.length)]) := by
  have hsec : 20 + b.length ≤ 55 * sectorsN b.length ∧ 1 ≤ sectorsN b.length ∧ sectorsN b.length ≤ 1200 := by unfold sectorsN; omega
  have htl := tagB_length tag gen b
  refine Trip.start (n := 90) Tryz.func219 (by kernel_rfl) rfl rfl rfl ?_
  intro F w hD
  have hDb : ∀ {G G' : List Assn}, Pick F G G' → Tells G (BIn a b) := fun pk => Tells.frame pk (fun _ _ => BIn.mono) (fun h hF => (hD h hF).2)
  have hDg : ∀ {G G' : List Assn}, Pick F G G' → Tells G Glob := fun pk => Tells.frame pk (fun _ _ => Glob.mono) (fun h hF => (hD h hF).1)
  repeat (refine JL.flat ?_)
  refine JL.go 200 ?_
  repeat (refine JL.flat ?_)
  refine JL.go 200 ?_
  apply Seq.call (Sectors_ok b.length hb1 hb2) rfl rfl rfl rfl rfl rfl
  · repeat (first | exact Picks.nil | (apply Picks.cons; · repeat (first | exact Pick.here | apply Pick.there)))
  · exact Tells.none
  intro _
  refine Seq.on 200 ?_
  repeat (refine JL.flat ?_)
  refine JL.block ?_
  repeat (refine JL.flat ?_)
  refine JL.go 200 ?_
  repeat (refine JL.flat ?_)
  refine JL.ifF rfl ?_
  try refine JL.skip ?_
  repeat (refine JL.flat ?_)
  refine JL.go 200 ?_
  refine JL.set 18 (.bool false) rfl (congrArg Value.bool (by
    show ((sectorsN b.length : Int) == ((0 : Nat) : Int)) = false
    rw [int_beq]; exact beq_eq_false_iff_ne.2 (by omega))) ?_
  repeat (refine JL.flat ?_)
  refine JL.ifF rfl ?_
  try refine JL.skip ?_
  repeat (refine JL.flat ?_)
  refine JL.go 200 ?_
  refine Seq.load (cs := [Value.bool false]) rfl rfl rfl rfl rfl (Tells.pick (A := Lg p d first size gen used tag) (by repeat (first | exact Pick.here | apply Pick.there)) (fun _ _ => CellsAt.mono) (fun h hx => Lg.flag ht h hx)) rfl rfl ?_
  refine Seq.on 200 ?_
  repeat (refine JL.flat ?_)
  refine JL.ifF rfl ?_
  try refine JL.skip ?_
  repeat (refine JL.flat ?_)
  refine JL.draws (by kernel_rfl) (fun hR => ?_)
  refine Ord.on hR 200 ?_
  apply Ord.loadLit hR NP.nop rfl rfl rfl rfl rfl rfl rfl
  · repeat (first | exact Pick.here | apply Pick.there)
  · rfl
  · rfl
  refine Ord.on hR 200 ?_
  apply Ord.loadLit hR NP.nop rfl rfl rfl rfl rfl rfl rfl
  · repeat (first | exact Pick.here | apply Pick.there)
  · rfl
  · rfl
  refine Ord.on hR 200 ?_
  refine JL.set 28 (.bool false) rfl (congrArg Value.bool (by
    show decide (((sectorsN b.length : Nat) : Int) > IntKind.i64.wrap ((size : Int) - (used : Int))) = false
    rw [show (size : Int) - (used : Int) = ((size - used : Nat) : Int) by omega, wrapI (small63 (by omega))]
    simp; omega)) ?_
  repeat (refine JL.flat ?_)
  refine JL.ifF rfl ?_
  try refine JL.skip ?_
  repeat (refine JL.flat ?_)
  refine JL.nil (At.block_normal (At.then_normal (JL.at ?_)))
  repeat (refine JL.flat ?_)
  refine JL.cut (X := Nat) (fun b6 => [(0, ptrV p), (1, .slice a b.length c), (5, .int .i64 (sectorsN b.length : Int)), (6, ptrV b6)])
    (fun b6 => [pt b6 (.cells (bytesV (tagB tag gen b)).toArray 64 (0, 0)), Lg p d first size gen used tag, Dv d k L m, F]) ?_ ?_
  · have htg := tagged_ok tag gen a b c ht (by omega)
    generalize tagB tag gen b = T at htl htg ⊢
    repeat (refine JL.flat ?_)
    refine JL.draw ([0, 1, 2, 3, 4, 5, 6, 7, 8, 99, 0, 1, 2, 3, 4, 5, 6, 7, 8]) (by kernel_rfl) (fun hR => ?_)
    refine Ord.on hR 200 ?_
    refine Ord.load (cs := bytesV tag) hR NP.nop rfl rfl rfl rfl rfl rfl rfl (Lg.tagT (by repeat (first | exact Pick.here | apply Pick.there))) (by rw [bytesV_length, ht]) rfl ?_
    refine Ord.on hR 200 ?_
    apply Ord.loadLit hR NP.nop rfl rfl rfl rfl rfl rfl rfl
    · repeat (first | exact Pick.here | apply Pick.there)
    · rfl
    · rfl
    refine Ord.on hR 200 ?_
    refine Ord.fork (L := [9, 10]) (k := 2) hR rfl (by kernel_rfl) rfl rfl ?_
    refine Forks.act (ord := [10, 11]) rfl rfl rfl rfl (Ef.call rfl rfl rfl rfl htg Picks.nil (fun h hs => ⟨hDg (by repeat (first | exact Pick.here | apply Pick.there)) h hs, hDb (by repeat (first | exact Pick.here | apply Pick.there)) h hs⟩)) (fun _ => ?_) (by kernel_rfl) (by kernel_rfl) (fun _ => ?_) ?_
    · repeat (first | exact Keep.nil | (refine Keep.loadT rfl rfl rfl (Lg.tagT (by repeat (first | exact Pick.here | apply Pick.there))) (by rw [bytesV_length, ht]) rfl ?_) | (refine Keep.load rfl rfl rfl (by repeat (first | exact Pick.here | apply Pick.there)) (by rfl) (by rfl) ?_) | (refine Keep.waits (by kernel_rfl) ?_))
    ·
      refine Ord.eff hR rfl rfl rfl rfl (Ef.alloc tab_zero rfl rfl) (fun b12 => ?_) (fun b12 => ?_)
      · repeat (first | exact Keep.nil | (refine Keep.loadT rfl rfl rfl (Lg.tagT (by repeat (first | exact Pick.here | apply Pick.there))) (by rw [bytesV_length, ht]) rfl ?_) | (refine Keep.load rfl rfl rfl (by repeat (first | exact Pick.here | apply Pick.there)) (by rfl) (by rfl) ?_) | (refine Keep.waits (by kernel_rfl) ?_))
      refine Ord.storeAll hR rfl rfl rfl rfl rfl rfl rfl rfl (by repeat (first | exact Pick.here | apply Pick.there)) (by simp [Value.cells, bytesV, htl]) (Ones_bytesV _) rfl ?_ ?_
      · repeat (first | exact Keep.nil | (refine Keep.waits (by kernel_rfl) ?_))
      refine Ord.on hR 200 ?_
      refine JL.nil (At.then_normal (At.mid b12 ?_ ?_))
      ·
        repeat (first | exact Sub.nil | refine Sub.cons rfl ?_)
      · exact (Gives.sound (by repeat (first | exact Gives.nil | (apply Gives.cons; · repeat (first | exact Pick.here | apply Pick.there)))))
    refine Forks.act (ord := [9, 11]) rfl rfl rfl rfl (Ef.alloc tab_zero rfl rfl) (fun b12 => ?_) (by kernel_rfl) (by kernel_rfl) (fun b12 => ?_) Forks.nil
    · repeat (first | exact Keep.nil | (refine Keep.loadT rfl rfl rfl (Lg.tagT (by repeat (first | exact Pick.here | apply Pick.there))) (by rw [bytesV_length, ht]) rfl ?_) | (refine Keep.load rfl rfl rfl (by repeat (first | exact Pick.here | apply Pick.there)) (by rfl) (by rfl) ?_) | (refine Keep.waits (by kernel_rfl) ?_))
    ·
      apply Ord.call (htg) hR rfl rfl rfl rfl rfl rfl rfl rfl
      ·
        repeat (first | exact Picks.nil | (apply Picks.cons; · repeat (first | exact Pick.here | apply Pick.there)))
      · exact fun h hs => ⟨hDg (by repeat (first | exact Pick.here | apply Pick.there)) h hs, hDb (by repeat (first | exact Pick.here | apply Pick.there)) h hs⟩
      · intro _
        repeat (first | exact Keep.nil | (refine Keep.loadT rfl rfl rfl (Lg.tagT (by repeat (first | exact Pick.here | apply Pick.there))) (by rw [bytesV_length, ht]) rfl ?_) | (refine Keep.load rfl rfl rfl (by repeat (first | exact Pick.here | apply Pick.there)) (by rfl) (by rfl) ?_) | (refine Keep.waits (by kernel_rfl) ?_))
      intro _
      refine Ord.storeAll hR rfl rfl rfl rfl rfl rfl rfl rfl (by repeat (first | exact Pick.here | apply Pick.there)) (by simp [Value.cells, bytesV, htl]) (Ones_bytesV _) rfl ?_ ?_
      · repeat (first | exact Keep.nil | (refine Keep.waits (by kernel_rfl) ?_))
      refine Ord.on hR 200 ?_
      refine JL.nil (At.then_normal (At.mid b12 ?_ ?_))
      ·
        repeat (first | exact Sub.nil | refine Sub.cons rfl ?_)
      · exact (Gives.sound (by repeat (first | exact Gives.nil | (apply Gives.cons; · repeat (first | exact Pick.here | apply Pick.there)))))
  intro b6
  have hfr : frameB tag gen b = [] ++ beB b.length 4 ++ tagB tag gen b ++ b := rfl
  have hfl := frameB_length tag gen b
  have hch := chunks_frame tag gen b
  generalize frameB tag gen b = FR at hfr hfl hch ⊢
  generalize tagB tag gen b = T at htl hfr ⊢
  repeat (refine JL.flat ?_)
  refine JL.go 200 ?_
  refine Seq.yield rfl rfl (Yl.build rfl rfl rfl rfl rfl) ?_
  refine Seq.eff rfl rfl (Ef.box rfl rfl) ?_
  intro pw
  refine Seq.on 200 ?_
  refine JL.to [Wr pw .nilIface [], pt b6 (.cells (bytesV T).toArray 64 (0, 0)), Lg p d first size gen used tag, Dv d k L m, F] (fun h hs => star_mono (fun h hx => Wr.new h hx) (fun _ h => h) hs) ?_
  repeat (refine JL.flat ?_)
  refine JL.draw ([0, 1, 2, 3, 5, 7, 4, 6, 8, 9, 10, 11, 12, 13, 14]) (by kernel_rfl) (fun hR => ?_)
  refine Ord.on hR 200 ?_
  refine Ord.set 57 (.int .u64 (b.length : Int)) rfl (congrArg (Value.int .u64) (wrap_int (by omega) (by omega))) ?_
  refine Ord.pure hR NP.nop rfl rfl rfl rfl (fun a w ha => run_sliceArr 0 16 rfl rfl rfl rfl rfl rfl rfl rfl (by omega) (by omega) a w ha) ?_
  refine Ord.set 59 (.slice (some ⟨b6, 0, none⟩) T.length 16) rfl (by rw [htl]; rfl) ?_
  refine Ord.on hR 200 ?_
  have h32 : (2 : Nat) ^ (8 * 4) = 4294967296 := by decide
  apply Ord.call (Num_4 pw .nilIface [] b.length (by omega) (by simp)) hR rfl rfl rfl rfl rfl rfl rfl rfl
  · repeat (first | exact Picks.nil | (apply Picks.cons; · repeat (first | exact Pick.here | apply Pick.there)))
  · exact Tells.none
  · intro _
    repeat (first | exact Keep.nil | (refine Keep.load rfl rfl rfl (by repeat (first | exact Pick.here | apply Pick.there)) (by rfl) (by rfl) ?_) | (refine Keep.waits (by kernel_rfl) ?_))
  intro _
  refine Ord.on hR 200 ?_
  apply Ord.call (Raw_ok pw .nilIface ([] ++ beB b.length 4) T (some ⟨b6, 0, none⟩) 16 (by simp [beB_length]; omega)) hR rfl rfl rfl rfl rfl rfl rfl rfl
  ·
    repeat (first | exact Picks.nil | (apply Picks.cons; · repeat (first | exact Pick.here | apply Pick.there)))
  · exact Tells.pick (A := pt b6 (.cells (bytesV T).toArray 64 (0, 0))) (by repeat (first | exact Pick.here | apply Pick.there)) (fun _ _ => BIn.mono) (fun h hx => by
      have := BIn.of_pt (lo := 0) (k := 16) (by omega) h hx
      rw [List.drop_zero, List.take_of_length_le (by omega)] at this
      exact this)
  · intro _
    repeat (first | exact Keep.nil | (refine Keep.load rfl rfl rfl (by repeat (first | exact Pick.here | apply Pick.there)) (by rfl) (by rfl) ?_) | (refine Keep.waits (by kernel_rfl) ?_))
  intro _
  refine Ord.on hR 200 ?_
  apply Ord.call (Raw_ok pw .nilIface ([] ++ beB b.length 4 ++ T) b a c (by simp [beB_length]; omega)) hR rfl rfl rfl rfl rfl rfl rfl rfl
  ·
    repeat (first | exact Picks.nil | (apply Picks.cons; · repeat (first | exact Pick.here | apply Pick.there)))
  · exact hDb (by repeat (first | exact Pick.here | apply Pick.there))
  · intro _
    repeat (first | exact Keep.nil | (refine Keep.load rfl rfl rfl (by repeat (first | exact Pick.here | apply Pick.there)) (by rfl) (by rfl) ?_) | (refine Keep.waits (by kernel_rfl) ?_))
  intro _
  rw [← hfr]
  refine Ord.on hR 200 ?_
  apply Ord.call (Done_ok pw FR (by omega)) hR rfl rfl rfl rfl rfl rfl rfl rfl
  · repeat (first | exact Picks.nil | (apply Picks.cons; · repeat (first | exact Pick.here | apply Pick.there)))
  · exact Tells.none
  · intro _
    repeat (first | exact Keep.nil | (refine Keep.load rfl rfl rfl (by repeat (first | exact Pick.here | apply Pick.there)) (by rfl) (by rfl) ?_) | (refine Keep.waits (by kernel_rfl) ?_))
  intro r
  refine Ord.on hR 200 ?_
  repeat (refine JL.flat ?_)
  refine JL.go 200 ?_
  repeat (refine JL.flat ?_)
  refine JL.ifF rfl ?_
  try refine JL.skip ?_
  refine JL.fact (p := FR.length ≤ r.2) (fun h hs => ?_) (fun hcap => ?_)
  · have hs1 := (Gives.sound (L := [BOwn r FR]) (by repeat (first | exact Gives.nil | (apply Gives.cons; · repeat (first | exact Pick.here | apply Pick.there))))) h hs
    obtain ⟨_, _, _, _, _, hb, _⟩ := hs1
    exact hb.2.1
  repeat (refine JL.flat ?_)
  refine JL.go 200 ?_
  apply Seq.call (write_ok p d k L m first size gen used tag r.1 FR r.2 hcap (by omega) (by omega) h2 hk hm hg) rfl rfl rfl rfl rfl rfl
  ·
    repeat (first | exact Picks.nil | (apply Picks.cons; · repeat (first | exact Pick.here | apply Pick.there)))
  · exact Tells.own (by repeat (first | exact Pick.here | apply Pick.there))
  intro _
  rw [hch]
  generalize wrL L first used gen FR (sectorsN b.length) = L1
  refine Seq.on 200 ?_
  repeat (refine JL.flat ?_)
  refine JL.go 200 ?_
  repeat (refine JL.flat ?_)
  refine JL.ifF rfl ?_
  try refine JL.skip ?_
  repeat (refine JL.flat ?_)
  refine JL.go 200 ?_
  apply Seq.loadLit rfl rfl rfl rfl rfl
  · repeat (first | exact Pick.here | apply Pick.there)
  · rfl
  · rfl
  refine Seq.on 2 ?_
  refine Seq.set 83 (.int .i64 ((used + sectorsN b.length : Nat) : Int)) rfl (congrArg (Value.int .i64) (by rw [← Int.natCast_add]; exact wrapI (small63 (by omega)))) ?_
  refine Seq.on 200 ?_
  refine Seq.lgUsed rfl rfl rfl rfl rfl rfl rfl (by repeat (first | exact Pick.here | apply Pick.there)) ?_
  refine Seq.on 200 ?_
  repeat (refine JL.flat ?_)
  refine JL.go 200 ?_
  refine Seq.loadAll rfl rfl rfl rfl rfl rfl (by repeat (first | exact Pick.here | apply Pick.there)) (by simp [bytesV, htl]) ?_
  refine Seq.on 200 ?_
  refine Seq.lgTag rfl rfl rfl rfl rfl rfl rfl (by repeat (first | exact Pick.here | apply Pick.there)) ht htl ?_
  refine Seq.on 200 ?_
  repeat (refine JL.flat ?_)
  refine JL.go 200 ?_
  repeat (refine JL.flat ?_)
  refine JL.ret ?_
  repeat (first | refine At.then_ret ?_ | refine At.block_ret ?_)
  refine At.done1 rfl (()) rfl ?_
  exact (Gives.sound (by repeat (first | exact Gives.nil | (apply Gives.cons; · repeat (first | exact Pick.here | apply Pick.there)))))
end Go.Ent
