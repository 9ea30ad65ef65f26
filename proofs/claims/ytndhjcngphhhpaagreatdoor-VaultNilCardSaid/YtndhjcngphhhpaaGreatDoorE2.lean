/-
  a part of the proof: contracts of functions, and the engine by which they are walked.
-/
import Derived.Test.YtndhjcngphhhpaaGreatDoorE1
set_option linter.unusedVariables false
set_option linter.unusedSimpArgs false
namespace Go.Ent
open Go Go.Proofs
def sizedB (n : Int) : Bool := n == 1 || n == 2 || n == 4 || n == 8
theorem sized_1 : Trip Tryz.prog 171 [.int .i64 1] none_ [] (X := Unit) (fun _ => .bool true) (fun _ => []) := by
  refine Trip.start (n := 17) Tryz.func171 (by kernel_rfl) rfl rfl rfl ?_
  intro F w hD
  repeat (refine JL.flat ?_)
  refine JL.go 200 ?_
  repeat (refine JL.flat ?_)
  refine JL.go 200 ?_
  repeat (refine JL.flat ?_)
  refine JL.ret ?_
  repeat (first | refine At.then_ret ?_ | refine At.block_ret ?_)
  refine At.done1 rfl (()) rfl ?_
  exact (Gives.sound (by repeat (first | exact Gives.nil | (apply Gives.cons; · repeat (first | exact Pick.here | apply Pick.there)))))
theorem sized_2 : Trip Tryz.prog 171 [.int .i64 2] none_ [] (X := Unit) (fun _ => .bool true) (fun _ => []) := by
  refine Trip.start (n := 17) Tryz.func171 (by kernel_rfl) rfl rfl rfl ?_
  intro F w hD
  repeat (refine JL.flat ?_)
  refine JL.go 200 ?_
  repeat (refine JL.flat ?_)
  refine JL.go 200 ?_
  repeat (refine JL.flat ?_)
  refine JL.ret ?_
  repeat (first | refine At.then_ret ?_ | refine At.block_ret ?_)
  refine At.done1 rfl (()) rfl ?_
  exact (Gives.sound (by repeat (first | exact Gives.nil | (apply Gives.cons; · repeat (first | exact Pick.here | apply Pick.there)))))
theorem sized_4 : Trip Tryz.prog 171 [.int .i64 4] none_ [] (X := Unit) (fun _ => .bool true) (fun _ => []) := by
  refine Trip.start (n := 17) Tryz.func171 (by kernel_rfl) rfl rfl rfl ?_
  intro F w hD
  repeat (refine JL.flat ?_)
  refine JL.go 200 ?_
  repeat (refine JL.flat ?_)
  refine JL.go 200 ?_
  repeat (refine JL.flat ?_)
  refine JL.ret ?_
  repeat (first | refine At.then_ret ?_ | refine At.block_ret ?_)
  refine At.done1 rfl (()) rfl ?_
  exact (Gives.sound (by repeat (first | exact Gives.nil | (apply Gives.cons; · repeat (first | exact Pick.here | apply Pick.there)))))
theorem sized_8 : Trip Tryz.prog 171 [.int .i64 8] none_ [] (X := Unit) (fun _ => .bool true) (fun _ => []) := by
  refine Trip.start (n := 17) Tryz.func171 (by kernel_rfl) rfl rfl rfl ?_
  intro F w hD
  repeat (refine JL.flat ?_)
  refine JL.go 200 ?_
  repeat (refine JL.flat ?_)
  refine JL.go 200 ?_
  repeat (refine JL.flat ?_)
  refine JL.ret ?_
  repeat (first | refine At.then_ret ?_ | refine At.block_ret ?_)
  refine At.done1 rfl (()) rfl ?_
  exact (Gives.sound (by repeat (first | exact Gives.nil | (apply Gives.cons; · repeat (first | exact Pick.here | apply Pick.there)))))
/-- a writer at p: its error, what was written. -/
def Wr (p : Nat) (e : Value) (out : List UInt8) : Assn := exA fun r : Option Addr × Nat => [pt p (.cells [e, .slice r.1 out.length r.2].toArray 275 (0, 0)), SlOwn 5 1 r.1 out.length r.2 (bytesV out)]

theorem Raw_ok (p : Nat) (e : Value) (out ys : List UInt8) (a2 : Option Addr) (c2 : Nat) (hl : out.length + ys.length ≤ 100000000) :
    Trip Tryz.prog 237 [ptrV p, .slice a2 ys.length c2] (BIn a2 ys) [Wr p e out] (X := Unit) (fun _ => ptrV p) (fun _ => [Wr p e (out ++ ys)]) := by
  refine Trip.start (n := 17) Tryz.func237 (by kernel_rfl) rfl rfl rfl ?_
  intro F w hD
  refine JL.open ?_
  rintro ⟨a, cap⟩
  repeat (refine JL.flat ?_)
  refine JL.go 200 ?_
  repeat (refine JL.flat ?_)
  refine JL.go 200 ?_
  repeat (refine JL.flat ?_)
  refine JL.ifF rfl ?_
  try refine JL.skip ?_
  repeat (refine JL.flat ?_)
  refine JL.go 200 ?_
  apply Seq.loadLit rfl rfl rfl rfl rfl
  · repeat (first | exact Pick.here | apply Pick.there)
  · rfl
  · rfl
  refine Seq.on 200 ?_
  refine Seq.appendB (ys := ys) rfl rfl rfl rfl rfl rfl rfl rfl rfl rfl rfl (by repeat (first | exact Pick.here | apply Pick.there)) ?_ ?_ ?_
  · exact Tells.frame (by repeat (first | exact Pick.here | apply Pick.there)) (fun _ _ => SlIn.mono) hD
  · omega
  intro a' cap'
  refine Seq.on 200 ?_
  apply Seq.storeLit rfl rfl rfl rfl rfl rfl
  · repeat (first | exact Pick.here | apply Pick.there)
  · rfl
  · rfl
  · rfl
  refine Seq.on 200 ?_
  repeat (refine JL.flat ?_)
  refine JL.go 200 ?_
  repeat (refine JL.flat ?_)
  refine JL.ret ?_
  repeat (first | refine At.then_ret ?_ | refine At.block_ret ?_)
  refine At.done1 rfl (()) rfl ?_
  exact Gives.sound (Gives.ex (a', cap') (by repeat (first | exact Gives.nil | (apply Gives.cons; · repeat (first | exact Pick.here | apply Pick.there)))))
theorem Num_1 (p : Nat) (e : Value) (out : List UInt8) (n : Nat) (hn : n < 2 ^ (8 * 1)) (hl : out.length ≤ 50000000) :
    Trip Tryz.prog 141 [ptrV p, .int .u64 (n : Int), .int .i64 1] none_ [Wr p e out] (X := Unit) (fun _ => ptrV p) (fun _ => [Wr p e (out ++ beB n 1)]) := by
  refine Trip.start (n := 51) Tryz.func141 (by kernel_rfl) rfl rfl rfl ?_
  intro F w hD
  repeat (refine JL.flat ?_)
  refine JL.go 200 ?_
  repeat (refine JL.flat ?_)
  refine JL.go 200 ?_
  repeat (refine JL.flat ?_)
  refine JL.ifF rfl ?_
  try refine JL.skip ?_
  repeat (refine JL.flat ?_)
  refine JL.go 200 ?_
  apply Seq.call (sized_1) rfl rfl rfl rfl rfl rfl
  · exact Picks.nil
  · exact Tells.none
  intro _
  refine Seq.on 200 ?_
  refine JL.set 23 (.bool false) rfl ?_ ?_
  · first | rfl | (show Value.bool (Int.fdiv (n : Int) (2 ^ (8 * 1)) != 0) = _; rw [shr_zero hn]; rfl)
  repeat (refine JL.flat ?_)
  refine JL.ifF rfl ?_
  try refine JL.skip ?_
  repeat (refine JL.flat ?_)
  refine JL.go 200 ?_
  repeat (refine JL.flat ?_)
  refine JL.block ?_
  refine JL.loop (X := {j : Nat // j ≤ 1}) ⟨0, by omega⟩ (fun j => [(0, ptrV p), (1, .int .u64 (n : Int)), (7, .int .i64 (1 - 1 - (j.1 : Int)))]) (fun j => [Wr p e (out ++ (beB n 1).take j.1), F]) (fun j => 1 - j.1) ?_ ?_ ?_
  ·
    repeat (first | exact Sub.nil | refine Sub.cons rfl ?_)
  · simp only [List.take_zero, List.append_nil]
    exact fun h s => s
  rintro ⟨j, hj⟩
  rcases (show j = 1 ∨ j = 0 by omega) with rfl | rfl
  ·
    repeat (refine JL.flat ?_)
    refine JL.go 200 ?_
    repeat (refine JL.flat ?_)
    refine JL.ifF rfl ?_
    try refine JL.skip ?_
    repeat (refine JL.flat ?_)
    refine JL.exit ?_
    repeat (first | refine At.then_exit ?_ | refine At.block_pass rfl ?_)
    refine At.block_exit (At.then_normal (JL.at ?_))
    repeat (refine JL.flat ?_)
    refine JL.go 200 ?_
    repeat (refine JL.flat ?_)
    refine JL.ret ?_
    repeat (first | refine At.then_ret ?_ | refine At.block_ret ?_)
    refine At.done1 rfl (()) rfl ?_
    exact (Gives.sound (by repeat (first | exact Gives.nil | (apply Gives.cons; · repeat (first | exact Pick.here | apply Pick.there)))))
  ·
    refine JL.open ?_
    rintro ⟨a, cap⟩
    repeat (refine JL.flat ?_)
    refine JL.go 200 ?_
    repeat (refine JL.flat ?_)
    refine JL.ifT rfl ?_
    try refine JL.skip ?_
    repeat (refine JL.flat ?_)
    refine JL.block ?_
    repeat (refine JL.flat ?_)
    refine JL.draws (by kernel_rfl) (fun hR => ?_)
    refine Ord.on hR 200 ?_
    apply Ord.loadLit hR NP.nop rfl rfl rfl rfl rfl rfl rfl
    · repeat (first | exact Pick.here | apply Pick.there)
    · rfl
    · rfl
    refine Ord.on hR 200 ?_
    refine Ord.set 45 (bval (byteAt n 0)) rfl (congrArg (Value.int .u8) (conv_shr n (8 * 0))) ?_
    refine Ord.bslice (out := (bytesV [byteAt n 0])) hR rfl rfl rfl rfl rfl rfl rfl rfl rfl rfl (by rfl) rfl (by rfl) ?_ ?_
    · intro _
      repeat (first | exact Keep.nil | (refine Keep.load rfl rfl rfl (by repeat (first | exact Pick.here | apply Pick.there)) (by rfl) (by rfl) ?_) | (refine Keep.waits (by kernel_rfl) ?_))
    intro b
    refine Ord.on hR 200 ?_
    refine Ord.appendB (ys := [byteAt n 0]) hR rfl rfl rfl rfl rfl rfl rfl rfl rfl rfl rfl rfl rfl (by repeat (first | exact Pick.here | apply Pick.there)) ?_ ?_ ?_ ?_
    · exact Tells.own (by repeat (first | exact Pick.here | apply Pick.there))
    · simp [beB_length]; omega
    · intro _ _
      repeat (first | exact Keep.nil | (refine Keep.load rfl rfl rfl (by repeat (first | exact Pick.here | apply Pick.there)) (by rfl) (by rfl) ?_) | (refine Keep.waits (by kernel_rfl) ?_))
    intro a' cap'
    refine Ord.on hR 200 ?_
    apply Ord.storeLit hR rfl rfl rfl rfl rfl rfl rfl rfl
    · repeat (first | exact Pick.here | apply Pick.there)
    · rfl
    · rfl
    · rfl
    · repeat (first | exact Keep.nil | (refine Keep.load rfl rfl rfl (by repeat (first | exact Pick.here | apply Pick.there)) (by rfl) (by rfl) ?_) | (refine Keep.waits (by kernel_rfl) ?_))
    refine Ord.on hR 200 ?_
    repeat (refine JL.flat ?_)
    refine JL.nil (At.block_normal (At.then_normal (JL.at ?_)))
    repeat (refine JL.flat ?_)
    refine JL.go 200 ?_
    repeat (refine JL.flat ?_)
    refine JL.nil (At.then_normal ?_)
    refine At.again ⟨0 + 1, by omega⟩ (by simp only; omega) (Sub.look ?_) ?_
    ·
      repeat (first | exact Sub.nil | refine Sub.cons rfl ?_)
    rw [List.append_assoc]
    exact Gives.sound (Gives.ex (a', cap') (by repeat (first | exact Gives.nil | (apply Gives.cons; · repeat (first | exact Pick.here | apply Pick.there)))))
theorem Num_2 (p : Nat) (e : Value) (out : List UInt8) (n : Nat) (hn : n < 2 ^ (8 * 2)) (hl : out.length ≤ 50000000) :
    Trip Tryz.prog 141 [ptrV p, .int .u64 (n : Int), .int .i64 2] none_ [Wr p e out] (X := Unit) (fun _ => ptrV p) (fun _ => [Wr p e (out ++ beB n 2)]) := by
  refine Trip.start (n := 51) Tryz.func141 (by kernel_rfl) rfl rfl rfl ?_
  intro F w hD
  repeat (refine JL.flat ?_)
  refine JL.go 200 ?_
  repeat (refine JL.flat ?_)
  refine JL.go 200 ?_
  repeat (refine JL.flat ?_)
  refine JL.ifF rfl ?_
  try refine JL.skip ?_
  repeat (refine JL.flat ?_)
  refine JL.go 200 ?_
  apply Seq.call (sized_2) rfl rfl rfl rfl rfl rfl
  · exact Picks.nil
  · exact Tells.none
  intro _
  refine Seq.on 200 ?_
  refine JL.set 23 (.bool false) rfl ?_ ?_
  · first | rfl | (show Value.bool (Int.fdiv (n : Int) (2 ^ (8 * 2)) != 0) = _; rw [shr_zero hn]; rfl)
  repeat (refine JL.flat ?_)
  refine JL.ifF rfl ?_
  try refine JL.skip ?_
  repeat (refine JL.flat ?_)
  refine JL.go 200 ?_
  repeat (refine JL.flat ?_)
  refine JL.block ?_
  refine JL.loop (X := {j : Nat // j ≤ 2}) ⟨0, by omega⟩ (fun j => [(0, ptrV p), (1, .int .u64 (n : Int)), (7, .int .i64 (2 - 1 - (j.1 : Int)))]) (fun j => [Wr p e (out ++ (beB n 2).take j.1), F]) (fun j => 2 - j.1) ?_ ?_ ?_
  ·
    repeat (first | exact Sub.nil | refine Sub.cons rfl ?_)
  · simp only [List.take_zero, List.append_nil]
    exact fun h s => s
  rintro ⟨j, hj⟩
  rcases (show j = 2 ∨ j = 0 ∨ j = 1 by omega) with rfl | rfl | rfl
  ·
    repeat (refine JL.flat ?_)
    refine JL.go 200 ?_
    repeat (refine JL.flat ?_)
    refine JL.ifF rfl ?_
    try refine JL.skip ?_
    repeat (refine JL.flat ?_)
    refine JL.exit ?_
    repeat (first | refine At.then_exit ?_ | refine At.block_pass rfl ?_)
    refine At.block_exit (At.then_normal (JL.at ?_))
    repeat (refine JL.flat ?_)
    refine JL.go 200 ?_
    repeat (refine JL.flat ?_)
    refine JL.ret ?_
    repeat (first | refine At.then_ret ?_ | refine At.block_ret ?_)
    refine At.done1 rfl (()) rfl ?_
    exact (Gives.sound (by repeat (first | exact Gives.nil | (apply Gives.cons; · repeat (first | exact Pick.here | apply Pick.there)))))
  ·
    refine JL.open ?_
    rintro ⟨a, cap⟩
    repeat (refine JL.flat ?_)
    refine JL.go 200 ?_
    repeat (refine JL.flat ?_)
    refine JL.ifT rfl ?_
    try refine JL.skip ?_
    repeat (refine JL.flat ?_)
    refine JL.block ?_
    repeat (refine JL.flat ?_)
    refine JL.draws (by kernel_rfl) (fun hR => ?_)
    refine Ord.on hR 200 ?_
    apply Ord.loadLit hR NP.nop rfl rfl rfl rfl rfl rfl rfl
    · repeat (first | exact Pick.here | apply Pick.there)
    · rfl
    · rfl
    refine Ord.on hR 200 ?_
    refine Ord.set 45 (bval (byteAt n 1)) rfl (congrArg (Value.int .u8) (conv_shr n (8 * 1))) ?_
    refine Ord.bslice (out := (bytesV [byteAt n 1])) hR rfl rfl rfl rfl rfl rfl rfl rfl rfl rfl (by rfl) rfl (by rfl) ?_ ?_
    · intro _
      repeat (first | exact Keep.nil | (refine Keep.load rfl rfl rfl (by repeat (first | exact Pick.here | apply Pick.there)) (by rfl) (by rfl) ?_) | (refine Keep.waits (by kernel_rfl) ?_))
    intro b
    refine Ord.on hR 200 ?_
    refine Ord.appendB (ys := [byteAt n 1]) hR rfl rfl rfl rfl rfl rfl rfl rfl rfl rfl rfl rfl rfl (by repeat (first | exact Pick.here | apply Pick.there)) ?_ ?_ ?_ ?_
    · exact Tells.own (by repeat (first | exact Pick.here | apply Pick.there))
    · simp [beB_length]; omega
    · intro _ _
      repeat (first | exact Keep.nil | (refine Keep.load rfl rfl rfl (by repeat (first | exact Pick.here | apply Pick.there)) (by rfl) (by rfl) ?_) | (refine Keep.waits (by kernel_rfl) ?_))
    intro a' cap'
    refine Ord.on hR 200 ?_
    apply Ord.storeLit hR rfl rfl rfl rfl rfl rfl rfl rfl
    · repeat (first | exact Pick.here | apply Pick.there)
    · rfl
    · rfl
    · rfl
    · repeat (first | exact Keep.nil | (refine Keep.load rfl rfl rfl (by repeat (first | exact Pick.here | apply Pick.there)) (by rfl) (by rfl) ?_) | (refine Keep.waits (by kernel_rfl) ?_))
    refine Ord.on hR 200 ?_
    repeat (refine JL.flat ?_)
    refine JL.nil (At.block_normal (At.then_normal (JL.at ?_)))
    repeat (refine JL.flat ?_)
    refine JL.go 200 ?_
    repeat (refine JL.flat ?_)
    refine JL.nil (At.then_normal ?_)
    refine At.again ⟨0 + 1, by omega⟩ (by simp only; omega) (Sub.look ?_) ?_
    ·
      repeat (first | exact Sub.nil | refine Sub.cons rfl ?_)
    rw [List.append_assoc]
    exact Gives.sound (Gives.ex (a', cap') (by repeat (first | exact Gives.nil | (apply Gives.cons; · repeat (first | exact Pick.here | apply Pick.there)))))
  ·
    refine JL.open ?_
    rintro ⟨a, cap⟩
    repeat (refine JL.flat ?_)
    refine JL.go 200 ?_
    repeat (refine JL.flat ?_)
    refine JL.ifT rfl ?_
    try refine JL.skip ?_
    repeat (refine JL.flat ?_)
    refine JL.block ?_
    repeat (refine JL.flat ?_)
    refine JL.draws (by kernel_rfl) (fun hR => ?_)
    refine Ord.on hR 200 ?_
    apply Ord.loadLit hR NP.nop rfl rfl rfl rfl rfl rfl rfl
    · repeat (first | exact Pick.here | apply Pick.there)
    · rfl
    · rfl
    refine Ord.on hR 200 ?_
    refine Ord.set 45 (bval (byteAt n 0)) rfl (congrArg (Value.int .u8) (conv_shr n (8 * 0))) ?_
    refine Ord.bslice (out := (bytesV [byteAt n 0])) hR rfl rfl rfl rfl rfl rfl rfl rfl rfl rfl (by rfl) rfl (by rfl) ?_ ?_
    · intro _
      repeat (first | exact Keep.nil | (refine Keep.load rfl rfl rfl (by repeat (first | exact Pick.here | apply Pick.there)) (by rfl) (by rfl) ?_) | (refine Keep.waits (by kernel_rfl) ?_))
    intro b
    refine Ord.on hR 200 ?_
    refine Ord.appendB (ys := [byteAt n 0]) hR rfl rfl rfl rfl rfl rfl rfl rfl rfl rfl rfl rfl rfl (by repeat (first | exact Pick.here | apply Pick.there)) ?_ ?_ ?_ ?_
    · exact Tells.own (by repeat (first | exact Pick.here | apply Pick.there))
    · simp [beB_length]; omega
    · intro _ _
      repeat (first | exact Keep.nil | (refine Keep.load rfl rfl rfl (by repeat (first | exact Pick.here | apply Pick.there)) (by rfl) (by rfl) ?_) | (refine Keep.waits (by kernel_rfl) ?_))
    intro a' cap'
    refine Ord.on hR 200 ?_
    apply Ord.storeLit hR rfl rfl rfl rfl rfl rfl rfl rfl
    · repeat (first | exact Pick.here | apply Pick.there)
    · rfl
    · rfl
    · rfl
    · repeat (first | exact Keep.nil | (refine Keep.load rfl rfl rfl (by repeat (first | exact Pick.here | apply Pick.there)) (by rfl) (by rfl) ?_) | (refine Keep.waits (by kernel_rfl) ?_))
    refine Ord.on hR 200 ?_
    repeat (refine JL.flat ?_)
    refine JL.nil (At.block_normal (At.then_normal (JL.at ?_)))
    repeat (refine JL.flat ?_)
    refine JL.go 200 ?_
    repeat (refine JL.flat ?_)
    refine JL.nil (At.then_normal ?_)
    refine At.again ⟨1 + 1, by omega⟩ (by simp only; omega) (Sub.look ?_) ?_
    ·
      repeat (first | exact Sub.nil | refine Sub.cons rfl ?_)
    rw [List.append_assoc]
    exact Gives.sound (Gives.ex (a', cap') (by repeat (first | exact Gives.nil | (apply Gives.cons; · repeat (first | exact Pick.here | apply Pick.there)))))
theorem Num_4 (p : Nat) (e : Value) (out : List UInt8) (n : Nat) (hn : n < 2 ^ (8 * 4)) (hl : out.length ≤ 50000000) :
    Trip Tryz.prog 141 [ptrV p, .int .u64 (n : Int), .int .i64 4] none_ [Wr p e out] (X := Unit) (fun _ => ptrV p) (fun _ => [Wr p e (out ++ beB n 4)]) := by
  refine Trip.start (n := 51) Tryz.func141 (by kernel_rfl) rfl rfl rfl ?_
  intro F w hD
  repeat (refine JL.flat ?_)
  refine JL.go 200 ?_
  repeat (refine JL.flat ?_)
  refine JL.go 200 ?_
  repeat (refine JL.flat ?_)
  refine JL.ifF rfl ?_
  try refine JL.skip ?_
  repeat (refine JL.flat ?_)
  refine JL.go 200 ?_
  apply Seq.call (sized_4) rfl rfl rfl rfl rfl rfl
  · exact Picks.nil
  · exact Tells.none
  intro _
  refine Seq.on 200 ?_
  refine JL.set 23 (.bool false) rfl ?_ ?_
  · first | rfl | (show Value.bool (Int.fdiv (n : Int) (2 ^ (8 * 4)) != 0) = _; rw [shr_zero hn]; rfl)
  repeat (refine JL.flat ?_)
  refine JL.ifF rfl ?_
  try refine JL.skip ?_
  repeat (refine JL.flat ?_)
  refine JL.go 200 ?_
  repeat (refine JL.flat ?_)
  refine JL.block ?_
  refine JL.loop (X := {j : Nat // j ≤ 4}) ⟨0, by omega⟩ (fun j => [(0, ptrV p), (1, .int .u64 (n : Int)), (7, .int .i64 (4 - 1 - (j.1 : Int)))]) (fun j => [Wr p e (out ++ (beB n 4).take j.1), F]) (fun j => 4 - j.1) ?_ ?_ ?_
  ·
    repeat (first | exact Sub.nil | refine Sub.cons rfl ?_)
  · simp only [List.take_zero, List.append_nil]
    exact fun h s => s
  rintro ⟨j, hj⟩
  rcases (show j = 4 ∨ j = 0 ∨ j = 1 ∨ j = 2 ∨ j = 3 by omega) with rfl | rfl | rfl | rfl | rfl
  ·
    repeat (refine JL.flat ?_)
    refine JL.go 200 ?_
    repeat (refine JL.flat ?_)
    refine JL.ifF rfl ?_
    try refine JL.skip ?_
    repeat (refine JL.flat ?_)
    refine JL.exit ?_
    repeat (first | refine At.then_exit ?_ | refine At.block_pass rfl ?_)
    refine At.block_exit (At.then_normal (JL.at ?_))
    repeat (refine JL.flat ?_)
    refine JL.go 200 ?_
    repeat (refine JL.flat ?_)
    refine JL.ret ?_
    repeat (first | refine At.then_ret ?_ | refine At.block_ret ?_)
    refine At.done1 rfl (()) rfl ?_
    exact (Gives.sound (by repeat (first | exact Gives.nil | (apply Gives.cons; · repeat (first | exact Pick.here | apply Pick.there)))))
  ·
    refine JL.open ?_
    rintro ⟨a, cap⟩
    repeat (refine JL.flat ?_)
    refine JL.go 200 ?_
    repeat (refine JL.flat ?_)
    refine JL.ifT rfl ?_
    try refine JL.skip ?_
    repeat (refine JL.flat ?_)
    refine JL.block ?_
    repeat (refine JL.flat ?_)
    refine JL.draws (by kernel_rfl) (fun hR => ?_)
    refine Ord.on hR 200 ?_
    apply Ord.loadLit hR NP.nop rfl rfl rfl rfl rfl rfl rfl
    · repeat (first | exact Pick.here | apply Pick.there)
    · rfl
    · rfl
    refine Ord.on hR 200 ?_
    refine Ord.set 45 (bval (byteAt n 3)) rfl (congrArg (Value.int .u8) (conv_shr n (8 * 3))) ?_
    refine Ord.bslice (out := (bytesV [byteAt n 3])) hR rfl rfl rfl rfl rfl rfl rfl rfl rfl rfl (by rfl) rfl (by rfl) ?_ ?_
    · intro _
      repeat (first | exact Keep.nil | (refine Keep.load rfl rfl rfl (by repeat (first | exact Pick.here | apply Pick.there)) (by rfl) (by rfl) ?_) | (refine Keep.waits (by kernel_rfl) ?_))
    intro b
    refine Ord.on hR 200 ?_
    refine Ord.appendB (ys := [byteAt n 3]) hR rfl rfl rfl rfl rfl rfl rfl rfl rfl rfl rfl rfl rfl (by repeat (first | exact Pick.here | apply Pick.there)) ?_ ?_ ?_ ?_
    · exact Tells.own (by repeat (first | exact Pick.here | apply Pick.there))
    · simp [beB_length]; omega
    · intro _ _
      repeat (first | exact Keep.nil | (refine Keep.load rfl rfl rfl (by repeat (first | exact Pick.here | apply Pick.there)) (by rfl) (by rfl) ?_) | (refine Keep.waits (by kernel_rfl) ?_))
    intro a' cap'
    refine Ord.on hR 200 ?_
    apply Ord.storeLit hR rfl rfl rfl rfl rfl rfl rfl rfl
    · repeat (first | exact Pick.here | apply Pick.there)
    · rfl
    · rfl
    · rfl
    · repeat (first | exact Keep.nil | (refine Keep.load rfl rfl rfl (by repeat (first | exact Pick.here | apply Pick.there)) (by rfl) (by rfl) ?_) | (refine Keep.waits (by kernel_rfl) ?_))
    refine Ord.on hR 200 ?_
    repeat (refine JL.flat ?_)
    refine JL.nil (At.block_normal (At.then_normal (JL.at ?_)))
    repeat (refine JL.flat ?_)
    refine JL.go 200 ?_
    repeat (refine JL.flat ?_)
    refine JL.nil (At.then_normal ?_)
    refine At.again ⟨0 + 1, by omega⟩ (by simp only; omega) (Sub.look ?_) ?_
    ·
      repeat (first | exact Sub.nil | refine Sub.cons rfl ?_)
    rw [List.append_assoc]
    exact Gives.sound (Gives.ex (a', cap') (by repeat (first | exact Gives.nil | (apply Gives.cons; · repeat (first | exact Pick.here | apply Pick.there)))))
  ·
    refine JL.open ?_
    rintro ⟨a, cap⟩
    repeat (refine JL.flat ?_)
    refine JL.go 200 ?_
    repeat (refine JL.flat ?_)
    refine JL.ifT rfl ?_
    try refine JL.skip ?_
    repeat (refine JL.flat ?_)
    refine JL.block ?_
    repeat (refine JL.flat ?_)
    refine JL.draws (by kernel_rfl) (fun hR => ?_)
    refine Ord.on hR 200 ?_
    apply Ord.loadLit hR NP.nop rfl rfl rfl rfl rfl rfl rfl
    · repeat (first | exact Pick.here | apply Pick.there)
    · rfl
    · rfl
    refine Ord.on hR 200 ?_
    refine Ord.set 45 (bval (byteAt n 2)) rfl (congrArg (Value.int .u8) (conv_shr n (8 * 2))) ?_
    refine Ord.bslice (out := (bytesV [byteAt n 2])) hR rfl rfl rfl rfl rfl rfl rfl rfl rfl rfl (by rfl) rfl (by rfl) ?_ ?_
    · intro _
      repeat (first | exact Keep.nil | (refine Keep.load rfl rfl rfl (by repeat (first | exact Pick.here | apply Pick.there)) (by rfl) (by rfl) ?_) | (refine Keep.waits (by kernel_rfl) ?_))
    intro b
    refine Ord.on hR 200 ?_
    refine Ord.appendB (ys := [byteAt n 2]) hR rfl rfl rfl rfl rfl rfl rfl rfl rfl rfl rfl rfl rfl (by repeat (first | exact Pick.here | apply Pick.there)) ?_ ?_ ?_ ?_
    · exact Tells.own (by repeat (first | exact Pick.here | apply Pick.there))
    · simp [beB_length]; omega
    · intro _ _
      repeat (first | exact Keep.nil | (refine Keep.load rfl rfl rfl (by repeat (first | exact Pick.here | apply Pick.there)) (by rfl) (by rfl) ?_) | (refine Keep.waits (by kernel_rfl) ?_))
    intro a' cap'
    refine Ord.on hR 200 ?_
    apply Ord.storeLit hR rfl rfl rfl rfl rfl rfl rfl rfl
    · repeat (first | exact Pick.here | apply Pick.there)
    · rfl
    · rfl
    · rfl
    · repeat (first | exact Keep.nil | (refine Keep.load rfl rfl rfl (by repeat (first | exact Pick.here | apply Pick.there)) (by rfl) (by rfl) ?_) | (refine Keep.waits (by kernel_rfl) ?_))
    refine Ord.on hR 200 ?_
    repeat (refine JL.flat ?_)
    refine JL.nil (At.block_normal (At.then_normal (JL.at ?_)))
    repeat (refine JL.flat ?_)
    refine JL.go 200 ?_
    repeat (refine JL.flat ?_)
    refine JL.nil (At.then_normal ?_)
    refine At.again ⟨1 + 1, by omega⟩ (by simp only; omega) (Sub.look ?_) ?_
    ·
      repeat (first | exact Sub.nil | refine Sub.cons rfl ?_)
    rw [List.append_assoc]
    exact Gives.sound (Gives.ex (a', cap') (by repeat (first | exact Gives.nil | (apply Gives.cons; · repeat (first | exact Pick.here | apply Pick.there)))))
  ·
    refine JL.open ?_
    rintro ⟨a, cap⟩
    repeat (refine JL.flat ?_)
    refine JL.go 200 ?_
    repeat (refine JL.flat ?_)
    refine JL.ifT rfl ?_
    try refine JL.skip ?_
    repeat (refine JL.flat ?_)
    refine JL.block ?_
    repeat (refine JL.flat ?_)
    refine JL.draws (by kernel_rfl) (fun hR => ?_)
    refine Ord.on hR 200 ?_
    apply Ord.loadLit hR NP.nop rfl rfl rfl rfl rfl rfl rfl
    · repeat (first | exact Pick.here | apply Pick.there)
    · rfl
    · rfl
    refine Ord.on hR 200 ?_
    refine Ord.set 45 (bval (byteAt n 1)) rfl (congrArg (Value.int .u8) (conv_shr n (8 * 1))) ?_
    refine Ord.bslice (out := (bytesV [byteAt n 1])) hR rfl rfl rfl rfl rfl rfl rfl rfl rfl rfl (by rfl) rfl (by rfl) ?_ ?_
    · intro _
      repeat (first | exact Keep.nil | (refine Keep.load rfl rfl rfl (by repeat (first | exact Pick.here | apply Pick.there)) (by rfl) (by rfl) ?_) | (refine Keep.waits (by kernel_rfl) ?_))
    intro b
    refine Ord.on hR 200 ?_
    refine Ord.appendB (ys := [byteAt n 1]) hR rfl rfl rfl rfl rfl rfl rfl rfl rfl rfl rfl rfl rfl (by repeat (first | exact Pick.here | apply Pick.there)) ?_ ?_ ?_ ?_
    · exact Tells.own (by repeat (first | exact Pick.here | apply Pick.there))
    · simp [beB_length]; omega
    · intro _ _
      repeat (first | exact Keep.nil | (refine Keep.load rfl rfl rfl (by repeat (first | exact Pick.here | apply Pick.there)) (by rfl) (by rfl) ?_) | (refine Keep.waits (by kernel_rfl) ?_))
    intro a' cap'
    refine Ord.on hR 200 ?_
    apply Ord.storeLit hR rfl rfl rfl rfl rfl rfl rfl rfl
    · repeat (first | exact Pick.here | apply Pick.there)
    · rfl
    · rfl
    · rfl
    · repeat (first | exact Keep.nil | (refine Keep.load rfl rfl rfl (by repeat (first | exact Pick.here | apply Pick.there)) (by rfl) (by rfl) ?_) | (refine Keep.waits (by kernel_rfl) ?_))
    refine Ord.on hR 200 ?_
    repeat (refine JL.flat ?_)
    refine JL.nil (At.block_normal (At.then_normal (JL.at ?_)))
    repeat (refine JL.flat ?_)
    refine JL.go 200 ?_
    repeat (refine JL.flat ?_)
    refine JL.nil (At.then_normal ?_)
    refine At.again ⟨2 + 1, by omega⟩ (by simp only; omega) (Sub.look ?_) ?_
    ·
      repeat (first | exact Sub.nil | refine Sub.cons rfl ?_)
    rw [List.append_assoc]
    exact Gives.sound (Gives.ex (a', cap') (by repeat (first | exact Gives.nil | (apply Gives.cons; · repeat (first | exact Pick.here | apply Pick.there)))))
  ·
    refine JL.open ?_
    rintro ⟨a, cap⟩
    repeat (refine JL.flat ?_)
    refine JL.go 200 ?_
    repeat (refine JL.flat ?_)
    refine JL.ifT rfl ?_
    try refine JL.skip ?_
    repeat (refine JL.flat ?_)
    refine JL.block ?_
    repeat (refine JL.flat ?_)
    refine JL.draws (by kernel_rfl) (fun hR => ?_)
    refine Ord.on hR 200 ?_
    apply Ord.loadLit hR NP.nop rfl rfl rfl rfl rfl rfl rfl
    · repeat (first | exact Pick.here | apply Pick.there)
    · rfl
    · rfl
    refine Ord.on hR 200 ?_
    refine Ord.set 45 (bval (byteAt n 0)) rfl (congrArg (Value.int .u8) (conv_shr n (8 * 0))) ?_
    refine Ord.bslice (out := (bytesV [byteAt n 0])) hR rfl rfl rfl rfl rfl rfl rfl rfl rfl rfl (by rfl) rfl (by rfl) ?_ ?_
    · intro _
      repeat (first | exact Keep.nil | (refine Keep.load rfl rfl rfl (by repeat (first | exact Pick.here | apply Pick.there)) (by rfl) (by rfl) ?_) | (refine Keep.waits (by kernel_rfl) ?_))
    intro b
    refine Ord.on hR 200 ?_
    refine Ord.appendB (ys := [byteAt n 0]) hR rfl rfl rfl rfl rfl rfl rfl rfl rfl rfl rfl rfl rfl (by repeat (first | exact Pick.here | apply Pick.there)) ?_ ?_ ?_ ?_
    · exact Tells.own (by repeat (first | exact Pick.here | apply Pick.there))
    · simp [beB_length]; omega
    · intro _ _
      repeat (first | exact Keep.nil | (refine Keep.load rfl rfl rfl (by repeat (first | exact Pick.here | apply Pick.there)) (by rfl) (by rfl) ?_) | (refine Keep.waits (by kernel_rfl) ?_))
    intro a' cap'
    refine Ord.on hR 200 ?_
    apply Ord.storeLit hR rfl rfl rfl rfl rfl rfl rfl rfl
    · repeat (first | exact Pick.here | apply Pick.there)
    · rfl
    · rfl
    · rfl
    · repeat (first | exact Keep.nil | (refine Keep.load rfl rfl rfl (by repeat (first | exact Pick.here | apply Pick.there)) (by rfl) (by rfl) ?_) | (refine Keep.waits (by kernel_rfl) ?_))
    refine Ord.on hR 200 ?_
    repeat (refine JL.flat ?_)
    refine JL.nil (At.block_normal (At.then_normal (JL.at ?_)))
    repeat (refine JL.flat ?_)
    refine JL.go 200 ?_
    repeat (refine JL.flat ?_)
    refine JL.nil (At.then_normal ?_)
    refine At.again ⟨3 + 1, by omega⟩ (by simp only; omega) (Sub.look ?_) ?_
    ·
      repeat (first | exact Sub.nil | refine Sub.cons rfl ?_)
    rw [List.append_assoc]
    exact Gives.sound (Gives.ex (a', cap') (by repeat (first | exact Gives.nil | (apply Gives.cons; · repeat (first | exact Pick.here | apply Pick.there)))))
theorem Num_8 (p : Nat) (e : Value) (out : List UInt8) (n : Nat) (hn : n < 2 ^ (8 * 8)) (hl : out.length ≤ 50000000) :
    Trip Tryz.prog 141 [ptrV p, .int .u64 (n : Int), .int .i64 8] none_ [Wr p e out] (X := Unit) (fun _ => ptrV p) (fun _ => [Wr p e (out ++ beB n 8)]) := by
  refine Trip.start (n := 51) Tryz.func141 (by kernel_rfl) rfl rfl rfl ?_
  intro F w hD
  repeat (refine JL.flat ?_)
  refine JL.go 200 ?_
  repeat (refine JL.flat ?_)
  refine JL.go 200 ?_
  repeat (refine JL.flat ?_)
  refine JL.ifF rfl ?_
  try refine JL.skip ?_
  repeat (refine JL.flat ?_)
  refine JL.go 200 ?_
  apply Seq.call (sized_8) rfl rfl rfl rfl rfl rfl
  · exact Picks.nil
  · exact Tells.none
  intro _
  refine Seq.on 200 ?_
  refine JL.set 23 (.bool false) rfl ?_ ?_
  · first | rfl | (show Value.bool (Int.fdiv (n : Int) (2 ^ (8 * 8)) != 0) = _; rw [shr_zero hn]; rfl)
  repeat (refine JL.flat ?_)
  refine JL.ifF rfl ?_
  try refine JL.skip ?_
  repeat (refine JL.flat ?_)
  refine JL.go 200 ?_
  repeat (refine JL.flat ?_)
  refine JL.block ?_
  refine JL.loop (X := {j : Nat // j ≤ 8}) ⟨0, by omega⟩ (fun j => [(0, ptrV p), (1, .int .u64 (n : Int)), (7, .int .i64 (8 - 1 - (j.1 : Int)))]) (fun j => [Wr p e (out ++ (beB n 8).take j.1), F]) (fun j => 8 - j.1) ?_ ?_ ?_
  ·
    repeat (first | exact Sub.nil | refine Sub.cons rfl ?_)
  · simp only [List.take_zero, List.append_nil]
    exact fun h s => s
  rintro ⟨j, hj⟩
  rcases (show j = 8 ∨ j = 0 ∨ j = 1 ∨ j = 2 ∨ j = 3 ∨ j = 4 ∨ j = 5 ∨ j = 6 ∨ j = 7 by omega) with rfl | rfl | rfl | rfl | rfl | rfl | rfl | rfl | rfl
  ·
    repeat (refine JL.flat ?_)
    refine JL.go 200 ?_
    repeat (refine JL.flat ?_)
    refine JL.ifF rfl ?_
    try refine JL.skip ?_
    repeat (refine JL.flat ?_)
    refine JL.exit ?_
    repeat (first | refine At.then_exit ?_ | refine At.block_pass rfl ?_)
    refine At.block_exit (At.then_normal (JL.at ?_))
    repeat (refine JL.flat ?_)
    refine JL.go 200 ?_
    repeat (refine JL.flat ?_)
    refine JL.ret ?_
    repeat (first | refine At.then_ret ?_ | refine At.block_ret ?_)
    refine At.done1 rfl (()) rfl ?_
    exact (Gives.sound (by repeat (first | exact Gives.nil | (apply Gives.cons; · repeat (first | exact Pick.here | apply Pick.there)))))
  ·
    refine JL.open ?_
    rintro ⟨a, cap⟩
    repeat (refine JL.flat ?_)
    refine JL.go 200 ?_
    repeat (refine JL.flat ?_)
    refine JL.ifT rfl ?_
    try refine JL.skip ?_
    repeat (refine JL.flat ?_)
    refine JL.block ?_
    repeat (refine JL.flat ?_)
    refine JL.draws (by kernel_rfl) (fun hR => ?_)
    refine Ord.on hR 200 ?_
    apply Ord.loadLit hR NP.nop rfl rfl rfl rfl rfl rfl rfl
    · repeat (first | exact Pick.here | apply Pick.there)
    · rfl
    · rfl
    refine Ord.on hR 200 ?_
    refine Ord.set 45 (bval (byteAt n 7)) rfl (congrArg (Value.int .u8) (conv_shr n (8 * 7))) ?_
    refine Ord.bslice (out := (bytesV [byteAt n 7])) hR rfl rfl rfl rfl rfl rfl rfl rfl rfl rfl (by rfl) rfl (by rfl) ?_ ?_
    · intro _
      repeat (first | exact Keep.nil | (refine Keep.load rfl rfl rfl (by repeat (first | exact Pick.here | apply Pick.there)) (by rfl) (by rfl) ?_) | (refine Keep.waits (by kernel_rfl) ?_))
    intro b
    refine Ord.on hR 200 ?_
    refine Ord.appendB (ys := [byteAt n 7]) hR rfl rfl rfl rfl rfl rfl rfl rfl rfl rfl rfl rfl rfl (by repeat (first | exact Pick.here | apply Pick.there)) ?_ ?_ ?_ ?_
    · exact Tells.own (by repeat (first | exact Pick.here | apply Pick.there))
    · simp [beB_length]; omega
    · intro _ _
      repeat (first | exact Keep.nil | (refine Keep.load rfl rfl rfl (by repeat (first | exact Pick.here | apply Pick.there)) (by rfl) (by rfl) ?_) | (refine Keep.waits (by kernel_rfl) ?_))
    intro a' cap'
    refine Ord.on hR 200 ?_
    apply Ord.storeLit hR rfl rfl rfl rfl rfl rfl rfl rfl
    · repeat (first | exact Pick.here | apply Pick.there)
    · rfl
    · rfl
    · rfl
    · repeat (first | exact Keep.nil | (refine Keep.load rfl rfl rfl (by repeat (first | exact Pick.here | apply Pick.there)) (by rfl) (by rfl) ?_) | (refine Keep.waits (by kernel_rfl) ?_))
    refine Ord.on hR 200 ?_
    repeat (refine JL.flat ?_)
    refine JL.nil (At.block_normal (At.then_normal (JL.at ?_)))
    repeat (refine JL.flat ?_)
    refine JL.go 200 ?_
    repeat (refine JL.flat ?_)
    refine JL.nil (At.then_normal ?_)
    refine At.again ⟨0 + 1, by omega⟩ (by simp only; omega) (Sub.look ?_) ?_
    ·
      repeat (first | exact Sub.nil | refine Sub.cons rfl ?_)
    rw [List.append_assoc]
    exact Gives.sound (Gives.ex (a', cap') (by repeat (first | exact Gives.nil | (apply Gives.cons; · repeat (first | exact Pick.here | apply Pick.there)))))
  ·
    refine JL.open ?_
    rintro ⟨a, cap⟩
    repeat (refine JL.flat ?_)
    refine JL.go 200 ?_
    repeat (refine JL.flat ?_)
    refine JL.ifT rfl ?_
    try refine JL.skip ?_
    repeat (refine JL.flat ?_)
    refine JL.block ?_
    repeat (refine JL.flat ?_)
    refine JL.draws (by kernel_rfl) (fun hR => ?_)
    refine Ord.on hR 200 ?_
    apply Ord.loadLit hR NP.nop rfl rfl rfl rfl rfl rfl rfl
    · repeat (first | exact Pick.here | apply Pick.there)
    · rfl
    · rfl
    refine Ord.on hR 200 ?_
    refine Ord.set 45 (bval (byteAt n 6)) rfl (congrArg (Value.int .u8) (conv_shr n (8 * 6))) ?_
    refine Ord.bslice (out := (bytesV [byteAt n 6])) hR rfl rfl rfl rfl rfl rfl rfl rfl rfl rfl (by rfl) rfl (by rfl) ?_ ?_
    · intro _
      repeat (first | exact Keep.nil | (refine Keep.load rfl rfl rfl (by repeat (first | exact Pick.here | apply Pick.there)) (by rfl) (by rfl) ?_) | (refine Keep.waits (by kernel_rfl) ?_))
    intro b
    refine Ord.on hR 200 ?_
    refine Ord.appendB (ys := [byteAt n 6]) hR rfl rfl rfl rfl rfl rfl rfl rfl rfl rfl rfl rfl rfl (by repeat (first | exact Pick.here | apply Pick.there)) ?_ ?_ ?_ ?_
    · exact Tells.own (by repeat (first | exact Pick.here | apply Pick.there))
    · simp [beB_length]; omega
    · intro _ _
      repeat (first | exact Keep.nil | (refine Keep.load rfl rfl rfl (by repeat (first | exact Pick.here | apply Pick.there)) (by rfl) (by rfl) ?_) | (refine Keep.waits (by kernel_rfl) ?_))
    intro a' cap'
    refine Ord.on hR 200 ?_
    apply Ord.storeLit hR rfl rfl rfl rfl rfl rfl rfl rfl
    · repeat (first | exact Pick.here | apply Pick.there)
    · rfl
    · rfl
    · rfl
    · repeat (first | exact Keep.nil | (refine Keep.load rfl rfl rfl (by repeat (first | exact Pick.here | apply Pick.there)) (by rfl) (by rfl) ?_) | (refine Keep.waits (by kernel_rfl) ?_))
    refine Ord.on hR 200 ?_
    repeat (refine JL.flat ?_)
    refine JL.nil (At.block_normal (At.then_normal (JL.at ?_)))
    repeat (refine JL.flat ?_)
    refine JL.go 200 ?_
    repeat (refine JL.flat ?_)
    refine JL.nil (At.then_normal ?_)
    refine At.again ⟨1 + 1, by omega⟩ (by simp only; omega) (Sub.look ?_) ?_
    ·
      repeat (first | exact Sub.nil | refine Sub.cons rfl ?_)
    rw [List.append_assoc]
    exact Gives.sound (Gives.ex (a', cap') (by repeat (first | exact Gives.nil | (apply Gives.cons; · repeat (first | exact Pick.here | apply Pick.there)))))
  ·
    refine JL.open ?_
    rintro ⟨a, cap⟩
    repeat (refine JL.flat ?_)
    refine JL.go 200 ?_
    repeat (refine JL.flat ?_)
    refine JL.ifT rfl ?_
    try refine JL.skip ?_
    repeat (refine JL.flat ?_)
    refine JL.block ?_
    repeat (refine JL.flat ?_)
    refine JL.draws (by kernel_rfl) (fun hR => ?_)
    refine Ord.on hR 200 ?_
    apply Ord.loadLit hR NP.nop rfl rfl rfl rfl rfl rfl rfl
    · repeat (first | exact Pick.here | apply Pick.there)
    · rfl
    · rfl
    refine Ord.on hR 200 ?_
    refine Ord.set 45 (bval (byteAt n 5)) rfl (congrArg (Value.int .u8) (conv_shr n (8 * 5))) ?_
    refine Ord.bslice (out := (bytesV [byteAt n 5])) hR rfl rfl rfl rfl rfl rfl rfl rfl rfl rfl (by rfl) rfl (by rfl) ?_ ?_
    · intro _
      repeat (first | exact Keep.nil | (refine Keep.load rfl rfl rfl (by repeat (first | exact Pick.here | apply Pick.there)) (by rfl) (by rfl) ?_) | (refine Keep.waits (by kernel_rfl) ?_))
    intro b
    refine Ord.on hR 200 ?_
    refine Ord.appendB (ys := [byteAt n 5]) hR rfl rfl rfl rfl rfl rfl rfl rfl rfl rfl rfl rfl rfl (by repeat (first | exact Pick.here | apply Pick.there)) ?_ ?_ ?_ ?_
    · exact Tells.own (by repeat (first | exact Pick.here | apply Pick.there))
    · simp [beB_length]; omega
    · intro _ _
      repeat (first | exact Keep.nil | (refine Keep.load rfl rfl rfl (by repeat (first | exact Pick.here | apply Pick.there)) (by rfl) (by rfl) ?_) | (refine Keep.waits (by kernel_rfl) ?_))
    intro a' cap'
    refine Ord.on hR 200 ?_
    apply Ord.storeLit hR rfl rfl rfl rfl rfl rfl rfl rfl
    · repeat (first | exact Pick.here | apply Pick.there)
    · rfl
    · rfl
    · rfl
    · repeat (first | exact Keep.nil | (refine Keep.load rfl rfl rfl (by repeat (first | exact Pick.here | apply Pick.there)) (by rfl) (by rfl) ?_) | (refine Keep.waits (by kernel_rfl) ?_))
    refine Ord.on hR 200 ?_
    repeat (refine JL.flat ?_)
    refine JL.nil (At.block_normal (At.then_normal (JL.at ?_)))
    repeat (refine JL.flat ?_)
    refine JL.go 200 ?_
    repeat (refine JL.flat ?_)
    refine JL.nil (At.then_normal ?_)
    refine At.again ⟨2 + 1, by omega⟩ (by simp only; omega) (Sub.look ?_) ?_
    ·
      repeat (first | exact Sub.nil | refine Sub.cons rfl ?_)
    rw [List.append_assoc]
    exact Gives.sound (Gives.ex (a', cap') (by repeat (first | exact Gives.nil | (apply Gives.cons; · repeat (first | exact Pick.here | apply Pick.there)))))
  ·
    refine JL.open ?_
    rintro ⟨a, cap⟩
    repeat (refine JL.flat ?_)
    refine JL.go 200 ?_
    repeat (refine JL.flat ?_)
    refine JL.ifT rfl ?_
    try refine JL.skip ?_
    repeat (refine JL.flat ?_)
    refine JL.block ?_
    repeat (refine JL.flat ?_)
    refine JL.draws (by kernel_rfl) (fun hR => ?_)
    refine Ord.on hR 200 ?_
    apply Ord.loadLit hR NP.nop rfl rfl rfl rfl rfl rfl rfl
    · repeat (first | exact Pick.here | apply Pick.there)
    · rfl
    · rfl
    refine Ord.on hR 200 ?_
    refine Ord.set 45 (bval (byteAt n 4)) rfl (congrArg (Value.int .u8) (conv_shr n (8 * 4))) ?_
    refine Ord.bslice (out := (bytesV [byteAt n 4])) hR rfl rfl rfl rfl rfl rfl rfl rfl rfl rfl (by rfl) rfl (by rfl) ?_ ?_
    · intro _
      repeat (first | exact Keep.nil | (refine Keep.load rfl rfl rfl (by repeat (first | exact Pick.here | apply Pick.there)) (by rfl) (by rfl) ?_) | (refine Keep.waits (by kernel_rfl) ?_))
    intro b
    refine Ord.on hR 200 ?_
    refine Ord.appendB (ys := [byteAt n 4]) hR rfl rfl rfl rfl rfl rfl rfl rfl rfl rfl rfl rfl rfl (by repeat (first | exact Pick.here | apply Pick.there)) ?_ ?_ ?_ ?_
    · exact Tells.own (by repeat (first | exact Pick.here | apply Pick.there))
    · simp [beB_length]; omega
    · intro _ _
      repeat (first | exact Keep.nil | (refine Keep.load rfl rfl rfl (by repeat (first | exact Pick.here | apply Pick.there)) (by rfl) (by rfl) ?_) | (refine Keep.waits (by kernel_rfl) ?_))
    intro a' cap'
    refine Ord.on hR 200 ?_
    apply Ord.storeLit hR rfl rfl rfl rfl rfl rfl rfl rfl
    · repeat (first | exact Pick.here | apply Pick.there)
    · rfl
    · rfl
    · rfl
    · repeat (first | exact Keep.nil | (refine Keep.load rfl rfl rfl (by repeat (first | exact Pick.here | apply Pick.there)) (by rfl) (by rfl) ?_) | (refine Keep.waits (by kernel_rfl) ?_))
    refine Ord.on hR 200 ?_
    repeat (refine JL.flat ?_)
    refine JL.nil (At.block_normal (At.then_normal (JL.at ?_)))
    repeat (refine JL.flat ?_)
    refine JL.go 200 ?_
    repeat (refine JL.flat ?_)
    refine JL.nil (At.then_normal ?_)
    refine At.again ⟨3 + 1, by omega⟩ (by simp only; omega) (Sub.look ?_) ?_
    ·
      repeat (first | exact Sub.nil | refine Sub.cons rfl ?_)
    rw [List.append_assoc]
    exact Gives.sound (Gives.ex (a', cap') (by repeat (first | exact Gives.nil | (apply Gives.cons; · repeat (first | exact Pick.here | apply Pick.there)))))
  ·
    refine JL.open ?_
    rintro ⟨a, cap⟩
    repeat (refine JL.flat ?_)
    refine JL.go 200 ?_
    repeat (refine JL.flat ?_)
    refine JL.ifT rfl ?_
    try refine JL.skip ?_
    repeat (refine JL.flat ?_)
    refine JL.block ?_
    repeat (refine JL.flat ?_)
    refine JL.draws (by kernel_rfl) (fun hR => ?_)
    refine Ord.on hR 200 ?_
    apply Ord.loadLit hR NP.nop rfl rfl rfl rfl rfl rfl rfl
    · repeat (first | exact Pick.here | apply Pick.there)
    · rfl
    · rfl
    refine Ord.on hR 200 ?_
    refine Ord.set 45 (bval (byteAt n 3)) rfl (congrArg (Value.int .u8) (conv_shr n (8 * 3))) ?_
    refine Ord.bslice (out := (bytesV [byteAt n 3])) hR rfl rfl rfl rfl rfl rfl rfl rfl rfl rfl (by rfl) rfl (by rfl) ?_ ?_
    · intro _
      repeat (first | exact Keep.nil | (refine Keep.load rfl rfl rfl (by repeat (first | exact Pick.here | apply Pick.there)) (by rfl) (by rfl) ?_) | (refine Keep.waits (by kernel_rfl) ?_))
    intro b
    refine Ord.on hR 200 ?_
    refine Ord.appendB (ys := [byteAt n 3]) hR rfl rfl rfl rfl rfl rfl rfl rfl rfl rfl rfl rfl rfl (by repeat (first | exact Pick.here | apply Pick.there)) ?_ ?_ ?_ ?_
    · exact Tells.own (by repeat (first | exact Pick.here | apply Pick.there))
    · simp [beB_length]; omega
    · intro _ _
      repeat (first | exact Keep.nil | (refine Keep.load rfl rfl rfl (by repeat (first | exact Pick.here | apply Pick.there)) (by rfl) (by rfl) ?_) | (refine Keep.waits (by kernel_rfl) ?_))
    intro a' cap'
    refine Ord.on hR 200 ?_
    apply Ord.storeLit hR rfl rfl rfl rfl rfl rfl rfl rfl
    · repeat (first | exact Pick.here | apply Pick.there)
    · rfl
    · rfl
    · rfl
    · repeat (first | exact Keep.nil | (refine Keep.load rfl rfl rfl (by repeat (first | exact Pick.here | apply Pick.there)) (by rfl) (by rfl) ?_) | (refine Keep.waits (by kernel_rfl) ?_))
    refine Ord.on hR 200 ?_
    repeat (refine JL.flat ?_)
    refine JL.nil (At.block_normal (At.then_normal (JL.at ?_)))
    repeat (refine JL.flat ?_)
    refine JL.go 200 ?_
    repeat (refine JL.flat ?_)
    refine JL.nil (At.then_normal ?_)
    refine At.again ⟨4 + 1, by omega⟩ (by simp only; omega) (Sub.look ?_) ?_
    ·
      repeat (first | exact Sub.nil | refine Sub.cons rfl ?_)
    rw [List.append_assoc]
    exact Gives.sound (Gives.ex (a', cap') (by repeat (first | exact Gives.nil | (apply Gives.cons; · repeat (first | exact Pick.here | apply Pick.there)))))
  ·
    refine JL.open ?_
    rintro ⟨a, cap⟩
    repeat (refine JL.flat ?_)
    refine JL.go 200 ?_
    repeat (refine JL.flat ?_)
    refine JL.ifT rfl ?_
    try refine JL.skip ?_
    repeat (refine JL.flat ?_)
    refine JL.block ?_
    repeat (refine JL.flat ?_)
    refine JL.draws (by kernel_rfl) (fun hR => ?_)
    refine Ord.on hR 200 ?_
    apply Ord.loadLit hR NP.nop rfl rfl rfl rfl rfl rfl rfl
    · repeat (first | exact Pick.here | apply Pick.there)
    · rfl
    · rfl
    refine Ord.on hR 200 ?_
    refine Ord.set 45 (bval (byteAt n 2)) rfl (congrArg (Value.int .u8) (conv_shr n (8 * 2))) ?_
    refine Ord.bslice (out := (bytesV [byteAt n 2])) hR rfl rfl rfl rfl rfl rfl rfl rfl rfl rfl (by rfl) rfl (by rfl) ?_ ?_
    · intro _
      repeat (first | exact Keep.nil | (refine Keep.load rfl rfl rfl (by repeat (first | exact Pick.here | apply Pick.there)) (by rfl) (by rfl) ?_) | (refine Keep.waits (by kernel_rfl) ?_))
    intro b
    refine Ord.on hR 200 ?_
    refine Ord.appendB (ys := [byteAt n 2]) hR rfl rfl rfl rfl rfl rfl rfl rfl rfl rfl rfl rfl rfl (by repeat (first | exact Pick.here | apply Pick.there)) ?_ ?_ ?_ ?_
    · exact Tells.own (by repeat (first | exact Pick.here | apply Pick.there))
    · simp [beB_length]; omega
    · intro _ _
      repeat (first | exact Keep.nil | (refine Keep.load rfl rfl rfl (by repeat (first | exact Pick.here | apply Pick.there)) (by rfl) (by rfl) ?_) | (refine Keep.waits (by kernel_rfl) ?_))
    intro a' cap'
    refine Ord.on hR 200 ?_
    apply Ord.storeLit hR rfl rfl rfl rfl rfl rfl rfl rfl
    · repeat (first | exact Pick.here | apply Pick.there)
    · rfl
    · rfl
    · rfl
    · repeat (first | exact Keep.nil | (refine Keep.load rfl rfl rfl (by repeat (first | exact Pick.here | apply Pick.there)) (by rfl) (by rfl) ?_) | (refine Keep.waits (by kernel_rfl) ?_))
    refine Ord.on hR 200 ?_
    repeat (refine JL.flat ?_)
    refine JL.nil (At.block_normal (At.then_normal (JL.at ?_)))
    repeat (refine JL.flat ?_)
    refine JL.go 200 ?_
    repeat (refine JL.flat ?_)
    refine JL.nil (At.then_normal ?_)
    refine At.again ⟨5 + 1, by omega⟩ (by simp only; omega) (Sub.look ?_) ?_
    ·
      repeat (first | exact Sub.nil | refine Sub.cons rfl ?_)
    rw [List.append_assoc]
    exact Gives.sound (Gives.ex (a', cap') (by repeat (first | exact Gives.nil | (apply Gives.cons; · repeat (first | exact Pick.here | apply Pick.there)))))
  ·
    refine JL.open ?_
    rintro ⟨a, cap⟩
    repeat (refine JL.flat ?_)
    refine JL.go 200 ?_
    repeat (refine JL.flat ?_)
    refine JL.ifT rfl ?_
    try refine JL.skip ?_
    repeat (refine JL.flat ?_)
    refine JL.block ?_
    repeat (refine JL.flat ?_)
    refine JL.draws (by kernel_rfl) (fun hR => ?_)
    refine Ord.on hR 200 ?_
    apply Ord.loadLit hR NP.nop rfl rfl rfl rfl rfl rfl rfl
    · repeat (first | exact Pick.here | apply Pick.there)
    · rfl
    · rfl
    refine Ord.on hR 200 ?_
    refine Ord.set 45 (bval (byteAt n 1)) rfl (congrArg (Value.int .u8) (conv_shr n (8 * 1))) ?_
    refine Ord.bslice (out := (bytesV [byteAt n 1])) hR rfl rfl rfl rfl rfl rfl rfl rfl rfl rfl (by rfl) rfl (by rfl) ?_ ?_
    · intro _
      repeat (first | exact Keep.nil | (refine Keep.load rfl rfl rfl (by repeat (first | exact Pick.here | apply Pick.there)) (by rfl) (by rfl) ?_) | (refine Keep.waits (by kernel_rfl) ?_))
    intro b
    refine Ord.on hR 200 ?_
    refine Ord.appendB (ys := [byteAt n 1]) hR rfl rfl rfl rfl rfl rfl rfl rfl rfl rfl rfl rfl rfl (by repeat (first | exact Pick.here | apply Pick.there)) ?_ ?_ ?_ ?_
    · exact Tells.own (by repeat (first | exact Pick.here | apply Pick.there))
    · simp [beB_length]; omega
    · intro _ _
      repeat (first | exact Keep.nil | (refine Keep.load rfl rfl rfl (by repeat (first | exact Pick.here | apply Pick.there)) (by rfl) (by rfl) ?_) | (refine Keep.waits (by kernel_rfl) ?_))
    intro a' cap'
    refine Ord.on hR 200 ?_
    apply Ord.storeLit hR rfl rfl rfl rfl rfl rfl rfl rfl
    · repeat (first | exact Pick.here | apply Pick.there)
    · rfl
    · rfl
    · rfl
    · repeat (first | exact Keep.nil | (refine Keep.load rfl rfl rfl (by repeat (first | exact Pick.here | apply Pick.there)) (by rfl) (by rfl) ?_) | (refine Keep.waits (by kernel_rfl) ?_))
    refine Ord.on hR 200 ?_
    repeat (refine JL.flat ?_)
    refine JL.nil (At.block_normal (At.then_normal (JL.at ?_)))
    repeat (refine JL.flat ?_)
    refine JL.go 200 ?_
    repeat (refine JL.flat ?_)
    refine JL.nil (At.then_normal ?_)
    refine At.again ⟨6 + 1, by omega⟩ (by simp only; omega) (Sub.look ?_) ?_
    ·
      repeat (first | exact Sub.nil | refine Sub.cons rfl ?_)
    rw [List.append_assoc]
    exact Gives.sound (Gives.ex (a', cap') (by repeat (first | exact Gives.nil | (apply Gives.cons; · repeat (first | exact Pick.here | apply Pick.there)))))
  ·
    refine JL.open ?_
    rintro ⟨a, cap⟩
    repeat (refine JL.flat ?_)
    refine JL.go 200 ?_
    repeat (refine JL.flat ?_)
    refine JL.ifT rfl ?_
    try refine JL.skip ?_
    repeat (refine JL.flat ?_)
    refine JL.block ?_
    repeat (refine JL.flat ?_)
    refine JL.draws (by kernel_rfl) (fun hR => ?_)
    refine Ord.on hR 200 ?_
    apply Ord.loadLit hR NP.nop rfl rfl rfl rfl rfl rfl rfl
    · repeat (first | exact Pick.here | apply Pick.there)
    · rfl
    · rfl
    refine Ord.on hR 200 ?_
    refine Ord.set 45 (bval (byteAt n 0)) rfl (congrArg (Value.int .u8) (conv_shr n (8 * 0))) ?_
    refine Ord.bslice (out := (bytesV [byteAt n 0])) hR rfl rfl rfl rfl rfl rfl rfl rfl rfl rfl (by rfl) rfl (by rfl) ?_ ?_
    · intro _
      repeat (first | exact Keep.nil | (refine Keep.load rfl rfl rfl (by repeat (first | exact Pick.here | apply Pick.there)) (by rfl) (by rfl) ?_) | (refine Keep.waits (by kernel_rfl) ?_))
    intro b
    refine Ord.on hR 200 ?_
    refine Ord.appendB (ys := [byteAt n 0]) hR rfl rfl rfl rfl rfl rfl rfl rfl rfl rfl rfl rfl rfl (by repeat (first | exact Pick.here | apply Pick.there)) ?_ ?_ ?_ ?_
    · exact Tells.own (by repeat (first | exact Pick.here | apply Pick.there))
    · simp [beB_length]; omega
    · intro _ _
      repeat (first | exact Keep.nil | (refine Keep.load rfl rfl rfl (by repeat (first | exact Pick.here | apply Pick.there)) (by rfl) (by rfl) ?_) | (refine Keep.waits (by kernel_rfl) ?_))
    intro a' cap'
    refine Ord.on hR 200 ?_
    apply Ord.storeLit hR rfl rfl rfl rfl rfl rfl rfl rfl
    · repeat (first | exact Pick.here | apply Pick.there)
    · rfl
    · rfl
    · rfl
    · repeat (first | exact Keep.nil | (refine Keep.load rfl rfl rfl (by repeat (first | exact Pick.here | apply Pick.there)) (by rfl) (by rfl) ?_) | (refine Keep.waits (by kernel_rfl) ?_))
    refine Ord.on hR 200 ?_
    repeat (refine JL.flat ?_)
    refine JL.nil (At.block_normal (At.then_normal (JL.at ?_)))
    repeat (refine JL.flat ?_)
    refine JL.go 200 ?_
    repeat (refine JL.flat ?_)
    refine JL.nil (At.then_normal ?_)
    refine At.again ⟨7 + 1, by omega⟩ (by simp only; omega) (Sub.look ?_) ?_
    ·
      repeat (first | exact Sub.nil | refine Sub.cons rfl ?_)
    rw [List.append_assoc]
    exact Gives.sound (Gives.ex (a', cap') (by repeat (first | exact Gives.nil | (apply Gives.cons; · repeat (first | exact Pick.here | apply Pick.there)))))
/-- a new copy of bytes. -/
def BOwn (r : Option Addr × Nat) (l : List UInt8) : Assn := SlOwn 5 1 r.1 l.length r.2 (bytesV l)
theorem BIn.none {F : Assn} {w : World} {G : List Assn} {l : List UInt8} (hs : sep G (hpart w)) (h : Tells G (BIn none l)) : l = [] := by
  have := h _ hs
  rcases this.2 with h | ⟨_, _, h, _⟩
  · exact List.eq_nil_of_length_eq_zero h
  · cases h
theorem sclone_ok (a : Option Addr) (l : List UInt8) (c : Nat) (hl : l.length ≤ 50000000) :
    Trip Tryz.prog 170 [.slice a l.length c] (BIn a l) [] (X := Option Addr × Nat) (fun r => .slice r.1 l.length r.2) (fun r => [BOwn r l]) := by
  refine Trip.start (n := 8) Tryz.func170 (by kernel_rfl) rfl rfl rfl ?_
  intro F w hD
  cases a with
  | none =>
    refine JL.fact (p := l = []) (fun h hs => ?_) (fun h0 => ?_)
    · obtain ⟨_, _, _, _, _, hF, _⟩ := hs
      rcases (hD _ hF).2 with h | ⟨_, _, h, _⟩
      · exact List.eq_nil_of_length_eq_zero h
      · cases h
    subst h0
    repeat (refine JL.flat ?_)
    refine JL.go 200 ?_
    repeat (refine JL.flat ?_)
    refine JL.go 200 ?_
    repeat (refine JL.flat ?_)
    refine JL.ifT rfl ?_
    try refine JL.skip ?_
    repeat (refine JL.flat ?_)
    refine JL.go 200 ?_
    repeat (refine JL.flat ?_)
    refine JL.ret ?_
    repeat (first | refine At.then_ret ?_ | refine At.block_ret ?_)
    refine At.done1 rfl ((none, 0)) rfl ?_
    exact fun h s => sep_pure (SlOwn.nil _ _) s
  | some a =>
    repeat (refine JL.flat ?_)
    refine JL.go 200 ?_
    repeat (refine JL.flat ?_)
    refine JL.go 200 ?_
    repeat (refine JL.flat ?_)
    refine JL.ifF rfl ?_
    try refine JL.skip ?_
    repeat (refine JL.flat ?_)
    refine JL.go 200 ?_
    refine Seq.bslice (out := (bytesV [])) rfl rfl rfl rfl rfl rfl rfl rfl (by rfl) rfl (by rfl) ?_
    intro b
    refine Seq.on 200 ?_
    refine Seq.appendB (l := []) (ys := l) rfl rfl rfl rfl rfl rfl rfl rfl rfl rfl rfl (by repeat (first | exact Pick.here | apply Pick.there)) ?_ ?_ ?_
    · exact Tells.frame (by repeat (first | exact Pick.here | apply Pick.there)) (fun _ _ => SlIn.mono) hD
    · simp; omega
    intro a' cap'
    simp only [List.nil_append]
    refine Seq.on 200 ?_
    repeat (refine JL.flat ?_)
    refine JL.ret ?_
    repeat (first | refine At.then_ret ?_ | refine At.block_ret ?_)
    refine At.done1 rfl ((a', cap')) rfl ?_
    exact (Gives.sound (by repeat (first | exact Gives.nil | (apply Gives.cons; · repeat (first | exact Pick.here | apply Pick.there)))))
theorem bclone_ok (a : Option Addr) (l : List UInt8) (c : Nat) (hl : l.length ≤ 50000000) :
    Trip Tryz.prog 178 [.slice a l.length c] (BIn a l) [] (X := Option Addr × Nat) (fun r => .slice r.1 l.length r.2) (fun r => [BOwn r l]) := by
  refine Trip.start (n := 8) Tryz.func178 (by kernel_rfl) rfl rfl rfl ?_
  intro F w hD
  cases a with
  | none =>
    refine JL.fact (p := l = []) (fun h hs => ?_) (fun h0 => ?_)
    · obtain ⟨_, _, _, _, _, hF, _⟩ := hs
      rcases (hD _ hF).2 with h | ⟨_, _, h, _⟩
      · exact List.eq_nil_of_length_eq_zero h
      · cases h
    subst h0
    repeat (refine JL.flat ?_)
    refine JL.go 200 ?_
    repeat (refine JL.flat ?_)
    refine JL.go 200 ?_
    repeat (refine JL.flat ?_)
    refine JL.ifT rfl ?_
    try refine JL.skip ?_
    repeat (refine JL.flat ?_)
    refine JL.go 200 ?_
    repeat (refine JL.flat ?_)
    refine JL.ret ?_
    repeat (first | refine At.then_ret ?_ | refine At.block_ret ?_)
    refine At.done1 rfl ((none, 0)) rfl ?_
    exact fun h s => sep_pure (SlOwn.nil _ _) s
  | some a =>
    repeat (refine JL.flat ?_)
    refine JL.go 200 ?_
    repeat (refine JL.flat ?_)
    refine JL.go 200 ?_
    repeat (refine JL.flat ?_)
    refine JL.ifF rfl ?_
    try refine JL.skip ?_
    repeat (refine JL.flat ?_)
    refine JL.go 200 ?_
    refine Seq.bslice (out := (bytesV [])) rfl rfl rfl rfl rfl rfl rfl rfl (by rfl) rfl (by rfl) ?_
    intro b
    refine Seq.on 200 ?_
    refine Seq.appendB (l := []) (ys := l) rfl rfl rfl rfl rfl rfl rfl rfl rfl rfl rfl (by repeat (first | exact Pick.here | apply Pick.there)) ?_ ?_ ?_
    · exact Tells.frame (by repeat (first | exact Pick.here | apply Pick.there)) (fun _ _ => SlIn.mono) hD
    · simp; omega
    intro a' cap'
    simp only [List.nil_append]
    refine Seq.on 200 ?_
    repeat (refine JL.flat ?_)
    refine JL.ret ?_
    repeat (first | refine At.then_ret ?_ | refine At.block_ret ?_)
    refine At.done1 rfl ((a', cap')) rfl ?_
    exact (Gives.sound (by repeat (first | exact Gives.nil | (apply Gives.cons; · repeat (first | exact Pick.here | apply Pick.there)))))
theorem Done_ok (p : Nat) (out : List UInt8) (hl : out.length ≤ 50000000) :
    Trip Tryz.prog 142 [ptrV p] none_ [Wr p .nilIface out] (X := Option Addr × Nat) (fun r => .tuple #[.slice r.1 out.length r.2, .nilIface]) (fun r => [BOwn r out, Wr p .nilIface out]) := by
  refine Trip.start (n := 25) Tryz.func142 (by kernel_rfl) rfl rfl rfl ?_
  intro F w hD
  refine JL.open ?_
  rintro ⟨a, cap⟩
  repeat (refine JL.flat ?_)
  refine JL.go 200 ?_
  repeat (refine JL.flat ?_)
  refine JL.block ?_
  repeat (refine JL.flat ?_)
  refine JL.go 200 ?_
  repeat (refine JL.flat ?_)
  refine JL.ifF rfl ?_
  try refine JL.skip ?_
  repeat (refine JL.flat ?_)
  refine JL.go 200 ?_
  apply Seq.loadLit rfl rfl rfl rfl rfl
  · repeat (first | exact Pick.here | apply Pick.there)
  · rfl
  · rfl
  refine Seq.on 200 ?_
  repeat (refine JL.flat ?_)
  refine JL.ifF rfl ?_
  try refine JL.skip ?_
  repeat (refine JL.flat ?_)
  refine JL.nil (At.block_normal (At.then_normal (JL.at ?_)))
  repeat (refine JL.flat ?_)
  refine JL.go 200 ?_
  apply Seq.loadLit rfl rfl rfl rfl rfl
  · repeat (first | exact Pick.here | apply Pick.there)
  · rfl
  · rfl
  refine Seq.on 200 ?_
  apply Seq.call (sclone_ok _ _ _ hl) rfl rfl rfl rfl rfl rfl
  ·
    repeat (first | exact Picks.nil | (apply Picks.cons; · repeat (first | exact Pick.here | apply Pick.there)))
  · exact Tells.own (by repeat (first | exact Pick.here | apply Pick.there))
  intro r
  refine Seq.on 200 ?_
  repeat (refine JL.flat ?_)
  refine JL.ret ?_
  repeat (first | refine At.then_ret ?_ | refine At.block_ret ?_)
  refine At.done2 rfl (r) rfl rfl rfl ?_
  exact Gives.sound (by apply Gives.cons; (repeat (first | exact Pick.here | apply Pick.there)); exact Gives.ex (a, cap) (by repeat (first | exact Gives.nil | (apply Gives.cons; · repeat (first | exact Pick.here | apply Pick.there)))))
theorem Flag_ok (p : Nat) (e : Value) (out : List UInt8) (b : Bool) (hl : out.length ≤ 50000000) :
    Trip Tryz.prog 217 [ptrV p, .bool b] none_ [Wr p e out] (X := Unit) (fun _ => ptrV p) (fun _ => [Wr p e (out ++ beB b.toNat 1)]) := by
  refine Trip.start (n := 10) Tryz.func217 (by kernel_rfl) rfl rfl rfl ?_
  intro F w hD
  repeat (refine JL.flat ?_)
  refine JL.go 200 ?_
  repeat (refine JL.flat ?_)
  refine JL.go 200 ?_
  cases b with
  | true =>
    repeat (refine JL.flat ?_)
    refine JL.ifT rfl ?_
    try refine JL.skip ?_
    repeat (refine JL.flat ?_)
    refine JL.go 200 ?_
    apply Seq.call (Num_1 p e out 1 (by omega) hl) rfl rfl rfl rfl rfl rfl
    ·
      repeat (first | exact Picks.nil | (apply Picks.cons; · repeat (first | exact Pick.here | apply Pick.there)))
    · exact Tells.none
    intro _
    refine Seq.on 200 ?_
    repeat (refine JL.flat ?_)
    refine JL.ret ?_
    repeat (first | refine At.then_ret ?_ | refine At.block_ret ?_)
    refine At.done1 rfl (()) rfl ?_
    exact (Gives.sound (by repeat (first | exact Gives.nil | (apply Gives.cons; · repeat (first | exact Pick.here | apply Pick.there)))))
  | false =>
    repeat (refine JL.flat ?_)
    refine JL.ifF rfl ?_
    try refine JL.skip ?_
    repeat (refine JL.flat ?_)
    refine JL.go 200 ?_
    apply Seq.call (Num_1 p e out 0 (by omega) hl) rfl rfl rfl rfl rfl rfl
    ·
      repeat (first | exact Picks.nil | (apply Picks.cons; · repeat (first | exact Pick.here | apply Pick.there)))
    · exact Tells.none
    intro _
    refine Seq.on 200 ?_
    repeat (refine JL.flat ?_)
    refine JL.ret ?_
    repeat (first | refine At.then_ret ?_ | refine At.block_ret ?_)
    refine At.done1 rfl (()) rfl ?_
    exact (Gives.sound (by repeat (first | exact Gives.nil | (apply Gives.cons; · repeat (first | exact Pick.here | apply Pick.there)))))
theorem Bytes_ok (p : Nat) (e : Value) (out ys : List UInt8) (a2 : Option Addr) (c2 : Nat) (hy : ys.length ≤ 65535) (hl : out.length ≤ 40000000) :
    Trip Tryz.prog 218 [ptrV p, .slice a2 ys.length c2] (BIn a2 ys) [Wr p e out] (X := Unit) (fun _ => ptrV p) (fun _ => [Wr p e (out ++ beB ys.length 2 ++ ys)]) := by
  refine Trip.start (n := 23) Tryz.func218 (by kernel_rfl) rfl rfl rfl ?_
  intro F w hD
  repeat (refine JL.flat ?_)
  refine JL.go 200 ?_
  repeat (refine JL.flat ?_)
  refine JL.go 200 ?_
  repeat (refine JL.flat ?_)
  refine JL.ifF rfl ?_
  try refine JL.skip ?_
  repeat (refine JL.flat ?_)
  refine JL.go 200 ?_
  refine JL.set 9 (.bool false) rfl (congrArg Value.bool (by simp; omega)) ?_
  repeat (refine JL.flat ?_)
  refine JL.ifF rfl ?_
  try refine JL.skip ?_
  repeat (refine JL.flat ?_)
  refine JL.go 4 ?_
  refine Seq.set 19 (.int .u64 (ys.length : Int)) rfl (congrArg (Value.int .u64) (wrap64 (by omega))) ?_
  refine Seq.on 200 ?_
  apply Seq.call (Num_2 p e out ys.length (by omega) (by omega)) rfl rfl rfl rfl rfl rfl
  ·
    repeat (first | exact Picks.nil | (apply Picks.cons; · repeat (first | exact Pick.here | apply Pick.there)))
  · exact Tells.none
  intro _
  refine Seq.on 200 ?_
  apply Seq.call (Raw_ok p e (out ++ beB ys.length 2) ys a2 c2 (by simp [beB_length]; omega)) rfl rfl rfl rfl rfl rfl
  ·
    repeat (first | exact Picks.nil | (apply Picks.cons; · repeat (first | exact Pick.here | apply Pick.there)))
  · exact Tells.frame (by repeat (first | exact Pick.here | apply Pick.there)) (fun _ _ => SlIn.mono) hD
  intro _
  refine Seq.on 200 ?_
  repeat (refine JL.flat ?_)
  refine JL.ret ?_
  repeat (first | refine At.then_ret ?_ | refine At.block_ret ?_)
  refine At.done1 rfl (()) rfl ?_
  exact (Gives.sound (by repeat (first | exact Gives.nil | (apply Gives.cons; · repeat (first | exact Pick.here | apply Pick.there)))))
end Go.Ent
namespace Go.Ent
open Go Go.Proofs
/-- a reader at p, without an error: what is left. -/
def RdA (p : Nat) (l : List UInt8) (r : Option Addr × Nat) : List Assn := [pt p (.cells [.nilIface, .slice r.1 l.length r.2].toArray 312 (0, 0)), BIn r.1 l, fun _ => l.length ≤ r.2 ∧ r.2 ≤ maxLen]
def Rd (p : Nat) (l : List UInt8) : Assn := exA (RdA p l)
theorem From_ok (a : Option Addr) (l : List UInt8) (c : Nat) (hl : l.length ≤ 50000000) :
    Trip Tryz.prog 89 [.slice a l.length c] (BIn a l) [] (X := Nat) (fun p => ptrV p) (fun p => [Rd p l]) := by
  refine Trip.start (n := 7) Tryz.func89 (by kernel_rfl) rfl rfl rfl ?_
  intro F w hD
  repeat (refine JL.flat ?_)
  refine JL.go 200 ?_
  repeat (refine JL.flat ?_)
  refine JL.go 200 ?_
  apply Seq.call (sclone_ok _ _ _ hl) rfl rfl rfl rfl rfl rfl
  ·
    repeat (first | exact Picks.nil | (apply Picks.cons; · repeat (first | exact Pick.here | apply Pick.there)))
  · exact Tells.frame (by repeat (first | exact Pick.here | apply Pick.there)) (fun _ _ => SlIn.mono) hD
  intro r
  refine Seq.yield rfl rfl (Yl.build rfl rfl rfl rfl rfl) ?_
  refine Seq.eff rfl rfl (Ef.box rfl rfl) ?_
  intro p
  refine Seq.on 200 ?_
  repeat (refine JL.flat ?_)
  refine JL.ret ?_
  repeat (first | refine At.then_ret ?_ | refine At.block_ret ?_)
  refine At.done1 rfl (p) rfl ?_
  intro h hs
  obtain ⟨h1, h2, d, l1, l2, hp, h3, h4, d', l3, l4, ho, hF⟩ := hs
  have ho' : BOwn r l h3 := ho
  exact exA_in (A := RdA p l) r ⟨h1, h2, d, l1, l2, hp, h3, h4, d', l3, l4, BOwn_BIn ho', sep_pure (fun _ => ⟨ho'.2.1, ho'.2.2.1⟩) hF⟩
theorem Left_ok (p : Nat) (l : List UInt8) : Trip Tryz.prog 246 [ptrV p] none_ [Rd p l] (X := Unit) (fun _ => .int .i64 (l.length : Int)) (fun _ => [Rd p l]) := by
  refine Trip.start (n := 18) Tryz.func246 (by kernel_rfl) rfl rfl rfl ?_
  intro F w hD
  refine JL.open ?_
  intro r
  repeat (refine JL.flat ?_)
  refine JL.go 200 ?_
  repeat (refine JL.flat ?_)
  refine JL.go 200 ?_
  apply Seq.loadLit rfl rfl rfl rfl rfl
  · repeat (first | exact Pick.here | apply Pick.there)
  · rfl
  · rfl
  refine Seq.on 200 ?_
  repeat (refine JL.flat ?_)
  refine JL.ifF rfl ?_
  try refine JL.skip ?_
  repeat (refine JL.flat ?_)
  refine JL.go 200 ?_
  apply Seq.loadLit rfl rfl rfl rfl rfl
  · repeat (first | exact Pick.here | apply Pick.there)
  · rfl
  · rfl
  refine Seq.on 200 ?_
  repeat (refine JL.flat ?_)
  refine JL.ret ?_
  repeat (first | refine At.then_ret ?_ | refine At.block_ret ?_)
  refine At.done1 rfl (()) rfl ?_
  exact Gives.sound (Gives.ex r (by repeat (first | exact Gives.nil | (apply Gives.cons; · repeat (first | exact Pick.here | apply Pick.there)))))
theorem RRaw_ok (p : Nat) (l : List UInt8) (k : Nat) (hk0 : 0 < k) (hk : k ≤ l.length) (hl : l.length ≤ 50000000) : Trip Tryz.prog 173 [ptrV p, .int .i64 (k : Int)] none_ [Rd p l] (X := Option Addr × Nat)
    (fun r => .slice r.1 (l.take k).length r.2) (fun r => [BOwn r (l.take k), Rd p (l.drop k)]) := by
  refine Trip.start (n := 36) Tryz.func173 (by kernel_rfl) rfl rfl rfl ?_
  intro F w hD
  repeat (refine JL.flat ?_)
  refine JL.go 200 ?_
  repeat (refine JL.flat ?_)
  refine JL.go 2 ?_
  refine Seq.set 7 (.bool false) rfl (congrArg Value.bool (by simp)) ?_
  refine Seq.on 200 ?_
  apply Seq.call (Left_ok p l) rfl rfl rfl rfl rfl rfl
  ·
    repeat (first | exact Picks.nil | (apply Picks.cons; · repeat (first | exact Pick.here | apply Pick.there)))
  · exact Tells.none
  intro _
  refine Seq.on 1 ?_
  refine Seq.set 12 (.bool false) rfl (congrArg Value.bool (by simp; omega)) ?_
  refine Seq.on 200 ?_
  repeat (refine JL.flat ?_)
  refine JL.ifF rfl ?_
  try refine JL.skip ?_
  repeat (refine JL.flat ?_)
  refine JL.go 200 ?_
  refine JL.set 18 (.bool false) rfl (congrArg Value.bool (by simp; omega)) ?_
  repeat (refine JL.flat ?_)
  refine JL.ifF rfl ?_
  try refine JL.skip ?_
  refine JL.open ?_
  intro r
  refine JL.know (p := l.length ≤ r.2 ∧ r.2 ≤ maxLen) (by repeat (first | exact Pick.here | apply Pick.there)) (fun hc => ?_)
  repeat (refine JL.flat ?_)
  refine JL.go 200 ?_
  apply Seq.loadLit rfl rfl rfl rfl rfl
  · repeat (first | exact Pick.here | apply Pick.there)
  · rfl
  · rfl
  refine Seq.on 200 ?_
  refine Seq.sliceB 0 k l rfl rfl rfl rfl rfl rfl rfl rfl rfl rfl rfl rfl (by omega) hk hc.1 ?_
  intro a' ha'
  refine Seq.on 200 ?_
  simp only [List.drop_zero, Nat.sub_zero] at ha' ⊢
  apply Seq.call (sclone_ok _ _ _ (by simp; omega)) rfl rfl rfl rfl rfl rfl
  ·
    repeat (first | exact Picks.nil | (apply Picks.cons; · repeat (first | exact Pick.here | apply Pick.there)))
  · exact Tells.pick (D := BIn a' (l.take k)) (A := BIn r.1 l) (by repeat (first | exact Pick.here | apply Pick.there)) (fun _ _ => SlIn.mono) ha'
  intro r'
  refine Seq.on 200 ?_
  repeat (refine JL.flat ?_)
  refine JL.go 200 ?_
  apply Seq.loadLit rfl rfl rfl rfl rfl
  · repeat (first | exact Pick.here | apply Pick.there)
  · rfl
  · rfl
  refine Seq.on 200 ?_
  refine Seq.sliceB k l.length l rfl rfl rfl rfl rfl rfl rfl rfl rfl rfl rfl rfl hk (by omega) hc.1 ?_
  intro a2 ha2
  have hd2 : (l.drop k).take (l.length - k) = l.drop k := List.take_of_length_le (by simp)
  rw [hd2] at ha2 ⊢
  refine Seq.on 200 ?_
  apply Seq.storeLit rfl rfl rfl rfl rfl rfl
  · repeat (first | exact Pick.here | apply Pick.there)
  · rfl
  · rfl
  · rfl
  refine Seq.on 200 ?_
  repeat (refine JL.flat ?_)
  refine JL.go 200 ?_
  repeat (refine JL.flat ?_)
  refine JL.ret ?_
  repeat (first | refine At.then_ret ?_ | refine At.block_ret ?_)
  refine At.done1 rfl (r') rfl ?_
  intro h hs
  have hs1 := (Gives.sound (L := [BOwn r' (l.take k), pt p _, BIn r.1 l, F]) (by repeat (first | exact Gives.nil | (apply Gives.cons; · repeat (first | exact Pick.here | apply Pick.there))))) h hs
  exact star_mono (fun _ h => h) (fun h hs => exA_in (A := RdA p (l.drop k)) (a2, r.2 - k) (star_mono (fun _ h => h) (fun h hs => star_mono ha2 (fun h hs => sep_pure (fun _ => ⟨by simp; omega, by have := hc.2; simp; omega⟩) hs) hs) hs)) hs1
theorem RNum_1 (p : Nat) (l : List UInt8) (hk : 1 ≤ l.length) (hl : l.length ≤ 50000000) : Trip Tryz.prog 90 [ptrV p, .int .i64 1] none_ [Rd p l] (X := Unit)
    (fun _ => .int .u64 (numB (l.take 1) : Int)) (fun _ => [Rd p (l.drop 1)]) := by
  refine Trip.start (n := 29) Tryz.func90 (by kernel_rfl) rfl rfl rfl ?_
  intro F w hD
  repeat (refine JL.flat ?_)
  refine JL.go 200 ?_
  repeat (refine JL.flat ?_)
  refine JL.go 200 ?_
  apply Seq.call (sized_1) rfl rfl rfl rfl rfl rfl
  ·
    repeat (first | exact Picks.nil | (apply Picks.cons; · repeat (first | exact Pick.here | apply Pick.there)))
  · exact Tells.none
  intro _
  refine Seq.on 200 ?_
  repeat (refine JL.flat ?_)
  refine JL.ifF rfl ?_
  try refine JL.skip ?_
  repeat (refine JL.flat ?_)
  refine JL.go 200 ?_
  repeat (refine JL.flat ?_)
  refine JL.go 200 ?_
  apply Seq.call (RRaw_ok p l 1 (by omega) hk hl) rfl rfl rfl rfl rfl rfl
  ·
    repeat (first | exact Picks.nil | (apply Picks.cons; · repeat (first | exact Pick.here | apply Pick.there)))
  · exact Tells.none
  intro r
  have hL : (l.take 1).length = 1 := by simp; omega
  generalize l.take 1 = L at hL ⊢
  refine Seq.on 200 ?_
  refine JL.set 17 (.int .i64 1) rfl (by rw [hL]; rfl) ?_
  repeat (refine JL.flat ?_)
  refine JL.block ?_
  refine JL.loop (X := {j : Nat // j ≤ 1}) ⟨0, by omega⟩ (fun j => [(16, .slice r.1 L.length r.2), (17, .int .i64 1), (18, .int .i64 (j.1 : Int)), (5, .int .u64 (numB (L.take j.1) : Int))]) (fun _ => [BOwn r L, Rd p (l.drop 1), F]) (fun j => 1 - j.1) ?_ ?_ ?_
  ·
    repeat (first | exact Sub.nil | refine Sub.cons rfl ?_)
  · exact fun h s => s
  rintro ⟨j, hj⟩
  rcases (show j = 1 ∨ j = 0 by omega) with rfl | rfl
  ·
    repeat (refine JL.flat ?_)
    refine JL.go 200 ?_
    repeat (refine JL.flat ?_)
    refine JL.ifF rfl ?_
    try refine JL.skip ?_
    repeat (refine JL.flat ?_)
    refine JL.exit ?_
    repeat (first | refine At.then_exit ?_ | refine At.block_pass rfl ?_)
    refine At.block_exit (At.then_normal (JL.at ?_))
    refine JL.set 5 (.int .u64 (numB L : Int)) rfl (by rw [List.take_of_length_le (Nat.le_of_eq hL)]) ?_
    repeat (refine JL.flat ?_)
    refine JL.go 200 ?_
    repeat (refine JL.flat ?_)
    refine JL.ret ?_
    repeat (first | refine At.then_ret ?_ | refine At.block_ret ?_)
    refine At.done1 rfl (()) rfl ?_
    exact (Gives.sound (by repeat (first | exact Gives.nil | (apply Gives.cons; · repeat (first | exact Pick.here | apply Pick.there)))))
  ·
    repeat (refine JL.flat ?_)
    refine JL.go 200 ?_
    repeat (refine JL.flat ?_)
    refine JL.ifT rfl ?_
    try refine JL.skip ?_
    repeat (refine JL.flat ?_)
    refine JL.block ?_
    repeat (refine JL.flat ?_)
    refine JL.go 0 ?_
    refine Seq.idxB 0 rfl rfl rfl rfl rfl rfl rfl (Tells.own (by repeat (first | exact Pick.here | apply Pick.there))) rfl (by omega) ?_
    intro b off hc
    refine Seq.load rfl rfl rfl rfl rfl hc rfl rfl ?_
    refine Seq.on 200 ?_
    repeat (refine JL.flat ?_)
    refine JL.go 5 ?_
    have hlt := numB_lt (L.take (0 + 1))
    rw [numB_take L 0 (by omega), List.length_take, Nat.min_eq_left (by omega)] at hlt
    refine Seq.set 26 (.int .u64 (numB (L.take (0 + 1)) : Int)) rfl (congrArg (Value.int .u64) ?_) ?_
    · rw [numB_take L 0 (by omega)]
      exact or_byte _ _ (Nat.lt_of_lt_of_le hlt (by decide)) (UInt8.toNat_lt _)
    refine Seq.on 200 ?_
    repeat (refine JL.flat ?_)
    refine JL.nil (At.block_normal (At.then_normal (JL.at ?_)))
    repeat (refine JL.flat ?_)
    refine JL.go 200 ?_
    repeat (refine JL.flat ?_)
    refine JL.nil (At.then_normal ?_)
    refine At.again ⟨0 + 1, by omega⟩ (by simp only; omega) (Sub.look ?_) ?_
    ·
      repeat (first | exact Sub.nil | refine Sub.cons rfl ?_)
    exact (Gives.sound (by repeat (first | exact Gives.nil | (apply Gives.cons; · repeat (first | exact Pick.here | apply Pick.there)))))
theorem RNum_2 (p : Nat) (l : List UInt8) (hk : 2 ≤ l.length) (hl : l.length ≤ 50000000) : Trip Tryz.prog 90 [ptrV p, .int .i64 2] none_ [Rd p l] (X := Unit)
    (fun _ => .int .u64 (numB (l.take 2) : Int)) (fun _ => [Rd p (l.drop 2)]) := by
  refine Trip.start (n := 29) Tryz.func90 (by kernel_rfl) rfl rfl rfl ?_
  intro F w hD
  repeat (refine JL.flat ?_)
  refine JL.go 200 ?_
  repeat (refine JL.flat ?_)
  refine JL.go 200 ?_
  apply Seq.call (sized_2) rfl rfl rfl rfl rfl rfl
  ·
    repeat (first | exact Picks.nil | (apply Picks.cons; · repeat (first | exact Pick.here | apply Pick.there)))
  · exact Tells.none
  intro _
  refine Seq.on 200 ?_
  repeat (refine JL.flat ?_)
  refine JL.ifF rfl ?_
  try refine JL.skip ?_
  repeat (refine JL.flat ?_)
  refine JL.go 200 ?_
  repeat (refine JL.flat ?_)
  refine JL.go 200 ?_
  apply Seq.call (RRaw_ok p l 2 (by omega) hk hl) rfl rfl rfl rfl rfl rfl
  ·
    repeat (first | exact Picks.nil | (apply Picks.cons; · repeat (first | exact Pick.here | apply Pick.there)))
  · exact Tells.none
  intro r
  have hL : (l.take 2).length = 2 := by simp; omega
  generalize l.take 2 = L at hL ⊢
  refine Seq.on 200 ?_
  refine JL.set 17 (.int .i64 2) rfl (by rw [hL]; rfl) ?_
  repeat (refine JL.flat ?_)
  refine JL.block ?_
  refine JL.loop (X := {j : Nat // j ≤ 2}) ⟨0, by omega⟩ (fun j => [(16, .slice r.1 L.length r.2), (17, .int .i64 2), (18, .int .i64 (j.1 : Int)), (5, .int .u64 (numB (L.take j.1) : Int))]) (fun _ => [BOwn r L, Rd p (l.drop 2), F]) (fun j => 2 - j.1) ?_ ?_ ?_
  ·
    repeat (first | exact Sub.nil | refine Sub.cons rfl ?_)
  · exact fun h s => s
  rintro ⟨j, hj⟩
  rcases (show j = 2 ∨ j = 0 ∨ j = 1 by omega) with rfl | rfl | rfl
  ·
    repeat (refine JL.flat ?_)
    refine JL.go 200 ?_
    repeat (refine JL.flat ?_)
    refine JL.ifF rfl ?_
    try refine JL.skip ?_
    repeat (refine JL.flat ?_)
    refine JL.exit ?_
    repeat (first | refine At.then_exit ?_ | refine At.block_pass rfl ?_)
    refine At.block_exit (At.then_normal (JL.at ?_))
    refine JL.set 5 (.int .u64 (numB L : Int)) rfl (by rw [List.take_of_length_le (Nat.le_of_eq hL)]) ?_
    repeat (refine JL.flat ?_)
    refine JL.go 200 ?_
    repeat (refine JL.flat ?_)
    refine JL.ret ?_
    repeat (first | refine At.then_ret ?_ | refine At.block_ret ?_)
    refine At.done1 rfl (()) rfl ?_
    exact (Gives.sound (by repeat (first | exact Gives.nil | (apply Gives.cons; · repeat (first | exact Pick.here | apply Pick.there)))))
  ·
    repeat (refine JL.flat ?_)
    refine JL.go 200 ?_
    repeat (refine JL.flat ?_)
    refine JL.ifT rfl ?_
    try refine JL.skip ?_
    repeat (refine JL.flat ?_)
    refine JL.block ?_
    repeat (refine JL.flat ?_)
    refine JL.go 0 ?_
    refine Seq.idxB 0 rfl rfl rfl rfl rfl rfl rfl (Tells.own (by repeat (first | exact Pick.here | apply Pick.there))) rfl (by omega) ?_
    intro b off hc
    refine Seq.load rfl rfl rfl rfl rfl hc rfl rfl ?_
    refine Seq.on 200 ?_
    repeat (refine JL.flat ?_)
    refine JL.go 5 ?_
    have hlt := numB_lt (L.take (0 + 1))
    rw [numB_take L 0 (by omega), List.length_take, Nat.min_eq_left (by omega)] at hlt
    refine Seq.set 26 (.int .u64 (numB (L.take (0 + 1)) : Int)) rfl (congrArg (Value.int .u64) ?_) ?_
    · rw [numB_take L 0 (by omega)]
      exact or_byte _ _ (Nat.lt_of_lt_of_le hlt (by decide)) (UInt8.toNat_lt _)
    refine Seq.on 200 ?_
    repeat (refine JL.flat ?_)
    refine JL.nil (At.block_normal (At.then_normal (JL.at ?_)))
    repeat (refine JL.flat ?_)
    refine JL.go 200 ?_
    repeat (refine JL.flat ?_)
    refine JL.nil (At.then_normal ?_)
    refine At.again ⟨0 + 1, by omega⟩ (by simp only; omega) (Sub.look ?_) ?_
    ·
      repeat (first | exact Sub.nil | refine Sub.cons rfl ?_)
    exact (Gives.sound (by repeat (first | exact Gives.nil | (apply Gives.cons; · repeat (first | exact Pick.here | apply Pick.there)))))
  ·
    repeat (refine JL.flat ?_)
    refine JL.go 200 ?_
    repeat (refine JL.flat ?_)
    refine JL.ifT rfl ?_
    try refine JL.skip ?_
    repeat (refine JL.flat ?_)
    refine JL.block ?_
    repeat (refine JL.flat ?_)
    refine JL.go 0 ?_
    refine Seq.idxB 1 rfl rfl rfl rfl rfl rfl rfl (Tells.own (by repeat (first | exact Pick.here | apply Pick.there))) rfl (by omega) ?_
    intro b off hc
    refine Seq.load rfl rfl rfl rfl rfl hc rfl rfl ?_
    refine Seq.on 200 ?_
    repeat (refine JL.flat ?_)
    refine JL.go 5 ?_
    have hlt := numB_lt (L.take (1 + 1))
    rw [numB_take L 1 (by omega), List.length_take, Nat.min_eq_left (by omega)] at hlt
    refine Seq.set 26 (.int .u64 (numB (L.take (1 + 1)) : Int)) rfl (congrArg (Value.int .u64) ?_) ?_
    · rw [numB_take L 1 (by omega)]
      exact or_byte _ _ (Nat.lt_of_lt_of_le hlt (by decide)) (UInt8.toNat_lt _)
    refine Seq.on 200 ?_
    repeat (refine JL.flat ?_)
    refine JL.nil (At.block_normal (At.then_normal (JL.at ?_)))
    repeat (refine JL.flat ?_)
    refine JL.go 200 ?_
    repeat (refine JL.flat ?_)
    refine JL.nil (At.then_normal ?_)
    refine At.again ⟨1 + 1, by omega⟩ (by simp only; omega) (Sub.look ?_) ?_
    ·
      repeat (first | exact Sub.nil | refine Sub.cons rfl ?_)
    exact (Gives.sound (by repeat (first | exact Gives.nil | (apply Gives.cons; · repeat (first | exact Pick.here | apply Pick.there)))))
theorem RNum_4 (p : Nat) (l : List UInt8) (hk : 4 ≤ l.length) (hl : l.length ≤ 50000000) : Trip Tryz.prog 90 [ptrV p, .int .i64 4] none_ [Rd p l] (X := Unit)
    (fun _ => .int .u64 (numB (l.take 4) : Int)) (fun _ => [Rd p (l.drop 4)]) := by
  refine Trip.start (n := 29) Tryz.func90 (by kernel_rfl) rfl rfl rfl ?_
  intro F w hD
  repeat (refine JL.flat ?_)
  refine JL.go 200 ?_
  repeat (refine JL.flat ?_)
  refine JL.go 200 ?_
  apply Seq.call (sized_4) rfl rfl rfl rfl rfl rfl
  ·
    repeat (first | exact Picks.nil | (apply Picks.cons; · repeat (first | exact Pick.here | apply Pick.there)))
  · exact Tells.none
  intro _
  refine Seq.on 200 ?_
  repeat (refine JL.flat ?_)
  refine JL.ifF rfl ?_
  try refine JL.skip ?_
  repeat (refine JL.flat ?_)
  refine JL.go 200 ?_
  repeat (refine JL.flat ?_)
  refine JL.go 200 ?_
  apply Seq.call (RRaw_ok p l 4 (by omega) hk hl) rfl rfl rfl rfl rfl rfl
  ·
    repeat (first | exact Picks.nil | (apply Picks.cons; · repeat (first | exact Pick.here | apply Pick.there)))
  · exact Tells.none
  intro r
  have hL : (l.take 4).length = 4 := by simp; omega
  generalize l.take 4 = L at hL ⊢
  refine Seq.on 200 ?_
  refine JL.set 17 (.int .i64 4) rfl (by rw [hL]; rfl) ?_
  repeat (refine JL.flat ?_)
  refine JL.block ?_
  refine JL.loop (X := {j : Nat // j ≤ 4}) ⟨0, by omega⟩ (fun j => [(16, .slice r.1 L.length r.2), (17, .int .i64 4), (18, .int .i64 (j.1 : Int)), (5, .int .u64 (numB (L.take j.1) : Int))]) (fun _ => [BOwn r L, Rd p (l.drop 4), F]) (fun j => 4 - j.1) ?_ ?_ ?_
  ·
    repeat (first | exact Sub.nil | refine Sub.cons rfl ?_)
  · exact fun h s => s
  rintro ⟨j, hj⟩
  rcases (show j = 4 ∨ j = 0 ∨ j = 1 ∨ j = 2 ∨ j = 3 by omega) with rfl | rfl | rfl | rfl | rfl
  ·
    repeat (refine JL.flat ?_)
    refine JL.go 200 ?_
    repeat (refine JL.flat ?_)
    refine JL.ifF rfl ?_
    try refine JL.skip ?_
    repeat (refine JL.flat ?_)
    refine JL.exit ?_
    repeat (first | refine At.then_exit ?_ | refine At.block_pass rfl ?_)
    refine At.block_exit (At.then_normal (JL.at ?_))
    refine JL.set 5 (.int .u64 (numB L : Int)) rfl (by rw [List.take_of_length_le (Nat.le_of_eq hL)]) ?_
    repeat (refine JL.flat ?_)
    refine JL.go 200 ?_
    repeat (refine JL.flat ?_)
    refine JL.ret ?_
    repeat (first | refine At.then_ret ?_ | refine At.block_ret ?_)
    refine At.done1 rfl (()) rfl ?_
    exact (Gives.sound (by repeat (first | exact Gives.nil | (apply Gives.cons; · repeat (first | exact Pick.here | apply Pick.there)))))
  ·
    repeat (refine JL.flat ?_)
    refine JL.go 200 ?_
    repeat (refine JL.flat ?_)
    refine JL.ifT rfl ?_
    try refine JL.skip ?_
    repeat (refine JL.flat ?_)
    refine JL.block ?_
    repeat (refine JL.flat ?_)
    refine JL.go 0 ?_
    refine Seq.idxB 0 rfl rfl rfl rfl rfl rfl rfl (Tells.own (by repeat (first | exact Pick.here | apply Pick.there))) rfl (by omega) ?_
    intro b off hc
    refine Seq.load rfl rfl rfl rfl rfl hc rfl rfl ?_
    refine Seq.on 200 ?_
    repeat (refine JL.flat ?_)
    refine JL.go 5 ?_
    have hlt := numB_lt (L.take (0 + 1))
    rw [numB_take L 0 (by omega), List.length_take, Nat.min_eq_left (by omega)] at hlt
    refine Seq.set 26 (.int .u64 (numB (L.take (0 + 1)) : Int)) rfl (congrArg (Value.int .u64) ?_) ?_
    · rw [numB_take L 0 (by omega)]
      exact or_byte _ _ (Nat.lt_of_lt_of_le hlt (by decide)) (UInt8.toNat_lt _)
    refine Seq.on 200 ?_
    repeat (refine JL.flat ?_)
    refine JL.nil (At.block_normal (At.then_normal (JL.at ?_)))
    repeat (refine JL.flat ?_)
    refine JL.go 200 ?_
    repeat (refine JL.flat ?_)
    refine JL.nil (At.then_normal ?_)
    refine At.again ⟨0 + 1, by omega⟩ (by simp only; omega) (Sub.look ?_) ?_
    ·
      repeat (first | exact Sub.nil | refine Sub.cons rfl ?_)
    exact (Gives.sound (by repeat (first | exact Gives.nil | (apply Gives.cons; · repeat (first | exact Pick.here | apply Pick.there)))))
  ·
    repeat (refine JL.flat ?_)
    refine JL.go 200 ?_
    repeat (refine JL.flat ?_)
    refine JL.ifT rfl ?_
    try refine JL.skip ?_
    repeat (refine JL.flat ?_)
    refine JL.block ?_
    repeat (refine JL.flat ?_)
    refine JL.go 0 ?_
    refine Seq.idxB 1 rfl rfl rfl rfl rfl rfl rfl (Tells.own (by repeat (first | exact Pick.here | apply Pick.there))) rfl (by omega) ?_
    intro b off hc
    refine Seq.load rfl rfl rfl rfl rfl hc rfl rfl ?_
    refine Seq.on 200 ?_
    repeat (refine JL.flat ?_)
    refine JL.go 5 ?_
    have hlt := numB_lt (L.take (1 + 1))
    rw [numB_take L 1 (by omega), List.length_take, Nat.min_eq_left (by omega)] at hlt
    refine Seq.set 26 (.int .u64 (numB (L.take (1 + 1)) : Int)) rfl (congrArg (Value.int .u64) ?_) ?_
    · rw [numB_take L 1 (by omega)]
      exact or_byte _ _ (Nat.lt_of_lt_of_le hlt (by decide)) (UInt8.toNat_lt _)
    refine Seq.on 200 ?_
    repeat (refine JL.flat ?_)
    refine JL.nil (At.block_normal (At.then_normal (JL.at ?_)))
    repeat (refine JL.flat ?_)
    refine JL.go 200 ?_
    repeat (refine JL.flat ?_)
    refine JL.nil (At.then_normal ?_)
    refine At.again ⟨1 + 1, by omega⟩ (by simp only; omega) (Sub.look ?_) ?_
    ·
      repeat (first | exact Sub.nil | refine Sub.cons rfl ?_)
    exact (Gives.sound (by repeat (first | exact Gives.nil | (apply Gives.cons; · repeat (first | exact Pick.here | apply Pick.there)))))
  ·
    repeat (refine JL.flat ?_)
    refine JL.go 200 ?_
    repeat (refine JL.flat ?_)
    refine JL.ifT rfl ?_
    try refine JL.skip ?_
    repeat (refine JL.flat ?_)
    refine JL.block ?_
    repeat (refine JL.flat ?_)
    refine JL.go 0 ?_
    refine Seq.idxB 2 rfl rfl rfl rfl rfl rfl rfl (Tells.own (by repeat (first | exact Pick.here | apply Pick.there))) rfl (by omega) ?_
    intro b off hc
    refine Seq.load rfl rfl rfl rfl rfl hc rfl rfl ?_
    refine Seq.on 200 ?_
    repeat (refine JL.flat ?_)
    refine JL.go 5 ?_
    have hlt := numB_lt (L.take (2 + 1))
    rw [numB_take L 2 (by omega), List.length_take, Nat.min_eq_left (by omega)] at hlt
    refine Seq.set 26 (.int .u64 (numB (L.take (2 + 1)) : Int)) rfl (congrArg (Value.int .u64) ?_) ?_
    · rw [numB_take L 2 (by omega)]
      exact or_byte _ _ (Nat.lt_of_lt_of_le hlt (by decide)) (UInt8.toNat_lt _)
    refine Seq.on 200 ?_
    repeat (refine JL.flat ?_)
    refine JL.nil (At.block_normal (At.then_normal (JL.at ?_)))
    repeat (refine JL.flat ?_)
    refine JL.go 200 ?_
    repeat (refine JL.flat ?_)
    refine JL.nil (At.then_normal ?_)
    refine At.again ⟨2 + 1, by omega⟩ (by simp only; omega) (Sub.look ?_) ?_
    ·
      repeat (first | exact Sub.nil | refine Sub.cons rfl ?_)
    exact (Gives.sound (by repeat (first | exact Gives.nil | (apply Gives.cons; · repeat (first | exact Pick.here | apply Pick.there)))))
  ·
    repeat (refine JL.flat ?_)
    refine JL.go 200 ?_
    repeat (refine JL.flat ?_)
    refine JL.ifT rfl ?_
    try refine JL.skip ?_
    repeat (refine JL.flat ?_)
    refine JL.block ?_
    repeat (refine JL.flat ?_)
    refine JL.go 0 ?_
    refine Seq.idxB 3 rfl rfl rfl rfl rfl rfl rfl (Tells.own (by repeat (first | exact Pick.here | apply Pick.there))) rfl (by omega) ?_
    intro b off hc
    refine Seq.load rfl rfl rfl rfl rfl hc rfl rfl ?_
    refine Seq.on 200 ?_
    repeat (refine JL.flat ?_)
    refine JL.go 5 ?_
    have hlt := numB_lt (L.take (3 + 1))
    rw [numB_take L 3 (by omega), List.length_take, Nat.min_eq_left (by omega)] at hlt
    refine Seq.set 26 (.int .u64 (numB (L.take (3 + 1)) : Int)) rfl (congrArg (Value.int .u64) ?_) ?_
    · rw [numB_take L 3 (by omega)]
      exact or_byte _ _ (Nat.lt_of_lt_of_le hlt (by decide)) (UInt8.toNat_lt _)
    refine Seq.on 200 ?_
    repeat (refine JL.flat ?_)
    refine JL.nil (At.block_normal (At.then_normal (JL.at ?_)))
    repeat (refine JL.flat ?_)
    refine JL.go 200 ?_
    repeat (refine JL.flat ?_)
    refine JL.nil (At.then_normal ?_)
    refine At.again ⟨3 + 1, by omega⟩ (by simp only; omega) (Sub.look ?_) ?_
    ·
      repeat (first | exact Sub.nil | refine Sub.cons rfl ?_)
    exact (Gives.sound (by repeat (first | exact Gives.nil | (apply Gives.cons; · repeat (first | exact Pick.here | apply Pick.there)))))
theorem RNum_8 (p : Nat) (l : List UInt8) (hk : 8 ≤ l.length) (hl : l.length ≤ 50000000) : Trip Tryz.prog 90 [ptrV p, .int .i64 8] none_ [Rd p l] (X := Unit)
    (fun _ => .int .u64 (numB (l.take 8) : Int)) (fun _ => [Rd p (l.drop 8)]) := by
  refine Trip.start (n := 29) Tryz.func90 (by kernel_rfl) rfl rfl rfl ?_
  intro F w hD
  repeat (refine JL.flat ?_)
  refine JL.go 200 ?_
  repeat (refine JL.flat ?_)
  refine JL.go 200 ?_
  apply Seq.call (sized_8) rfl rfl rfl rfl rfl rfl
  ·
    repeat (first | exact Picks.nil | (apply Picks.cons; · repeat (first | exact Pick.here | apply Pick.there)))
  · exact Tells.none
  intro _
  refine Seq.on 200 ?_
  repeat (refine JL.flat ?_)
  refine JL.ifF rfl ?_
  try refine JL.skip ?_
  repeat (refine JL.flat ?_)
  refine JL.go 200 ?_
  repeat (refine JL.flat ?_)
  refine JL.go 200 ?_
  apply Seq.call (RRaw_ok p l 8 (by omega) hk hl) rfl rfl rfl rfl rfl rfl
  ·
    repeat (first | exact Picks.nil | (apply Picks.cons; · repeat (first | exact Pick.here | apply Pick.there)))
  · exact Tells.none
  intro r
  have hL : (l.take 8).length = 8 := by simp; omega
  generalize l.take 8 = L at hL ⊢
  refine Seq.on 200 ?_
  refine JL.set 17 (.int .i64 8) rfl (by rw [hL]; rfl) ?_
  repeat (refine JL.flat ?_)
  refine JL.block ?_
  refine JL.loop (X := {j : Nat // j ≤ 8}) ⟨0, by omega⟩ (fun j => [(16, .slice r.1 L.length r.2), (17, .int .i64 8), (18, .int .i64 (j.1 : Int)), (5, .int .u64 (numB (L.take j.1) : Int))]) (fun _ => [BOwn r L, Rd p (l.drop 8), F]) (fun j => 8 - j.1) ?_ ?_ ?_
  ·
    repeat (first | exact Sub.nil | refine Sub.cons rfl ?_)
  · exact fun h s => s
  rintro ⟨j, hj⟩
  rcases (show j = 8 ∨ j = 0 ∨ j = 1 ∨ j = 2 ∨ j = 3 ∨ j = 4 ∨ j = 5 ∨ j = 6 ∨ j = 7 by omega) with rfl | rfl | rfl | rfl | rfl | rfl | rfl | rfl | rfl
  ·
    repeat (refine JL.flat ?_)
    refine JL.go 200 ?_
    repeat (refine JL.flat ?_)
    refine JL.ifF rfl ?_
    try refine JL.skip ?_
    repeat (refine JL.flat ?_)
    refine JL.exit ?_
    repeat (first | refine At.then_exit ?_ | refine At.block_pass rfl ?_)
    refine At.block_exit (At.then_normal (JL.at ?_))
    refine JL.set 5 (.int .u64 (numB L : Int)) rfl (by rw [List.take_of_length_le (Nat.le_of_eq hL)]) ?_
    repeat (refine JL.flat ?_)
    refine JL.go 200 ?_
    repeat (refine JL.flat ?_)
    refine JL.ret ?_
    repeat (first | refine At.then_ret ?_ | refine At.block_ret ?_)
    refine At.done1 rfl (()) rfl ?_
    exact (Gives.sound (by repeat (first | exact Gives.nil | (apply Gives.cons; · repeat (first | exact Pick.here | apply Pick.there)))))
  ·
    repeat (refine JL.flat ?_)
    refine JL.go 200 ?_
    repeat (refine JL.flat ?_)
    refine JL.ifT rfl ?_
    try refine JL.skip ?_
    repeat (refine JL.flat ?_)
    refine JL.block ?_
    repeat (refine JL.flat ?_)
    refine JL.go 0 ?_
    refine Seq.idxB 0 rfl rfl rfl rfl rfl rfl rfl (Tells.own (by repeat (first | exact Pick.here | apply Pick.there))) rfl (by omega) ?_
    intro b off hc
    refine Seq.load rfl rfl rfl rfl rfl hc rfl rfl ?_
    refine Seq.on 200 ?_
    repeat (refine JL.flat ?_)
    refine JL.go 5 ?_
    have hlt := numB_lt (L.take (0 + 1))
    rw [numB_take L 0 (by omega), List.length_take, Nat.min_eq_left (by omega)] at hlt
    refine Seq.set 26 (.int .u64 (numB (L.take (0 + 1)) : Int)) rfl (congrArg (Value.int .u64) ?_) ?_
    · rw [numB_take L 0 (by omega)]
      exact or_byte _ _ (Nat.lt_of_lt_of_le hlt (by decide)) (UInt8.toNat_lt _)
    refine Seq.on 200 ?_
    repeat (refine JL.flat ?_)
    refine JL.nil (At.block_normal (At.then_normal (JL.at ?_)))
    repeat (refine JL.flat ?_)
    refine JL.go 200 ?_
    repeat (refine JL.flat ?_)
    refine JL.nil (At.then_normal ?_)
    refine At.again ⟨0 + 1, by omega⟩ (by simp only; omega) (Sub.look ?_) ?_
    ·
      repeat (first | exact Sub.nil | refine Sub.cons rfl ?_)
    exact (Gives.sound (by repeat (first | exact Gives.nil | (apply Gives.cons; · repeat (first | exact Pick.here | apply Pick.there)))))
  ·
    repeat (refine JL.flat ?_)
    refine JL.go 200 ?_
    repeat (refine JL.flat ?_)
    refine JL.ifT rfl ?_
    try refine JL.skip ?_
    repeat (refine JL.flat ?_)
    refine JL.block ?_
    repeat (refine JL.flat ?_)
    refine JL.go 0 ?_
    refine Seq.idxB 1 rfl rfl rfl rfl rfl rfl rfl (Tells.own (by repeat (first | exact Pick.here | apply Pick.there))) rfl (by omega) ?_
    intro b off hc
    refine Seq.load rfl rfl rfl rfl rfl hc rfl rfl ?_
    refine Seq.on 200 ?_
    repeat (refine JL.flat ?_)
    refine JL.go 5 ?_
    have hlt := numB_lt (L.take (1 + 1))
    rw [numB_take L 1 (by omega), List.length_take, Nat.min_eq_left (by omega)] at hlt
    refine Seq.set 26 (.int .u64 (numB (L.take (1 + 1)) : Int)) rfl (congrArg (Value.int .u64) ?_) ?_
    · rw [numB_take L 1 (by omega)]
      exact or_byte _ _ (Nat.lt_of_lt_of_le hlt (by decide)) (UInt8.toNat_lt _)
    refine Seq.on 200 ?_
    repeat (refine JL.flat ?_)
    refine JL.nil (At.block_normal (At.then_normal (JL.at ?_)))
    repeat (refine JL.flat ?_)
    refine JL.go 200 ?_
    repeat (refine JL.flat ?_)
    refine JL.nil (At.then_normal ?_)
    refine At.again ⟨1 + 1, by omega⟩ (by simp only; omega) (Sub.look ?_) ?_
    ·
      repeat (first | exact Sub.nil | refine Sub.cons rfl ?_)
    exact (Gives.sound (by repeat (first | exact Gives.nil | (apply Gives.cons; · repeat (first | exact Pick.here | apply Pick.there)))))
  ·
    repeat (refine JL.flat ?_)
    refine JL.go 200 ?_
    repeat (refine JL.flat ?_)
    refine JL.ifT rfl ?_
    try refine JL.skip ?_
    repeat (refine JL.flat ?_)
    refine JL.block ?_
    repeat (refine JL.flat ?_)
    refine JL.go 0 ?_
    refine Seq.idxB 2 rfl rfl rfl rfl rfl rfl rfl (Tells.own (by repeat (first | exact Pick.here | apply Pick.there))) rfl (by omega) ?_
    intro b off hc
    refine Seq.load rfl rfl rfl rfl rfl hc rfl rfl ?_
    refine Seq.on 200 ?_
    repeat (refine JL.flat ?_)
    refine JL.go 5 ?_
    have hlt := numB_lt (L.take (2 + 1))
    rw [numB_take L 2 (by omega), List.length_take, Nat.min_eq_left (by omega)] at hlt
    refine Seq.set 26 (.int .u64 (numB (L.take (2 + 1)) : Int)) rfl (congrArg (Value.int .u64) ?_) ?_
    · rw [numB_take L 2 (by omega)]
      exact or_byte _ _ (Nat.lt_of_lt_of_le hlt (by decide)) (UInt8.toNat_lt _)
    refine Seq.on 200 ?_
    repeat (refine JL.flat ?_)
    refine JL.nil (At.block_normal (At.then_normal (JL.at ?_)))
    repeat (refine JL.flat ?_)
    refine JL.go 200 ?_
    repeat (refine JL.flat ?_)
    refine JL.nil (At.then_normal ?_)
    refine At.again ⟨2 + 1, by omega⟩ (by simp only; omega) (Sub.look ?_) ?_
    ·
      repeat (first | exact Sub.nil | refine Sub.cons rfl ?_)
    exact (Gives.sound (by repeat (first | exact Gives.nil | (apply Gives.cons; · repeat (first | exact Pick.here | apply Pick.there)))))
  ·
    repeat (refine JL.flat ?_)
    refine JL.go 200 ?_
    repeat (refine JL.flat ?_)
    refine JL.ifT rfl ?_
    try refine JL.skip ?_
    repeat (refine JL.flat ?_)
    refine JL.block ?_
    repeat (refine JL.flat ?_)
    refine JL.go 0 ?_
    refine Seq.idxB 3 rfl rfl rfl rfl rfl rfl rfl (Tells.own (by repeat (first | exact Pick.here | apply Pick.there))) rfl (by omega) ?_
    intro b off hc
    refine Seq.load rfl rfl rfl rfl rfl hc rfl rfl ?_
    refine Seq.on 200 ?_
    repeat (refine JL.flat ?_)
    refine JL.go 5 ?_
    have hlt := numB_lt (L.take (3 + 1))
    rw [numB_take L 3 (by omega), List.length_take, Nat.min_eq_left (by omega)] at hlt
    refine Seq.set 26 (.int .u64 (numB (L.take (3 + 1)) : Int)) rfl (congrArg (Value.int .u64) ?_) ?_
    · rw [numB_take L 3 (by omega)]
      exact or_byte _ _ (Nat.lt_of_lt_of_le hlt (by decide)) (UInt8.toNat_lt _)
    refine Seq.on 200 ?_
    repeat (refine JL.flat ?_)
    refine JL.nil (At.block_normal (At.then_normal (JL.at ?_)))
    repeat (refine JL.flat ?_)
    refine JL.go 200 ?_
    repeat (refine JL.flat ?_)
    refine JL.nil (At.then_normal ?_)
    refine At.again ⟨3 + 1, by omega⟩ (by simp only; omega) (Sub.look ?_) ?_
    ·
      repeat (first | exact Sub.nil | refine Sub.cons rfl ?_)
    exact (Gives.sound (by repeat (first | exact Gives.nil | (apply Gives.cons; · repeat (first | exact Pick.here | apply Pick.there)))))
  ·
    repeat (refine JL.flat ?_)
    refine JL.go 200 ?_
    repeat (refine JL.flat ?_)
    refine JL.ifT rfl ?_
    try refine JL.skip ?_
    repeat (refine JL.flat ?_)
    refine JL.block ?_
    repeat (refine JL.flat ?_)
    refine JL.go 0 ?_
    refine Seq.idxB 4 rfl rfl rfl rfl rfl rfl rfl (Tells.own (by repeat (first | exact Pick.here | apply Pick.there))) rfl (by omega) ?_
    intro b off hc
    refine Seq.load rfl rfl rfl rfl rfl hc rfl rfl ?_
    refine Seq.on 200 ?_
    repeat (refine JL.flat ?_)
    refine JL.go 5 ?_
    have hlt := numB_lt (L.take (4 + 1))
    rw [numB_take L 4 (by omega), List.length_take, Nat.min_eq_left (by omega)] at hlt
    refine Seq.set 26 (.int .u64 (numB (L.take (4 + 1)) : Int)) rfl (congrArg (Value.int .u64) ?_) ?_
    · rw [numB_take L 4 (by omega)]
      exact or_byte _ _ (Nat.lt_of_lt_of_le hlt (by decide)) (UInt8.toNat_lt _)
    refine Seq.on 200 ?_
    repeat (refine JL.flat ?_)
    refine JL.nil (At.block_normal (At.then_normal (JL.at ?_)))
    repeat (refine JL.flat ?_)
    refine JL.go 200 ?_
    repeat (refine JL.flat ?_)
    refine JL.nil (At.then_normal ?_)
    refine At.again ⟨4 + 1, by omega⟩ (by simp only; omega) (Sub.look ?_) ?_
    ·
      repeat (first | exact Sub.nil | refine Sub.cons rfl ?_)
    exact (Gives.sound (by repeat (first | exact Gives.nil | (apply Gives.cons; · repeat (first | exact Pick.here | apply Pick.there)))))
  ·
    repeat (refine JL.flat ?_)
    refine JL.go 200 ?_
    repeat (refine JL.flat ?_)
    refine JL.ifT rfl ?_
    try refine JL.skip ?_
    repeat (refine JL.flat ?_)
    refine JL.block ?_
    repeat (refine JL.flat ?_)
    refine JL.go 0 ?_
    refine Seq.idxB 5 rfl rfl rfl rfl rfl rfl rfl (Tells.own (by repeat (first | exact Pick.here | apply Pick.there))) rfl (by omega) ?_
    intro b off hc
    refine Seq.load rfl rfl rfl rfl rfl hc rfl rfl ?_
    refine Seq.on 200 ?_
    repeat (refine JL.flat ?_)
    refine JL.go 5 ?_
    have hlt := numB_lt (L.take (5 + 1))
    rw [numB_take L 5 (by omega), List.length_take, Nat.min_eq_left (by omega)] at hlt
    refine Seq.set 26 (.int .u64 (numB (L.take (5 + 1)) : Int)) rfl (congrArg (Value.int .u64) ?_) ?_
    · rw [numB_take L 5 (by omega)]
      exact or_byte _ _ (Nat.lt_of_lt_of_le hlt (by decide)) (UInt8.toNat_lt _)
    refine Seq.on 200 ?_
    repeat (refine JL.flat ?_)
    refine JL.nil (At.block_normal (At.then_normal (JL.at ?_)))
    repeat (refine JL.flat ?_)
    refine JL.go 200 ?_
    repeat (refine JL.flat ?_)
    refine JL.nil (At.then_normal ?_)
    refine At.again ⟨5 + 1, by omega⟩ (by simp only; omega) (Sub.look ?_) ?_
    ·
      repeat (first | exact Sub.nil | refine Sub.cons rfl ?_)
    exact (Gives.sound (by repeat (first | exact Gives.nil | (apply Gives.cons; · repeat (first | exact Pick.here | apply Pick.there)))))
  ·
    repeat (refine JL.flat ?_)
    refine JL.go 200 ?_
    repeat (refine JL.flat ?_)
    refine JL.ifT rfl ?_
    try refine JL.skip ?_
    repeat (refine JL.flat ?_)
    refine JL.block ?_
    repeat (refine JL.flat ?_)
    refine JL.go 0 ?_
    refine Seq.idxB 6 rfl rfl rfl rfl rfl rfl rfl (Tells.own (by repeat (first | exact Pick.here | apply Pick.there))) rfl (by omega) ?_
    intro b off hc
    refine Seq.load rfl rfl rfl rfl rfl hc rfl rfl ?_
    refine Seq.on 200 ?_
    repeat (refine JL.flat ?_)
    refine JL.go 5 ?_
    have hlt := numB_lt (L.take (6 + 1))
    rw [numB_take L 6 (by omega), List.length_take, Nat.min_eq_left (by omega)] at hlt
    refine Seq.set 26 (.int .u64 (numB (L.take (6 + 1)) : Int)) rfl (congrArg (Value.int .u64) ?_) ?_
    · rw [numB_take L 6 (by omega)]
      exact or_byte _ _ (Nat.lt_of_lt_of_le hlt (by decide)) (UInt8.toNat_lt _)
    refine Seq.on 200 ?_
    repeat (refine JL.flat ?_)
    refine JL.nil (At.block_normal (At.then_normal (JL.at ?_)))
    repeat (refine JL.flat ?_)
    refine JL.go 200 ?_
    repeat (refine JL.flat ?_)
    refine JL.nil (At.then_normal ?_)
    refine At.again ⟨6 + 1, by omega⟩ (by simp only; omega) (Sub.look ?_) ?_
    ·
      repeat (first | exact Sub.nil | refine Sub.cons rfl ?_)
    exact (Gives.sound (by repeat (first | exact Gives.nil | (apply Gives.cons; · repeat (first | exact Pick.here | apply Pick.there)))))
  ·
    repeat (refine JL.flat ?_)
    refine JL.go 200 ?_
    repeat (refine JL.flat ?_)
    refine JL.ifT rfl ?_
    try refine JL.skip ?_
    repeat (refine JL.flat ?_)
    refine JL.block ?_
    repeat (refine JL.flat ?_)
    refine JL.go 0 ?_
    refine Seq.idxB 7 rfl rfl rfl rfl rfl rfl rfl (Tells.own (by repeat (first | exact Pick.here | apply Pick.there))) rfl (by omega) ?_
    intro b off hc
    refine Seq.load rfl rfl rfl rfl rfl hc rfl rfl ?_
    refine Seq.on 200 ?_
    repeat (refine JL.flat ?_)
    refine JL.go 5 ?_
    have hlt := numB_lt (L.take (7 + 1))
    rw [numB_take L 7 (by omega), List.length_take, Nat.min_eq_left (by omega)] at hlt
    refine Seq.set 26 (.int .u64 (numB (L.take (7 + 1)) : Int)) rfl (congrArg (Value.int .u64) ?_) ?_
    · rw [numB_take L 7 (by omega)]
      exact or_byte _ _ (Nat.lt_of_lt_of_le hlt (by decide)) (UInt8.toNat_lt _)
    refine Seq.on 200 ?_
    repeat (refine JL.flat ?_)
    refine JL.nil (At.block_normal (At.then_normal (JL.at ?_)))
    repeat (refine JL.flat ?_)
    refine JL.go 200 ?_
    repeat (refine JL.flat ?_)
    refine JL.nil (At.then_normal ?_)
    refine At.again ⟨7 + 1, by omega⟩ (by simp only; omega) (Sub.look ?_) ?_
    ·
      repeat (first | exact Sub.nil | refine Sub.cons rfl ?_)
    exact (Gives.sound (by repeat (first | exact Gives.nil | (apply Gives.cons; · repeat (first | exact Pick.here | apply Pick.there)))))
theorem RFlag_ok (p : Nat) (l : List UInt8) (b : UInt8) (hb : b.toNat ≤ 1) (hl : l.length + 1 ≤ 50000000) : Trip Tryz.prog 244 [ptrV p] none_ [Rd p (b :: l)] (X := Unit)
    (fun _ => .bool (b.toNat == 1)) (fun _ => [Rd p l]) := by
  refine Trip.start (n := 21) Tryz.func244 (by kernel_rfl) rfl rfl rfl ?_
  intro F w hD
  repeat (refine JL.flat ?_)
  refine JL.go 200 ?_
  repeat (refine JL.flat ?_)
  refine JL.go 200 ?_
  apply Seq.call (Left_ok p _) rfl rfl rfl rfl rfl rfl
  ·
    repeat (first | exact Picks.nil | (apply Picks.cons; · repeat (first | exact Pick.here | apply Pick.there)))
  · exact Tells.none
  intro _
  refine Seq.on 1 ?_
  refine Seq.set 5 (.bool false) rfl (congrArg Value.bool (by simp; omega)) ?_
  refine Seq.open ?_
  intro r
  refine Seq.on 200 ?_
  apply Seq.loadLit rfl rfl rfl rfl rfl
  · repeat (first | exact Pick.here | apply Pick.there)
  · rfl
  · rfl
  refine Seq.on 200 ?_
  refine Seq.idxB 0 rfl rfl rfl rfl rfl rfl rfl (Tells.read (by repeat (first | exact Pick.here | apply Pick.there))) rfl (by simp) ?_
  intro bb off hc
  refine Seq.load rfl rfl rfl rfl rfl hc rfl rfl ?_
  refine Seq.on 1 ?_
  refine Seq.set 13 (.bool false) rfl (congrArg Value.bool (by simp; omega)) ?_
  refine Seq.on 200 ?_
  repeat (refine JL.flat ?_)
  refine JL.ifF rfl ?_
  try refine JL.skip ?_
  refine JL.perm (G' := [Rd p (b :: l), F]) (Gives.ex r (by repeat (first | exact Gives.nil | (apply Gives.cons; · repeat (first | exact Pick.here | apply Pick.there))))) ?_
  repeat (refine JL.flat ?_)
  refine JL.go 200 ?_
  apply Seq.call (RNum_1 p (b :: l) (by simp) (by simp; omega)) rfl rfl rfl rfl rfl rfl
  ·
    repeat (first | exact Picks.nil | (apply Picks.cons; · repeat (first | exact Pick.here | apply Pick.there)))
  · exact Tells.none
  intro _
  refine Seq.on 1 ?_
  refine Seq.set 20 (.bool (b.toNat == 1)) rfl (congrArg Value.bool ?_) ?_
  · show (((0 * 256 + b.toNat : Nat) : Int) == ((1 : Nat) : Int)) = _
    rw [int_beq, Nat.zero_mul, Nat.zero_add]
  refine Seq.on 200 ?_
  repeat (refine JL.flat ?_)
  refine JL.ret ?_
  repeat (first | refine At.then_ret ?_ | refine At.block_ret ?_)
  refine At.done1 rfl (()) rfl ?_
  exact (Gives.sound (by repeat (first | exact Gives.nil | (apply Gives.cons; · repeat (first | exact Pick.here | apply Pick.there)))))
theorem RBytes_ok (p : Nat) (l ys : List UInt8) (most : Nat) (hy0 : 0 < ys.length) (hm : ys.length ≤ most) (hy : ys.length < 65536) (hl : l.length ≤ 40000000) : Trip Tryz.prog 245 [ptrV p, .int .i64 (most : Int)] none_ [Rd p (beB ys.length 2 ++ ys ++ l)] (X := Option Addr × Nat)
    (fun r => .slice r.1 ys.length r.2) (fun r => [BOwn r ys, Rd p l]) := by
  refine Trip.start (n := 46) Tryz.func245 (by kernel_rfl) rfl rfl rfl ?_
  intro F w hD
  have hB : beB ys.length 2 = [byteAt ys.length 1, byteAt ys.length 0] := rfl
  repeat (refine JL.flat ?_)
  refine JL.go 200 ?_
  repeat (refine JL.flat ?_)
  refine JL.go 200 ?_
  apply Seq.call (Left_ok p _) rfl rfl rfl rfl rfl rfl
  ·
    repeat (first | exact Picks.nil | (apply Picks.cons; · repeat (first | exact Pick.here | apply Pick.there)))
  · exact Tells.none
  intro _
  refine Seq.on 200 ?_
  refine JL.set 8 (.bool false) rfl (congrArg Value.bool (by simp [beB_length]; omega)) ?_
  repeat (refine JL.flat ?_)
  refine JL.ifF rfl ?_
  try refine JL.skip ?_
  refine JL.open ?_
  rintro ⟨a, cap⟩
  have hlen : (beB ys.length 2 ++ ys ++ l).length = ys.length + l.length + 2 := by simp [beB_length]; omega
  refine JL.fact (Tells.shape (k := 1) (Tells.read (by repeat (first | exact Pick.here | apply Pick.there))) (by omega)) ?_
  rintro ⟨b, off, rfl⟩
  repeat (refine JL.flat ?_)
  refine JL.draws (by kernel_rfl) (fun hR => ?_)
  refine Ord.on hR 200 ?_
  apply Ord.loadLit hR NP.nop rfl rfl rfl rfl rfl rfl rfl
  · repeat (first | exact Pick.here | apply Pick.there)
  · rfl
  · rfl
  refine Ord.on hR 200 ?_
  refine Ord.idx 0 hR NP.nop rfl rfl rfl rfl rfl rfl rfl rfl rfl (by omega) ?_
  refine Ord.load (cs := [bval (byteAt ys.length 1)]) hR NP.nop rfl rfl rfl rfl rfl rfl rfl (Tells.pick (by repeat (first | exact Pick.here | apply Pick.there)) (fun _ _ => CellsAt.mono) (fun h hx => BIn.cell 0 (by omega) h hx)) rfl rfl ?_
  refine Ord.on hR 200 ?_
  apply Ord.loadLit hR NP.nop rfl rfl rfl rfl rfl rfl rfl
  · repeat (first | exact Pick.here | apply Pick.there)
  · rfl
  · rfl
  refine Ord.on hR 200 ?_
  refine Ord.idx 1 hR NP.nop rfl rfl rfl rfl rfl rfl rfl rfl rfl (by omega) ?_
  refine Ord.load (cs := [bval (byteAt ys.length 0)]) hR NP.nop rfl rfl rfl rfl rfl rfl rfl (Tells.pick (by repeat (first | exact Pick.here | apply Pick.there)) (fun _ _ => CellsAt.mono) (fun h hx => BIn.cell 1 (by omega) h hx)) rfl rfl ?_
  refine Ord.on hR 200 ?_
  refine JL.set 5 (.int .i64 (ys.length : Int)) rfl (congrArg (Value.int .i64) (or_two _ hy)) ?_
  refine JL.perm (G' := [Rd p (beB ys.length 2 ++ ys ++ l), F]) (Gives.ex (some ⟨b, off, none⟩, cap) (by repeat (first | exact Gives.nil | (apply Gives.cons; · repeat (first | exact Pick.here | apply Pick.there))))) ?_
  repeat (refine JL.flat ?_)
  refine JL.go 3 ?_
  refine Seq.set 30 (.bool false) rfl (congrArg Value.bool (by simp; omega)) ?_
  refine Seq.on 200 ?_
  apply Seq.call (Left_ok p _) rfl rfl rfl rfl rfl rfl
  ·
    repeat (first | exact Picks.nil | (apply Picks.cons; · repeat (first | exact Pick.here | apply Pick.there)))
  · exact Tells.none
  intro _
  refine Seq.on 1 ?_
  refine Seq.set 35 (.int .i64 ((ys.length + l.length : Nat) : Int)) rfl (congrArg (Value.int .i64) ?_) ?_
  · rw [hlen, show ((ys.length + l.length + 2 : Nat) : Int) - 2 = ((ys.length + l.length : Nat) : Int) by omega]
    exact wrapI (by omega)
  refine Seq.on 1 ?_
  refine Seq.set 36 (.bool false) rfl (congrArg Value.bool (by simp; omega)) ?_
  refine Seq.on 200 ?_
  repeat (refine JL.flat ?_)
  refine JL.ifF rfl ?_
  try refine JL.skip ?_
  repeat (refine JL.flat ?_)
  refine JL.go 200 ?_
  apply Seq.call (RRaw_ok p (beB ys.length 2 ++ ys ++ l) 2 (by omega) (by omega) (by omega)) rfl rfl rfl rfl rfl rfl
  ·
    repeat (first | exact Picks.nil | (apply Picks.cons; · repeat (first | exact Pick.here | apply Pick.there)))
  · exact Tells.none
  intro r
  refine Seq.on 200 ?_
  repeat (refine JL.flat ?_)
  refine JL.go 200 ?_
  have hd : List.drop 2 (beB ys.length 2 ++ ys ++ l) = ys ++ l := rfl
  rw [hd]
  apply Seq.call (RRaw_ok p (ys ++ l) ys.length hy0 (by simp) (by simp; omega)) rfl rfl rfl rfl rfl rfl
  ·
    repeat (first | exact Picks.nil | (apply Picks.cons; · repeat (first | exact Pick.here | apply Pick.there)))
  · exact Tells.none
  intro r'
  rw [List.take_left, List.drop_left]
  refine Seq.on 200 ?_
  repeat (refine JL.flat ?_)
  refine JL.ret ?_
  repeat (first | refine At.then_ret ?_ | refine At.block_ret ?_)
  refine At.done1 rfl (r') rfl ?_
  exact (Gives.sound (by repeat (first | exact Gives.nil | (apply Gives.cons; · repeat (first | exact Pick.here | apply Pick.there)))))
theorem REnd_ok (p : Nat) : Trip Tryz.prog 91 [ptrV p] none_ [Rd p []] (X := Unit) (fun _ => .nilIface) (fun _ => [Rd p []]) := by
  refine Trip.start (n := 27) Tryz.func91 (by kernel_rfl) rfl rfl rfl ?_
  intro F w hD
  refine JL.open ?_
  intro r
  repeat (refine JL.flat ?_)
  refine JL.go 200 ?_
  repeat (refine JL.flat ?_)
  refine JL.block ?_
  repeat (refine JL.flat ?_)
  refine JL.go 200 ?_
  repeat (refine JL.flat ?_)
  refine JL.ifF rfl ?_
  try refine JL.skip ?_
  repeat (refine JL.flat ?_)
  refine JL.go 200 ?_
  apply Seq.loadLit rfl rfl rfl rfl rfl
  · repeat (first | exact Pick.here | apply Pick.there)
  · rfl
  · rfl
  refine Seq.on 200 ?_
  repeat (refine JL.flat ?_)
  refine JL.ifF rfl ?_
  try refine JL.skip ?_
  repeat (refine JL.flat ?_)
  refine JL.go 200 ?_
  apply Seq.loadLit rfl rfl rfl rfl rfl
  · repeat (first | exact Pick.here | apply Pick.there)
  · rfl
  · rfl
  refine Seq.on 200 ?_
  repeat (refine JL.flat ?_)
  refine JL.ifF rfl ?_
  try refine JL.skip ?_
  repeat (refine JL.flat ?_)
  refine JL.nil (At.block_normal (At.then_normal (JL.at ?_)))
  repeat (refine JL.flat ?_)
  refine JL.go 200 ?_
  repeat (refine JL.flat ?_)
  refine JL.ret ?_
  repeat (first | refine At.then_ret ?_ | refine At.block_ret ?_)
  refine At.done1 rfl (()) rfl ?_
  exact Gives.sound (Gives.ex r (by repeat (first | exact Gives.nil | (apply Gives.cons; · repeat (first | exact Pick.here | apply Pick.there)))))
end Go.Ent
namespace Go.Ent
open Go Go.Proofs
def sec (l : List UInt8) : Value := .agg (bytesV l).toArray
abbrev Secs := Int → Option (List UInt8)
def mkI (n : Int) : Value := .int .i64 n
def secs (S : Secs) : Int → Option Value := fun n => (S n).map sec
def updS (S : Secs) (n : Int) (l : List UInt8) : Secs := fun m => if m = n then some l else S m
theorem upd_secs (S : Secs) (n : Int) (l : List UInt8) : upd (secs S) n (sec l) = secs (updS S n l) := by
  funext m
  unfold upd secs updS
  split <;> rfl
def Good (S : Secs) : Prop := ∀ n l, S n = some l → l.length = 64
theorem Good.upd {S : Secs} (h : Good S) (n : Int) {l : List UInt8} (hl : l.length = 64) : Good (updS S n l) := fun m l' e => by
  unfold updS at e
  split at e
  · cases e; exact hl
  · exact h _ _ e
/-- a sector as it was written last. -/
def lastS (S W : Secs) (n : Int) : List UInt8 := match W n with
  | some l => l
  | none => match S n with
    | some l => l
    | none => List.replicate 64 0
theorem lastS_length {S W : Secs} (hS : Good S) (hF : Good W) (n : Int) : (lastS S W n).length = 64 := by
  unfold lastS
  split
  · exact hF _ _ (by assumption)
  · split
    · exact hS _ _ (by assumption)
    · simp
/-- a disk of k sectors that is up, without a fuse. -/
def DkA (p : Nat) (k : Nat) (S W : Secs) (q : List Value) (r : (Option Addr × Nat) × Nat × Nat) : List Assn :=
  [pt p (.cells [.int .i64 (k : Int), .map (some r.2.1), .map (some r.2.2), .slice r.1.1 q.length r.1.2, .int .i64 (-1), .bool false].toArray 196 (0, 0)), MapOf mkI r.2.1 (secs S), MapOf mkI r.2.2 (secs W), SlOwn 3 1 r.1.1 q.length r.1.2 q,
    fun _ => Good S ∧ Good W ∧ Ones q]
def Dk (p : Nat) (k : Nat) (S W : Secs) (q : List Value) : Assn := exA (DkA p k S W q)
def noS : Secs := fun _ => none
theorem Good.no : Good noS := fun _ _ e => by cases e
theorem New_ok (k : Nat) (h1 : 1 ≤ k) (h2 : k ≤ 16384) : Trip Tryz.prog 30 [.int .i64 (k : Int)] none_ [] (X := Nat)
    (fun p => .tuple #[ptrV p, .nilIface]) (fun p => [Dk p k noS noS []]) := by
  refine Trip.start (n := 16) Tryz.func30 (by kernel_rfl) rfl rfl rfl ?_
  intro F w hD
  repeat (refine JL.flat ?_)
  refine JL.go 200 ?_
  repeat (refine JL.flat ?_)
  refine JL.go 3 ?_
  refine Seq.set 6 (.bool false) rfl (congrArg Value.bool (by simp; omega)) ?_
  refine Seq.on 2 ?_
  refine Seq.set 8 (.bool false) rfl (congrArg Value.bool (by simp; omega)) ?_
  refine Seq.on 200 ?_
  repeat (refine JL.flat ?_)
  refine JL.ifF rfl ?_
  try refine JL.skip ?_
  repeat (refine JL.flat ?_)
  refine JL.go 200 ?_
  refine Seq.eff rfl rfl (Ef.makeMap rfl) ?_
  intro b1
  refine Seq.eff rfl rfl (Ef.makeMap rfl) ?_
  intro b2
  refine Seq.yield rfl rfl (Yl.build rfl rfl rfl rfl rfl) ?_
  refine Seq.eff rfl rfl (Ef.box rfl rfl) ?_
  intro p
  refine Seq.on 200 ?_
  repeat (refine JL.flat ?_)
  refine JL.ret ?_
  repeat (first | refine At.then_ret ?_ | refine At.block_ret ?_)
  refine At.done2 rfl (p) rfl rfl rfl ?_
  intro h hs
  refine exA_in (A := DkA p k noS noS []) ((none, 0), b1, b2) ?_
  have hs1 := (Gives.sound (L := [pt p _, pt b1 _, pt b2 _, F]) (by repeat (first | exact Gives.nil | (apply Gives.cons; · repeat (first | exact Pick.here | apply Pick.there))))) h hs
  exact star_mono (fun _ h => h) (fun h hs => star_mono (fun _ h => MapOf.made mkI h) (fun h hs => star_mono (fun _ h => MapOf.made mkI h) (fun h hs => sep_pure (SlOwn.nil _ _) (sep_pure (fun _ => ⟨Good.no, Good.no, fun _ h => by simp at h⟩) hs)) hs) hs) hs1
theorem Len_ok (p k : Nat) (S W : Secs) (q : List Value) : Trip Tryz.prog 34 [ptrV p] none_ [Dk p k S W q] (X := Unit) (fun _ => .int .i64 (k : Int)) (fun _ => [Dk p k S W q]) := by
  refine Trip.start (n := 9) Tryz.func34 (by kernel_rfl) rfl rfl rfl ?_
  intro F w hD
  refine JL.open ?_
  intro r
  repeat (refine JL.flat ?_)
  refine JL.go 200 ?_
  repeat (refine JL.flat ?_)
  refine JL.go 200 ?_
  repeat (refine JL.flat ?_)
  refine JL.ifF rfl ?_
  try refine JL.skip ?_
  repeat (refine JL.flat ?_)
  refine JL.go 200 ?_
  apply Seq.loadLit rfl rfl rfl rfl rfl
  · repeat (first | exact Pick.here | apply Pick.there)
  · rfl
  · rfl
  refine Seq.on 200 ?_
  repeat (refine JL.flat ?_)
  refine JL.ret ?_
  repeat (first | refine At.then_ret ?_ | refine At.block_ret ?_)
  refine At.done1 rfl (()) rfl ?_
  exact Gives.sound (Gives.ex r (by repeat (first | exact Gives.nil | (apply Gives.cons; · repeat (first | exact Pick.here | apply Pick.there)))))
theorem Waiting_ok (p k : Nat) (S W : Secs) (q : List Value) : Trip Tryz.prog 32 [ptrV p] none_ [Dk p k S W q] (X := Unit) (fun _ => .int .i64 (q.length : Int)) (fun _ => [Dk p k S W q]) := by
  refine Trip.start (n := 10) Tryz.func32 (by kernel_rfl) rfl rfl rfl ?_
  intro F w hD
  refine JL.open ?_
  intro r
  repeat (refine JL.flat ?_)
  refine JL.go 200 ?_
  repeat (refine JL.flat ?_)
  refine JL.go 200 ?_
  repeat (refine JL.flat ?_)
  refine JL.ifF rfl ?_
  try refine JL.skip ?_
  repeat (refine JL.flat ?_)
  refine JL.go 200 ?_
  apply Seq.loadLit rfl rfl rfl rfl rfl
  · repeat (first | exact Pick.here | apply Pick.there)
  · rfl
  · rfl
  refine Seq.on 200 ?_
  repeat (refine JL.flat ?_)
  refine JL.ret ?_
  repeat (first | refine At.then_ret ?_ | refine At.block_ret ?_)
  refine At.done1 rfl (()) rfl ?_
  exact Gives.sound (Gives.ex r (by repeat (first | exact Gives.nil | (apply Gives.cons; · repeat (first | exact Pick.here | apply Pick.there)))))
theorem may_ok (p k : Nat) (S W : Secs) (q : List Value) (at_ : Int) (h0 : 0 ≤ at_) (h1 : at_ < k) : Trip Tryz.prog 238 [ptrV p, .int .i64 at_] none_ [Dk p k S W q] (X := Unit) (fun _ => .nilIface) (fun _ => [Dk p k S W q]) := by
  refine Trip.start (n := 21) Tryz.func238 (by kernel_rfl) rfl rfl rfl ?_
  intro F w hD
  refine JL.open ?_
  intro r
  repeat (refine JL.flat ?_)
  refine JL.go 200 ?_
  repeat (refine JL.flat ?_)
  refine JL.block ?_
  repeat (refine JL.flat ?_)
  refine JL.go 200 ?_
  repeat (refine JL.flat ?_)
  refine JL.ifF rfl ?_
  try refine JL.skip ?_
  repeat (refine JL.flat ?_)
  refine JL.go 2 ?_
  refine Seq.set 11 (.bool false) rfl (congrArg Value.bool (by simp; omega)) ?_
  refine Seq.on 200 ?_
  apply Seq.loadLit rfl rfl rfl rfl rfl
  · repeat (first | exact Pick.here | apply Pick.there)
  · rfl
  · rfl
  refine Seq.on 1 ?_
  refine Seq.set 18 (.bool false) rfl (congrArg Value.bool (by simp; omega)) ?_
  refine Seq.on 200 ?_
  repeat (refine JL.flat ?_)
  refine JL.ifF rfl ?_
  try refine JL.skip ?_
  repeat (refine JL.flat ?_)
  refine JL.nil (At.block_normal (At.then_normal (JL.at ?_)))
  repeat (refine JL.flat ?_)
  refine JL.go 200 ?_
  repeat (refine JL.flat ?_)
  refine JL.ret ?_
  repeat (first | refine At.then_ret ?_ | refine At.block_ret ?_)
  refine At.done1 rfl (()) rfl ?_
  exact Gives.sound (Gives.ex r (by repeat (first | exact Gives.nil | (apply Gives.cons; · repeat (first | exact Pick.here | apply Pick.there)))))
theorem Read_ok (p k : Nat) (S W : Secs) (q : List Value) (at_ : Int) (h0 : 0 ≤ at_) (h1 : at_ < k) : Trip Tryz.prog 242 [ptrV p, .int .i64 at_] none_ [Dk p k S W q] (X := Unit)
    (fun _ => .tuple #[sec (lastS S W at_), .nilIface]) (fun _ => [Dk p k S W q]) := by
  refine Trip.start (n := 33) Tryz.func242 (by kernel_rfl) rfl rfl rfl ?_
  intro F w hD
  repeat (refine JL.flat ?_)
  refine JL.go 0 ?_
  refine Seq.eff rfl rfl (Ef.alloc tab_zero rfl rfl) ?_
  intro b4
  refine Seq.on 200 ?_
  repeat (refine JL.flat ?_)
  refine JL.go 200 ?_
  apply Seq.call (may_ok p k S W q at_ h0 h1) rfl rfl rfl rfl rfl rfl
  ·
    repeat (first | exact Picks.nil | (apply Picks.cons; · repeat (first | exact Pick.here | apply Pick.there)))
  · exact Tells.none
  intro _
  refine Seq.on 200 ?_
  repeat (refine JL.flat ?_)
  refine JL.go 200 ?_
  repeat (refine JL.flat ?_)
  refine JL.ifF rfl ?_
  try refine JL.skip ?_
  refine JL.open ?_
  rintro ⟨⟨a, cap⟩, bs, bf⟩
  refine JL.know (p := Good S ∧ Good W ∧ Ones q) (by repeat (first | exact Pick.here | apply Pick.there)) (fun hG => ?_)
  repeat (refine JL.flat ?_)
  refine JL.go 200 ?_
  apply Seq.loadLit rfl rfl rfl rfl rfl
  · repeat (first | exact Pick.here | apply Pick.there)
  · rfl
  · rfl
  refine Seq.on 200 ?_
  have hlen := lastS_length hG.1 hG.2.1 at_
  cases hF : W at_ with
  | some l =>
    have hl : l.length = 64 := hG.2.1 _ _ hF
    have hlast : lastS S W at_ = l := by simp [lastS, hF]
    refine Seq.lookupV (mk := mkI) (f := secs W) (.tuple #[sec l, .bool true]) at_ (by simp [secs, hF, found]) rfl rfl rfl rfl rfl rfl (keyInt rfl) (Tells.map (by repeat (first | exact Pick.here | apply Pick.there))) rfl rfl rfl ?_
    refine Seq.on 200 ?_
    refine Seq.eff rfl rfl (Ef.alloc tab_zero rfl rfl) ?_
    intro b7
    refine Seq.storeAll rfl rfl rfl rfl rfl rfl (by repeat (first | exact Pick.here | apply Pick.there)) (by simp [sec, Value.cells, bytesV, hl]) (Ones_bytesV l) rfl ?_
    refine Seq.on 200 ?_
    repeat (refine JL.flat ?_)
    refine JL.go 200 ?_
    repeat (refine JL.flat ?_)
    refine JL.ifT rfl ?_
    try refine JL.skip ?_
    repeat (refine JL.flat ?_)
    refine JL.go 0 ?_
    refine Seq.loadAll rfl rfl rfl rfl rfl rfl (by repeat (first | exact Pick.here | apply Pick.there)) (by simp [sec, Value.cells, bytesV, hl]) ?_
    refine Seq.storeAll rfl rfl rfl rfl rfl rfl (by repeat (first | exact Pick.here | apply Pick.there)) (by simp [sec, Value.cells, bytesV, hl]) (Ones_bytesV l) rfl ?_
    refine Seq.on 200 ?_
    refine JL.ret (At.doneC2 rfl () rfl rfl (Tells.all (by repeat (first | exact Pick.here | apply Pick.there))) (by simp [sec, Value.cells, bytesV, hl]) rfl rfl ?_ ?_)
    · rw [hlast]; rfl
    ·
      exact Gives.sound (Gives.ex ((a, cap), bs, bf) (by repeat (first | exact Gives.nil | (apply Gives.cons; · repeat (first | exact Pick.here | apply Pick.there)))))
  | none =>
    refine Seq.lookupV (mk := mkI) (f := secs W) (.tuple #[sec (List.replicate 64 0), .bool false]) at_ (by simp [secs, hF, found]; rfl) rfl rfl rfl rfl rfl rfl (keyInt rfl) (Tells.map (by repeat (first | exact Pick.here | apply Pick.there))) rfl rfl rfl ?_
    refine Seq.on 200 ?_
    refine Seq.eff rfl rfl (Ef.alloc tab_zero rfl rfl) ?_
    intro b7
    refine Seq.storeAll rfl rfl rfl rfl rfl rfl (by repeat (first | exact Pick.here | apply Pick.there)) rfl (Ones_bytesV _) rfl ?_
    refine Seq.on 200 ?_
    repeat (refine JL.flat ?_)
    refine JL.go 200 ?_
    repeat (refine JL.flat ?_)
    refine JL.ifF rfl ?_
    try refine JL.skip ?_
    repeat (refine JL.flat ?_)
    refine JL.go 200 ?_
    apply Seq.loadLit rfl rfl rfl rfl rfl
    · repeat (first | exact Pick.here | apply Pick.there)
    · rfl
    · rfl
    refine Seq.on 200 ?_
    refine Seq.lookupV (mk := mkI) (f := secs S) (sec (lastS S W at_)) at_ ?_ rfl rfl rfl rfl rfl rfl (keyInt rfl) (Tells.map (by repeat (first | exact Pick.here | apply Pick.there))) rfl rfl rfl ?_
    · cases hS : S at_ with
      | some l => simp [secs, hS, hF, found, lastS]
      | none => simp [secs, hS, hF, found, lastS]; rfl
    generalize lastS S W at_ = l at hlen
    refine Seq.storeAll rfl rfl rfl rfl rfl rfl (by repeat (first | exact Pick.here | apply Pick.there)) (by simp [sec, Value.cells, bytesV, hlen]) (Ones_bytesV l) rfl ?_
    refine Seq.on 200 ?_
    refine JL.ret (At.doneC2 rfl () rfl rfl (Tells.all (by repeat (first | exact Pick.here | apply Pick.there))) (by simp [sec, Value.cells, bytesV, hlen]) rfl rfl rfl ?_)
    exact Gives.sound (Gives.ex ((a, cap), bs, bf) (by repeat (first | exact Gives.nil | (apply Gives.cons; · repeat (first | exact Pick.here | apply Pick.there)))))
def overS (S W : Secs) : Secs := fun n => match W n with
  | some l => some l
  | none => S n
def partS (S W : Secs) (left : List Int) : Secs := fun n => if n ∈ left then S n else overS S W n
theorem partS_step {S W : Secs} {left : List Int} (hn : left.Nodup) {k : Int} {l : List UInt8} (hk : W k = some l) : updS (partS S W left) k l = partS S W (left.erase k) := by
  funext n
  unfold updS partS
  by_cases h : n = k
  · subst h
    rw [if_pos rfl, if_neg (fun q => (hn.mem_erase_iff.1 q).1 rfl)]
    simp [overS, hk]
  · rw [if_neg h]
    by_cases h2 : n ∈ left
    · rw [if_pos h2, if_pos (hn.mem_erase_iff.2 ⟨h, h2⟩)]
    · rw [if_neg h2, if_neg (fun q => h2 (hn.mem_erase_iff.1 q).2)]
theorem mkI_inj (a b : Int) (h : mkI a = mkI b) : a = b := by cases h; rfl
theorem Copy_ok (bd bs : Nat) (S W : Secs) (hW : Good W) : Trip Tryz.prog 221 [.map (some bd), .map (some bs)] none_ [MapOf mkI bd (secs S), MapOf mkI bs (secs W)] (X := Unit)
    (fun _ => .tuple #[]) (fun _ => [MapOf mkI bd (secs (overS S W)), MapOf mkI bs (secs W)]) := by
  refine Trip.start (n := 16) Tryz.func221 (by kernel_rfl) rfl rfl rfl ?_
  intro F w hD
  repeat (refine JL.flat ?_)
  refine JL.go 200 ?_
  refine Seq.eff rfl rfl (Ef.range mkI_inj rfl rfl rfl (by repeat (first | exact Pick.here | apply Pick.there))) ?_
  rintro ⟨⟨r, left⟩, hnd, hin⟩
  refine Seq.on 200 ?_
  repeat (refine JL.flat ?_)
  refine JL.block ?_
  refine JL.loop (X := {l : List Int // l.Nodup ∧ ∀ k, k ∈ l → ∃ x, W k = some x}) ⟨left, hnd, fun k hk => ?_⟩ (fun l => [(0, .map (some bd)), (7, ptrV r)]) (fun l => [Iter mkI r bs (secs W) l.1, MapOf mkI bd (secs (partS S W l.1)), F]) (fun l => l.1.length) ?_ ?_ ?_
  · obtain ⟨v, hv⟩ := (hin k).1 hk
    cases h : W k with
    | none => simp [secs, h] at hv
    | some x => exact ⟨x, rfl⟩
  ·
    repeat (first | exact Sub.nil | refine Sub.cons rfl ?_)
  · have hS : partS S W left = S := by
      funext n
      unfold partS
      split
      · rfl
      · rename_i hn
        cases h : W n with
        | none => simp [overS, h]
        | some x => exact (hn ((hin n).2 ⟨sec x, by simp [secs, h]⟩)).elim
    simp only [hS]
    exact (Gives.sound (by repeat (first | exact Gives.nil | (apply Gives.cons; · repeat (first | exact Pick.here | apply Pick.there)))))
  rintro ⟨l, hln, hlW⟩
  repeat (refine JL.flat ?_)
  refine JL.go 0 ?_
  refine Seq.eff rfl rfl (Ef.next mkI_inj rfl rfl (by repeat (first | exact Pick.here | apply Pick.there))) ?_
  rintro ⟨q, hq⟩
  cases q with
  | none =>
    simp only at hq
    subst hq
    refine Seq.on 200 ?_
    repeat (refine JL.flat ?_)
    refine JL.ifF rfl ?_
    try refine JL.skip ?_
    repeat (refine JL.flat ?_)
    refine JL.exit ?_
    repeat (first | refine At.then_exit ?_ | refine At.block_pass rfl ?_)
    refine At.block_exit (At.then_normal (JL.at ?_))
    repeat (refine JL.flat ?_)
    first | refine JL.ret ?_ | refine JL.nil ?_
    refine At.done0 rfl () rfl ?_
    intro h hs
    have hs1 := (Gives.sound (L := [MapOf mkI bd _, Iter mkI r bs (secs W) [], F]) (by repeat (first | exact Gives.nil | (apply Gives.cons; · repeat (first | exact Pick.here | apply Pick.there))))) h hs
    have hE : partS S W [] = overS S W := by funext n; simp [partS]
    rw [hE] at hs1
    exact star_mono (fun _ h => h) (fun h hs => star_mono (fun _ h => Iter.map _ h) (fun _ h => h) hs) hs1
  | some k =>
    obtain ⟨hk, v, hv⟩ := hq
    obtain ⟨x, hx⟩ := hlW k hk
    have hx64 := hW _ _ hx
    have hsv : secs W k = some (sec x) := by simp [secs, hx]
    rw [hsv] at hv
    cases hv
    simp only [hsv, Option.getD_some]
    refine Seq.on 200 ?_
    repeat (refine JL.flat ?_)
    refine JL.ifT rfl ?_
    try refine JL.skip ?_
    repeat (refine JL.flat ?_)
    refine JL.block ?_
    repeat (refine JL.flat ?_)
    refine JL.go 0 ?_
    refine Seq.yield rfl rfl (Yl.entry rfl rfl (by repeat (first | exact Pick.here | apply Pick.there)) hsv) ?_
    refine Seq.on 200 ?_
    refine Seq.eff rfl rfl (Ef.alloc tab_zero rfl rfl) ?_
    intro b5
    refine Seq.on 200 ?_
    refine Seq.storeAll rfl rfl rfl rfl rfl rfl (by repeat (first | exact Pick.here | apply Pick.there)) (by simp [sec, Value.cells, bytesV, hx64]) (Ones_bytesV x) rfl ?_
    refine Seq.on 200 ?_
    repeat (refine JL.flat ?_)
    refine JL.go 200 ?_
    refine Seq.loadAll rfl rfl rfl rfl rfl rfl (by repeat (first | exact Pick.here | apply Pick.there)) (by simp [sec, Value.cells, bytesV, hx64]) ?_
    refine Seq.mapUpdate (mk := mkI) k rfl rfl rfl rfl rfl rfl rfl (keyInt rfl) (by repeat (first | exact Pick.here | apply Pick.there)) ?_
    refine Seq.on 200 ?_
    repeat (refine JL.flat ?_)
    refine JL.nil (At.block_normal (At.then_normal (JL.at ?_)))
    repeat (refine JL.flat ?_)
    refine JL.nil (At.then_normal ?_)
    refine At.again (X := {l : List Int // l.Nodup ∧ ∀ k, k ∈ l → ∃ x, W k = some x}) (x := ⟨l, hln, hlW⟩) ⟨l.erase k, hln.erase k, fun j hj => hlW j (List.mem_of_mem_erase hj)⟩ ?_ (Sub.look ?_) ?_
    · show (l.erase k).length < l.length
      have hk' : k ∈ l := hk
      have := List.length_erase_of_mem hk'
      have := List.length_pos_of_mem hk'
      omega
    ·
      repeat (first | exact Sub.nil | refine Sub.cons rfl ?_)
    · intro h hs
      have hs1 := (Gives.sound (L := [IterAt mkI r bs (secs W) (l.erase k) k, MapOf mkI bd _, F]) (by repeat (first | exact Gives.nil | (apply Gives.cons; · repeat (first | exact Pick.here | apply Pick.there))))) h hs
      rw [show Value.agg (sec x).cells = sec x from rfl, upd_secs, partS_step hln hx] at hs1
      exact star_mono (fun _ h => IterAt.iter _ h) (fun _ h => h) hs1
theorem Good.over {S W : Secs} (hS : Good S) (hW : Good W) : Good (overS S W) := fun n l e => by
  unfold overS at e
  split at e
  · cases e; exact hW _ _ (by assumption)
  · exact hS _ _ e
theorem forget_ok (p k : Nat) (S W : Secs) (q : List Value) : Trip Tryz.prog 222 [ptrV p] none_ [Dk p k S W q] (X := Unit) (fun _ => .tuple #[]) (fun _ => [Dk p k S noS []]) := by
  refine Trip.start (n := 9) Tryz.func222 (by kernel_rfl) rfl rfl rfl ?_
  intro F w hD
  refine JL.open ?_
  rintro ⟨⟨a, cap⟩, bs, bf⟩
  refine JL.know (p := Good S ∧ Good W ∧ Ones q) (by repeat (first | exact Pick.here | apply Pick.there)) (fun hG => ?_)
  repeat (refine JL.flat ?_)
  refine JL.go 200 ?_
  apply Seq.loadLit rfl rfl rfl rfl rfl
  · repeat (first | exact Pick.here | apply Pick.there)
  · rfl
  · rfl
  refine Seq.on 200 ?_
  refine Seq.eff rfl rfl (Ef.clearMap rfl rfl rfl (by repeat (first | exact Pick.here | apply Pick.there))) ?_
  intro _
  refine Seq.on 200 ?_
  repeat (refine JL.flat ?_)
  refine JL.go 200 ?_
  apply Seq.storeLit rfl rfl rfl rfl rfl rfl
  · repeat (first | exact Pick.here | apply Pick.there)
  · rfl
  · rfl
  · rfl
  refine Seq.on 200 ?_
  repeat (refine JL.flat ?_)
  first | refine JL.ret ?_ | refine JL.nil ?_
  repeat (first | refine At.then_ret ?_ | refine At.block_ret ?_)
  refine At.done0 rfl (()) rfl ?_
  intro h hs
  refine exA_in (A := DkA p k S noS []) ((none, 0), bs, bf) ?_
  have hs1 := (Gives.sound (L := [pt p _, MapOf mkI bs _, MapOf mkI bf _, F]) (by repeat (first | exact Gives.nil | (apply Gives.cons; · repeat (first | exact Pick.here | apply Pick.there))))) h hs
  exact star_mono (fun _ h => h) (fun h hs => star_mono (fun _ h => h) (fun h hs => star_mono (fun _ h => h) (fun h hs => sep_pure (SlOwn.nil _ _) (sep_pure (fun _ => ⟨hG.1, Good.no, fun _ h => by simp at h⟩) hs)) hs) hs) hs1
theorem Sync_ok (p k : Nat) (S W : Secs) (q : List Value) : Trip Tryz.prog 147 [ptrV p] none_ [Dk p k S W q] (X := Unit) (fun _ => .nilIface) (fun _ => [Dk p k (overS S W) noS []]) := by
  refine Trip.start (n := 24) Tryz.func147 (by kernel_rfl) rfl rfl rfl ?_
  intro F w hD
  refine JL.open ?_
  rintro ⟨⟨a, cap⟩, bs, bf⟩
  refine JL.know (p := Good S ∧ Good W ∧ Ones q) (by repeat (first | exact Pick.here | apply Pick.there)) (fun hG => ?_)
  repeat (refine JL.flat ?_)
  refine JL.go 200 ?_
  repeat (refine JL.flat ?_)
  refine JL.block ?_
  repeat (refine JL.flat ?_)
  refine JL.go 200 ?_
  repeat (refine JL.flat ?_)
  refine JL.ifF rfl ?_
  try refine JL.skip ?_
  repeat (refine JL.flat ?_)
  refine JL.go 200 ?_
  apply Seq.loadLit rfl rfl rfl rfl rfl
  · repeat (first | exact Pick.here | apply Pick.there)
  · rfl
  · rfl
  refine Seq.on 200 ?_
  repeat (refine JL.flat ?_)
  refine JL.ifF rfl ?_
  try refine JL.skip ?_
  repeat (refine JL.flat ?_)
  refine JL.nil (At.block_normal (At.then_normal (JL.at ?_)))
  repeat (refine JL.flat ?_)
  refine JL.draws (by kernel_rfl) (fun hR => ?_)
  refine Ord.on hR 200 ?_
  apply Ord.loadLit hR NP.nop rfl rfl rfl rfl rfl rfl rfl
  · repeat (first | exact Pick.here | apply Pick.there)
  · rfl
  · rfl
  refine Ord.on hR 200 ?_
  apply Ord.loadLit hR NP.nop rfl rfl rfl rfl rfl rfl rfl
  · repeat (first | exact Pick.here | apply Pick.there)
  · rfl
  · rfl
  refine Ord.on hR 200 ?_
  apply Ord.call (Copy_ok bs bf S W hG.2.1) hR rfl rfl rfl rfl rfl rfl rfl rfl
  ·
    repeat (first | exact Picks.nil | (apply Picks.cons; · repeat (first | exact Pick.here | apply Pick.there)))
  · exact Tells.none
  · intro _
    repeat (first | exact Keep.nil | (refine Keep.load rfl rfl rfl (by repeat (first | exact Pick.here | apply Pick.there)) (by rfl) (by rfl) ?_) | (refine Keep.waits (by kernel_rfl) ?_))
  intro _
  refine Ord.on hR 200 ?_
  refine JL.fold (DkA p k (overS S W) W q) ((a, cap), bs, bf) (fun h hs => ?_) (?_ : JL _ _ _ _ _ [Dk p k (overS S W) W q, F] _ _)
  · have hs1 := (Gives.sound (L := [pt p _, MapOf mkI bs _, MapOf mkI bf _, SlOwn 3 1 a _ cap _, F]) (by repeat (first | exact Gives.nil | (apply Gives.cons; · repeat (first | exact Pick.here | apply Pick.there))))) h hs
    exact star_mono (fun _ h => h) (fun h hs => star_mono (fun _ h => h) (fun h hs => star_mono (fun _ h => h) (fun h hs => star_mono (fun _ h => h) (fun h hs => sep_pure (fun _ => ⟨hG.1.over hG.2.1, hG.2.1, hG.2.2⟩) hs) hs) hs) hs) hs1
  repeat (refine JL.flat ?_)
  refine JL.go 200 ?_
  apply Seq.call (forget_ok p k (overS S W) W q) rfl rfl rfl rfl rfl rfl
  ·
    repeat (first | exact Picks.nil | (apply Picks.cons; · repeat (first | exact Pick.here | apply Pick.there)))
  · exact Tells.none
  intro _
  refine Seq.on 200 ?_
  repeat (refine JL.flat ?_)
  refine JL.go 200 ?_
  repeat (refine JL.flat ?_)
  refine JL.ret ?_
  repeat (first | refine At.then_ret ?_ | refine At.block_ret ?_)
  refine At.done1 rfl (()) rfl ?_
  exact (Gives.sound (by repeat (first | exact Gives.nil | (apply Gives.cons; · repeat (first | exact Pick.here | apply Pick.there)))))
theorem Write_ok (p k : Nat) (S W : Secs) (q : List Value) (at_ : Int) (l : List UInt8) (h0 : 0 ≤ at_) (h1 : at_ < k) (hl : l.length = 64) (hq : q.length ≤ 100000) : Trip Tryz.prog 161 [ptrV p, .int .i64 at_, sec l] none_ [Dk p k S W q] (X := {q' : List Value // q'.length ≤ q.length + 1}) (fun _ => .nilIface) (fun q' => [Dk p k S (updS W at_ l) q'.1]) := by
  refine Trip.start (n := 68) Tryz.func161 (by kernel_rfl) rfl rfl rfl ?_
  intro F w hD
  repeat (refine JL.flat ?_)
  refine JL.go 0 ?_
  refine Seq.eff rfl rfl (Ef.box rfl rfl) ?_
  intro b5
  refine Seq.on 200 ?_
  repeat (refine JL.flat ?_)
  refine JL.go 200 ?_
  apply Seq.call (may_ok p k S W q at_ h0 h1) rfl rfl rfl rfl rfl rfl
  ·
    repeat (first | exact Picks.nil | (apply Picks.cons; · repeat (first | exact Pick.here | apply Pick.there)))
  · exact Tells.none
  intro _
  refine Seq.on 200 ?_
  repeat (refine JL.flat ?_)
  refine JL.go 200 ?_
  repeat (refine JL.flat ?_)
  refine JL.ifF rfl ?_
  try refine JL.skip ?_
  refine JL.open ?_
  rintro ⟨⟨a, cap⟩, bs, bf⟩
  refine JL.know (p := Good S ∧ Good W ∧ Ones q) (by repeat (first | exact Pick.here | apply Pick.there)) (fun hG => ?_)
  repeat (refine JL.flat ?_)
  refine JL.go 200 ?_
  apply Seq.loadLit rfl rfl rfl rfl rfl
  · repeat (first | exact Pick.here | apply Pick.there)
  · rfl
  · rfl
  refine Seq.on 200 ?_
  repeat (refine JL.flat ?_)
  refine JL.ifF rfl ?_
  try refine JL.skip ?_
  repeat (refine JL.flat ?_)
  refine JL.go 200 ?_
  apply Seq.loadLit rfl rfl rfl rfl rfl
  · repeat (first | exact Pick.here | apply Pick.there)
  · rfl
  · rfl
  refine Seq.on 200 ?_
  repeat (refine JL.flat ?_)
  refine JL.ifF rfl ?_
  try refine JL.skip ?_
  repeat (refine JL.flat ?_)
  refine JL.go 200 ?_
  apply Seq.loadLit rfl rfl rfl rfl rfl
  · repeat (first | exact Pick.here | apply Pick.there)
  · rfl
  · rfl
  refine Seq.on 200 ?_
  repeat (refine JL.flat ?_)
  refine JL.ifF rfl ?_
  try refine JL.skip ?_
  repeat (refine JL.flat ?_)
  refine JL.go 200 ?_
  apply Seq.loadLit rfl rfl rfl rfl rfl
  · repeat (first | exact Pick.here | apply Pick.there)
  · rfl
  · rfl
  refine Seq.on 200 ?_
  cases hW : W at_ with
  | some l' =>
    have hl' : l'.length = 64 := hG.2.1 _ _ hW
    refine Seq.lookupV (mk := mkI) (f := secs W) (.tuple #[sec l', .bool true]) at_ (by simp [secs, hW, found]) rfl rfl rfl rfl rfl rfl (keyInt rfl) (Tells.map (by repeat (first | exact Pick.here | apply Pick.there))) rfl rfl rfl ?_
    refine Seq.on 200 ?_
    refine Seq.eff rfl rfl (Ef.alloc tab_zero rfl rfl) ?_
    intro b8
    refine Seq.storeAll rfl rfl rfl rfl rfl rfl (by repeat (first | exact Pick.here | apply Pick.there)) (by simp [sec, Value.cells, bytesV, hl']) (Ones_bytesV _) rfl ?_
    refine Seq.on 200 ?_
    repeat (refine JL.flat ?_)
    refine JL.go 200 ?_
    repeat (refine JL.flat ?_)
    refine JL.ifF rfl ?_
    try refine JL.skip ?_
    repeat (refine JL.flat ?_)
    refine JL.draws (by kernel_rfl) (fun hR => ?_)
    refine Ord.on hR 200 ?_
    apply Ord.loadLit hR NP.nop rfl rfl rfl rfl rfl rfl rfl
    · repeat (first | exact Pick.here | apply Pick.there)
    · rfl
    · rfl
    refine Ord.on hR 200 ?_
    refine Ord.loadAll hR NP.nop rfl rfl rfl rfl rfl rfl rfl rfl (by repeat (first | exact Pick.here | apply Pick.there)) (by simp [sec, Value.cells, bytesV, hl]) ?_
    refine Ord.mapUpdate (mk := mkI) (v := sec l) at_ hR rfl rfl rfl rfl rfl rfl rfl rfl rfl (keyInt rfl) (by repeat (first | exact Pick.here | apply Pick.there)) ?_ ?_
    ·
      repeat (first | exact Keep.nil | (refine Keep.load rfl rfl rfl (by repeat (first | exact Pick.here | apply Pick.there)) (by rfl) (by rfl) ?_) | (refine Keep.waits (by kernel_rfl) ?_))
    refine Ord.on hR 200 ?_
    repeat (refine JL.flat ?_)
    refine JL.go 200 ?_
    repeat (refine JL.flat ?_)
    refine JL.ret ?_
    repeat (first | refine At.then_ret ?_ | refine At.block_ret ?_)
    refine At.done1 rfl (⟨q, by simp⟩) rfl ?_
    intro h hs
    have hs1 := (Gives.sound (L := [pt p _, MapOf mkI bs _, MapOf mkI bf _, SlOwn 3 1 a q.length cap q, F]) (by repeat (first | exact Gives.nil | (apply Gives.cons; · repeat (first | exact Pick.here | apply Pick.there))))) h hs
    rw [upd_secs] at hs1
    exact exA_in (A := DkA p k S (updS W at_ l) q) ((a, cap), bs, bf) (star_mono (fun _ h => h) (fun h hs => star_mono (fun _ h => h) (fun h hs => star_mono (fun _ h => h) (fun h hs => star_mono (fun _ h => h) (fun h hs => sep_pure (fun _ => ⟨hG.1, hG.2.1.upd at_ hl, hG.2.2⟩) hs) hs) hs) hs) hs1)
  | none =>
    refine Seq.lookupV (mk := mkI) (f := secs W) (.tuple #[sec (List.replicate 64 0), .bool false]) at_ (by simp [secs, hW, found]; rfl) rfl rfl rfl rfl rfl rfl (keyInt rfl) (Tells.map (by repeat (first | exact Pick.here | apply Pick.there))) rfl rfl rfl ?_
    refine Seq.on 200 ?_
    refine Seq.eff rfl rfl (Ef.alloc tab_zero rfl rfl) ?_
    intro b8
    refine Seq.storeAll rfl rfl rfl rfl rfl rfl (by repeat (first | exact Pick.here | apply Pick.there)) rfl (Ones_bytesV _) rfl ?_
    refine Seq.on 200 ?_
    repeat (refine JL.flat ?_)
    refine JL.go 200 ?_
    repeat (refine JL.flat ?_)
    refine JL.ifT rfl ?_
    try refine JL.skip ?_
    repeat (refine JL.flat ?_)
    refine JL.go 200 ?_
    apply Seq.loadLit rfl rfl rfl rfl rfl
    · repeat (first | exact Pick.here | apply Pick.there)
    · rfl
    · rfl
    refine Seq.on 200 ?_
    refine Seq.bslice (out := [Value.int .i64 at_]) rfl rfl rfl rfl rfl rfl rfl rfl (by rfl) rfl (by rfl) ?_
    intro bx
    refine Seq.append rfl rfl rfl rfl rfl rfl rfl rfl rfl (by repeat (first | exact Pick.here | apply Pick.there)) (Tells.own (by repeat (first | exact Pick.here | apply Pick.there))) (fun u hu => by simp at hu; subst hu; rfl) (by unfold maxLen; omega) (by omega) ?_
    intro a' cap'
    rw [show q.length + 1 = (q ++ [Value.int .i64 at_]).length by simp]
    refine Seq.on 200 ?_
    apply Seq.storeLit rfl rfl rfl rfl rfl rfl
    · repeat (first | exact Pick.here | apply Pick.there)
    · rfl
    · rfl
    · rfl
    refine Seq.on 200 ?_
    repeat (refine JL.flat ?_)
    refine JL.draws (by kernel_rfl) (fun hR => ?_)
    refine Ord.on hR 200 ?_
    apply Ord.loadLit hR NP.nop rfl rfl rfl rfl rfl rfl rfl
    · repeat (first | exact Pick.here | apply Pick.there)
    · rfl
    · rfl
    refine Ord.on hR 200 ?_
    refine Ord.loadAll hR NP.nop rfl rfl rfl rfl rfl rfl rfl rfl (by repeat (first | exact Pick.here | apply Pick.there)) (by simp [sec, Value.cells, bytesV, hl]) ?_
    refine Ord.mapUpdate (mk := mkI) (v := sec l) at_ hR rfl rfl rfl rfl rfl rfl rfl rfl rfl (keyInt rfl) (by repeat (first | exact Pick.here | apply Pick.there)) ?_ ?_
    ·
      repeat (first | exact Keep.nil | (refine Keep.load rfl rfl rfl (by repeat (first | exact Pick.here | apply Pick.there)) (by rfl) (by rfl) ?_) | (refine Keep.waits (by kernel_rfl) ?_))
    refine Ord.on hR 200 ?_
    repeat (refine JL.flat ?_)
    refine JL.go 200 ?_
    repeat (refine JL.flat ?_)
    refine JL.ret ?_
    repeat (first | refine At.then_ret ?_ | refine At.block_ret ?_)
    refine At.done1 rfl (⟨(q ++ [Value.int .i64 at_]), by simp⟩) rfl ?_
    intro h hs
    have hs1 := (Gives.sound (L := [pt p _, MapOf mkI bs _, MapOf mkI bf _, SlOwn 3 1 a' (q ++ [Value.int .i64 at_]).length cap' (q ++ [Value.int .i64 at_]), F]) (by repeat (first | exact Gives.nil | (apply Gives.cons; · repeat (first | exact Pick.here | apply Pick.there))))) h hs
    rw [upd_secs] at hs1
    exact exA_in (A := DkA p k S (updS W at_ l) (q ++ [Value.int .i64 at_])) ((a', cap'), bs, bf) (star_mono (fun _ h => h) (fun h hs => star_mono (fun _ h => h) (fun h hs => star_mono (fun _ h => h) (fun h hs => star_mono (fun _ h => h) (fun h hs => sep_pure (fun _ => ⟨hG.1, hG.2.1.upd at_ hl, fun u hu => by rcases List.mem_append.1 hu with h | h; exact hG.2.2 u h; simp at h; subst h; rfl⟩) hs) hs) hs) hs) hs1)
end Go.Ent
namespace Go.Ent
open Go Go.Proofs
def zerosN (n : Nat) : Nat := (119 - n % 64) % 64
def padB (l : List UInt8) : List UInt8 := l ++ [128] ++ List.replicate (zerosN l.length) 0 ++ beB (8 * l.length) 8
theorem padB_length (l : List UInt8) : (padB l).length = l.length + 1 + zerosN l.length + 8 := by simp [padB, beB_length]; omega
theorem padB_mod (l : List UInt8) : (padB l).length % 64 = 0 := by
  rw [padB_length]; unfold zerosN; omega
theorem Pad_ok (a : Option Addr) (l : List UInt8) (c : Nat) (hl : l.length ≤ 10000000) : Trip Tryz.prog 195 [.slice a l.length c] (BIn a l) [] (X := Option Addr × Nat) (fun r => .slice r.1 (padB l).length r.2) (fun r => [BOwn r (padB l)]) := by
  refine Trip.start (n := 31) Tryz.func195 (by kernel_rfl) rfl rfl rfl ?_
  intro F w hD
  repeat (refine JL.flat ?_)
  refine JL.go 200 ?_
  repeat (refine JL.flat ?_)
  refine JL.go 200 ?_
  apply Seq.call (sclone_ok a l c (by omega)) rfl rfl rfl rfl rfl rfl
  ·
    repeat (first | exact Picks.nil | (apply Picks.cons; · repeat (first | exact Pick.here | apply Pick.there)))
  · exact Tells.frame (by repeat (first | exact Pick.here | apply Pick.there)) (fun _ _ => SlIn.mono) hD
  intro r
  refine Seq.bslice (out := (bytesV [128])) rfl rfl rfl rfl rfl rfl rfl rfl (by rfl) rfl (by rfl) ?_
  intro bx
  refine Seq.appendB (l := l) (ys := [128]) rfl rfl rfl rfl rfl rfl rfl rfl rfl rfl rfl (by repeat (first | exact Pick.here | apply Pick.there)) (Tells.own (by repeat (first | exact Pick.here | apply Pick.there))) (by simp; omega) ?_
  intro a' cap'
  refine Seq.on 200 ?_
  have hz : zerosN l.length < 64 := by unfold zerosN; omega
  repeat (refine JL.flat ?_)
  refine JL.block ?_
  refine JL.loop (X := (Option Addr × Nat) × {j : Nat // j ≤ zerosN l.length}) ((a', cap'), ⟨0, by omega⟩) (fun x => [(0, .slice a l.length c), (3, .slice x.1.1 (l ++ [128] ++ List.replicate x.2.1 0).length x.1.2)])
    (fun x => [BOwn x.1 (l ++ [128] ++ List.replicate x.2.1 0), F]) (fun x => zerosN l.length - x.2.1) ?_ ?_ ?_
  · simp only [List.replicate_zero, List.append_nil]
    repeat (first | exact Sub.nil | refine Sub.cons rfl ?_)
  · simp only [List.replicate_zero, List.append_nil]
    exact (Gives.sound (by repeat (first | exact Gives.nil | (apply Gives.cons; · repeat (first | exact Pick.here | apply Pick.there)))))
  rintro ⟨⟨a1, c1⟩, ⟨j, hj⟩⟩
  dsimp only
  repeat (refine JL.flat ?_)
  refine JL.go 200 ?_
  rcases Nat.lt_or_ge j (zerosN l.length) with hlt | hge
  · refine JL.set 12 (.bool true) rfl (congrArg Value.bool ?_) ?_
    · show ((((l ++ [128] ++ List.replicate j 0).length % 64 : Nat) : Int) != ((56 : Nat) : Int)) = true
      simp only [bne, int_beq]
      simp
      unfold zerosN at hlt
      omega
    repeat (refine JL.flat ?_)
    refine JL.ifT rfl ?_
    try refine JL.skip ?_
    repeat (refine JL.flat ?_)
    refine JL.block ?_
    repeat (refine JL.flat ?_)
    refine JL.go 200 ?_
    refine Seq.bslice (out := (bytesV [0])) rfl rfl rfl rfl rfl rfl rfl rfl (by rfl) rfl (by rfl) ?_
    intro by_
    refine Seq.appendB (l := l ++ [128] ++ List.replicate j 0) (ys := [0]) rfl rfl rfl rfl rfl rfl rfl rfl rfl rfl rfl (by repeat (first | exact Pick.here | apply Pick.there)) (Tells.own (by repeat (first | exact Pick.here | apply Pick.there))) (by simp; omega) ?_
    intro a2 c2
    rw [show l ++ [128] ++ List.replicate j 0 ++ [0] = l ++ [128] ++ List.replicate (j + 1) 0 by rw [List.append_assoc, ← List.replicate_succ']]
    refine Seq.on 200 ?_
    repeat (refine JL.flat ?_)
    refine JL.nil (At.block_normal (At.then_normal (JL.at ?_)))
    repeat (refine JL.flat ?_)
    refine JL.nil (At.then_normal ?_)
    refine At.again (X := (Option Addr × Nat) × {j : Nat // j ≤ zerosN l.length}) (x := ((a1, c1), ⟨j, hj⟩)) ((a2, c2), ⟨j + 1, by omega⟩) (by show zerosN l.length - (j + 1) < zerosN l.length - j; omega) (Sub.look ?_) ?_
    ·
      repeat (first | exact Sub.nil | refine Sub.cons rfl ?_)
    · exact (Gives.sound (by repeat (first | exact Gives.nil | (apply Gives.cons; · repeat (first | exact Pick.here | apply Pick.there)))))
  · obtain rfl : j = zerosN l.length := by omega
    refine JL.set 12 (.bool false) rfl (congrArg Value.bool ?_) ?_
    · show ((((l ++ [128] ++ List.replicate (zerosN l.length) 0).length % 64 : Nat) : Int) != ((56 : Nat) : Int)) = false
      simp only [bne, int_beq]
      simp
      unfold zerosN
      omega
    repeat (refine JL.flat ?_)
    refine JL.ifF rfl ?_
    try refine JL.skip ?_
    repeat (refine JL.flat ?_)
    refine JL.exit ?_
    repeat (first | refine At.then_exit ?_ | refine At.block_pass rfl ?_)
    refine At.block_exit (At.then_normal (JL.at ?_))
    have hP : padB l = l ++ [128] ++ List.replicate (zerosN l.length) 0 ++ beB (8 * l.length) 8 := rfl
    have hlen : (l ++ [128] ++ List.replicate (zerosN l.length) (0 : UInt8)).length ≤ l.length + 65 := by simp; omega
    rw [hP]
    generalize l ++ [128] ++ List.replicate (zerosN l.length) 0 = L at hlen ⊢
    repeat (refine JL.flat ?_)
    refine JL.go 200 ?_
    repeat (refine JL.flat ?_)
    refine JL.block ?_
    refine JL.loop (X := (Option Addr × Nat) × {j : Nat // j ≤ 8}) ((a1, c1), ⟨0, by omega⟩) (fun x => [(0, .slice a l.length c), (4, .int .i64 (56 - 8 * (x.2.1 : Int))), (3, .slice x.1.1 (L ++ (beB (8 * l.length) 8).take x.2.1).length x.1.2)])
      (fun x => [BOwn x.1 (L ++ (beB (8 * l.length) 8).take x.2.1), F]) (fun x => 8 - x.2.1) ?_ ?_ ?_
    · simp only [List.take_zero, List.append_nil]
      repeat (first | exact Sub.nil | refine Sub.cons rfl ?_)
    · simp only [List.take_zero, List.append_nil]
      exact (Gives.sound (by repeat (first | exact Gives.nil | (apply Gives.cons; · repeat (first | exact Pick.here | apply Pick.there)))))
    rintro ⟨⟨a1, c1⟩, ⟨j, hj⟩⟩
    rcases (show j = 8 ∨ j = 0 ∨ j = 1 ∨ j = 2 ∨ j = 3 ∨ j = 4 ∨ j = 5 ∨ j = 6 ∨ j = 7 by omega) with rfl | rfl | rfl | rfl | rfl | rfl | rfl | rfl | rfl
    ·
      repeat (refine JL.flat ?_)
      refine JL.go 200 ?_
      repeat (refine JL.flat ?_)
      refine JL.ifF rfl ?_
      try refine JL.skip ?_
      repeat (refine JL.flat ?_)
      refine JL.exit ?_
      repeat (first | refine At.then_exit ?_ | refine At.block_pass rfl ?_)
      refine At.block_exit (At.then_normal (JL.at ?_))
      repeat (refine JL.flat ?_)
      refine JL.go 200 ?_
      repeat (refine JL.flat ?_)
      refine JL.ret ?_
      repeat (first | refine At.then_ret ?_ | refine At.block_ret ?_)
      refine At.done1 rfl ((a1, c1)) rfl ?_
      exact (Gives.sound (by repeat (first | exact Gives.nil | (apply Gives.cons; · repeat (first | exact Pick.here | apply Pick.there)))))
    ·
      repeat (refine JL.flat ?_)
      refine JL.go 200 ?_
      repeat (refine JL.flat ?_)
      refine JL.ifT rfl ?_
      try refine JL.skip ?_
      repeat (refine JL.flat ?_)
      refine JL.block ?_
      repeat (refine JL.flat ?_)
      refine JL.go 4 ?_
      refine Seq.set 23 (.int .u64 ((l.length : Nat) : Int)) rfl (congrArg (Value.int .u64) (wrap_int (by omega) (by omega))) ?_
      refine Seq.on 1 ?_
      refine Seq.set 24 (.int .u64 ((8 * l.length : Nat) : Int)) rfl (congrArg (Value.int .u64) (by rw [show (8 * (l.length : Int)) = ((8 * l.length : Nat) : Int) by omega]; exact wrap_int (by omega) (by omega))) ?_
      refine Seq.on 3 ?_
      refine Seq.set 27 (bval (byteAt (8 * l.length) 7)) rfl (congrArg (Value.int .u8) (conv_shr (8 * l.length) (8 * 7))) ?_
      refine Seq.bslice (out := (bytesV [byteAt (8 * l.length) 7])) rfl rfl rfl rfl rfl rfl rfl rfl (by rfl) rfl (by rfl) ?_
      intro bx
      refine Seq.appendB (l := L ++ (beB (8 * l.length) 8).take 0) (ys := [byteAt (8 * l.length) 7]) rfl rfl rfl rfl rfl rfl rfl rfl rfl rfl rfl (by repeat (first | exact Pick.here | apply Pick.there)) (Tells.own (by repeat (first | exact Pick.here | apply Pick.there))) (by simp; omega) ?_
      intro a2 c2
      rw [List.append_assoc]
      refine Seq.on 200 ?_
      repeat (refine JL.flat ?_)
      refine JL.nil (At.block_normal (At.then_normal (JL.at ?_)))
      repeat (refine JL.flat ?_)
      refine JL.go 200 ?_
      repeat (refine JL.flat ?_)
      refine JL.nil (At.then_normal ?_)
      refine At.again (X := (Option Addr × Nat) × {j : Nat // j ≤ 8}) (x := ((a1, c1), ⟨0, hj⟩)) ((a2, c2), ⟨0 + 1, by omega⟩) (by show 8 - (0 + 1) < 8 - 0; omega) (Sub.look ?_) ?_
      ·
        repeat (first | exact Sub.nil | refine Sub.cons rfl ?_)
      · exact (Gives.sound (by repeat (first | exact Gives.nil | (apply Gives.cons; · repeat (first | exact Pick.here | apply Pick.there)))))
    ·
      repeat (refine JL.flat ?_)
      refine JL.go 200 ?_
      repeat (refine JL.flat ?_)
      refine JL.ifT rfl ?_
      try refine JL.skip ?_
      repeat (refine JL.flat ?_)
      refine JL.block ?_
      repeat (refine JL.flat ?_)
      refine JL.go 4 ?_
      refine Seq.set 23 (.int .u64 ((l.length : Nat) : Int)) rfl (congrArg (Value.int .u64) (wrap_int (by omega) (by omega))) ?_
      refine Seq.on 1 ?_
      refine Seq.set 24 (.int .u64 ((8 * l.length : Nat) : Int)) rfl (congrArg (Value.int .u64) (by rw [show (8 * (l.length : Int)) = ((8 * l.length : Nat) : Int) by omega]; exact wrap_int (by omega) (by omega))) ?_
      refine Seq.on 3 ?_
      refine Seq.set 27 (bval (byteAt (8 * l.length) 6)) rfl (congrArg (Value.int .u8) (conv_shr (8 * l.length) (8 * 6))) ?_
      refine Seq.bslice (out := (bytesV [byteAt (8 * l.length) 6])) rfl rfl rfl rfl rfl rfl rfl rfl (by rfl) rfl (by rfl) ?_
      intro bx
      refine Seq.appendB (l := L ++ (beB (8 * l.length) 8).take 1) (ys := [byteAt (8 * l.length) 6]) rfl rfl rfl rfl rfl rfl rfl rfl rfl rfl rfl (by repeat (first | exact Pick.here | apply Pick.there)) (Tells.own (by repeat (first | exact Pick.here | apply Pick.there))) (by simp; omega) ?_
      intro a2 c2
      rw [List.append_assoc]
      refine Seq.on 200 ?_
      repeat (refine JL.flat ?_)
      refine JL.nil (At.block_normal (At.then_normal (JL.at ?_)))
      repeat (refine JL.flat ?_)
      refine JL.go 200 ?_
      repeat (refine JL.flat ?_)
      refine JL.nil (At.then_normal ?_)
      refine At.again (X := (Option Addr × Nat) × {j : Nat // j ≤ 8}) (x := ((a1, c1), ⟨1, hj⟩)) ((a2, c2), ⟨1 + 1, by omega⟩) (by show 8 - (1 + 1) < 8 - 1; omega) (Sub.look ?_) ?_
      ·
        repeat (first | exact Sub.nil | refine Sub.cons rfl ?_)
      · exact (Gives.sound (by repeat (first | exact Gives.nil | (apply Gives.cons; · repeat (first | exact Pick.here | apply Pick.there)))))
    ·
      repeat (refine JL.flat ?_)
      refine JL.go 200 ?_
      repeat (refine JL.flat ?_)
      refine JL.ifT rfl ?_
      try refine JL.skip ?_
      repeat (refine JL.flat ?_)
      refine JL.block ?_
      repeat (refine JL.flat ?_)
      refine JL.go 4 ?_
      refine Seq.set 23 (.int .u64 ((l.length : Nat) : Int)) rfl (congrArg (Value.int .u64) (wrap_int (by omega) (by omega))) ?_
      refine Seq.on 1 ?_
      refine Seq.set 24 (.int .u64 ((8 * l.length : Nat) : Int)) rfl (congrArg (Value.int .u64) (by rw [show (8 * (l.length : Int)) = ((8 * l.length : Nat) : Int) by omega]; exact wrap_int (by omega) (by omega))) ?_
      refine Seq.on 3 ?_
      refine Seq.set 27 (bval (byteAt (8 * l.length) 5)) rfl (congrArg (Value.int .u8) (conv_shr (8 * l.length) (8 * 5))) ?_
      refine Seq.bslice (out := (bytesV [byteAt (8 * l.length) 5])) rfl rfl rfl rfl rfl rfl rfl rfl (by rfl) rfl (by rfl) ?_
      intro bx
      refine Seq.appendB (l := L ++ (beB (8 * l.length) 8).take 2) (ys := [byteAt (8 * l.length) 5]) rfl rfl rfl rfl rfl rfl rfl rfl rfl rfl rfl (by repeat (first | exact Pick.here | apply Pick.there)) (Tells.own (by repeat (first | exact Pick.here | apply Pick.there))) (by simp; omega) ?_
      intro a2 c2
      rw [List.append_assoc]
      refine Seq.on 200 ?_
      repeat (refine JL.flat ?_)
      refine JL.nil (At.block_normal (At.then_normal (JL.at ?_)))
      repeat (refine JL.flat ?_)
      refine JL.go 200 ?_
      repeat (refine JL.flat ?_)
      refine JL.nil (At.then_normal ?_)
      refine At.again (X := (Option Addr × Nat) × {j : Nat // j ≤ 8}) (x := ((a1, c1), ⟨2, hj⟩)) ((a2, c2), ⟨2 + 1, by omega⟩) (by show 8 - (2 + 1) < 8 - 2; omega) (Sub.look ?_) ?_
      ·
        repeat (first | exact Sub.nil | refine Sub.cons rfl ?_)
      · exact (Gives.sound (by repeat (first | exact Gives.nil | (apply Gives.cons; · repeat (first | exact Pick.here | apply Pick.there)))))
    ·
      repeat (refine JL.flat ?_)
      refine JL.go 200 ?_
      repeat (refine JL.flat ?_)
      refine JL.ifT rfl ?_
      try refine JL.skip ?_
      repeat (refine JL.flat ?_)
      refine JL.block ?_
      repeat (refine JL.flat ?_)
      refine JL.go 4 ?_
      refine Seq.set 23 (.int .u64 ((l.length : Nat) : Int)) rfl (congrArg (Value.int .u64) (wrap_int (by omega) (by omega))) ?_
      refine Seq.on 1 ?_
      refine Seq.set 24 (.int .u64 ((8 * l.length : Nat) : Int)) rfl (congrArg (Value.int .u64) (by rw [show (8 * (l.length : Int)) = ((8 * l.length : Nat) : Int) by omega]; exact wrap_int (by omega) (by omega))) ?_
      refine Seq.on 3 ?_
      refine Seq.set 27 (bval (byteAt (8 * l.length) 4)) rfl (congrArg (Value.int .u8) (conv_shr (8 * l.length) (8 * 4))) ?_
      refine Seq.bslice (out := (bytesV [byteAt (8 * l.length) 4])) rfl rfl rfl rfl rfl rfl rfl rfl (by rfl) rfl (by rfl) ?_
      intro bx
      refine Seq.appendB (l := L ++ (beB (8 * l.length) 8).take 3) (ys := [byteAt (8 * l.length) 4]) rfl rfl rfl rfl rfl rfl rfl rfl rfl rfl rfl (by repeat (first | exact Pick.here | apply Pick.there)) (Tells.own (by repeat (first | exact Pick.here | apply Pick.there))) (by simp; omega) ?_
      intro a2 c2
      rw [List.append_assoc]
      refine Seq.on 200 ?_
      repeat (refine JL.flat ?_)
      refine JL.nil (At.block_normal (At.then_normal (JL.at ?_)))
      repeat (refine JL.flat ?_)
      refine JL.go 200 ?_
      repeat (refine JL.flat ?_)
      refine JL.nil (At.then_normal ?_)
      refine At.again (X := (Option Addr × Nat) × {j : Nat // j ≤ 8}) (x := ((a1, c1), ⟨3, hj⟩)) ((a2, c2), ⟨3 + 1, by omega⟩) (by show 8 - (3 + 1) < 8 - 3; omega) (Sub.look ?_) ?_
      ·
        repeat (first | exact Sub.nil | refine Sub.cons rfl ?_)
      · exact (Gives.sound (by repeat (first | exact Gives.nil | (apply Gives.cons; · repeat (first | exact Pick.here | apply Pick.there)))))
    ·
      repeat (refine JL.flat ?_)
      refine JL.go 200 ?_
      repeat (refine JL.flat ?_)
      refine JL.ifT rfl ?_
      try refine JL.skip ?_
      repeat (refine JL.flat ?_)
      refine JL.block ?_
      repeat (refine JL.flat ?_)
      refine JL.go 4 ?_
      refine Seq.set 23 (.int .u64 ((l.length : Nat) : Int)) rfl (congrArg (Value.int .u64) (wrap_int (by omega) (by omega))) ?_
      refine Seq.on 1 ?_
      refine Seq.set 24 (.int .u64 ((8 * l.length : Nat) : Int)) rfl (congrArg (Value.int .u64) (by rw [show (8 * (l.length : Int)) = ((8 * l.length : Nat) : Int) by omega]; exact wrap_int (by omega) (by omega))) ?_
      refine Seq.on 3 ?_
      refine Seq.set 27 (bval (byteAt (8 * l.length) 3)) rfl (congrArg (Value.int .u8) (conv_shr (8 * l.length) (8 * 3))) ?_
      refine Seq.bslice (out := (bytesV [byteAt (8 * l.length) 3])) rfl rfl rfl rfl rfl rfl rfl rfl (by rfl) rfl (by rfl) ?_
      intro bx
      refine Seq.appendB (l := L ++ (beB (8 * l.length) 8).take 4) (ys := [byteAt (8 * l.length) 3]) rfl rfl rfl rfl rfl rfl rfl rfl rfl rfl rfl (by repeat (first | exact Pick.here | apply Pick.there)) (Tells.own (by repeat (first | exact Pick.here | apply Pick.there))) (by simp; omega) ?_
      intro a2 c2
      rw [List.append_assoc]
      refine Seq.on 200 ?_
      repeat (refine JL.flat ?_)
      refine JL.nil (At.block_normal (At.then_normal (JL.at ?_)))
      repeat (refine JL.flat ?_)
      refine JL.go 200 ?_
      repeat (refine JL.flat ?_)
      refine JL.nil (At.then_normal ?_)
      refine At.again (X := (Option Addr × Nat) × {j : Nat // j ≤ 8}) (x := ((a1, c1), ⟨4, hj⟩)) ((a2, c2), ⟨4 + 1, by omega⟩) (by show 8 - (4 + 1) < 8 - 4; omega) (Sub.look ?_) ?_
      ·
        repeat (first | exact Sub.nil | refine Sub.cons rfl ?_)
      · exact (Gives.sound (by repeat (first | exact Gives.nil | (apply Gives.cons; · repeat (first | exact Pick.here | apply Pick.there)))))
    ·
      repeat (refine JL.flat ?_)
      refine JL.go 200 ?_
      repeat (refine JL.flat ?_)
      refine JL.ifT rfl ?_
      try refine JL.skip ?_
      repeat (refine JL.flat ?_)
      refine JL.block ?_
      repeat (refine JL.flat ?_)
      refine JL.go 4 ?_
      refine Seq.set 23 (.int .u64 ((l.length : Nat) : Int)) rfl (congrArg (Value.int .u64) (wrap_int (by omega) (by omega))) ?_
      refine Seq.on 1 ?_
      refine Seq.set 24 (.int .u64 ((8 * l.length : Nat) : Int)) rfl (congrArg (Value.int .u64) (by rw [show (8 * (l.length : Int)) = ((8 * l.length : Nat) : Int) by omega]; exact wrap_int (by omega) (by omega))) ?_
      refine Seq.on 3 ?_
      refine Seq.set 27 (bval (byteAt (8 * l.length) 2)) rfl (congrArg (Value.int .u8) (conv_shr (8 * l.length) (8 * 2))) ?_
      refine Seq.bslice (out := (bytesV [byteAt (8 * l.length) 2])) rfl rfl rfl rfl rfl rfl rfl rfl (by rfl) rfl (by rfl) ?_
      intro bx
      refine Seq.appendB (l := L ++ (beB (8 * l.length) 8).take 5) (ys := [byteAt (8 * l.length) 2]) rfl rfl rfl rfl rfl rfl rfl rfl rfl rfl rfl (by repeat (first | exact Pick.here | apply Pick.there)) (Tells.own (by repeat (first | exact Pick.here | apply Pick.there))) (by simp; omega) ?_
      intro a2 c2
      rw [List.append_assoc]
      refine Seq.on 200 ?_
      repeat (refine JL.flat ?_)
      refine JL.nil (At.block_normal (At.then_normal (JL.at ?_)))
      repeat (refine JL.flat ?_)
      refine JL.go 200 ?_
      repeat (refine JL.flat ?_)
      refine JL.nil (At.then_normal ?_)
      refine At.again (X := (Option Addr × Nat) × {j : Nat // j ≤ 8}) (x := ((a1, c1), ⟨5, hj⟩)) ((a2, c2), ⟨5 + 1, by omega⟩) (by show 8 - (5 + 1) < 8 - 5; omega) (Sub.look ?_) ?_
      ·
        repeat (first | exact Sub.nil | refine Sub.cons rfl ?_)
      · exact (Gives.sound (by repeat (first | exact Gives.nil | (apply Gives.cons; · repeat (first | exact Pick.here | apply Pick.there)))))
    ·
      repeat (refine JL.flat ?_)
      refine JL.go 200 ?_
      repeat (refine JL.flat ?_)
      refine JL.ifT rfl ?_
      try refine JL.skip ?_
      repeat (refine JL.flat ?_)
      refine JL.block ?_
      repeat (refine JL.flat ?_)
      refine JL.go 4 ?_
      refine Seq.set 23 (.int .u64 ((l.length : Nat) : Int)) rfl (congrArg (Value.int .u64) (wrap_int (by omega) (by omega))) ?_
      refine Seq.on 1 ?_
      refine Seq.set 24 (.int .u64 ((8 * l.length : Nat) : Int)) rfl (congrArg (Value.int .u64) (by rw [show (8 * (l.length : Int)) = ((8 * l.length : Nat) : Int) by omega]; exact wrap_int (by omega) (by omega))) ?_
      refine Seq.on 3 ?_
      refine Seq.set 27 (bval (byteAt (8 * l.length) 1)) rfl (congrArg (Value.int .u8) (conv_shr (8 * l.length) (8 * 1))) ?_
      refine Seq.bslice (out := (bytesV [byteAt (8 * l.length) 1])) rfl rfl rfl rfl rfl rfl rfl rfl (by rfl) rfl (by rfl) ?_
      intro bx
      refine Seq.appendB (l := L ++ (beB (8 * l.length) 8).take 6) (ys := [byteAt (8 * l.length) 1]) rfl rfl rfl rfl rfl rfl rfl rfl rfl rfl rfl (by repeat (first | exact Pick.here | apply Pick.there)) (Tells.own (by repeat (first | exact Pick.here | apply Pick.there))) (by simp; omega) ?_
      intro a2 c2
      rw [List.append_assoc]
      refine Seq.on 200 ?_
      repeat (refine JL.flat ?_)
      refine JL.nil (At.block_normal (At.then_normal (JL.at ?_)))
      repeat (refine JL.flat ?_)
      refine JL.go 200 ?_
      repeat (refine JL.flat ?_)
      refine JL.nil (At.then_normal ?_)
      refine At.again (X := (Option Addr × Nat) × {j : Nat // j ≤ 8}) (x := ((a1, c1), ⟨6, hj⟩)) ((a2, c2), ⟨6 + 1, by omega⟩) (by show 8 - (6 + 1) < 8 - 6; omega) (Sub.look ?_) ?_
      ·
        repeat (first | exact Sub.nil | refine Sub.cons rfl ?_)
      · exact (Gives.sound (by repeat (first | exact Gives.nil | (apply Gives.cons; · repeat (first | exact Pick.here | apply Pick.there)))))
    ·
      repeat (refine JL.flat ?_)
      refine JL.go 200 ?_
      repeat (refine JL.flat ?_)
      refine JL.ifT rfl ?_
      try refine JL.skip ?_
      repeat (refine JL.flat ?_)
      refine JL.block ?_
      repeat (refine JL.flat ?_)
      refine JL.go 4 ?_
      refine Seq.set 23 (.int .u64 ((l.length : Nat) : Int)) rfl (congrArg (Value.int .u64) (wrap_int (by omega) (by omega))) ?_
      refine Seq.on 1 ?_
      refine Seq.set 24 (.int .u64 ((8 * l.length : Nat) : Int)) rfl (congrArg (Value.int .u64) (by rw [show (8 * (l.length : Int)) = ((8 * l.length : Nat) : Int) by omega]; exact wrap_int (by omega) (by omega))) ?_
      refine Seq.on 3 ?_
      refine Seq.set 27 (bval (byteAt (8 * l.length) 0)) rfl (congrArg (Value.int .u8) (conv_shr (8 * l.length) (8 * 0))) ?_
      refine Seq.bslice (out := (bytesV [byteAt (8 * l.length) 0])) rfl rfl rfl rfl rfl rfl rfl rfl (by rfl) rfl (by rfl) ?_
      intro bx
      refine Seq.appendB (l := L ++ (beB (8 * l.length) 8).take 7) (ys := [byteAt (8 * l.length) 0]) rfl rfl rfl rfl rfl rfl rfl rfl rfl rfl rfl (by repeat (first | exact Pick.here | apply Pick.there)) (Tells.own (by repeat (first | exact Pick.here | apply Pick.there))) (by simp; omega) ?_
      intro a2 c2
      rw [List.append_assoc]
      refine Seq.on 200 ?_
      repeat (refine JL.flat ?_)
      refine JL.nil (At.block_normal (At.then_normal (JL.at ?_)))
      repeat (refine JL.flat ?_)
      refine JL.go 200 ?_
      repeat (refine JL.flat ?_)
      refine JL.nil (At.then_normal ?_)
      refine At.again (X := (Option Addr × Nat) × {j : Nat // j ≤ 8}) (x := ((a1, c1), ⟨7, hj⟩)) ((a2, c2), ⟨7 + 1, by omega⟩) (by show 8 - (7 + 1) < 8 - 7; omega) (Sub.look ?_) ?_
      ·
        repeat (first | exact Sub.nil | refine Sub.cons rfl ?_)
      · exact (Gives.sound (by repeat (first | exact Gives.nil | (apply Gives.cons; · repeat (first | exact Pick.here | apply Pick.there)))))
end Go.Ent
namespace Go.Ent
open Go Go.Proofs
section
variable {n : Nat} {ds : Fz} {w0 : World} {E : Env} {G : List Assn} {Q : Exit → Act → World → Prop}
theorem run_minInt {o : Oper} {x y : Operand} {ats : Array TypeId} {k : IntKind} {p q : Int} (ho : o.op = .call { callee := .builtin .min, args := #[x, y], argTypes := ats }) (hx : ev E x = some (.int k p)) (hy : ev E y = some (.int k q)) (a : Act) (w : World) (ha : Agree n ds E a) :
    (execOp a.eval o).run Tryz.prog w = .ok (.value (.int k (if q < p then q else p))) w := by
  simp [execOp, ho, resolve, invoke, builtin, ha.eval hx, ha.eval hy, run_min_int2]
theorem run_slice3 {o : Oper} {x lo hi mx : Operand} {t e : TypeId} {ts tb : Nat} {ei : TI} {ad : Option Addr} {m cap : Nat} {k1 k2 k3 : IntKind} (l h : Nat) (ho : o.op = .slice t x (some lo) (some hi) (some mx))
    (hx : ev E x = some (.slice ad m cap)) (hlo : ev E lo = some (.int k1 (l : Int))) (hhi : ev E hi = some (.int k2 (h : Int))) (hmx : ev E mx = some (.int k3 (h : Int))) (ht : tab t = some ⟨.slice e, ts, tb⟩) (he : tab e = some ei)
    (h1 : l < h) (h2 : h ≤ cap) (a : Act) (w : World) (ha : Agree n ds E a) : (execOp a.eval o).run Tryz.prog w = .ok (.value (.slice (ad.map (·.add (l * ei.size))) (h - l) (h - l))) w := by
  have hI1 : ∀ (k : IntKind) (y : Nat) (c : BoundsCode) (z : Nat), z ≤ y → (Instr.sliceBound (.int k (z : Int)) y c).run Tryz.prog w = .ok z w := fun k y c z hz => by
    simp [Instr.sliceBound, asIntOf]
    intro hlt; omega
  have hr : (Instr.sliceBounds true m cap (some (.int k1 (l : Int))) (some (.int k2 (h : Int))) (some (.int k3 (h : Int)))).run Tryz.prog w = .ok (l, h, h) w := by
    simp [Instr.sliceBounds, hI1 _ _ _ _ h2, hI1 _ _ _ _ (Nat.le_refl h), hI1 _ _ _ _ (Nat.le_of_lt h1)]
  have hne : ¬ h = l := by omega
  simp [execOp, ho, Instr.sliceAt, Instr.slice, ha.eval hx, ha.eval hlo, ha.eval hhi, ha.eval hmx, run_underlying (tab_ok.slice ht), hr, run_sizeOf_tab tab_ok he, hne]
end
theorem sep_pack {I A B : List Assn} {h : Part} (s : sep ((I ++ A) ++ B) h) : sep (A ++ (sep I :: B)) h :=
  append_sep (star_assoc (star_mono (fun _ h => star_comm (sep_append h)) (fun _ h => h) (sep_append s)))
theorem sep_unpack {I A B : List Assn} {h : Part} (s : sep (A ++ (sep I :: B)) h) : sep ((I ++ A) ++ B) h :=
  append_sep (star_mono (fun _ h => append_sep (star_comm h)) (fun _ h => h) (star_assoc' (sep_append s)))
theorem JL.to {P : Program} {n : Nat} {ds : Fz} {w0 : World} {E : Env} {G : List Assn} {Q : Exit → Act → World → Prop} {cs : List Code} (G' : List Assn) (hG : ∀ h, sep G h → sep G' h) (k : JL P n ds w0 E G' Q cs) : JL P n ds w0 E G Q cs :=
  ⟨fun a w ha hw => k.run a w ha ⟨hG _ hw.sep, hw.same⟩⟩
theorem Seq.to {P : Program} {n : Nat} {ds : Fz} {w0 : World} {E : Env} {G : List Assn} {Q : Exit → Act → World → Prop} {ops : Array Oper} {l : List Oper} (G' : List Assn) (hG : ∀ h, sep G h → sep G' h) (k : Seq P n ds w0 ops E G' Q l) : Seq P n ds w0 ops E G Q l :=
  ⟨fun a w ha hw => k.run a w ha ⟨hG _ hw.sep, hw.same⟩⟩
theorem Chunk_ok (a : Option Addr) (m c : Nat) (sz : Nat) (hsz : 1 ≤ sz) : Trip Tryz.prog 194 [.slice a m c, .int .i64 (sz : Int)] none_ [] (X := Nat × Nat) (fun r => .func (.func 263) #[] #[ptrV r.1, ptrV r.2])
    (fun r => [pt r.1 (.cells #[.slice a m c] 177 (0, 0)), pt r.2 (.cells #[.int .i64 (sz : Int)] 3 (0, 0))]) := by
  refine Trip.start (n := 9) Tryz.func194 (by kernel_rfl) rfl rfl rfl ?_
  intro F w hD
  repeat (refine JL.flat ?_)
  refine JL.go 0 ?_
  refine Seq.eff rfl rfl (Ef.box rfl rfl) ?_
  intro b2
  refine Seq.eff rfl rfl (Ef.box rfl rfl) ?_
  intro b3
  refine Seq.on 200 ?_
  repeat (refine JL.flat ?_)
  refine JL.go 200 ?_
  apply Seq.loadLit rfl rfl rfl rfl rfl
  · repeat (first | exact Pick.here | apply Pick.there)
  · rfl
  · rfl
  refine Seq.on 200 ?_
  refine JL.set 6 (.bool false) rfl (congrArg Value.bool (by simp; omega)) ?_
  repeat (refine JL.flat ?_)
  refine JL.ifF rfl ?_
  try refine JL.skip ?_
  repeat (refine JL.flat ?_)
  refine JL.go 200 ?_
  repeat (refine JL.flat ?_)
  refine JL.ret ?_
  repeat (first | refine At.then_ret ?_ | refine At.block_ret ?_)
  refine At.done1 rfl ((b2, b3)) rfl ?_
  exact (Gives.sound (by repeat (first | exact Gives.nil | (apply Gives.cons; · repeat (first | exact Pick.here | apply Pick.there)))))
def chunkAt (l : List UInt8) (sz i : Nat) : List UInt8 := (l.drop (i * sz)).take sz
def chunks (l : List UInt8) (sz : Nat) : Nat := (l.length + sz - 1) / sz
theorem lt_chunks {l : List UInt8} {sz i : Nat} (hsz : 1 ≤ sz) : i < chunks l sz ↔ i * sz < l.length := by
  unfold chunks
  rw [← Nat.succ_le_iff, Nat.le_div_iff_mul_le (by omega), Nat.succ_mul]
  omega
theorem chunkAt_length (l : List UInt8) (sz i : Nat) : (chunkAt l sz i).length = min sz (l.length - i * sz) := by simp [chunkAt]
/-- the iterator: it yields the pieces, one behind the other. -/
theorem Chunk1_iter (b2 b3 : Nat) (a : Option Addr) (l : List UInt8) (c sz : Nat) (hsz : 1 ≤ sz) (hlc : l.length ≤ c) (hb : l.length ≤ 50000000) (hs : sz ≤ 50000000) :
    IterC Tryz.prog 263 [ptrV b2, ptrV b3] [pt b2 (.cells #[.slice a l.length c] 177 (0, 0)), pt b3 (.cells #[.int .i64 (sz : Int)] 3 (0, 0))] (chunks l sz) (Y := Option Addr)
      (fun i y => [.slice y (chunkAt l sz i).length (chunkAt l sz i).length]) (fun i y => [fun _ => ∀ p, BIn a l p → BIn y (chunkAt l sz i) p]) [] := ⟨fun lp I X hY => by
  refine Trip.start (n := 31) Tryz.func263 (by kernel_rfl) rfl rfl rfl ?_
  intro F w hD
  repeat (refine JL.flat ?_)
  refine JL.go 200 ?_
  repeat (refine JL.flat ?_)
  refine JL.block ?_
  refine JL.loop (X := {i : Nat // i ≤ chunks l sz}) ⟨0, by omega⟩ (fun i => [(0, .func (.yield lp) #[] #[]), (1, ptrV b2), (2, ptrV b3), (4, .int .i64 ((i.1 * sz : Nat) : Int))])
    (fun i => [pt b2 (.cells #[.slice a l.length c] 177 (0, 0)), pt b3 (.cells #[.int .i64 (sz : Int)] 3 (0, 0)), sep (I i.1), F]) (fun i => chunks l sz - i.1) ?_ ?_ ?_
  · simp only [Nat.zero_mul]
    repeat (first | exact Sub.nil | refine Sub.cons rfl ?_)
  · exact fun h hs => sep_pack hs
  rintro ⟨i, hi⟩
  dsimp only
  repeat (refine JL.flat ?_)
  refine JL.go 200 ?_
  apply Seq.loadLit rfl rfl rfl rfl rfl
  · repeat (first | exact Pick.here | apply Pick.there)
  · rfl
  · rfl
  refine Seq.on 200 ?_
  rcases Nat.lt_or_ge i (chunks l sz) with hlt | hge
  · have hlt' := (lt_chunks hsz).1 hlt
    refine JL.set 9 (.bool true) rfl (congrArg Value.bool (by simp; omega)) ?_
    repeat (refine JL.flat ?_)
    refine JL.ifT rfl ?_
    try refine JL.skip ?_
    repeat (refine JL.flat ?_)
    refine JL.block ?_
    repeat (refine JL.flat ?_)
    refine JL.draws (by kernel_rfl) (fun hR => ?_)
    refine Ord.on hR 200 ?_
    apply Ord.loadLit hR NP.nop rfl rfl rfl rfl rfl rfl rfl
    · repeat (first | exact Pick.here | apply Pick.there)
    · rfl
    · rfl
    refine Ord.on hR 200 ?_
    apply Ord.loadLit hR NP.nop rfl rfl rfl rfl rfl rfl rfl
    · repeat (first | exact Pick.here | apply Pick.there)
    · rfl
    · rfl
    refine Ord.on hR 200 ?_
    refine Ord.look hR NP.nop rfl rfl rfl rfl (Yl.sliceB (i * sz) l.length rfl rfl rfl rfl rfl rfl rfl rfl (by omega) (by omega) hlc) ?_
    refine Ord.on hR 200 ?_
    refine Ord.pure hR NP.nop rfl rfl rfl rfl (fun a w ha => run_minInt rfl rfl rfl a w ha) ?_
    refine Ord.on hR 200 ?_
    have hlen := chunkAt_length l sz i
    refine JL.set 5 (.int .i64 ((chunkAt l sz i).length : Int)) rfl (congrArg (Value.int .i64) ?_) ?_
    · rw [hlen]
      split <;> omega
    repeat (refine JL.flat ?_)
    refine JL.go 200 ?_
    apply Seq.loadLit rfl rfl rfl rfl rfl
    · repeat (first | exact Pick.here | apply Pick.there)
    · rfl
    · rfl
    refine Seq.on 4 ?_
    refine Seq.set 24 (.int .i64 ((i * sz + (chunkAt l sz i).length : Nat) : Int)) rfl (congrArg (Value.int .i64) (by rw [← Int.natCast_add]; exact wrapI (Nat.lt_of_lt_of_eq (Nat.lt_of_le_of_lt (show i * sz + (chunkAt l sz i).length ≤ 50000000 by omega) (by decide)) two63))) ?_
    refine Seq.on 3 ?_
    refine Seq.set 27 (.int .i64 ((i * sz + (chunkAt l sz i).length : Nat) : Int)) rfl (congrArg (Value.int .i64) (by rw [← Int.natCast_add]; exact wrapI (Nat.lt_of_lt_of_eq (Nat.lt_of_le_of_lt (show i * sz + (chunkAt l sz i).length ≤ 50000000 by omega) (by decide)) two63))) ?_
    refine Seq.yield rfl rfl (fun a w ha _ => run_slice3 (i * sz) (i * sz + (chunkAt l sz i).length) rfl rfl rfl rfl rfl rfl rfl (by omega) (by omega) a w ha) ?_
    refine Seq.set 28 (.slice (a.map (·.add (i * sz * 1))) (chunkAt l sz i).length (chunkAt l sz i).length) rfl (by rw [Nat.add_sub_cancel_left]) ?_
    have hfact : ∀ p, BIn a l p → BIn (a.map (·.add (i * sz * 1))) (chunkAt l sz i) p := fun p hp => by
      have h3 := slAddr_in (k := 1) hp (lo := i * sz) (hi := i * sz + (chunkAt l sz i).length) (cap := c) hlc (by omega) (by omega)
      have hne : ¬ c = i * sz := by omega
      unfold slAddr at h3
      rw [if_neg hne, Nat.add_sub_cancel_left] at h3
      unfold BIn
      have e : bytesV (chunkAt l sz i) = ((bytesV l).drop (i * sz * 1)).take ((chunkAt l sz i).length * 1) := by
        unfold chunkAt
        rw [bytesV_take, bytesV_drop, Nat.mul_one, Nat.mul_one, List.length_take, List.length_drop, ← bytesV_length l, ← List.length_drop]
        exact List.take_eq_take_min
      rw [e]
      exact h3
    refine Seq.eff rfl rfl (Ef.yield (G' := [pt b2 (.cells #[.slice a l.length c] 177 (0, 0)), pt b3 (.cells #[.int .i64 (sz : Int)] 3 (0, 0)), F]) rfl rfl rfl (hY i hlt (a.map (·.add (i * sz * 1)))) (fun h hs => ?_)) ?_
    · have h1 := sep_unpack (I := I i) (A := [pt b2 (.cells #[.slice a l.length c] 177 (0, 0)), pt b3 (.cells #[.int .i64 (sz : Int)] 3 (0, 0))]) (B := [F]) hs
      have h2 : star (sep (I i)) (sep ([pt b2 (.cells #[.slice a l.length c] 177 (0, 0)), pt b3 (.cells #[.int .i64 (sz : Int)] 3 (0, 0))] ++ [F])) h := by
        rw [List.append_assoc] at h1
        exact sep_append h1
      rw [List.append_assoc]
      exact append_sep (star_mono (fun _ h => h) (fun _ h => sep_pure (fun _ => hfact) h) h2)
    intro b
    cases b with
    | false =>
      refine Seq.on 200 ?_
      repeat (refine JL.flat ?_)
      refine JL.ifT rfl ?_
      try refine JL.skip ?_
      repeat (refine JL.flat ?_)
      refine JL.ret ?_
      repeat (first | refine At.then_ret ?_ | refine At.block_ret ?_)
      exact ⟨(At.done0 rfl false rfl (fun h hs => by
        have h2 := sep_append hs
        exact append_sep (star_mono (fun _ h => h) (fun h hs => (Gives.sound (L := [F]) (by repeat (first | exact Gives.nil | (apply Gives.cons; · repeat (first | exact Pick.here | apply Pick.there))))) h hs) h2))).run⟩
    | true =>
      refine Seq.to [pt b2 (.cells #[.slice a l.length c] 177 (0, 0)), pt b3 (.cells #[.int .i64 (sz : Int)] 3 (0, 0)), sep (I (i + 1)), F] (fun h hs => ?_) ?_
      · exact sep_pack (I := I (i + 1)) (A := [pt b2 (.cells #[.slice a l.length c] 177 (0, 0)), pt b3 (.cells #[.int .i64 (sz : Int)] 3 (0, 0))]) (B := [F]) (by rw [List.append_assoc]; exact hs)
      refine Seq.on 200 ?_
      repeat (refine JL.flat ?_)
      refine JL.ifF rfl ?_
      try refine JL.skip ?_
      repeat (refine JL.flat ?_)
      refine JL.nil (At.block_normal (At.then_normal (JL.at ?_)))
      repeat (refine JL.flat ?_)
      refine JL.go 200 ?_
      apply Seq.loadLit rfl rfl rfl rfl rfl
      · repeat (first | exact Pick.here | apply Pick.there)
      · rfl
      · rfl
      refine Seq.on 200 ?_
      refine JL.set 4 (.int .i64 (((i + 1) * sz : Nat) : Int)) rfl (congrArg (Value.int .i64) (by rw [← Int.natCast_add, Nat.succ_mul]; exact wrapI (Nat.lt_of_lt_of_eq (Nat.lt_of_le_of_lt (show i * sz + sz ≤ 100000000 by omega) (by decide)) two63))) ?_
      repeat (refine JL.flat ?_)
      refine JL.nil (At.then_normal ?_)
      refine At.again (X := {i : Nat // i ≤ chunks l sz}) (x := ⟨i, hi⟩) ⟨i + 1, by omega⟩ (by show chunks l sz - (i + 1) < chunks l sz - i; omega) (Sub.look ?_) ?_
      ·
        repeat (first | exact Sub.nil | refine Sub.cons rfl ?_)
      · exact (Gives.sound (by repeat (first | exact Gives.nil | (apply Gives.cons; · repeat (first | exact Pick.here | apply Pick.there)))))
  · obtain rfl : i = chunks l sz := by omega
    have hge' : ¬ chunks l sz * sz < l.length := fun h => by have := (lt_chunks hsz).2 h; omega
    refine JL.set 9 (.bool false) rfl (congrArg Value.bool (by simp; omega)) ?_
    repeat (refine JL.flat ?_)
    refine JL.ifF rfl ?_
    try refine JL.skip ?_
    repeat (refine JL.flat ?_)
    refine JL.exit ?_
    repeat (first | refine At.then_exit ?_ | refine At.block_pass rfl ?_)
    refine At.block_exit (At.then_normal (JL.at ?_))
    repeat (refine JL.flat ?_)
    refine JL.nil ?_
    refine At.done0 rfl true rfl (fun h hs => ?_)
    have h1 := sep_unpack (I := I (chunks l sz)) (A := [pt b2 (.cells #[.slice a l.length c] 177 (0, 0)), pt b3 (.cells #[.int .i64 (sz : Int)] 3 (0, 0))]) (B := [F]) hs
    rw [List.append_assoc] at h1
    show sep ((I (chunks l sz) ++ []) ++ [F]) h
    rw [List.append_nil]
    exact append_sep (star_mono (fun _ h => h) (fun h hs => (Gives.sound (L := [F]) (by repeat (first | exact Gives.nil | (apply Gives.cons; · repeat (first | exact Pick.here | apply Pick.there))))) h hs) (sep_append h1))⟩
end Go.Ent
