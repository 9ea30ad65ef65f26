/-
  a part of the proof: contracts of functions, and the engine by which they are walked.
-/
import Derived.Test.YtndhjcngphhhpaaGreatDoorE1
import Derived.Test.YtndhjcngphhhpaaGreatDoorE2
set_option linter.unusedVariables false
set_option linter.unusedSimpArgs false
namespace Go.Ent
open Go Go.Proofs
def turnI (x : Int) (k : Nat) : Int := ibits .or .u32 (shl .u32 x (32 - k)) (shr .u32 x k)
theorem rotl_2 (x : Int) : Trip Tryz.prog 312 [.int .u32 x, .int .i64 (-2)] none_ [] (X := Unit) (fun _ => .int .u32 (turnI x 2)) (fun _ => []) := by
  refine Trip.start (n := 17) Tryz.func312 (by kernel_rfl) rfl rfl rfl ?_
  intro F w hD
  repeat (refine JL.flat ?_)
  refine JL.go 200 ?_
  repeat (refine JL.flat ?_)
  refine JL.go 200 ?_
  repeat (refine JL.flat ?_)
  refine JL.go 200 ?_
  repeat (refine JL.flat ?_)
  refine JL.ret ?_
  repeat (first | refine At.then_ret ?_ | refine At.block_ret ?_)
  refine At.done1 rfl (()) rfl ?_
  exact (Gives.sound (by repeat (first | exact Gives.nil | (apply Gives.cons; · repeat (first | exact Pick.here | apply Pick.there)))))
theorem turn_2 (x : Int) : Trip Tryz.prog 265 [.int .u32 x, .int .i64 2] none_ [] (X := Unit) (fun _ => .int .u32 (turnI x 2)) (fun _ => []) := by
  refine Trip.start (n := 9) Tryz.func265 (by kernel_rfl) rfl rfl rfl ?_
  intro F w hD
  repeat (refine JL.flat ?_)
  refine JL.go 200 ?_
  repeat (refine JL.flat ?_)
  refine JL.go 200 ?_
  apply Seq.call (rotl_2 x) rfl rfl rfl rfl rfl rfl
  ·
    repeat (first | exact Picks.nil | (apply Picks.cons; · repeat (first | exact Pick.here | apply Pick.there)))
  · exact Tells.none
  intro _
  refine Seq.on 200 ?_
  repeat (refine JL.flat ?_)
  refine JL.ret ?_
  repeat (first | refine At.then_ret ?_ | refine At.block_ret ?_)
  refine At.done1 rfl (()) rfl ?_
  exact (Gives.sound (by repeat (first | exact Gives.nil | (apply Gives.cons; · repeat (first | exact Pick.here | apply Pick.there)))))
theorem rotl_6 (x : Int) : Trip Tryz.prog 312 [.int .u32 x, .int .i64 (-6)] none_ [] (X := Unit) (fun _ => .int .u32 (turnI x 6)) (fun _ => []) := by
  refine Trip.start (n := 17) Tryz.func312 (by kernel_rfl) rfl rfl rfl ?_
  intro F w hD
  repeat (refine JL.flat ?_)
  refine JL.go 200 ?_
  repeat (refine JL.flat ?_)
  refine JL.go 200 ?_
  repeat (refine JL.flat ?_)
  refine JL.go 200 ?_
  repeat (refine JL.flat ?_)
  refine JL.ret ?_
  repeat (first | refine At.then_ret ?_ | refine At.block_ret ?_)
  refine At.done1 rfl (()) rfl ?_
  exact (Gives.sound (by repeat (first | exact Gives.nil | (apply Gives.cons; · repeat (first | exact Pick.here | apply Pick.there)))))
theorem turn_6 (x : Int) : Trip Tryz.prog 265 [.int .u32 x, .int .i64 6] none_ [] (X := Unit) (fun _ => .int .u32 (turnI x 6)) (fun _ => []) := by
  refine Trip.start (n := 9) Tryz.func265 (by kernel_rfl) rfl rfl rfl ?_
  intro F w hD
  repeat (refine JL.flat ?_)
  refine JL.go 200 ?_
  repeat (refine JL.flat ?_)
  refine JL.go 200 ?_
  apply Seq.call (rotl_6 x) rfl rfl rfl rfl rfl rfl
  ·
    repeat (first | exact Picks.nil | (apply Picks.cons; · repeat (first | exact Pick.here | apply Pick.there)))
  · exact Tells.none
  intro _
  refine Seq.on 200 ?_
  repeat (refine JL.flat ?_)
  refine JL.ret ?_
  repeat (first | refine At.then_ret ?_ | refine At.block_ret ?_)
  refine At.done1 rfl (()) rfl ?_
  exact (Gives.sound (by repeat (first | exact Gives.nil | (apply Gives.cons; · repeat (first | exact Pick.here | apply Pick.there)))))
theorem rotl_7 (x : Int) : Trip Tryz.prog 312 [.int .u32 x, .int .i64 (-7)] none_ [] (X := Unit) (fun _ => .int .u32 (turnI x 7)) (fun _ => []) := by
  refine Trip.start (n := 17) Tryz.func312 (by kernel_rfl) rfl rfl rfl ?_
  intro F w hD
  repeat (refine JL.flat ?_)
  refine JL.go 200 ?_
  repeat (refine JL.flat ?_)
  refine JL.go 200 ?_
  repeat (refine JL.flat ?_)
  refine JL.go 200 ?_
  repeat (refine JL.flat ?_)
  refine JL.ret ?_
  repeat (first | refine At.then_ret ?_ | refine At.block_ret ?_)
  refine At.done1 rfl (()) rfl ?_
  exact (Gives.sound (by repeat (first | exact Gives.nil | (apply Gives.cons; · repeat (first | exact Pick.here | apply Pick.there)))))
theorem turn_7 (x : Int) : Trip Tryz.prog 265 [.int .u32 x, .int .i64 7] none_ [] (X := Unit) (fun _ => .int .u32 (turnI x 7)) (fun _ => []) := by
  refine Trip.start (n := 9) Tryz.func265 (by kernel_rfl) rfl rfl rfl ?_
  intro F w hD
  repeat (refine JL.flat ?_)
  refine JL.go 200 ?_
  repeat (refine JL.flat ?_)
  refine JL.go 200 ?_
  apply Seq.call (rotl_7 x) rfl rfl rfl rfl rfl rfl
  ·
    repeat (first | exact Picks.nil | (apply Picks.cons; · repeat (first | exact Pick.here | apply Pick.there)))
  · exact Tells.none
  intro _
  refine Seq.on 200 ?_
  repeat (refine JL.flat ?_)
  refine JL.ret ?_
  repeat (first | refine At.then_ret ?_ | refine At.block_ret ?_)
  refine At.done1 rfl (()) rfl ?_
  exact (Gives.sound (by repeat (first | exact Gives.nil | (apply Gives.cons; · repeat (first | exact Pick.here | apply Pick.there)))))
theorem rotl_11 (x : Int) : Trip Tryz.prog 312 [.int .u32 x, .int .i64 (-11)] none_ [] (X := Unit) (fun _ => .int .u32 (turnI x 11)) (fun _ => []) := by
  refine Trip.start (n := 17) Tryz.func312 (by kernel_rfl) rfl rfl rfl ?_
  intro F w hD
  repeat (refine JL.flat ?_)
  refine JL.go 200 ?_
  repeat (refine JL.flat ?_)
  refine JL.go 200 ?_
  repeat (refine JL.flat ?_)
  refine JL.go 200 ?_
  repeat (refine JL.flat ?_)
  refine JL.ret ?_
  repeat (first | refine At.then_ret ?_ | refine At.block_ret ?_)
  refine At.done1 rfl (()) rfl ?_
  exact (Gives.sound (by repeat (first | exact Gives.nil | (apply Gives.cons; · repeat (first | exact Pick.here | apply Pick.there)))))
theorem turn_11 (x : Int) : Trip Tryz.prog 265 [.int .u32 x, .int .i64 11] none_ [] (X := Unit) (fun _ => .int .u32 (turnI x 11)) (fun _ => []) := by
  refine Trip.start (n := 9) Tryz.func265 (by kernel_rfl) rfl rfl rfl ?_
  intro F w hD
  repeat (refine JL.flat ?_)
  refine JL.go 200 ?_
  repeat (refine JL.flat ?_)
  refine JL.go 200 ?_
  apply Seq.call (rotl_11 x) rfl rfl rfl rfl rfl rfl
  ·
    repeat (first | exact Picks.nil | (apply Picks.cons; · repeat (first | exact Pick.here | apply Pick.there)))
  · exact Tells.none
  intro _
  refine Seq.on 200 ?_
  repeat (refine JL.flat ?_)
  refine JL.ret ?_
  repeat (first | refine At.then_ret ?_ | refine At.block_ret ?_)
  refine At.done1 rfl (()) rfl ?_
  exact (Gives.sound (by repeat (first | exact Gives.nil | (apply Gives.cons; · repeat (first | exact Pick.here | apply Pick.there)))))
theorem rotl_13 (x : Int) : Trip Tryz.prog 312 [.int .u32 x, .int .i64 (-13)] none_ [] (X := Unit) (fun _ => .int .u32 (turnI x 13)) (fun _ => []) := by
  refine Trip.start (n := 17) Tryz.func312 (by kernel_rfl) rfl rfl rfl ?_
  intro F w hD
  repeat (refine JL.flat ?_)
  refine JL.go 200 ?_
  repeat (refine JL.flat ?_)
  refine JL.go 200 ?_
  repeat (refine JL.flat ?_)
  refine JL.go 200 ?_
  repeat (refine JL.flat ?_)
  refine JL.ret ?_
  repeat (first | refine At.then_ret ?_ | refine At.block_ret ?_)
  refine At.done1 rfl (()) rfl ?_
  exact (Gives.sound (by repeat (first | exact Gives.nil | (apply Gives.cons; · repeat (first | exact Pick.here | apply Pick.there)))))
theorem turn_13 (x : Int) : Trip Tryz.prog 265 [.int .u32 x, .int .i64 13] none_ [] (X := Unit) (fun _ => .int .u32 (turnI x 13)) (fun _ => []) := by
  refine Trip.start (n := 9) Tryz.func265 (by kernel_rfl) rfl rfl rfl ?_
  intro F w hD
  repeat (refine JL.flat ?_)
  refine JL.go 200 ?_
  repeat (refine JL.flat ?_)
  refine JL.go 200 ?_
  apply Seq.call (rotl_13 x) rfl rfl rfl rfl rfl rfl
  ·
    repeat (first | exact Picks.nil | (apply Picks.cons; · repeat (first | exact Pick.here | apply Pick.there)))
  · exact Tells.none
  intro _
  refine Seq.on 200 ?_
  repeat (refine JL.flat ?_)
  refine JL.ret ?_
  repeat (first | refine At.then_ret ?_ | refine At.block_ret ?_)
  refine At.done1 rfl (()) rfl ?_
  exact (Gives.sound (by repeat (first | exact Gives.nil | (apply Gives.cons; · repeat (first | exact Pick.here | apply Pick.there)))))
theorem rotl_17 (x : Int) : Trip Tryz.prog 312 [.int .u32 x, .int .i64 (-17)] none_ [] (X := Unit) (fun _ => .int .u32 (turnI x 17)) (fun _ => []) := by
  refine Trip.start (n := 17) Tryz.func312 (by kernel_rfl) rfl rfl rfl ?_
  intro F w hD
  repeat (refine JL.flat ?_)
  refine JL.go 200 ?_
  repeat (refine JL.flat ?_)
  refine JL.go 200 ?_
  repeat (refine JL.flat ?_)
  refine JL.go 200 ?_
  repeat (refine JL.flat ?_)
  refine JL.ret ?_
  repeat (first | refine At.then_ret ?_ | refine At.block_ret ?_)
  refine At.done1 rfl (()) rfl ?_
  exact (Gives.sound (by repeat (first | exact Gives.nil | (apply Gives.cons; · repeat (first | exact Pick.here | apply Pick.there)))))
theorem turn_17 (x : Int) : Trip Tryz.prog 265 [.int .u32 x, .int .i64 17] none_ [] (X := Unit) (fun _ => .int .u32 (turnI x 17)) (fun _ => []) := by
  refine Trip.start (n := 9) Tryz.func265 (by kernel_rfl) rfl rfl rfl ?_
  intro F w hD
  repeat (refine JL.flat ?_)
  refine JL.go 200 ?_
  repeat (refine JL.flat ?_)
  refine JL.go 200 ?_
  apply Seq.call (rotl_17 x) rfl rfl rfl rfl rfl rfl
  ·
    repeat (first | exact Picks.nil | (apply Picks.cons; · repeat (first | exact Pick.here | apply Pick.there)))
  · exact Tells.none
  intro _
  refine Seq.on 200 ?_
  repeat (refine JL.flat ?_)
  refine JL.ret ?_
  repeat (first | refine At.then_ret ?_ | refine At.block_ret ?_)
  refine At.done1 rfl (()) rfl ?_
  exact (Gives.sound (by repeat (first | exact Gives.nil | (apply Gives.cons; · repeat (first | exact Pick.here | apply Pick.there)))))
theorem rotl_18 (x : Int) : Trip Tryz.prog 312 [.int .u32 x, .int .i64 (-18)] none_ [] (X := Unit) (fun _ => .int .u32 (turnI x 18)) (fun _ => []) := by
  refine Trip.start (n := 17) Tryz.func312 (by kernel_rfl) rfl rfl rfl ?_
  intro F w hD
  repeat (refine JL.flat ?_)
  refine JL.go 200 ?_
  repeat (refine JL.flat ?_)
  refine JL.go 200 ?_
  repeat (refine JL.flat ?_)
  refine JL.go 200 ?_
  repeat (refine JL.flat ?_)
  refine JL.ret ?_
  repeat (first | refine At.then_ret ?_ | refine At.block_ret ?_)
  refine At.done1 rfl (()) rfl ?_
  exact (Gives.sound (by repeat (first | exact Gives.nil | (apply Gives.cons; · repeat (first | exact Pick.here | apply Pick.there)))))
theorem turn_18 (x : Int) : Trip Tryz.prog 265 [.int .u32 x, .int .i64 18] none_ [] (X := Unit) (fun _ => .int .u32 (turnI x 18)) (fun _ => []) := by
  refine Trip.start (n := 9) Tryz.func265 (by kernel_rfl) rfl rfl rfl ?_
  intro F w hD
  repeat (refine JL.flat ?_)
  refine JL.go 200 ?_
  repeat (refine JL.flat ?_)
  refine JL.go 200 ?_
  apply Seq.call (rotl_18 x) rfl rfl rfl rfl rfl rfl
  ·
    repeat (first | exact Picks.nil | (apply Picks.cons; · repeat (first | exact Pick.here | apply Pick.there)))
  · exact Tells.none
  intro _
  refine Seq.on 200 ?_
  repeat (refine JL.flat ?_)
  refine JL.ret ?_
  repeat (first | refine At.then_ret ?_ | refine At.block_ret ?_)
  refine At.done1 rfl (()) rfl ?_
  exact (Gives.sound (by repeat (first | exact Gives.nil | (apply Gives.cons; · repeat (first | exact Pick.here | apply Pick.there)))))
theorem rotl_19 (x : Int) : Trip Tryz.prog 312 [.int .u32 x, .int .i64 (-19)] none_ [] (X := Unit) (fun _ => .int .u32 (turnI x 19)) (fun _ => []) := by
  refine Trip.start (n := 17) Tryz.func312 (by kernel_rfl) rfl rfl rfl ?_
  intro F w hD
  repeat (refine JL.flat ?_)
  refine JL.go 200 ?_
  repeat (refine JL.flat ?_)
  refine JL.go 200 ?_
  repeat (refine JL.flat ?_)
  refine JL.go 200 ?_
  repeat (refine JL.flat ?_)
  refine JL.ret ?_
  repeat (first | refine At.then_ret ?_ | refine At.block_ret ?_)
  refine At.done1 rfl (()) rfl ?_
  exact (Gives.sound (by repeat (first | exact Gives.nil | (apply Gives.cons; · repeat (first | exact Pick.here | apply Pick.there)))))
theorem turn_19 (x : Int) : Trip Tryz.prog 265 [.int .u32 x, .int .i64 19] none_ [] (X := Unit) (fun _ => .int .u32 (turnI x 19)) (fun _ => []) := by
  refine Trip.start (n := 9) Tryz.func265 (by kernel_rfl) rfl rfl rfl ?_
  intro F w hD
  repeat (refine JL.flat ?_)
  refine JL.go 200 ?_
  repeat (refine JL.flat ?_)
  refine JL.go 200 ?_
  apply Seq.call (rotl_19 x) rfl rfl rfl rfl rfl rfl
  ·
    repeat (first | exact Picks.nil | (apply Picks.cons; · repeat (first | exact Pick.here | apply Pick.there)))
  · exact Tells.none
  intro _
  refine Seq.on 200 ?_
  repeat (refine JL.flat ?_)
  refine JL.ret ?_
  repeat (first | refine At.then_ret ?_ | refine At.block_ret ?_)
  refine At.done1 rfl (()) rfl ?_
  exact (Gives.sound (by repeat (first | exact Gives.nil | (apply Gives.cons; · repeat (first | exact Pick.here | apply Pick.there)))))
theorem rotl_22 (x : Int) : Trip Tryz.prog 312 [.int .u32 x, .int .i64 (-22)] none_ [] (X := Unit) (fun _ => .int .u32 (turnI x 22)) (fun _ => []) := by
  refine Trip.start (n := 17) Tryz.func312 (by kernel_rfl) rfl rfl rfl ?_
  intro F w hD
  repeat (refine JL.flat ?_)
  refine JL.go 200 ?_
  repeat (refine JL.flat ?_)
  refine JL.go 200 ?_
  repeat (refine JL.flat ?_)
  refine JL.go 200 ?_
  repeat (refine JL.flat ?_)
  refine JL.ret ?_
  repeat (first | refine At.then_ret ?_ | refine At.block_ret ?_)
  refine At.done1 rfl (()) rfl ?_
  exact (Gives.sound (by repeat (first | exact Gives.nil | (apply Gives.cons; · repeat (first | exact Pick.here | apply Pick.there)))))
theorem turn_22 (x : Int) : Trip Tryz.prog 265 [.int .u32 x, .int .i64 22] none_ [] (X := Unit) (fun _ => .int .u32 (turnI x 22)) (fun _ => []) := by
  refine Trip.start (n := 9) Tryz.func265 (by kernel_rfl) rfl rfl rfl ?_
  intro F w hD
  repeat (refine JL.flat ?_)
  refine JL.go 200 ?_
  repeat (refine JL.flat ?_)
  refine JL.go 200 ?_
  apply Seq.call (rotl_22 x) rfl rfl rfl rfl rfl rfl
  ·
    repeat (first | exact Picks.nil | (apply Picks.cons; · repeat (first | exact Pick.here | apply Pick.there)))
  · exact Tells.none
  intro _
  refine Seq.on 200 ?_
  repeat (refine JL.flat ?_)
  refine JL.ret ?_
  repeat (first | refine At.then_ret ?_ | refine At.block_ret ?_)
  refine At.done1 rfl (()) rfl ?_
  exact (Gives.sound (by repeat (first | exact Gives.nil | (apply Gives.cons; · repeat (first | exact Pick.here | apply Pick.there)))))
theorem rotl_25 (x : Int) : Trip Tryz.prog 312 [.int .u32 x, .int .i64 (-25)] none_ [] (X := Unit) (fun _ => .int .u32 (turnI x 25)) (fun _ => []) := by
  refine Trip.start (n := 17) Tryz.func312 (by kernel_rfl) rfl rfl rfl ?_
  intro F w hD
  repeat (refine JL.flat ?_)
  refine JL.go 200 ?_
  repeat (refine JL.flat ?_)
  refine JL.go 200 ?_
  repeat (refine JL.flat ?_)
  refine JL.go 200 ?_
  repeat (refine JL.flat ?_)
  refine JL.ret ?_
  repeat (first | refine At.then_ret ?_ | refine At.block_ret ?_)
  refine At.done1 rfl (()) rfl ?_
  exact (Gives.sound (by repeat (first | exact Gives.nil | (apply Gives.cons; · repeat (first | exact Pick.here | apply Pick.there)))))
theorem turn_25 (x : Int) : Trip Tryz.prog 265 [.int .u32 x, .int .i64 25] none_ [] (X := Unit) (fun _ => .int .u32 (turnI x 25)) (fun _ => []) := by
  refine Trip.start (n := 9) Tryz.func265 (by kernel_rfl) rfl rfl rfl ?_
  intro F w hD
  repeat (refine JL.flat ?_)
  refine JL.go 200 ?_
  repeat (refine JL.flat ?_)
  refine JL.go 200 ?_
  apply Seq.call (rotl_25 x) rfl rfl rfl rfl rfl rfl
  ·
    repeat (first | exact Picks.nil | (apply Picks.cons; · repeat (first | exact Pick.here | apply Pick.there)))
  · exact Tells.none
  intro _
  refine Seq.on 200 ?_
  repeat (refine JL.flat ?_)
  refine JL.ret ?_
  repeat (first | refine At.then_ret ?_ | refine At.block_ret ?_)
  refine At.done1 rfl (()) rfl ?_
  exact (Gives.sound (by repeat (first | exact Gives.nil | (apply Gives.cons; · repeat (first | exact Pick.here | apply Pick.there)))))
def W32 (x : Int) : Int := IntKind.u32.wrap x
def wordI (a b c d : Int) : Int := ibits .or .u32 (ibits .or .u32 (ibits .or .u32 (shl .u32 (W32 a) 24) (shl .u32 (W32 b) 16)) (shl .u32 (W32 c) 8)) (W32 d)
theorem word_ok (a : Option Addr) (b0 b1 b2 b3 : UInt8) (c : Nat) : Trip Tryz.prog 311 [.slice a 4 c] (BIn a [b0, b1, b2, b3]) [] (X := Unit) (fun _ => .int .u32 (wordI b0.toNat b1.toNat b2.toNat b3.toNat)) (fun _ => []) := by
  refine Trip.start (n := 25) Tryz.func311 (by kernel_rfl) rfl rfl rfl ?_
  intro F w hD
  have hT : Tells (([] : List Assn) ++ [F]) (BIn a [b0, b1, b2, b3]) := Tells.frame (by repeat (first | exact Pick.here | apply Pick.there)) (fun _ _ => SlIn.mono) hD
  refine JL.fact (Tells.shape (k := 1) hT (by simp)) ?_
  rintro ⟨b, off, rfl⟩
  have hc : ∀ i (hi : i < 4), Tells (([] : List Assn) ++ [F]) (CellsAt b (off + i * 1) [bval ([b0, b1, b2, b3][i]'hi)]) := fun i hi p hp => BIn.cell (l := [b0, b1, b2, b3]) i hi p (hT p hp)
  repeat (refine JL.flat ?_)
  refine JL.go 200 ?_
  repeat (refine JL.flat ?_)
  refine JL.draws (by kernel_rfl) (fun hR => ?_)
  refine Ord.on hR 200 ?_
  refine Ord.idx 0 hR NP.nop rfl rfl rfl rfl rfl rfl rfl rfl rfl (by omega) ?_
  refine Ord.load hR NP.nop rfl rfl rfl rfl rfl rfl rfl (hc 0 (by omega)) rfl rfl ?_
  refine Ord.on hR 200 ?_
  refine Ord.idx 1 hR NP.nop rfl rfl rfl rfl rfl rfl rfl rfl rfl (by omega) ?_
  refine Ord.load hR NP.nop rfl rfl rfl rfl rfl rfl rfl (hc 1 (by omega)) rfl rfl ?_
  refine Ord.on hR 200 ?_
  refine Ord.idx 2 hR NP.nop rfl rfl rfl rfl rfl rfl rfl rfl rfl (by omega) ?_
  refine Ord.load hR NP.nop rfl rfl rfl rfl rfl rfl rfl (hc 2 (by omega)) rfl rfl ?_
  refine Ord.on hR 200 ?_
  refine Ord.idx 3 hR NP.nop rfl rfl rfl rfl rfl rfl rfl rfl rfl (by omega) ?_
  refine Ord.load hR NP.nop rfl rfl rfl rfl rfl rfl rfl (hc 3 (by omega)) rfl rfl ?_
  refine Ord.on hR 200 ?_
  repeat (refine JL.flat ?_)
  refine JL.ret ?_
  repeat (first | refine At.then_ret ?_ | refine At.block_ret ?_)
  refine At.done1 rfl (()) rfl ?_
  exact (Gives.sound (by repeat (first | exact Gives.nil | (apply Gives.cons; · repeat (first | exact Pick.here | apply Pick.there)))))
end Go.Ent
namespace Go.Ent
open Go Go.Proofs
def uV (x : Int) : Value := .int .u32 x
def uL (l : List Int) : List Value := l.map uV
def xorI (a b : Int) : Int := ibits .xor .u32 a b
def nextW (blk : List UInt8) (ws : List Int) (t : Nat) : Int :=
  if t < 16 then wordI (blk.getD (4 * t) 0).toNat (blk.getD (4 * t + 1) 0).toNat (blk.getD (4 * t + 2) 0).toNat (blk.getD (4 * t + 3) 0).toNat
  else W32 (W32 (W32 (ws.getD (t - 16) 0 + xorI (xorI (turnI (ws.getD (t - 15) 0) 7) (turnI (ws.getD (t - 15) 0) 18)) (shr .u32 (ws.getD (t - 15) 0) 3)) + ws.getD (t - 7) 0)
    + xorI (xorI (turnI (ws.getD (t - 2) 0) 17) (turnI (ws.getD (t - 2) 0) 19)) (shr .u32 (ws.getD (t - 2) 0) 10))
def spr (blk : List UInt8) : Nat → List Int
  | 0 => []
  | t + 1 => spr blk t ++ [nextW blk (spr blk t) t]
theorem spr_length (blk : List UInt8) : ∀ t, (spr blk t).length = t
  | 0 => rfl
  | t + 1 => by simp [spr, spr_length blk t]
/-- what the words' block holds behind t rounds. -/
def spC (blk : List UInt8) (t : Nat) : List Value := uL (spr blk t) ++ List.replicate (64 - t) (uV 0)
theorem spC_length (blk : List UInt8) {t : Nat} (h : t ≤ 64) : (spC blk t).length = 64 := by simp [spC, uL, spr_length]; omega
theorem spC_get (blk : List UInt8) {t j : Nat} (hj : j < t) : (spC blk t)[j]? = some (uV ((spr blk t).getD j 0)) := by
  have h := spr_length blk t
  have hlt : j < (spr blk t).length := by omega
  simp [spC, uL, List.getElem?_append, h, hj, List.getD_eq_getElem?_getD, hlt]
theorem spC_set (blk : List UInt8) {t : Nat} (h : t < 64) : (spC blk t).set t (uV (nextW blk (spr blk t) t)) = spC blk (t + 1) := by
  unfold spC
  have hl := spr_length blk t
  have e : 64 - t = (64 - (t + 1)) + 1 := by omega
  rw [List.set_append_right _ _ (by simp [uL, hl]), e, List.replicate_succ]
  simp [uL, hl, spr]
theorem wrapSub {a b : Nat} (h : b ≤ a) (ha : a < 1000) : IntKind.i64.wrap ((a : Int) - (b : Int)) = ((a - b : Nat) : Int) := by
  rw [show (a : Int) - (b : Int) = ((a - b : Nat) : Int) by omega]
  exact wrapI (Nat.lt_of_lt_of_eq (Nat.lt_trans (show a - b < 1000 by omega) (by decide)) two63)
theorem wrapSmall {a : Nat} (ha : a < 100000) : IntKind.i64.wrap (a : Int) = (a : Int) := wrapI (Nat.lt_of_lt_of_eq (Nat.lt_trans ha (by decide)) two63)
set_option maxHeartbeats 800000 in
theorem spread_ok (blk : List UInt8) (hb : blk.length = 64) : Trip Tryz.prog 264 [.agg (bytesV blk).toArray] none_ [] (X := Unit) (fun _ => .agg (uL (spr blk 64)).toArray) (fun _ => []) := by
  refine Trip.start (n := 60) Tryz.func264 (by kernel_rfl) rfl rfl rfl ?_
  intro F w hD
  repeat (refine JL.flat ?_)
  refine JL.go 0 ?_
  refine Seq.eff rfl rfl (Ef.box rfl rfl) ?_
  intro b1
  refine Seq.eff rfl rfl (Ef.alloc tab_zero rfl rfl) ?_
  intro b2
  refine Seq.on 200 ?_
  repeat (refine JL.flat ?_)
  refine JL.go 0 ?_
  refine Seq.eff rfl rfl (Ef.alloc tab_zero rfl rfl) ?_
  intro b3
  refine Seq.on 200 ?_
  repeat (refine JL.flat ?_)
  refine JL.go 200 ?_
  repeat (refine JL.flat ?_)
  refine JL.block ?_
  refine JL.loop (X := {t : Nat // t ≤ 64}) ⟨0, by omega⟩ (fun t => [(1, ptrV b1), (2, ptrV b2), (3, ptrV b3), (7, .int .i64 (t.1 : Int))])
    (fun t => [pt b1 (.cells (bytesV blk).toArray 297 (0, 0)), pt b2 (.cells (uL (List.replicate 64 0)).toArray 409 (0, 0)), pt b3 (.cells (spC blk t.1).toArray 409 (0, 0)), F]) (fun t => 64 - t.1) ?_ ?_ ?_
  ·
    repeat (first | exact Sub.nil | refine Sub.cons rfl ?_)
  · exact (Gives.sound (by repeat (first | exact Gives.nil | (apply Gives.cons; · repeat (first | exact Pick.here | apply Pick.there)))))
  rintro ⟨t, ht⟩
  dsimp only
  repeat (refine JL.flat ?_)
  refine JL.go 200 ?_
  rcases Nat.lt_or_ge t 64 with hlt | hge
  · refine JL.set 8 (.bool true) rfl (congrArg Value.bool (by simp; omega)) ?_
    repeat (refine JL.flat ?_)
    refine JL.ifT rfl ?_
    try refine JL.skip ?_
    repeat (refine JL.flat ?_)
    refine JL.block ?_
    repeat (refine JL.flat ?_)
    refine JL.go 200 ?_
    repeat (refine JL.flat ?_)
    refine JL.go 200 ?_
    rcases Nat.lt_or_ge t 16 with h16 | h16
    · refine JL.set 11 (.bool true) rfl (congrArg Value.bool (by simp; omega)) ?_
      repeat (refine JL.flat ?_)
      refine JL.ifT rfl ?_
      try refine JL.skip ?_
      repeat (refine JL.flat ?_)
      refine JL.go 3 ?_
      refine Seq.set 14 (.int .i64 ((4 * t : Nat) : Int)) rfl (congrArg (Value.int .i64) (by rw [show (4 * (t : Int)) = ((4 * t : Nat) : Int) by omega]; exact wrapSmall (by omega))) ?_
      refine Seq.on 2 ?_
      refine Seq.set 16 (.int .i64 ((4 * t : Nat) : Int)) rfl (congrArg (Value.int .i64) (by rw [show (4 * (t : Int)) = ((4 * t : Nat) : Int) by omega]; exact wrapSmall (by omega))) ?_
      refine Seq.on 1 ?_
      refine Seq.set 17 (.int .i64 ((4 * t + 4 : Nat) : Int)) rfl (congrArg (Value.int .i64) (by rw [show (((4 * t : Nat) : Int) + 4) = ((4 * t + 4 : Nat) : Int) by omega]; exact wrapSmall (by omega))) ?_
      refine Seq.sliceArrB (4 * t) 4 rfl rfl rfl rfl rfl rfl rfl rfl rfl rfl rfl (by omega) (by omega) ?_
      refine Seq.on 200 ?_
      apply Seq.call (word_ok (some ⟨b1, 4 * t, none⟩) (blk.getD (4 * t) 0) (blk.getD (4 * t + 1) 0) (blk.getD (4 * t + 2) 0) (blk.getD (4 * t + 3) 0) _) rfl rfl rfl rfl rfl rfl
      ·
        repeat (first | exact Picks.nil | (apply Picks.cons; · repeat (first | exact Pick.here | apply Pick.there)))
      · exact Tells.pick (A := pt b1 _) (by repeat (first | exact Pick.here | apply Pick.there)) (fun _ _ => BIn.mono) (fun h hx => by rw [← take_four blk (by omega)]; exact BIn.of_pt (by omega) h hx)
      intro _
      refine Seq.idxArr t rfl rfl rfl rfl rfl rfl rfl (by omega) ?_
      refine Seq.set 20 (.pointer (some ⟨b3, t, none⟩)) rfl (by simp) ?_
      refine Seq.set 19 (uV (nextW blk (spr blk t) t)) rfl (by unfold nextW; rw [if_pos h16]; rfl) ?_
      refine Seq.storeAt rfl rfl rfl rfl rfl rfl rfl (by repeat (first | exact Pick.here | apply Pick.there)) rfl rfl (by rw [spC_length blk ht]; omega) ?_
      rw [spC_set blk hlt]
      refine Seq.on 200 ?_
      refine JL.exit ?_
      repeat (first | refine At.then_exit ?_ | refine At.block_pass rfl ?_)
      refine At.block_exit (At.then_normal (JL.at ?_))
      repeat (refine JL.flat ?_)
      refine JL.go 200 ?_
      refine JL.set 7 (.int .i64 ((t + 1 : Nat) : Int)) rfl (congrArg (Value.int .i64) (by rw [show (t : Int) + 1 = ((t + 1 : Nat) : Int) by omega]; exact wrapSmall (by omega))) ?_
      repeat (refine JL.flat ?_)
      refine JL.nil (At.then_normal ?_)
      refine At.again (X := {t : Nat // t ≤ 64}) (x := ⟨t, ht⟩) ⟨t + 1, by omega⟩ (by show 64 - (t + 1) < 64 - t; omega) (Sub.look ?_) ?_
      ·
        repeat (first | exact Sub.nil | refine Sub.cons rfl ?_)
      · exact (Gives.sound (by repeat (first | exact Gives.nil | (apply Gives.cons; · repeat (first | exact Pick.here | apply Pick.there)))))
    · refine JL.set 11 (.bool false) rfl (congrArg Value.bool (by simp; omega)) ?_
      repeat (refine JL.flat ?_)
      refine JL.ifF rfl ?_
      try refine JL.skip ?_
      repeat (refine JL.flat ?_)
      refine JL.draws (by kernel_rfl) (fun hR => ?_)
      refine Ord.on hR 200 ?_
      refine Ord.set 22 (.int .i64 ((t - 15 : Nat) : Int)) rfl (congrArg (Value.int .i64) (wrapSub (b := 15) (by omega) (by omega))) ?_
      refine Ord.idxArr (t - 15) hR NP.nop rfl rfl rfl rfl rfl rfl rfl rfl rfl (by omega) ?_
      refine Ord.set 23 (.pointer (some ⟨b3, t - 15, none⟩)) rfl (by simp) ?_
      refine Ord.loadAt _ hR NP.nop rfl rfl rfl rfl rfl rfl rfl rfl rfl (by repeat (first | exact Pick.here | apply Pick.there)) (spC_get blk (by omega)) ?_
      refine Ord.on hR 200 ?_
      refine Ord.set 26 (.int .i64 ((t - 2 : Nat) : Int)) rfl (congrArg (Value.int .i64) (wrapSub (b := 2) (by omega) (by omega))) ?_
      refine Ord.idxArr (t - 2) hR NP.nop rfl rfl rfl rfl rfl rfl rfl rfl rfl (by omega) ?_
      refine Ord.set 27 (.pointer (some ⟨b3, t - 2, none⟩)) rfl (by simp) ?_
      refine Ord.loadAt _ hR NP.nop rfl rfl rfl rfl rfl rfl rfl rfl rfl (by repeat (first | exact Pick.here | apply Pick.there)) (spC_get blk (by omega)) ?_
      refine Ord.on hR 200 ?_
      repeat (refine JL.flat ?_)
      refine JL.draw ([0, 1, 2, 3, 4, 5, 7, 10, 11, 14, 15, 16, 17, 19, 21, 24, 25, 6, 8, 9, 12, 13, 18, 20, 22, 23, 26, 27, 28, 29]) (by kernel_rfl) (fun hR => ?_)
      refine Ord.on hR 200 ?_
      refine Ord.set 31 (.int .i64 ((t - 16 : Nat) : Int)) rfl (congrArg (Value.int .i64) (wrapSub (b := 16) (by omega) (by omega))) ?_
      refine Ord.idxArr (t - 16) hR NP.nop rfl rfl rfl rfl rfl rfl rfl rfl rfl (by omega) ?_
      refine Ord.set 32 (.pointer (some ⟨b3, t - 16, none⟩)) rfl (by simp) ?_
      refine Ord.loadAt _ hR NP.nop rfl rfl rfl rfl rfl rfl rfl rfl rfl (by repeat (first | exact Pick.here | apply Pick.there)) (spC_get blk (by omega)) ?_
      refine Ord.on hR 200 ?_
      refine Ord.set 44 (.int .i64 ((t - 7 : Nat) : Int)) rfl (congrArg (Value.int .i64) (wrapSub (b := 7) (by omega) (by omega))) ?_
      refine Ord.idxArr (t - 7) hR NP.nop rfl rfl rfl rfl rfl rfl rfl rfl rfl (by omega) ?_
      refine Ord.set 45 (.pointer (some ⟨b3, t - 7, none⟩)) rfl (by simp) ?_
      refine Ord.loadAt _ hR NP.nop rfl rfl rfl rfl rfl rfl rfl rfl rfl (by repeat (first | exact Pick.here | apply Pick.there)) (spC_get blk (by omega)) ?_
      refine Ord.on hR 200 ?_
      apply Ord.call (turn_7 _) hR rfl rfl rfl rfl rfl rfl rfl rfl
      ·
        repeat (first | exact Picks.nil | (apply Picks.cons; · repeat (first | exact Pick.here | apply Pick.there)))
      · exact Tells.none
      · intro _
        repeat (first | exact Keep.nil | (refine Keep.loadAt rfl rfl rfl rfl rfl (by repeat (first | exact Pick.here | apply Pick.there)) (spC_get blk (by omega)) ?_))
      intro _
      refine Ord.on hR 200 ?_
      apply Ord.call (turn_18 _) hR rfl rfl rfl rfl rfl rfl rfl rfl
      ·
        repeat (first | exact Picks.nil | (apply Picks.cons; · repeat (first | exact Pick.here | apply Pick.there)))
      · exact Tells.none
      · intro _
        repeat (first | exact Keep.nil | (refine Keep.loadAt rfl rfl rfl rfl rfl (by repeat (first | exact Pick.here | apply Pick.there)) (spC_get blk (by omega)) ?_))
      intro _
      refine Ord.on hR 200 ?_
      apply Ord.call (turn_17 _) hR rfl rfl rfl rfl rfl rfl rfl rfl
      ·
        repeat (first | exact Picks.nil | (apply Picks.cons; · repeat (first | exact Pick.here | apply Pick.there)))
      · exact Tells.none
      · intro _
        repeat (first | exact Keep.nil | (refine Keep.loadAt rfl rfl rfl rfl rfl (by repeat (first | exact Pick.here | apply Pick.there)) (spC_get blk (by omega)) ?_))
      intro _
      refine Ord.on hR 200 ?_
      apply Ord.call (turn_19 _) hR rfl rfl rfl rfl rfl rfl rfl rfl
      ·
        repeat (first | exact Picks.nil | (apply Picks.cons; · repeat (first | exact Pick.here | apply Pick.there)))
      · exact Tells.none
      · intro _
        repeat (first | exact Keep.nil | (refine Keep.loadAt rfl rfl rfl rfl rfl (by repeat (first | exact Pick.here | apply Pick.there)) (spC_get blk (by omega)) ?_))
      intro _
      refine Ord.on hR 200 ?_
      refine Ord.idxArr t hR NP.nop rfl rfl rfl rfl rfl rfl rfl rfl rfl (by omega) ?_
      refine Ord.set 57 (.pointer (some ⟨b3, t, none⟩)) rfl (by simp) ?_
      refine Ord.set 56 (uV (nextW blk (spr blk t) t)) rfl (by unfold nextW; rw [if_neg (by omega)]; rfl) ?_
      refine Ord.storeAt hR rfl rfl rfl rfl rfl rfl rfl rfl rfl (by repeat (first | exact Pick.here | apply Pick.there)) rfl rfl (by rw [spC_length blk ht]; omega) ?_ ?_
      · repeat (first | exact Keep.nil | (refine Keep.waits (by kernel_rfl) ?_))
      rw [spC_set blk hlt]
      refine Ord.on hR 200 ?_
      repeat (refine JL.flat ?_)
      refine JL.nil (At.block_normal (At.then_normal (JL.at ?_)))
      repeat (refine JL.flat ?_)
      refine JL.go 200 ?_
      refine JL.set 7 (.int .i64 ((t + 1 : Nat) : Int)) rfl (congrArg (Value.int .i64) (by rw [show (t : Int) + 1 = ((t + 1 : Nat) : Int) by omega]; exact wrapSmall (by omega))) ?_
      repeat (refine JL.flat ?_)
      refine JL.nil (At.then_normal ?_)
      refine At.again (X := {t : Nat // t ≤ 64}) (x := ⟨t, ht⟩) ⟨t + 1, by omega⟩ (by show 64 - (t + 1) < 64 - t; omega) (Sub.look ?_) ?_
      ·
        repeat (first | exact Sub.nil | refine Sub.cons rfl ?_)
      · exact (Gives.sound (by repeat (first | exact Gives.nil | (apply Gives.cons; · repeat (first | exact Pick.here | apply Pick.there)))))
  · obtain rfl : t = 64 := by omega
    repeat (refine JL.flat ?_)
    refine JL.ifF rfl ?_
    try refine JL.skip ?_
    repeat (refine JL.flat ?_)
    refine JL.exit ?_
    repeat (first | refine At.then_exit ?_ | refine At.block_pass rfl ?_)
    refine At.block_exit (At.then_normal (JL.at ?_))
    repeat (refine JL.flat ?_)
    refine JL.go 0 ?_
    refine Seq.loadAll rfl rfl rfl rfl rfl rfl (by repeat (first | exact Pick.here | apply Pick.there)) (by simpa using spC_length blk (t := 64) (by omega)) ?_
    have he : spC blk 64 = uL (spr blk 64) := by simp [spC]
    simp only [he]
    have hl64 := spr_length blk 64
    generalize spr blk 64 = ws at hl64 ⊢
    refine Seq.storeAll rfl rfl rfl rfl rfl rfl (by repeat (first | exact Pick.here | apply Pick.there)) (by simp [Value.cells, uL, hl64]) (fun u hu => by simp [Value.cells, uL] at hu; obtain ⟨x, _, rfl⟩ := hu; rfl) (by simp [uL]) ?_
    refine Seq.on 200 ?_
    refine JL.ret (At.doneC rfl () rfl rfl (Tells.all (by repeat (first | exact Pick.here | apply Pick.there))) (by simp [Value.cells, uL, hl64]) rfl rfl ?_)
    exact (Gives.sound (by repeat (first | exact Gives.nil | (apply Gives.cons; · repeat (first | exact Pick.here | apply Pick.there)))))
end Go.Ent
namespace Go.Ent
open Go Go.Proofs
def constL : List Int := [1116352408, 1899447441, 3049323471, 3921009573, 961987163, 1508970993, 2453635748, 2870763221, 3624381080, 310598401, 607225278, 1426881987, 1925078388, 2162078206, 2614888103, 3248222580, 3835390401, 4022224774, 264347078, 604807628, 770255983, 1249150122, 1555081692, 1996064986, 2554220882, 2821834349, 2952996808, 3210313671, 3336571891, 3584528711, 113926993, 338241895, 666307205, 773529912, 1294757372, 1396182291, 1695183700, 1986661051, 2177026350, 2456956037, 2730485921, 2820302411, 3259730800, 3345764771, 3516065817, 3600352804, 4094571909, 275423344, 430227734, 506948616, 659060556, 883997877, 958139571, 1322822218, 1537002063, 1747873779, 1955562222, 2024104815, 2227730452, 2361852424, 2428436474, 2756734187, 3204031479, 3329325298]
def initL : List Int := [1779033703, 3144134277, 1013904242, 2773480762, 1359893119, 2600822924, 528734635, 1541459225]
/-- what the package's variables hold. -/
def Glob : Assn := fun h => CellsAt 1 0 (uL constL) h ∧ CellsAt 0 0 (uL initL) h
theorem Glob.mono {h k : Part} (hk : Part.le h k) (x : Glob h) : Glob k := ⟨x.1.mono hk, x.2.mono hk⟩
theorem sub_uL {l : List Int} {i : Nat} (h : i < l.length) : Ent.sub (uL l) i 1 = [uV l[i]] := by
  unfold Ent.sub uL
  rw [← List.map_drop, ← List.map_take, List.drop_eq_getElem_cons h]
  rfl
theorem Glob.const (t : Nat) (ht : t < 64) (h : Part) (x : Glob h) : CellsAt 1 t [uV (constL.getD t 0)] h := by
  have := x.1.sub t 1
  have hl : constL.length = 64 := rfl
  rw [sub_uL (by omega), Nat.zero_add] at this
  simpa [hl, ht] using this
structure S8 where
  a : Int
  b : Int
  c : Int
  d : Int
  e : Int
  f : Int
  g : Int
  h : Int
def S8.l (s : S8) : List Int := [s.a, s.b, s.c, s.d, s.e, s.f, s.g, s.h]
def andI (a b : Int) : Int := ibits .and .u32 a b
def notI (a : Int) : Int := ibits .xor .u32 IntKind.u32.max a
def pI (s : S8) (K w : Int) : Int := W32 (W32 (W32 (W32 (s.h + xorI (xorI (turnI s.e 6) (turnI s.e 11)) (turnI s.e 25)) + xorI (andI s.e s.f) (andI (notI s.e) s.g)) + K) + w)
def qI (s : S8) : Int := W32 (xorI (xorI (turnI s.a 2) (turnI s.a 13)) (turnI s.a 22) + xorI (xorI (andI s.a s.b) (andI s.a s.c)) (andI s.b s.c))
def stepS (s : S8) (K w : Int) : S8 := ⟨W32 (pI s K w + qI s), s.a, s.b, s.c, W32 (s.d + pI s K w), s.e, s.f, s.g⟩
def itS (s0 : S8) (ws : List Int) : Nat → S8
  | 0 => s0
  | t + 1 => stepS (itS s0 ws t) (constL.getD t 0) (ws.getD t 0)
def addS (s t : S8) : S8 := ⟨W32 (s.a + t.a), W32 (s.b + t.b), W32 (s.c + t.c), W32 (s.d + t.d), W32 (s.e + t.e), W32 (s.f + t.f), W32 (s.g + t.g), W32 (s.h + t.h)⟩
def comp (s0 : S8) (blk : List UInt8) : S8 := addS (itS s0 (spr blk 64) 64) s0
def mixS (s t : S8) : Nat → List Int
  | 0 => s.l
  | k + 1 => (addS s t).l.take (k + 1) ++ s.l.drop (k + 1)
set_option maxHeartbeats 800000 in
theorem Compress_ok (s0 : S8) (blk : List UInt8) (hb : blk.length = 64) : Trip Tryz.prog 196 [.agg (uL s0.l).toArray, .agg (bytesV blk).toArray] Glob [] (X := Unit) (fun _ => .agg (uL (comp s0 blk).l).toArray) (fun _ => []) := by
  refine Trip.start (n := 110) Tryz.func196 (by kernel_rfl) rfl rfl rfl ?_
  intro F w hD
  repeat (refine JL.flat ?_)
  refine JL.go 0 ?_
  refine Seq.eff rfl rfl (Ef.box rfl rfl) ?_
  intro b2
  refine Seq.eff rfl rfl (Ef.box rfl rfl) ?_
  intro b3
  refine Seq.eff rfl rfl (Ef.alloc tab_zero rfl rfl) ?_
  intro b4
  refine Seq.on 200 ?_
  repeat (refine JL.flat ?_)
  refine JL.go 0 ?_
  refine Seq.loadAll rfl rfl rfl rfl rfl rfl (by repeat (first | exact Pick.here | apply Pick.there)) rfl ?_
  refine Seq.eff rfl rfl (Ef.alloc tab_zero rfl rfl) ?_
  intro b5
  refine Seq.storeAll rfl rfl rfl rfl rfl rfl (by repeat (first | exact Pick.here | apply Pick.there)) rfl (fun u hu => by simp [Value.cells, uL, S8.l] at hu; rcases hu with rfl | rfl | rfl | rfl | rfl | rfl | rfl | rfl <;> rfl) rfl ?_
  refine Seq.on 200 ?_
  repeat (refine JL.flat ?_)
  refine JL.go 0 ?_
  refine Seq.loadAll rfl rfl rfl rfl rfl rfl (by repeat (first | exact Pick.here | apply Pick.there)) (by simp [Value.cells, bytesV, hb]) ?_
  apply Seq.call (spread_ok blk hb) rfl rfl rfl rfl rfl rfl
  ·
    repeat (first | exact Picks.nil | (apply Picks.cons; · repeat (first | exact Pick.here | apply Pick.there)))
  · exact Tells.none
  intro _
  refine Seq.on 200 ?_
  have hwl := spr_length blk 64
  unfold comp
  generalize spr blk 64 = ws at hwl ⊢
  repeat (refine JL.flat ?_)
  refine JL.block ?_
  refine JL.loop (X := {t : Nat // t ≤ 64}) ⟨0, by omega⟩ (fun t => [(2, ptrV b2), (4, ptrV b4), (5, ptrV b5), (19, .agg (uL ws).toArray), (20, .int .i64 (t.1 : Int))])
    (fun t => [pt b2 (.cells (uL s0.l).toArray 343 (0, 0)), pt b4 (.cells (uL (List.replicate 8 0)).toArray 343 (0, 0)), pt b5 (.cells (uL (itS s0 ws t.1).l).toArray 343 (0, 0)), F]) (fun t => 64 - t.1) ?_ ?_ ?_
  ·
    repeat (first | exact Sub.nil | refine Sub.cons rfl ?_)
  · exact (Gives.sound (by repeat (first | exact Gives.nil | (apply Gives.cons; · repeat (first | exact Pick.here | apply Pick.there)))))
  rintro ⟨t, ht⟩
  dsimp only
  repeat (refine JL.flat ?_)
  refine JL.go 200 ?_
  rcases Nat.lt_or_ge t 64 with hlt | hge
  · refine JL.set 21 (.bool true) rfl (congrArg Value.bool (by simp; omega)) ?_
    repeat (refine JL.flat ?_)
    refine JL.ifT rfl ?_
    try refine JL.skip ?_
    repeat (refine JL.flat ?_)
    refine JL.block ?_
    repeat (refine JL.flat ?_)
    refine JL.go 200 ?_
    refine Seq.index t (uV (ws.getD t 0)) rfl rfl rfl rfl rfl rfl rfl rfl rfl hlt (by simp [uL, hwl, hlt]) ?_
    refine Seq.on 200 ?_
    have hst : itS s0 ws (t + 1) = stepS (itS s0 ws t) (constL.getD t 0) (ws.getD t 0) := rfl
    generalize ws.getD t 0 = wt at hst ⊢
    have hKF : ∀ h, F h → CellsAt 1 t [uV (constL.getD t 0)] h := fun h hF => Glob.const t hlt h (hD h hF)
    generalize constL.getD t 0 = K at hst hKF
    generalize itS s0 ws t = s at hst ⊢
    repeat (refine JL.flat ?_)
    refine JL.draws (by kernel_rfl) (fun hR => ?_)
    refine Ord.on hR 200 ?_
    refine Ord.idxArr 0 hR NP.nop rfl rfl rfl rfl rfl rfl rfl rfl rfl (by omega) ?_
    refine Ord.loadAt _ hR NP.nop rfl rfl rfl rfl rfl rfl rfl rfl rfl (by repeat (first | exact Pick.here | apply Pick.there)) rfl ?_
    refine Ord.idxArr 1 hR NP.nop rfl rfl rfl rfl rfl rfl rfl rfl rfl (by omega) ?_
    refine Ord.loadAt _ hR NP.nop rfl rfl rfl rfl rfl rfl rfl rfl rfl (by repeat (first | exact Pick.here | apply Pick.there)) rfl ?_
    refine Ord.idxArr 2 hR NP.nop rfl rfl rfl rfl rfl rfl rfl rfl rfl (by omega) ?_
    refine Ord.loadAt _ hR NP.nop rfl rfl rfl rfl rfl rfl rfl rfl rfl (by repeat (first | exact Pick.here | apply Pick.there)) rfl ?_
    refine Ord.idxArr 4 hR NP.nop rfl rfl rfl rfl rfl rfl rfl rfl rfl (by omega) ?_
    refine Ord.loadAt _ hR NP.nop rfl rfl rfl rfl rfl rfl rfl rfl rfl (by repeat (first | exact Pick.here | apply Pick.there)) rfl ?_
    refine Ord.idxArr 5 hR NP.nop rfl rfl rfl rfl rfl rfl rfl rfl rfl (by omega) ?_
    refine Ord.loadAt _ hR NP.nop rfl rfl rfl rfl rfl rfl rfl rfl rfl (by repeat (first | exact Pick.here | apply Pick.there)) rfl ?_
    refine Ord.idxArr 6 hR NP.nop rfl rfl rfl rfl rfl rfl rfl rfl rfl (by omega) ?_
    refine Ord.loadAt _ hR NP.nop rfl rfl rfl rfl rfl rfl rfl rfl rfl (by repeat (first | exact Pick.here | apply Pick.there)) rfl ?_
    refine Ord.on hR 200 ?_
    repeat (refine JL.flat ?_)
    refine JL.draw ([0, 1, 2, 4, 7, 11, 12, 13, 14, 15, 16, 17, 18, 20, 21, 22, 24, 3, 5, 6, 8, 9, 10, 19, 23, 25, 26]) (by kernel_rfl) (fun hR => ?_)
    refine Ord.on hR 200 ?_
    refine Ord.idxArr 7 hR NP.nop rfl rfl rfl rfl rfl rfl rfl rfl rfl (by omega) ?_
    refine Ord.loadAt _ hR NP.nop rfl rfl rfl rfl rfl rfl rfl rfl rfl (by repeat (first | exact Pick.here | apply Pick.there)) rfl ?_
    refine Ord.on hR 200 ?_
    refine Ord.idxArr t hR NP.nop rfl rfl rfl rfl rfl rfl rfl rfl rfl hlt ?_
    refine Ord.set 57 (.pointer (some ⟨1, t, none⟩)) rfl (by simp) ?_
    refine Ord.load hR NP.nop rfl rfl rfl rfl rfl rfl rfl (Tells.frame (by repeat (first | exact Pick.here | apply Pick.there)) (fun _ _ => CellsAt.mono) hKF) rfl rfl ?_
    refine Ord.on hR 200 ?_
    apply Ord.call (turn_6 _) hR rfl rfl rfl rfl rfl rfl rfl rfl
    ·
      repeat (first | exact Picks.nil | (apply Picks.cons; · repeat (first | exact Pick.here | apply Pick.there)))
    · exact Tells.none
    · intro _
      exact Keep.loadT rfl rfl rfl (Tells.frame (by repeat (first | exact Pick.here | apply Pick.there)) (fun _ _ => CellsAt.mono) hKF) rfl rfl (Keep.loadAt rfl rfl rfl rfl rfl (by repeat (first | exact Pick.here | apply Pick.there)) rfl Keep.nil)
    intro _
    refine Ord.on hR 200 ?_
    apply Ord.call (turn_11 _) hR rfl rfl rfl rfl rfl rfl rfl rfl
    ·
      repeat (first | exact Picks.nil | (apply Picks.cons; · repeat (first | exact Pick.here | apply Pick.there)))
    · exact Tells.none
    · intro _
      exact Keep.loadT rfl rfl rfl (Tells.frame (by repeat (first | exact Pick.here | apply Pick.there)) (fun _ _ => CellsAt.mono) hKF) rfl rfl (Keep.loadAt rfl rfl rfl rfl rfl (by repeat (first | exact Pick.here | apply Pick.there)) rfl Keep.nil)
    intro _
    refine Ord.on hR 200 ?_
    apply Ord.call (turn_25 _) hR rfl rfl rfl rfl rfl rfl rfl rfl
    ·
      repeat (first | exact Picks.nil | (apply Picks.cons; · repeat (first | exact Pick.here | apply Pick.there)))
    · exact Tells.none
    · intro _
      exact Keep.loadT rfl rfl rfl (Tells.frame (by repeat (first | exact Pick.here | apply Pick.there)) (fun _ _ => CellsAt.mono) hKF) rfl rfl (Keep.loadAt rfl rfl rfl rfl rfl (by repeat (first | exact Pick.here | apply Pick.there)) rfl Keep.nil)
    intro _
    refine Ord.on hR 200 ?_
    refine JL.set 14 (uV (pI s K wt)) rfl rfl ?_
    repeat (refine JL.flat ?_)
    refine JL.go 200 ?_
    apply Seq.call (turn_2 _) rfl rfl rfl rfl rfl rfl
    ·
      repeat (first | exact Picks.nil | (apply Picks.cons; · repeat (first | exact Pick.here | apply Pick.there)))
    · exact Tells.none
    intro _
    refine Seq.on 200 ?_
    apply Seq.call (turn_13 _) rfl rfl rfl rfl rfl rfl
    ·
      repeat (first | exact Picks.nil | (apply Picks.cons; · repeat (first | exact Pick.here | apply Pick.there)))
    · exact Tells.none
    intro _
    refine Seq.on 200 ?_
    apply Seq.call (turn_22 _) rfl rfl rfl rfl rfl rfl
    ·
      repeat (first | exact Picks.nil | (apply Picks.cons; · repeat (first | exact Pick.here | apply Pick.there)))
    · exact Tells.none
    intro _
    refine Seq.on 200 ?_
    refine JL.set 15 (uV (qI s)) rfl rfl ?_
    repeat (refine JL.flat ?_)
    refine JL.go 200 ?_
    refine Seq.idxArr 3 rfl rfl rfl rfl rfl rfl rfl (by omega) ?_
    refine Seq.loadAt _ rfl rfl rfl rfl rfl rfl rfl (by repeat (first | exact Pick.here | apply Pick.there)) rfl ?_
    refine Seq.on 200 ?_
    refine Seq.buildArr (out := uL (stepS s K wt).l) rfl rfl rfl rfl rfl rfl rfl (by rfl) ?_
    refine Seq.storeAll rfl rfl rfl rfl rfl rfl (by repeat (first | exact Pick.here | apply Pick.there)) rfl (fun u hu => by simp [Value.cells, uL, S8.l] at hu; rcases hu with rfl | rfl | rfl | rfl | rfl | rfl | rfl | rfl <;> rfl) rfl ?_
    refine Seq.on 200 ?_
    repeat (refine JL.flat ?_)
    refine JL.nil (At.block_normal (At.then_normal (JL.at ?_)))
    repeat (refine JL.flat ?_)
    refine JL.go 200 ?_
    refine JL.set 20 (.int .i64 ((t + 1 : Nat) : Int)) rfl (congrArg (Value.int .i64) (by rw [show (t : Int) + 1 = ((t + 1 : Nat) : Int) by omega]; exact wrapSmall (by omega))) ?_
    repeat (refine JL.flat ?_)
    refine JL.nil (At.then_normal ?_)
    refine At.again (X := {t : Nat // t ≤ 64}) (x := ⟨t, ht⟩) ⟨t + 1, by omega⟩ (by show 64 - (t + 1) < 64 - t; omega) (Sub.look ?_) ?_
    ·
      repeat (first | exact Sub.nil | refine Sub.cons rfl ?_)
    · dsimp only
      rw [hst]
      exact (Gives.sound (by repeat (first | exact Gives.nil | (apply Gives.cons; · repeat (first | exact Pick.here | apply Pick.there)))))
  · obtain rfl : t = 64 := by omega
    repeat (refine JL.flat ?_)
    refine JL.ifF rfl ?_
    try refine JL.skip ?_
    repeat (refine JL.flat ?_)
    refine JL.exit ?_
    repeat (first | refine At.then_exit ?_ | refine At.block_pass rfl ?_)
    refine At.block_exit (At.then_normal (JL.at ?_))
    generalize itS s0 ws 64 = s
    repeat (refine JL.flat ?_)
    refine JL.go 200 ?_
    repeat (refine JL.flat ?_)
    refine JL.block ?_
    refine JL.loop (X := {j : Nat // j ≤ 8}) ⟨0, by omega⟩ (fun j => [(2, ptrV b2), (4, ptrV b4), (5, ptrV b5), (97, .int .i64 (j.1 : Int))])
      (fun j => [pt b2 (.cells (uL s0.l).toArray 343 (0, 0)), pt b4 (.cells (uL (List.replicate 8 0)).toArray 343 (0, 0)), pt b5 (.cells (uL (mixS s s0 j.1)).toArray 343 (0, 0)), F]) (fun j => 8 - j.1) ?_ ?_ ?_
    ·
      repeat (first | exact Sub.nil | refine Sub.cons rfl ?_)
    · exact (Gives.sound (by repeat (first | exact Gives.nil | (apply Gives.cons; · repeat (first | exact Pick.here | apply Pick.there)))))
    rintro ⟨j, hj⟩
    rcases (show j = 8 ∨ j = 0 ∨ j = 1 ∨ j = 2 ∨ j = 3 ∨ j = 4 ∨ j = 5 ∨ j = 6 ∨ j = 7 by omega) with rfl | rfl | rfl | rfl | rfl | rfl | rfl | rfl | rfl
    ·
      repeat (refine JL.flat ?_)
      refine JL.go 200 ?_
      repeat (refine JL.flat ?_)
      refine JL.ifF rfl ?_
      try refine JL.skip ?_
      repeat (refine JL.flat ?_)
      refine JL.exit ?_
      repeat (first | refine At.then_exit ?_ | refine At.block_pass rfl ?_)
      refine At.block_exit (At.then_normal (JL.at ?_))
      repeat (refine JL.flat ?_)
      refine JL.go 0 ?_
      refine Seq.loadAll rfl rfl rfl rfl rfl rfl (by repeat (first | exact Pick.here | apply Pick.there)) rfl ?_
      refine Seq.storeAll rfl rfl rfl rfl rfl rfl (by repeat (first | exact Pick.here | apply Pick.there)) rfl (fun u hu => by simp [Value.cells, uL, S8.l, mixS, addS] at hu; rcases hu with rfl | rfl | rfl | rfl | rfl | rfl | rfl | rfl <;> rfl) rfl ?_
      refine Seq.on 200 ?_
      refine JL.ret (At.doneC rfl () rfl rfl (Tells.all (by repeat (first | exact Pick.here | apply Pick.there))) rfl rfl rfl ?_)
      exact (Gives.sound (by repeat (first | exact Gives.nil | (apply Gives.cons; · repeat (first | exact Pick.here | apply Pick.there)))))
    ·
      repeat (refine JL.flat ?_)
      refine JL.go 200 ?_
      repeat (refine JL.flat ?_)
      refine JL.ifT rfl ?_
      try refine JL.skip ?_
      repeat (refine JL.flat ?_)
      refine JL.block ?_
      repeat (refine JL.flat ?_)
      refine JL.go 200 ?_
      repeat (refine JL.flat ?_)
      refine JL.draws (by kernel_rfl) (fun hR => ?_)
      refine Ord.on hR 200 ?_
      refine Ord.idxArr 0 hR NP.nop rfl rfl rfl rfl rfl rfl rfl rfl rfl (by omega) ?_
      refine Ord.loadAt _ hR NP.nop rfl rfl rfl rfl rfl rfl rfl rfl rfl (by repeat (first | exact Pick.here | apply Pick.there)) rfl ?_
      refine Ord.on hR 200 ?_
      refine Ord.idxArr 0 hR NP.nop rfl rfl rfl rfl rfl rfl rfl rfl rfl (by omega) ?_
      refine Ord.loadAt _ hR NP.nop rfl rfl rfl rfl rfl rfl rfl rfl rfl (by repeat (first | exact Pick.here | apply Pick.there)) rfl ?_
      refine Ord.on hR 200 ?_
      refine Ord.idxArr 0 hR NP.nop rfl rfl rfl rfl rfl rfl rfl rfl rfl (by omega) ?_
      refine Ord.storeAt hR rfl rfl rfl rfl rfl rfl rfl rfl rfl (by repeat (first | exact Pick.here | apply Pick.there)) rfl rfl (Nat.le_of_ble_eq_true rfl) ?_ ?_
      · repeat (first | exact Keep.nil | (refine Keep.waits (by kernel_rfl) ?_))
      refine Ord.on hR 200 ?_
      repeat (refine JL.flat ?_)
      refine JL.nil (At.block_normal (At.then_normal (JL.at ?_)))
      repeat (refine JL.flat ?_)
      refine JL.go 200 ?_
      repeat (refine JL.flat ?_)
      refine JL.nil (At.then_normal ?_)
      refine At.again (X := {j : Nat // j ≤ 8}) (x := ⟨0, hj⟩) ⟨0 + 1, by omega⟩ (by show 8 - (0 + 1) < 8 - 0; omega) (Sub.look ?_) ?_
      ·
        repeat (first | exact Sub.nil | refine Sub.cons rfl ?_)
      · exact (Gives.sound (by repeat (first | exact Gives.nil | (apply Gives.cons; · repeat (first | exact Pick.here | apply Pick.there)))))
    ·
      repeat (refine JL.flat ?_)
      refine JL.go 200 ?_
      repeat (refine JL.flat ?_)
      refine JL.ifT rfl ?_
      try refine JL.skip ?_
      repeat (refine JL.flat ?_)
      refine JL.block ?_
      repeat (refine JL.flat ?_)
      refine JL.go 200 ?_
      repeat (refine JL.flat ?_)
      refine JL.draws (by kernel_rfl) (fun hR => ?_)
      refine Ord.on hR 200 ?_
      refine Ord.idxArr 1 hR NP.nop rfl rfl rfl rfl rfl rfl rfl rfl rfl (by omega) ?_
      refine Ord.loadAt _ hR NP.nop rfl rfl rfl rfl rfl rfl rfl rfl rfl (by repeat (first | exact Pick.here | apply Pick.there)) rfl ?_
      refine Ord.on hR 200 ?_
      refine Ord.idxArr 1 hR NP.nop rfl rfl rfl rfl rfl rfl rfl rfl rfl (by omega) ?_
      refine Ord.loadAt _ hR NP.nop rfl rfl rfl rfl rfl rfl rfl rfl rfl (by repeat (first | exact Pick.here | apply Pick.there)) rfl ?_
      refine Ord.on hR 200 ?_
      refine Ord.idxArr 1 hR NP.nop rfl rfl rfl rfl rfl rfl rfl rfl rfl (by omega) ?_
      refine Ord.storeAt hR rfl rfl rfl rfl rfl rfl rfl rfl rfl (by repeat (first | exact Pick.here | apply Pick.there)) rfl rfl (Nat.le_of_ble_eq_true rfl) ?_ ?_
      · repeat (first | exact Keep.nil | (refine Keep.waits (by kernel_rfl) ?_))
      refine Ord.on hR 200 ?_
      repeat (refine JL.flat ?_)
      refine JL.nil (At.block_normal (At.then_normal (JL.at ?_)))
      repeat (refine JL.flat ?_)
      refine JL.go 200 ?_
      repeat (refine JL.flat ?_)
      refine JL.nil (At.then_normal ?_)
      refine At.again (X := {j : Nat // j ≤ 8}) (x := ⟨1, hj⟩) ⟨1 + 1, by omega⟩ (by show 8 - (1 + 1) < 8 - 1; omega) (Sub.look ?_) ?_
      ·
        repeat (first | exact Sub.nil | refine Sub.cons rfl ?_)
      · exact (Gives.sound (by repeat (first | exact Gives.nil | (apply Gives.cons; · repeat (first | exact Pick.here | apply Pick.there)))))
    ·
      repeat (refine JL.flat ?_)
      refine JL.go 200 ?_
      repeat (refine JL.flat ?_)
      refine JL.ifT rfl ?_
      try refine JL.skip ?_
      repeat (refine JL.flat ?_)
      refine JL.block ?_
      repeat (refine JL.flat ?_)
      refine JL.go 200 ?_
      repeat (refine JL.flat ?_)
      refine JL.draws (by kernel_rfl) (fun hR => ?_)
      refine Ord.on hR 200 ?_
      refine Ord.idxArr 2 hR NP.nop rfl rfl rfl rfl rfl rfl rfl rfl rfl (by omega) ?_
      refine Ord.loadAt _ hR NP.nop rfl rfl rfl rfl rfl rfl rfl rfl rfl (by repeat (first | exact Pick.here | apply Pick.there)) rfl ?_
      refine Ord.on hR 200 ?_
      refine Ord.idxArr 2 hR NP.nop rfl rfl rfl rfl rfl rfl rfl rfl rfl (by omega) ?_
      refine Ord.loadAt _ hR NP.nop rfl rfl rfl rfl rfl rfl rfl rfl rfl (by repeat (first | exact Pick.here | apply Pick.there)) rfl ?_
      refine Ord.on hR 200 ?_
      refine Ord.idxArr 2 hR NP.nop rfl rfl rfl rfl rfl rfl rfl rfl rfl (by omega) ?_
      refine Ord.storeAt hR rfl rfl rfl rfl rfl rfl rfl rfl rfl (by repeat (first | exact Pick.here | apply Pick.there)) rfl rfl (Nat.le_of_ble_eq_true rfl) ?_ ?_
      · repeat (first | exact Keep.nil | (refine Keep.waits (by kernel_rfl) ?_))
      refine Ord.on hR 200 ?_
      repeat (refine JL.flat ?_)
      refine JL.nil (At.block_normal (At.then_normal (JL.at ?_)))
      repeat (refine JL.flat ?_)
      refine JL.go 200 ?_
      repeat (refine JL.flat ?_)
      refine JL.nil (At.then_normal ?_)
      refine At.again (X := {j : Nat // j ≤ 8}) (x := ⟨2, hj⟩) ⟨2 + 1, by omega⟩ (by show 8 - (2 + 1) < 8 - 2; omega) (Sub.look ?_) ?_
      ·
        repeat (first | exact Sub.nil | refine Sub.cons rfl ?_)
      · exact (Gives.sound (by repeat (first | exact Gives.nil | (apply Gives.cons; · repeat (first | exact Pick.here | apply Pick.there)))))
    ·
      repeat (refine JL.flat ?_)
      refine JL.go 200 ?_
      repeat (refine JL.flat ?_)
      refine JL.ifT rfl ?_
      try refine JL.skip ?_
      repeat (refine JL.flat ?_)
      refine JL.block ?_
      repeat (refine JL.flat ?_)
      refine JL.go 200 ?_
      repeat (refine JL.flat ?_)
      refine JL.draws (by kernel_rfl) (fun hR => ?_)
      refine Ord.on hR 200 ?_
      refine Ord.idxArr 3 hR NP.nop rfl rfl rfl rfl rfl rfl rfl rfl rfl (by omega) ?_
      refine Ord.loadAt _ hR NP.nop rfl rfl rfl rfl rfl rfl rfl rfl rfl (by repeat (first | exact Pick.here | apply Pick.there)) rfl ?_
      refine Ord.on hR 200 ?_
      refine Ord.idxArr 3 hR NP.nop rfl rfl rfl rfl rfl rfl rfl rfl rfl (by omega) ?_
      refine Ord.loadAt _ hR NP.nop rfl rfl rfl rfl rfl rfl rfl rfl rfl (by repeat (first | exact Pick.here | apply Pick.there)) rfl ?_
      refine Ord.on hR 200 ?_
      refine Ord.idxArr 3 hR NP.nop rfl rfl rfl rfl rfl rfl rfl rfl rfl (by omega) ?_
      refine Ord.storeAt hR rfl rfl rfl rfl rfl rfl rfl rfl rfl (by repeat (first | exact Pick.here | apply Pick.there)) rfl rfl (Nat.le_of_ble_eq_true rfl) ?_ ?_
      · repeat (first | exact Keep.nil | (refine Keep.waits (by kernel_rfl) ?_))
      refine Ord.on hR 200 ?_
      repeat (refine JL.flat ?_)
      refine JL.nil (At.block_normal (At.then_normal (JL.at ?_)))
      repeat (refine JL.flat ?_)
      refine JL.go 200 ?_
      repeat (refine JL.flat ?_)
      refine JL.nil (At.then_normal ?_)
      refine At.again (X := {j : Nat // j ≤ 8}) (x := ⟨3, hj⟩) ⟨3 + 1, by omega⟩ (by show 8 - (3 + 1) < 8 - 3; omega) (Sub.look ?_) ?_
      ·
        repeat (first | exact Sub.nil | refine Sub.cons rfl ?_)
      · exact (Gives.sound (by repeat (first | exact Gives.nil | (apply Gives.cons; · repeat (first | exact Pick.here | apply Pick.there)))))
    ·
      repeat (refine JL.flat ?_)
      refine JL.go 200 ?_
      repeat (refine JL.flat ?_)
      refine JL.ifT rfl ?_
      try refine JL.skip ?_
      repeat (refine JL.flat ?_)
      refine JL.block ?_
      repeat (refine JL.flat ?_)
      refine JL.go 200 ?_
      repeat (refine JL.flat ?_)
      refine JL.draws (by kernel_rfl) (fun hR => ?_)
      refine Ord.on hR 200 ?_
      refine Ord.idxArr 4 hR NP.nop rfl rfl rfl rfl rfl rfl rfl rfl rfl (by omega) ?_
      refine Ord.loadAt _ hR NP.nop rfl rfl rfl rfl rfl rfl rfl rfl rfl (by repeat (first | exact Pick.here | apply Pick.there)) rfl ?_
      refine Ord.on hR 200 ?_
      refine Ord.idxArr 4 hR NP.nop rfl rfl rfl rfl rfl rfl rfl rfl rfl (by omega) ?_
      refine Ord.loadAt _ hR NP.nop rfl rfl rfl rfl rfl rfl rfl rfl rfl (by repeat (first | exact Pick.here | apply Pick.there)) rfl ?_
      refine Ord.on hR 200 ?_
      refine Ord.idxArr 4 hR NP.nop rfl rfl rfl rfl rfl rfl rfl rfl rfl (by omega) ?_
      refine Ord.storeAt hR rfl rfl rfl rfl rfl rfl rfl rfl rfl (by repeat (first | exact Pick.here | apply Pick.there)) rfl rfl (Nat.le_of_ble_eq_true rfl) ?_ ?_
      · repeat (first | exact Keep.nil | (refine Keep.waits (by kernel_rfl) ?_))
      refine Ord.on hR 200 ?_
      repeat (refine JL.flat ?_)
      refine JL.nil (At.block_normal (At.then_normal (JL.at ?_)))
      repeat (refine JL.flat ?_)
      refine JL.go 200 ?_
      repeat (refine JL.flat ?_)
      refine JL.nil (At.then_normal ?_)
      refine At.again (X := {j : Nat // j ≤ 8}) (x := ⟨4, hj⟩) ⟨4 + 1, by omega⟩ (by show 8 - (4 + 1) < 8 - 4; omega) (Sub.look ?_) ?_
      ·
        repeat (first | exact Sub.nil | refine Sub.cons rfl ?_)
      · exact (Gives.sound (by repeat (first | exact Gives.nil | (apply Gives.cons; · repeat (first | exact Pick.here | apply Pick.there)))))
    ·
      repeat (refine JL.flat ?_)
      refine JL.go 200 ?_
      repeat (refine JL.flat ?_)
      refine JL.ifT rfl ?_
      try refine JL.skip ?_
      repeat (refine JL.flat ?_)
      refine JL.block ?_
      repeat (refine JL.flat ?_)
      refine JL.go 200 ?_
      repeat (refine JL.flat ?_)
      refine JL.draws (by kernel_rfl) (fun hR => ?_)
      refine Ord.on hR 200 ?_
      refine Ord.idxArr 5 hR NP.nop rfl rfl rfl rfl rfl rfl rfl rfl rfl (by omega) ?_
      refine Ord.loadAt _ hR NP.nop rfl rfl rfl rfl rfl rfl rfl rfl rfl (by repeat (first | exact Pick.here | apply Pick.there)) rfl ?_
      refine Ord.on hR 200 ?_
      refine Ord.idxArr 5 hR NP.nop rfl rfl rfl rfl rfl rfl rfl rfl rfl (by omega) ?_
      refine Ord.loadAt _ hR NP.nop rfl rfl rfl rfl rfl rfl rfl rfl rfl (by repeat (first | exact Pick.here | apply Pick.there)) rfl ?_
      refine Ord.on hR 200 ?_
      refine Ord.idxArr 5 hR NP.nop rfl rfl rfl rfl rfl rfl rfl rfl rfl (by omega) ?_
      refine Ord.storeAt hR rfl rfl rfl rfl rfl rfl rfl rfl rfl (by repeat (first | exact Pick.here | apply Pick.there)) rfl rfl (Nat.le_of_ble_eq_true rfl) ?_ ?_
      · repeat (first | exact Keep.nil | (refine Keep.waits (by kernel_rfl) ?_))
      refine Ord.on hR 200 ?_
      repeat (refine JL.flat ?_)
      refine JL.nil (At.block_normal (At.then_normal (JL.at ?_)))
      repeat (refine JL.flat ?_)
      refine JL.go 200 ?_
      repeat (refine JL.flat ?_)
      refine JL.nil (At.then_normal ?_)
      refine At.again (X := {j : Nat // j ≤ 8}) (x := ⟨5, hj⟩) ⟨5 + 1, by omega⟩ (by show 8 - (5 + 1) < 8 - 5; omega) (Sub.look ?_) ?_
      ·
        repeat (first | exact Sub.nil | refine Sub.cons rfl ?_)
      · exact (Gives.sound (by repeat (first | exact Gives.nil | (apply Gives.cons; · repeat (first | exact Pick.here | apply Pick.there)))))
    ·
      repeat (refine JL.flat ?_)
      refine JL.go 200 ?_
      repeat (refine JL.flat ?_)
      refine JL.ifT rfl ?_
      try refine JL.skip ?_
      repeat (refine JL.flat ?_)
      refine JL.block ?_
      repeat (refine JL.flat ?_)
      refine JL.go 200 ?_
      repeat (refine JL.flat ?_)
      refine JL.draws (by kernel_rfl) (fun hR => ?_)
      refine Ord.on hR 200 ?_
      refine Ord.idxArr 6 hR NP.nop rfl rfl rfl rfl rfl rfl rfl rfl rfl (by omega) ?_
      refine Ord.loadAt _ hR NP.nop rfl rfl rfl rfl rfl rfl rfl rfl rfl (by repeat (first | exact Pick.here | apply Pick.there)) rfl ?_
      refine Ord.on hR 200 ?_
      refine Ord.idxArr 6 hR NP.nop rfl rfl rfl rfl rfl rfl rfl rfl rfl (by omega) ?_
      refine Ord.loadAt _ hR NP.nop rfl rfl rfl rfl rfl rfl rfl rfl rfl (by repeat (first | exact Pick.here | apply Pick.there)) rfl ?_
      refine Ord.on hR 200 ?_
      refine Ord.idxArr 6 hR NP.nop rfl rfl rfl rfl rfl rfl rfl rfl rfl (by omega) ?_
      refine Ord.storeAt hR rfl rfl rfl rfl rfl rfl rfl rfl rfl (by repeat (first | exact Pick.here | apply Pick.there)) rfl rfl (Nat.le_of_ble_eq_true rfl) ?_ ?_
      · repeat (first | exact Keep.nil | (refine Keep.waits (by kernel_rfl) ?_))
      refine Ord.on hR 200 ?_
      repeat (refine JL.flat ?_)
      refine JL.nil (At.block_normal (At.then_normal (JL.at ?_)))
      repeat (refine JL.flat ?_)
      refine JL.go 200 ?_
      repeat (refine JL.flat ?_)
      refine JL.nil (At.then_normal ?_)
      refine At.again (X := {j : Nat // j ≤ 8}) (x := ⟨6, hj⟩) ⟨6 + 1, by omega⟩ (by show 8 - (6 + 1) < 8 - 6; omega) (Sub.look ?_) ?_
      ·
        repeat (first | exact Sub.nil | refine Sub.cons rfl ?_)
      · exact (Gives.sound (by repeat (first | exact Gives.nil | (apply Gives.cons; · repeat (first | exact Pick.here | apply Pick.there)))))
    ·
      repeat (refine JL.flat ?_)
      refine JL.go 200 ?_
      repeat (refine JL.flat ?_)
      refine JL.ifT rfl ?_
      try refine JL.skip ?_
      repeat (refine JL.flat ?_)
      refine JL.block ?_
      repeat (refine JL.flat ?_)
      refine JL.go 200 ?_
      repeat (refine JL.flat ?_)
      refine JL.draws (by kernel_rfl) (fun hR => ?_)
      refine Ord.on hR 200 ?_
      refine Ord.idxArr 7 hR NP.nop rfl rfl rfl rfl rfl rfl rfl rfl rfl (by omega) ?_
      refine Ord.loadAt _ hR NP.nop rfl rfl rfl rfl rfl rfl rfl rfl rfl (by repeat (first | exact Pick.here | apply Pick.there)) rfl ?_
      refine Ord.on hR 200 ?_
      refine Ord.idxArr 7 hR NP.nop rfl rfl rfl rfl rfl rfl rfl rfl rfl (by omega) ?_
      refine Ord.loadAt _ hR NP.nop rfl rfl rfl rfl rfl rfl rfl rfl rfl (by repeat (first | exact Pick.here | apply Pick.there)) rfl ?_
      refine Ord.on hR 200 ?_
      refine Ord.idxArr 7 hR NP.nop rfl rfl rfl rfl rfl rfl rfl rfl rfl (by omega) ?_
      refine Ord.storeAt hR rfl rfl rfl rfl rfl rfl rfl rfl rfl (by repeat (first | exact Pick.here | apply Pick.there)) rfl rfl (Nat.le_of_ble_eq_true rfl) ?_ ?_
      · repeat (first | exact Keep.nil | (refine Keep.waits (by kernel_rfl) ?_))
      refine Ord.on hR 200 ?_
      repeat (refine JL.flat ?_)
      refine JL.nil (At.block_normal (At.then_normal (JL.at ?_)))
      repeat (refine JL.flat ?_)
      refine JL.go 200 ?_
      repeat (refine JL.flat ?_)
      refine JL.nil (At.then_normal ?_)
      refine At.again (X := {j : Nat // j ≤ 8}) (x := ⟨7, hj⟩) ⟨7 + 1, by omega⟩ (by show 8 - (7 + 1) < 8 - 7; omega) (Sub.look ?_) ?_
      ·
        repeat (first | exact Sub.nil | refine Sub.cons rfl ?_)
      · exact (Gives.sound (by repeat (first | exact Gives.nil | (apply Gives.cons; · repeat (first | exact Pick.here | apply Pick.there)))))
end Go.Ent
namespace Go.Ent
open Go Go.Proofs
section
variable {P : Program} {n : Nat} {ds : Fz} {w0 : World} {E : Env} {G : List Assn} {Q : Exit → Act → World → Prop}
theorem wpL_ro {ds ds' : Fz} (h : ds.ro = ds'.ro) (cs : List Code) : wpL ds P Q cs = wpL ds' P Q cs := by
  have : fen ds = fen ds' := by simp [fen, h]
  induction cs with
  | nil => rfl
  | cons c cs ih => simp only [wpL, this, ih]
theorem JL.at' {ds' : Fz} {cs : List Code} (hr : ds.ro = ds'.ro) (h : JL P n ds w0 E G Q cs) : At n ds w0 E G (wpL ds' P Q cs) := by rw [← wpL_ro hr]; exact h.at
theorem Trip.startM {f : FuncId} {fn : Func} {c : Code} {args : List Value} {D : Assn} {A : List Assn} {X : Type} {r : X → Value} {B : X → List Assn}
    (hf : P.funcs[f]? = some fn) (hn : (fn.name == "runtime.NumGoroutine") = false) (hb : fn.body = some c) (hk : fn.ntmps = n) (hle : Nat.ble args.length n = true)
    (h : ∀ (F : Assn) (w : World), (∀ h, F h → D h) → JL P n fz0 w (envOf 0 args) (A ++ [F]) (bodyPostM (fen fz0) 0 P fn fun e w' => ∃ x, e = .returned (r x) ∧ St w (B x ++ [F]) w') [c]) :
    Trip P f args D A r B := Trip.introM hf hn hb hk hle fun F w hD => (h F w hD).start
end
theorem At.doneMC {n : Nat} {w0 : World} {E : Env} {G : List Assn} {fn : Func} {q : Nat} {p : Tmp} {ty : TypeId} {i : TI} {b off : Nat} {cs : List Value} {v1 : Value} {X : Type} {r : X → Value} {B : X → List Assn} {F : Assn} {G' : List Assn} (hr : fn.results = #[.cell p ty]) (x : X) (pk : Pick (pt q (.deferred (some []))) G G')
    (hp : look E p = some (.pointer (some ⟨b, off, none⟩))) (ht : tab ty = some i) (hT : Tells (pt q (.deferred none) :: G') (CellsAt b off cs)) (hl : cs.length = i.size) (hv1 : valOf (aggK i.k) cs = some v1) (hv : v1 = r x)
    (hG : ∀ h, sep (pt q (.deferred none) :: G') h → sep (B x ++ [F]) h) :
    At n ⟨[{ target := .collected q, args := #[] }], none⟩ w0 E G (bodyPostM (fen fz0) 0 Tryz.prog fn (fun e w' => ∃ x, e = .returned (r x) ∧ St w0 (B x ++ [F]) w') .ret) := At.doneM x pk (fun a w ha hw => by
  have := run_loadVar_cells (P := Tryz.prog) tab_ok ht (hT _ hw.sep) hl hv1
  simp [results, hr, ha.get p _ hp, asAddr, this, hv]) hG
def init8 : S8 := ⟨initL.getD 0 0, initL.getD 1 0, initL.getD 2 0, initL.getD 3 0, initL.getD 4 0, initL.getD 5 0, initL.getD 6 0, initL.getD 7 0⟩
def stB (l : List UInt8) : Nat → S8
  | 0 => init8
  | i + 1 => comp (stB l i) (chunkAt l 64 i)
def oct (x : Int) : UInt8 := UInt8.ofNat (IntKind.u8.wrap x).toNat
theorem oct_val (x : Int) : Value.int .u8 (IntKind.u8.wrap x) = bval (oct x) := by
  have h : 0 ≤ IntKind.u8.wrap x ∧ IntKind.u8.wrap x < 256 := by
    simp only [IntKind.wrap, IntKind.signed, IntKind.bits, Bool.false_and, Bool.false_eq_true, if_false]
    omega
  unfold bval oct
  congr 1
  rw [UInt8.toNat_ofNat', Nat.mod_eq_of_lt (by omega)]
  omega
def wB (x : Int) : List UInt8 := [oct (shr .u32 x 24), oct (shr .u32 x 16), oct (shr .u32 x 8), oct x]
def hashMix (s : S8) (j : Nat) : List UInt8 := (s.l.take j).flatMap wB ++ List.replicate (32 - 4 * j) 0
/-- a text's hash. -/
def sumB (l : List UInt8) : List UInt8 := (stB (padB l) (chunks (padB l) 64)).l.flatMap wB
theorem sumB_length (l : List UInt8) : (sumB l).length = 32 := by simp [sumB, S8.l, wB]
theorem Sum_ok (a : Option Addr) (l : List UInt8) (c : Nat) (hl : l.length ≤ 10000000) : Trip Tryz.prog 107 [.slice a l.length c] (fun h => Glob h ∧ BIn a l h) [] (X := Unit) (fun _ => .agg (bytesV (sumB l)).toArray) (fun _ => []) := by
  refine Trip.startM (n := 41) Tryz.func107 (by kernel_rfl) rfl rfl rfl ?_
  intro F w hD
  have hFG : ∀ h, F h → Glob h := fun h hF => (hD h hF).1
  have hFB : ∀ h, F h → BIn a l h := fun h hF => (hD h hF).2
  repeat (refine JL.flat ?_)
  refine JL.go 0 ?_
  refine Seq.eff rfl rfl (Ef.alloc tab_zero rfl rfl) ?_
  intro b2
  refine Seq.on 200 ?_
  repeat (refine JL.flat ?_)
  refine JL.go 0 ?_
  refine Seq.load (cs := uL initL) rfl rfl rfl rfl rfl (Tells.frame (by repeat (first | exact Pick.here | apply Pick.there)) (fun _ _ => CellsAt.mono) (fun h hF => (hFG h hF).2)) rfl rfl ?_
  refine Seq.eff rfl rfl (Ef.alloc tab_zero rfl rfl) ?_
  intro b3
  refine Seq.storeAll rfl rfl rfl rfl rfl rfl (by repeat (first | exact Pick.here | apply Pick.there)) rfl (fun u hu => by simp [Value.cells, uL, initL] at hu; rcases hu with rfl | rfl | rfl | rfl | rfl | rfl | rfl | rfl <;> rfl) rfl ?_
  refine Seq.on 200 ?_
  repeat (refine JL.flat ?_)
  refine JL.go 200 ?_
  apply Seq.call (Pad_ok a l c hl) rfl rfl rfl rfl rfl rfl
  ·
    repeat (first | exact Picks.nil | (apply Picks.cons; · repeat (first | exact Pick.here | apply Pick.there)))
  · exact Tells.frame (by repeat (first | exact Pick.here | apply Pick.there)) (fun _ _ => SlIn.mono) hFB
  intro r
  have hPl := padB_length l
  have hPm := padB_mod l
  have hz : zerosN l.length < 64 := by unfold zerosN; omega
  apply Seq.call (Chunk_ok r.1 (padB l).length r.2 64 (by omega)) rfl rfl rfl rfl rfl rfl
  ·
    repeat (first | exact Picks.nil | (apply Picks.cons; · repeat (first | exact Pick.here | apply Pick.there)))
  · exact Tells.none
  intro rc
  refine Seq.on 200 ?_
  unfold sumB
  generalize padB l = PB at hPl hPm ⊢
  refine JL.fact (p := PB.length ≤ r.2) (fun h hs => ?_) (fun hcap => ?_)
  · have hs1 := (Gives.sound (L := [BOwn r PB]) (by repeat (first | exact Gives.nil | (apply Gives.cons; · repeat (first | exact Pick.here | apply Pick.there))))) h hs
    obtain ⟨_, _, _, _, _, hb, _⟩ := hs1
    exact hb.2.1
  have hch : ∀ i, i < chunks PB 64 → (chunkAt PB 64 i).length = 64 := fun i hi => by
    have := (lt_chunks (l := PB) (sz := 64) (by omega)).1 hi
    rw [chunkAt_length]; omega
  repeat (refine JL.flat ?_)
  refine JL.block ?_
  refine JL.of (J.rangeFunc (cap := [ptrV rc.1, ptrV rc.2]) rfl rfl (Chunk1_iter rc.1 rc.2 r.1 PB r.2 64 (by omega) hcap (by omega) (by omega)) rfl (fun _ _ => rfl)
    (fun i => [pt b3 (.cells (uL (stB PB i).l).toArray 343 (0, 0)), BOwn r PB, pt b2 (.cells (bytesV (List.replicate 32 0)).toArray 70 (0, 0)), F]) [fun _ => False] none (fun _ h s => ?_) ?_
    (fun i y => [(3, ptrV b3), (4, .slice y (chunkAt PB 64 i).length (chunkAt PB 64 i).length)]) ?_ ?_ ?_ ?_)
  · obtain ⟨_, _, _, _, _, h, _⟩ := s
    exact h
  · exact (Gives.sound (by repeat (first | exact Gives.nil | (apply Gives.cons; · repeat (first | exact Pick.here | apply Pick.there)))))
  · intro i y l' G' w1
    refine JL.start ?_
    repeat (refine JL.flat ?_)
    refine JL.go 200 ?_
    refine JL.nil (At.then_normal ⟨fun a w ha hw => ⟨ha.weaken (Sub.look ?_), hw⟩⟩)
    repeat (first | exact Sub.nil | refine Sub.cons rfl ?_)
  · intro i hi y l' r' F' w1
    have hst : stB PB (i + 1) = comp (stB PB i) (chunkAt PB 64 i) := rfl
    have h64 := hch i hi
    rw [hst]
    generalize stB PB i = s
    refine JL.start ?_
    refine JL.know (p := ∀ p, BIn r.1 PB p → BIn y (chunkAt PB 64 i) p) (by repeat (first | exact Pick.here | apply Pick.there)) (fun hy => ?_)
    generalize hCe : chunkAt PB 64 i = C at h64 hy ⊢
    have hT0 : ∀ {G G' : List Assn}, Pick (BOwn r PB) G G' → Tells G (BIn y C) := fun p => Tells.pick p (fun _ _ => BIn.mono) (fun h hb => hy h (BOwn_BIn hb))
    refine JL.fact (Tells.shape (k := 1) (m := C.length) (a := y) (xs := bytesV C) (hT0 (by repeat (first | exact Pick.here | apply Pick.there))) (by omega)) ?_
    rintro ⟨b, off, rfl⟩
    have hT1 : ∀ {G G' : List Assn}, Pick (BOwn r PB) G G' → Tells G (CellsAt b off (bytesV C)) := fun p => Tells.at (hT0 p) (fun h hb => by
      obtain ⟨b', off', e', c'⟩ := SlIn.cells hb (by omega)
      cases e'
      exact c')
    repeat (refine JL.flat ?_)
    refine JL.block ?_
    repeat (refine JL.flat ?_)
    refine JL.draws (by kernel_rfl) (fun hR => ?_)
    refine Ord.on hR 200 ?_
    refine Ord.loadAll hR NP.nop rfl rfl rfl rfl rfl rfl rfl rfl (by repeat (first | exact Pick.here | apply Pick.there)) rfl ?_
    refine Ord.on hR 200 ?_
    refine Ord.s2ap hR NP.nop rfl rfl rfl rfl rfl rfl rfl (by omega) ?_
    refine Ord.load (cs := bytesV C) hR NP.nop rfl rfl rfl rfl rfl rfl rfl (hT1 (by repeat (first | exact Pick.here | apply Pick.there))) (by rw [bytesV_length, h64]) rfl ?_
    refine Ord.on hR 200 ?_
    apply Ord.call (Compress_ok s C h64) hR rfl rfl rfl rfl rfl rfl rfl rfl
    ·
      repeat (first | exact Picks.nil | (apply Picks.cons; · repeat (first | exact Pick.here | apply Pick.there)))
    · exact Tells.frame (by repeat (first | exact Pick.here | apply Pick.there)) (fun _ _ => Glob.mono) hFG
    · intro _
      repeat (first | exact Keep.nil | (refine Keep.waits (by kernel_rfl) ?_))
    intro _
    refine Ord.storeAll hR rfl rfl rfl rfl rfl rfl rfl rfl (by repeat (first | exact Pick.here | apply Pick.there)) rfl (fun u hu => by simp [Value.cells, uL, S8.l] at hu; rcases hu with rfl | rfl | rfl | rfl | rfl | rfl | rfl | rfl <;> rfl) rfl ?_ ?_
    · repeat (first | exact Keep.nil | (refine Keep.waits (by kernel_rfl) ?_))
    refine Ord.on hR 200 ?_
    refine JL.nil (At.block_normal (At.then_normal ⟨fun a w ha hw => ⟨?_, hw.same⟩⟩))
    refine (Gives.sound (by repeat (first | exact Gives.nil | (apply Gives.cons; · repeat (first | exact Pick.here | apply Pick.there))))) _ hw.sep
  · intro q l' k
    refine At.then_normal (At.block_normal (At.then_normal (JL.at' rfl ?_)))
    generalize stB PB (chunks PB 64) = s
    repeat (refine JL.flat ?_)
    refine JL.go 0 ?_
    refine Seq.eff rfl rfl (Ef.alloc tab_zero rfl rfl) ?_
    intro b5
    refine Seq.on 200 ?_
    repeat (refine JL.flat ?_)
    refine JL.go 0 ?_
    refine Seq.loadAll rfl rfl rfl rfl rfl rfl (by repeat (first | exact Pick.here | apply Pick.there)) rfl ?_
    refine Seq.on 200 ?_
    repeat (refine JL.flat ?_)
    refine JL.block ?_
    refine JL.loop (X := {j : Nat // j ≤ 8}) ⟨0, by omega⟩ (fun j => [(2, ptrV b2), (5, ptrV b5), (18, .agg (uL s.l).toArray), (19, .int .i64 (j.1 : Int))])
      (fun j => [pt b5 (.cells (bytesV (hashMix s j.1)).toArray 70 (0, 0)), pt b2 (.cells (bytesV (List.replicate 32 0)).toArray 70 (0, 0)), pt q (.deferred (some [])), F]) (fun j => 8 - j.1) ?_ ?_ ?_
    ·
      repeat (first | exact Sub.nil | refine Sub.cons rfl ?_)
    · exact (Gives.sound (by repeat (first | exact Gives.nil | (apply Gives.cons; · repeat (first | exact Pick.here | apply Pick.there)))))
    rintro ⟨j, hj⟩
    rcases (show j = 8 ∨ j = 0 ∨ j = 1 ∨ j = 2 ∨ j = 3 ∨ j = 4 ∨ j = 5 ∨ j = 6 ∨ j = 7 by omega) with rfl | rfl | rfl | rfl | rfl | rfl | rfl | rfl | rfl
    · dsimp only
      repeat (refine JL.flat ?_)
      refine JL.go 200 ?_
      repeat (refine JL.flat ?_)
      refine JL.ifF rfl ?_
      try refine JL.skip ?_
      repeat (refine JL.flat ?_)
      refine JL.exit ?_
      repeat (first | refine At.then_exit ?_ | refine At.block_pass rfl ?_)
      refine At.block_exit (At.then_normal (JL.at ?_))
      repeat (refine JL.flat ?_)
      refine JL.go 0 ?_
      refine Seq.loadAll rfl rfl rfl rfl rfl rfl (by repeat (first | exact Pick.here | apply Pick.there)) rfl ?_
      refine Seq.storeAll rfl rfl rfl rfl rfl rfl (by repeat (first | exact Pick.here | apply Pick.there)) rfl (Ones_bytesV _) rfl ?_
      refine Seq.on 200 ?_
      refine JL.ret (At.doneMC rfl () (by repeat (first | exact Pick.here | apply Pick.there)) rfl rfl (Tells.all (by repeat (first | exact Pick.here | apply Pick.there))) rfl rfl rfl ?_)
      exact (Gives.sound (by repeat (first | exact Gives.nil | (apply Gives.cons; · repeat (first | exact Pick.here | apply Pick.there)))))
    ·
      dsimp only
      repeat (refine JL.flat ?_)
      refine JL.go 200 ?_
      repeat (refine JL.flat ?_)
      refine JL.ifT rfl ?_
      try refine JL.skip ?_
      repeat (refine JL.flat ?_)
      refine JL.block ?_
      repeat (refine JL.flat ?_)
      refine JL.go 1 ?_
      refine Seq.index 0 _ rfl rfl rfl rfl rfl rfl rfl rfl rfl (by omega) rfl ?_
      refine Seq.on 200 ?_
      repeat (refine JL.flat ?_)
      refine JL.go 2 ?_
      refine Seq.sliceArrB (4 * 0) (32 - 4 * 0) rfl rfl rfl rfl rfl rfl rfl rfl rfl rfl rfl (by omega) (by omega) ?_
      refine Seq.on 3 ?_
      refine Seq.set 28 _ rfl (oct_val _) ?_
      refine Seq.on 3 ?_
      refine Seq.set 31 _ rfl (oct_val _) ?_
      refine Seq.on 3 ?_
      refine Seq.set 34 _ rfl (oct_val _) ?_
      refine Seq.on 2 ?_
      refine Seq.set 36 _ rfl (oct_val _) ?_
      refine Seq.bslice (out := (bytesV (wB _))) rfl rfl rfl rfl rfl rfl rfl rfl (by rfl) rfl (by rfl) ?_
      intro bs
      refine Seq.eff rfl rfl (Ef.copyB (ys := wB _) rfl rfl rfl rfl rfl (by repeat (first | exact Pick.here | apply Pick.there)) (Tells.own (by repeat (first | exact Pick.here | apply Pick.there))) (Nat.le_of_ble_eq_true rfl) (Nat.le_of_ble_eq_true rfl)) ?_
      intro _
      refine Seq.on 200 ?_
      repeat (refine JL.flat ?_)
      refine JL.nil (At.block_normal (At.then_normal (JL.at ?_)))
      repeat (refine JL.flat ?_)
      refine JL.go 200 ?_
      repeat (refine JL.flat ?_)
      refine JL.nil (At.then_normal ?_)
      refine At.again (X := {j : Nat // j ≤ 8}) (x := ⟨0, hj⟩) ⟨0 + 1, by omega⟩ (by show 8 - (0 + 1) < 8 - 0; omega) (Sub.look ?_) ?_
      ·
        repeat (first | exact Sub.nil | refine Sub.cons rfl ?_)
      · exact (Gives.sound (by repeat (first | exact Gives.nil | (apply Gives.cons; · repeat (first | exact Pick.here | apply Pick.there)))))
    ·
      dsimp only
      repeat (refine JL.flat ?_)
      refine JL.go 200 ?_
      repeat (refine JL.flat ?_)
      refine JL.ifT rfl ?_
      try refine JL.skip ?_
      repeat (refine JL.flat ?_)
      refine JL.block ?_
      repeat (refine JL.flat ?_)
      refine JL.go 1 ?_
      refine Seq.index 1 _ rfl rfl rfl rfl rfl rfl rfl rfl rfl (by omega) rfl ?_
      refine Seq.on 200 ?_
      repeat (refine JL.flat ?_)
      refine JL.go 2 ?_
      refine Seq.sliceArrB (4 * 1) (32 - 4 * 1) rfl rfl rfl rfl rfl rfl rfl rfl rfl rfl rfl (by omega) (by omega) ?_
      refine Seq.on 3 ?_
      refine Seq.set 28 _ rfl (oct_val _) ?_
      refine Seq.on 3 ?_
      refine Seq.set 31 _ rfl (oct_val _) ?_
      refine Seq.on 3 ?_
      refine Seq.set 34 _ rfl (oct_val _) ?_
      refine Seq.on 2 ?_
      refine Seq.set 36 _ rfl (oct_val _) ?_
      refine Seq.bslice (out := (bytesV (wB _))) rfl rfl rfl rfl rfl rfl rfl rfl (by rfl) rfl (by rfl) ?_
      intro bs
      refine Seq.eff rfl rfl (Ef.copyB (ys := wB _) rfl rfl rfl rfl rfl (by repeat (first | exact Pick.here | apply Pick.there)) (Tells.own (by repeat (first | exact Pick.here | apply Pick.there))) (Nat.le_of_ble_eq_true rfl) (Nat.le_of_ble_eq_true rfl)) ?_
      intro _
      refine Seq.on 200 ?_
      repeat (refine JL.flat ?_)
      refine JL.nil (At.block_normal (At.then_normal (JL.at ?_)))
      repeat (refine JL.flat ?_)
      refine JL.go 200 ?_
      repeat (refine JL.flat ?_)
      refine JL.nil (At.then_normal ?_)
      refine At.again (X := {j : Nat // j ≤ 8}) (x := ⟨1, hj⟩) ⟨1 + 1, by omega⟩ (by show 8 - (1 + 1) < 8 - 1; omega) (Sub.look ?_) ?_
      ·
        repeat (first | exact Sub.nil | refine Sub.cons rfl ?_)
      · exact (Gives.sound (by repeat (first | exact Gives.nil | (apply Gives.cons; · repeat (first | exact Pick.here | apply Pick.there)))))
    ·
      dsimp only
      repeat (refine JL.flat ?_)
      refine JL.go 200 ?_
      repeat (refine JL.flat ?_)
      refine JL.ifT rfl ?_
      try refine JL.skip ?_
      repeat (refine JL.flat ?_)
      refine JL.block ?_
      repeat (refine JL.flat ?_)
      refine JL.go 1 ?_
      refine Seq.index 2 _ rfl rfl rfl rfl rfl rfl rfl rfl rfl (by omega) rfl ?_
      refine Seq.on 200 ?_
      repeat (refine JL.flat ?_)
      refine JL.go 2 ?_
      refine Seq.sliceArrB (4 * 2) (32 - 4 * 2) rfl rfl rfl rfl rfl rfl rfl rfl rfl rfl rfl (by omega) (by omega) ?_
      refine Seq.on 3 ?_
      refine Seq.set 28 _ rfl (oct_val _) ?_
      refine Seq.on 3 ?_
      refine Seq.set 31 _ rfl (oct_val _) ?_
      refine Seq.on 3 ?_
      refine Seq.set 34 _ rfl (oct_val _) ?_
      refine Seq.on 2 ?_
      refine Seq.set 36 _ rfl (oct_val _) ?_
      refine Seq.bslice (out := (bytesV (wB _))) rfl rfl rfl rfl rfl rfl rfl rfl (by rfl) rfl (by rfl) ?_
      intro bs
      refine Seq.eff rfl rfl (Ef.copyB (ys := wB _) rfl rfl rfl rfl rfl (by repeat (first | exact Pick.here | apply Pick.there)) (Tells.own (by repeat (first | exact Pick.here | apply Pick.there))) (Nat.le_of_ble_eq_true rfl) (Nat.le_of_ble_eq_true rfl)) ?_
      intro _
      refine Seq.on 200 ?_
      repeat (refine JL.flat ?_)
      refine JL.nil (At.block_normal (At.then_normal (JL.at ?_)))
      repeat (refine JL.flat ?_)
      refine JL.go 200 ?_
      repeat (refine JL.flat ?_)
      refine JL.nil (At.then_normal ?_)
      refine At.again (X := {j : Nat // j ≤ 8}) (x := ⟨2, hj⟩) ⟨2 + 1, by omega⟩ (by show 8 - (2 + 1) < 8 - 2; omega) (Sub.look ?_) ?_
      ·
        repeat (first | exact Sub.nil | refine Sub.cons rfl ?_)
      · exact (Gives.sound (by repeat (first | exact Gives.nil | (apply Gives.cons; · repeat (first | exact Pick.here | apply Pick.there)))))
    ·
      dsimp only
      repeat (refine JL.flat ?_)
      refine JL.go 200 ?_
      repeat (refine JL.flat ?_)
      refine JL.ifT rfl ?_
      try refine JL.skip ?_
      repeat (refine JL.flat ?_)
      refine JL.block ?_
      repeat (refine JL.flat ?_)
      refine JL.go 1 ?_
      refine Seq.index 3 _ rfl rfl rfl rfl rfl rfl rfl rfl rfl (by omega) rfl ?_
      refine Seq.on 200 ?_
      repeat (refine JL.flat ?_)
      refine JL.go 2 ?_
      refine Seq.sliceArrB (4 * 3) (32 - 4 * 3) rfl rfl rfl rfl rfl rfl rfl rfl rfl rfl rfl (by omega) (by omega) ?_
      refine Seq.on 3 ?_
      refine Seq.set 28 _ rfl (oct_val _) ?_
      refine Seq.on 3 ?_
      refine Seq.set 31 _ rfl (oct_val _) ?_
      refine Seq.on 3 ?_
      refine Seq.set 34 _ rfl (oct_val _) ?_
      refine Seq.on 2 ?_
      refine Seq.set 36 _ rfl (oct_val _) ?_
      refine Seq.bslice (out := (bytesV (wB _))) rfl rfl rfl rfl rfl rfl rfl rfl (by rfl) rfl (by rfl) ?_
      intro bs
      refine Seq.eff rfl rfl (Ef.copyB (ys := wB _) rfl rfl rfl rfl rfl (by repeat (first | exact Pick.here | apply Pick.there)) (Tells.own (by repeat (first | exact Pick.here | apply Pick.there))) (Nat.le_of_ble_eq_true rfl) (Nat.le_of_ble_eq_true rfl)) ?_
      intro _
      refine Seq.on 200 ?_
      repeat (refine JL.flat ?_)
      refine JL.nil (At.block_normal (At.then_normal (JL.at ?_)))
      repeat (refine JL.flat ?_)
      refine JL.go 200 ?_
      repeat (refine JL.flat ?_)
      refine JL.nil (At.then_normal ?_)
      refine At.again (X := {j : Nat // j ≤ 8}) (x := ⟨3, hj⟩) ⟨3 + 1, by omega⟩ (by show 8 - (3 + 1) < 8 - 3; omega) (Sub.look ?_) ?_
      ·
        repeat (first | exact Sub.nil | refine Sub.cons rfl ?_)
      · exact (Gives.sound (by repeat (first | exact Gives.nil | (apply Gives.cons; · repeat (first | exact Pick.here | apply Pick.there)))))
    ·
      dsimp only
      repeat (refine JL.flat ?_)
      refine JL.go 200 ?_
      repeat (refine JL.flat ?_)
      refine JL.ifT rfl ?_
      try refine JL.skip ?_
      repeat (refine JL.flat ?_)
      refine JL.block ?_
      repeat (refine JL.flat ?_)
      refine JL.go 1 ?_
      refine Seq.index 4 _ rfl rfl rfl rfl rfl rfl rfl rfl rfl (by omega) rfl ?_
      refine Seq.on 200 ?_
      repeat (refine JL.flat ?_)
      refine JL.go 2 ?_
      refine Seq.sliceArrB (4 * 4) (32 - 4 * 4) rfl rfl rfl rfl rfl rfl rfl rfl rfl rfl rfl (by omega) (by omega) ?_
      refine Seq.on 3 ?_
      refine Seq.set 28 _ rfl (oct_val _) ?_
      refine Seq.on 3 ?_
      refine Seq.set 31 _ rfl (oct_val _) ?_
      refine Seq.on 3 ?_
      refine Seq.set 34 _ rfl (oct_val _) ?_
      refine Seq.on 2 ?_
      refine Seq.set 36 _ rfl (oct_val _) ?_
      refine Seq.bslice (out := (bytesV (wB _))) rfl rfl rfl rfl rfl rfl rfl rfl (by rfl) rfl (by rfl) ?_
      intro bs
      refine Seq.eff rfl rfl (Ef.copyB (ys := wB _) rfl rfl rfl rfl rfl (by repeat (first | exact Pick.here | apply Pick.there)) (Tells.own (by repeat (first | exact Pick.here | apply Pick.there))) (Nat.le_of_ble_eq_true rfl) (Nat.le_of_ble_eq_true rfl)) ?_
      intro _
      refine Seq.on 200 ?_
      repeat (refine JL.flat ?_)
      refine JL.nil (At.block_normal (At.then_normal (JL.at ?_)))
      repeat (refine JL.flat ?_)
      refine JL.go 200 ?_
      repeat (refine JL.flat ?_)
      refine JL.nil (At.then_normal ?_)
      refine At.again (X := {j : Nat // j ≤ 8}) (x := ⟨4, hj⟩) ⟨4 + 1, by omega⟩ (by show 8 - (4 + 1) < 8 - 4; omega) (Sub.look ?_) ?_
      ·
        repeat (first | exact Sub.nil | refine Sub.cons rfl ?_)
      · exact (Gives.sound (by repeat (first | exact Gives.nil | (apply Gives.cons; · repeat (first | exact Pick.here | apply Pick.there)))))
    ·
      dsimp only
      repeat (refine JL.flat ?_)
      refine JL.go 200 ?_
      repeat (refine JL.flat ?_)
      refine JL.ifT rfl ?_
      try refine JL.skip ?_
      repeat (refine JL.flat ?_)
      refine JL.block ?_
      repeat (refine JL.flat ?_)
      refine JL.go 1 ?_
      refine Seq.index 5 _ rfl rfl rfl rfl rfl rfl rfl rfl rfl (by omega) rfl ?_
      refine Seq.on 200 ?_
      repeat (refine JL.flat ?_)
      refine JL.go 2 ?_
      refine Seq.sliceArrB (4 * 5) (32 - 4 * 5) rfl rfl rfl rfl rfl rfl rfl rfl rfl rfl rfl (by omega) (by omega) ?_
      refine Seq.on 3 ?_
      refine Seq.set 28 _ rfl (oct_val _) ?_
      refine Seq.on 3 ?_
      refine Seq.set 31 _ rfl (oct_val _) ?_
      refine Seq.on 3 ?_
      refine Seq.set 34 _ rfl (oct_val _) ?_
      refine Seq.on 2 ?_
      refine Seq.set 36 _ rfl (oct_val _) ?_
      refine Seq.bslice (out := (bytesV (wB _))) rfl rfl rfl rfl rfl rfl rfl rfl (by rfl) rfl (by rfl) ?_
      intro bs
      refine Seq.eff rfl rfl (Ef.copyB (ys := wB _) rfl rfl rfl rfl rfl (by repeat (first | exact Pick.here | apply Pick.there)) (Tells.own (by repeat (first | exact Pick.here | apply Pick.there))) (Nat.le_of_ble_eq_true rfl) (Nat.le_of_ble_eq_true rfl)) ?_
      intro _
      refine Seq.on 200 ?_
      repeat (refine JL.flat ?_)
      refine JL.nil (At.block_normal (At.then_normal (JL.at ?_)))
      repeat (refine JL.flat ?_)
      refine JL.go 200 ?_
      repeat (refine JL.flat ?_)
      refine JL.nil (At.then_normal ?_)
      refine At.again (X := {j : Nat // j ≤ 8}) (x := ⟨5, hj⟩) ⟨5 + 1, by omega⟩ (by show 8 - (5 + 1) < 8 - 5; omega) (Sub.look ?_) ?_
      ·
        repeat (first | exact Sub.nil | refine Sub.cons rfl ?_)
      · exact (Gives.sound (by repeat (first | exact Gives.nil | (apply Gives.cons; · repeat (first | exact Pick.here | apply Pick.there)))))
    ·
      dsimp only
      repeat (refine JL.flat ?_)
      refine JL.go 200 ?_
      repeat (refine JL.flat ?_)
      refine JL.ifT rfl ?_
      try refine JL.skip ?_
      repeat (refine JL.flat ?_)
      refine JL.block ?_
      repeat (refine JL.flat ?_)
      refine JL.go 1 ?_
      refine Seq.index 6 _ rfl rfl rfl rfl rfl rfl rfl rfl rfl (by omega) rfl ?_
      refine Seq.on 200 ?_
      repeat (refine JL.flat ?_)
      refine JL.go 2 ?_
      refine Seq.sliceArrB (4 * 6) (32 - 4 * 6) rfl rfl rfl rfl rfl rfl rfl rfl rfl rfl rfl (by omega) (by omega) ?_
      refine Seq.on 3 ?_
      refine Seq.set 28 _ rfl (oct_val _) ?_
      refine Seq.on 3 ?_
      refine Seq.set 31 _ rfl (oct_val _) ?_
      refine Seq.on 3 ?_
      refine Seq.set 34 _ rfl (oct_val _) ?_
      refine Seq.on 2 ?_
      refine Seq.set 36 _ rfl (oct_val _) ?_
      refine Seq.bslice (out := (bytesV (wB _))) rfl rfl rfl rfl rfl rfl rfl rfl (by rfl) rfl (by rfl) ?_
      intro bs
      refine Seq.eff rfl rfl (Ef.copyB (ys := wB _) rfl rfl rfl rfl rfl (by repeat (first | exact Pick.here | apply Pick.there)) (Tells.own (by repeat (first | exact Pick.here | apply Pick.there))) (Nat.le_of_ble_eq_true rfl) (Nat.le_of_ble_eq_true rfl)) ?_
      intro _
      refine Seq.on 200 ?_
      repeat (refine JL.flat ?_)
      refine JL.nil (At.block_normal (At.then_normal (JL.at ?_)))
      repeat (refine JL.flat ?_)
      refine JL.go 200 ?_
      repeat (refine JL.flat ?_)
      refine JL.nil (At.then_normal ?_)
      refine At.again (X := {j : Nat // j ≤ 8}) (x := ⟨6, hj⟩) ⟨6 + 1, by omega⟩ (by show 8 - (6 + 1) < 8 - 6; omega) (Sub.look ?_) ?_
      ·
        repeat (first | exact Sub.nil | refine Sub.cons rfl ?_)
      · exact (Gives.sound (by repeat (first | exact Gives.nil | (apply Gives.cons; · repeat (first | exact Pick.here | apply Pick.there)))))
    ·
      dsimp only
      repeat (refine JL.flat ?_)
      refine JL.go 200 ?_
      repeat (refine JL.flat ?_)
      refine JL.ifT rfl ?_
      try refine JL.skip ?_
      repeat (refine JL.flat ?_)
      refine JL.block ?_
      repeat (refine JL.flat ?_)
      refine JL.go 1 ?_
      refine Seq.index 7 _ rfl rfl rfl rfl rfl rfl rfl rfl rfl (by omega) rfl ?_
      refine Seq.on 200 ?_
      repeat (refine JL.flat ?_)
      refine JL.go 2 ?_
      refine Seq.sliceArrB (4 * 7) (32 - 4 * 7) rfl rfl rfl rfl rfl rfl rfl rfl rfl rfl rfl (by omega) (by omega) ?_
      refine Seq.on 3 ?_
      refine Seq.set 28 _ rfl (oct_val _) ?_
      refine Seq.on 3 ?_
      refine Seq.set 31 _ rfl (oct_val _) ?_
      refine Seq.on 3 ?_
      refine Seq.set 34 _ rfl (oct_val _) ?_
      refine Seq.on 2 ?_
      refine Seq.set 36 _ rfl (oct_val _) ?_
      refine Seq.bslice (out := (bytesV (wB _))) rfl rfl rfl rfl rfl rfl rfl rfl (by rfl) rfl (by rfl) ?_
      intro bs
      refine Seq.eff rfl rfl (Ef.copyB (ys := wB _) rfl rfl rfl rfl rfl (by repeat (first | exact Pick.here | apply Pick.there)) (Tells.own (by repeat (first | exact Pick.here | apply Pick.there))) (Nat.le_of_ble_eq_true rfl) (Nat.le_of_ble_eq_true rfl)) ?_
      intro _
      refine Seq.on 200 ?_
      repeat (refine JL.flat ?_)
      refine JL.nil (At.block_normal (At.then_normal (JL.at ?_)))
      repeat (refine JL.flat ?_)
      refine JL.go 200 ?_
      repeat (refine JL.flat ?_)
      refine JL.nil (At.then_normal ?_)
      refine At.again (X := {j : Nat // j ≤ 8}) (x := ⟨7, hj⟩) ⟨7 + 1, by omega⟩ (by show 8 - (7 + 1) < 8 - 7; omega) (Sub.look ?_) ?_
      ·
        repeat (first | exact Sub.nil | refine Sub.cons rfl ?_)
      · exact (Gives.sound (by repeat (first | exact Gives.nil | (apply Gives.cons; · repeat (first | exact Pick.here | apply Pick.there)))))
  · intro r' l' k c' hc'
    cases hc'
end Go.Ent
namespace Go.Ent
open Go Go.Proofs
theorem Wr.new {p : Nat} (h : Part) (x : pt p (.cells #[.nilIface, .slice none 0 0] 275 (0, 0)) h) : Wr p .nilIface [] h :=
  ⟨(none, 0), star_mono (fun _ h => h) (fun _ h => sep_pure (SlOwn.nil _ _) h) (⟨h, fun _ => none, fun _ _ _ _ e => by simp at e, Part.le_refl _, fun _ _ e => by simp at e, x, trivial⟩ : star _ emp h)⟩
theorem Hash_ok (p : Nat) (e : Value) (out hs : List UInt8) (h32 : hs.length = 32) (hl : out.length ≤ 40000000) : Trip Tryz.prog 266 [ptrV p, .agg (bytesV hs).toArray] none_ [Wr p e out] (X := Unit) (fun _ => ptrV p) (fun _ => [Wr p e (out ++ hs)]) := by
  refine Trip.start (n := 8) Tryz.func266 (by kernel_rfl) rfl rfl rfl ?_
  intro F w hD
  repeat (refine JL.flat ?_)
  refine JL.go 0 ?_
  refine Seq.eff rfl rfl (Ef.box rfl rfl) ?_
  intro b
  refine Seq.on 200 ?_
  repeat (refine JL.flat ?_)
  refine JL.go 200 ?_
  refine Seq.sliceArrB 0 32 rfl rfl rfl rfl rfl rfl rfl rfl rfl rfl rfl (by omega) (by omega) ?_
  refine Seq.set 6 (.slice (some ⟨b, 0, none⟩) hs.length 32) rfl (by rw [h32]) ?_
  apply Seq.call (Raw_ok p e out hs (some ⟨b, 0, none⟩) 32 (by omega)) rfl rfl rfl rfl rfl rfl
  ·
    repeat (first | exact Picks.nil | (apply Picks.cons; · repeat (first | exact Pick.here | apply Pick.there)))
  · exact Tells.pick (A := pt b (.cells (bytesV hs).toArray 70 (0, 0))) (by repeat (first | exact Pick.here | apply Pick.there)) (fun _ _ => BIn.mono) (fun h hx => by
      have := BIn.of_pt (lo := 0) (k := hs.length) (by omega) h hx
      simpa using this)
  intro _
  refine Seq.on 200 ?_
  repeat (refine JL.flat ?_)
  refine JL.ret ?_
  repeat (first | refine At.then_ret ?_ | refine At.block_ret ?_)
  refine At.done1 rfl (()) rfl ?_
  exact (Gives.sound (by repeat (first | exact Gives.nil | (apply Gives.cons; · repeat (first | exact Pick.here | apply Pick.there)))))
def joinT (k : Nat) (l r : List UInt8) : List UInt8 := beB 2 1 ++ beB k 1 ++ l ++ r
theorem JoinText_ok (k : Nat) (l r : List UInt8) (h1 : 1 ≤ k) (h2 : k ≤ 32) (hl : l.length = 32) (hr : r.length = 32) : Trip Tryz.prog 197 [.int .i64 (k : Int), .agg (bytesV l).toArray, .agg (bytesV r).toArray] none_ [] (X := Option Addr × Nat)
    (fun q => .tuple #[.slice q.1 (joinT k l r).length q.2, .nilIface]) (fun q => [BOwn q (joinT k l r)]) := by
  refine Trip.start (n := 30) Tryz.func197 (by kernel_rfl) rfl rfl rfl ?_
  intro F w hD
  repeat (refine JL.flat ?_)
  refine JL.go 0 ?_
  refine Seq.eff rfl rfl (Ef.box rfl rfl) ?_
  intro bl
  refine Seq.eff rfl rfl (Ef.box rfl rfl) ?_
  intro br
  refine Seq.on 200 ?_
  repeat (refine JL.flat ?_)
  refine JL.go 3 ?_
  refine Seq.set 11 (.bool false) rfl (congrArg Value.bool (by simp; omega)) ?_
  refine Seq.on 2 ?_
  refine Seq.set 13 (.bool false) rfl (congrArg Value.bool (by simp; omega)) ?_
  refine Seq.on 200 ?_
  repeat (refine JL.flat ?_)
  refine JL.ifF rfl ?_
  try refine JL.skip ?_
  repeat (refine JL.flat ?_)
  refine JL.go 200 ?_
  refine Seq.yield rfl rfl (Yl.build rfl rfl rfl rfl rfl) ?_
  refine Seq.eff rfl rfl (Ef.box rfl rfl) ?_
  intro p
  refine Seq.on 200 ?_
  refine JL.to [Wr p .nilIface [], pt br (.cells (bytesV r).toArray 70 (0, 0)), pt bl (.cells (bytesV l).toArray 70 (0, 0)), F] (fun h hs => star_mono (fun h hx => Wr.new h hx) (fun _ h => h) hs) ?_
  repeat (refine JL.flat ?_)
  refine JL.draw ([0, 2, 3, 5, 7, 1, 4, 6, 8, 9, 10, 11, 12, 13]) (by kernel_rfl) (fun hR => ?_)
  refine Ord.on hR 200 ?_
  refine Ord.set 21 (.int .u64 (k : Int)) rfl (congrArg (Value.int .u64) (wrap_int (by omega) (by omega))) ?_
  refine Ord.loadAll hR NP.nop rfl rfl rfl rfl rfl rfl rfl rfl (by repeat (first | exact Pick.here | apply Pick.there)) (by simp [bytesV, hl]) ?_
  refine Ord.on hR 200 ?_
  refine Ord.loadAll hR NP.nop rfl rfl rfl rfl rfl rfl rfl rfl (by repeat (first | exact Pick.here | apply Pick.there)) (by simp [bytesV, hr]) ?_
  apply Ord.call (Num_1 p .nilIface [] 2 (by omega) (by simp)) hR rfl rfl rfl rfl rfl rfl rfl rfl
  ·
    repeat (first | exact Picks.nil | (apply Picks.cons; · repeat (first | exact Pick.here | apply Pick.there)))
  · exact Tells.none
  · intro _
    repeat (first | exact Keep.nil | (refine Keep.again (Yl.loadAll rfl rfl rfl rfl (by repeat (first | exact Pick.here | apply Pick.there)) (by simp [bytesV, hl, hr])) ?_))
  intro _
  refine Ord.on hR 200 ?_
  apply Ord.call (Num_1 p .nilIface ([] ++ beB 2 1) k (by omega) (by simp [beB_length])) hR rfl rfl rfl rfl rfl rfl rfl rfl
  ·
    repeat (first | exact Picks.nil | (apply Picks.cons; · repeat (first | exact Pick.here | apply Pick.there)))
  · exact Tells.none
  · intro _
    repeat (first | exact Keep.nil | (refine Keep.again (Yl.loadAll rfl rfl rfl rfl (by repeat (first | exact Pick.here | apply Pick.there)) (by simp [bytesV, hl, hr])) ?_))
  intro _
  refine Ord.on hR 200 ?_
  apply Ord.call (Hash_ok p .nilIface ([] ++ beB 2 1 ++ beB k 1) l hl (by simp [beB_length])) hR rfl rfl rfl rfl rfl rfl rfl rfl
  ·
    repeat (first | exact Picks.nil | (apply Picks.cons; · repeat (first | exact Pick.here | apply Pick.there)))
  · exact Tells.none
  · intro _
    repeat (first | exact Keep.nil | (refine Keep.again (Yl.loadAll rfl rfl rfl rfl (by repeat (first | exact Pick.here | apply Pick.there)) (by simp [bytesV, hl, hr])) ?_))
  intro _
  refine Ord.on hR 200 ?_
  apply Ord.call (Hash_ok p .nilIface ([] ++ beB 2 1 ++ beB k 1 ++ l) r hr (by simp [beB_length, hl])) hR rfl rfl rfl rfl rfl rfl rfl rfl
  ·
    repeat (first | exact Picks.nil | (apply Picks.cons; · repeat (first | exact Pick.here | apply Pick.there)))
  · exact Tells.none
  · intro _
    repeat (first | exact Keep.nil | (refine Keep.again (Yl.loadAll rfl rfl rfl rfl (by repeat (first | exact Pick.here | apply Pick.there)) (by simp [bytesV, hl, hr])) ?_))
  intro _
  refine Ord.on hR 200 ?_
  apply Ord.call (Done_ok p ([] ++ beB 2 1 ++ beB k 1 ++ l ++ r) (by simp [beB_length, hl, hr])) hR rfl rfl rfl rfl rfl rfl rfl rfl
  ·
    repeat (first | exact Picks.nil | (apply Picks.cons; · repeat (first | exact Pick.here | apply Pick.there)))
  · exact Tells.none
  · intro _
    repeat (first | exact Keep.nil | (refine Keep.again (Yl.loadAll rfl rfl rfl rfl (by repeat (first | exact Pick.here | apply Pick.there)) (by simp [bytesV, hl, hr])) ?_))
  intro q
  refine Ord.on hR 200 ?_
  repeat (refine JL.flat ?_)
  refine JL.ret ?_
  repeat (first | refine At.then_ret ?_ | refine At.block_ret ?_)
  refine At.done2 rfl (q) rfl rfl rfl ?_
  exact (Gives.sound (by repeat (first | exact Gives.nil | (apply Gives.cons; · repeat (first | exact Pick.here | apply Pick.there)))))
theorem hashed_ok (a : Option Addr) (l : List UInt8) (c : Nat) (hl : l.length ≤ 10000000) : Trip Tryz.prog 182 [.slice a l.length c, .nilIface] (fun h => Glob h ∧ BIn a l h) [] (X := Unit) (fun _ => .tuple #[.agg (bytesV (sumB l)).toArray, .nilIface]) (fun _ => []) := by
  refine Trip.start (n := 12) Tryz.func182 (by kernel_rfl) rfl rfl rfl ?_
  intro F w hD
  repeat (refine JL.flat ?_)
  refine JL.go 0 ?_
  refine Seq.eff rfl rfl (Ef.alloc tab_zero rfl rfl) ?_
  intro b4
  refine Seq.on 200 ?_
  repeat (refine JL.flat ?_)
  refine JL.go 200 ?_
  repeat (refine JL.flat ?_)
  refine JL.ifF rfl ?_
  try refine JL.skip ?_
  repeat (refine JL.flat ?_)
  refine JL.go 200 ?_
  apply Seq.call (Sum_ok a l c hl) rfl rfl rfl rfl rfl rfl
  ·
    repeat (first | exact Picks.nil | (apply Picks.cons; · repeat (first | exact Pick.here | apply Pick.there)))
  · exact Tells.frame (by repeat (first | exact Pick.here | apply Pick.there)) (fun _ _ hk x => ⟨x.1.mono hk, SlIn.mono hk x.2⟩) hD
  intro _
  have h32 := sumB_length l
  generalize sumB l = H at h32 ⊢
  refine Seq.storeAll rfl rfl rfl rfl rfl rfl (by repeat (first | exact Pick.here | apply Pick.there)) (by simp [Value.cells, bytesV, h32]) (Ones_bytesV _) rfl ?_
  refine Seq.on 200 ?_
  refine JL.ret (At.doneC2 rfl () rfl rfl (Tells.all (by repeat (first | exact Pick.here | apply Pick.there))) (by simp [Value.cells, bytesV, h32]) rfl rfl rfl ?_)
  exact (Gives.sound (by repeat (first | exact Gives.nil | (apply Gives.cons; · repeat (first | exact Pick.here | apply Pick.there)))))
def joinB (k : Nat) (l r : List UInt8) : List UInt8 := sumB (joinT k l r)
theorem joinT_length (k : Nat) {l r : List UInt8} (hl : l.length = 32) (hr : r.length = 32) : (joinT k l r).length = 66 := by simp [joinT, beB_length, hl, hr]
theorem Join_ok (k : Nat) (l r : List UInt8) (h1 : 1 ≤ k) (h2 : k ≤ 32) (hl : l.length = 32) (hr : r.length = 32) : Trip Tryz.prog 108 [.int .i64 (k : Int), .agg (bytesV l).toArray, .agg (bytesV r).toArray] Glob [] (X := Unit)
    (fun _ => .tuple #[.agg (bytesV (joinB k l r)).toArray, .nilIface]) (fun _ => []) := by
  refine Trip.start (n := 17) Tryz.func108 (by kernel_rfl) rfl rfl rfl ?_
  intro F w hD
  repeat (refine JL.flat ?_)
  refine JL.go 0 ?_
  refine Seq.eff rfl rfl (Ef.box rfl rfl) ?_
  intro b4
  refine Seq.eff rfl rfl (Ef.box rfl rfl) ?_
  intro b5
  refine Seq.eff rfl rfl (Ef.alloc tab_zero rfl rfl) ?_
  intro b6
  refine Seq.on 200 ?_
  repeat (refine JL.flat ?_)
  refine JL.go 200 ?_
  refine Seq.loadAll rfl rfl rfl rfl rfl rfl (by repeat (first | exact Pick.here | apply Pick.there)) (by simp [Value.cells, bytesV, hl]) ?_
  refine Seq.loadAll rfl rfl rfl rfl rfl rfl (by repeat (first | exact Pick.here | apply Pick.there)) (by simp [Value.cells, bytesV, hr]) ?_
  apply Seq.call (JoinText_ok k l r h1 h2 hl hr) rfl rfl rfl rfl rfl rfl
  ·
    repeat (first | exact Picks.nil | (apply Picks.cons; · repeat (first | exact Pick.here | apply Pick.there)))
  · exact Tells.none
  intro q
  refine Seq.on 200 ?_
  have hjl := joinT_length k hl hr
  apply Seq.call (hashed_ok q.1 (joinT k l r) q.2 (by omega)) rfl rfl rfl rfl rfl rfl
  ·
    repeat (first | exact Picks.nil | (apply Picks.cons; · repeat (first | exact Pick.here | apply Pick.there)))
  · exact fun h hs => ⟨Tells.frame (D := Glob) (by repeat (first | exact Pick.here | apply Pick.there)) (fun _ _ => Glob.mono) hD h hs, Tells.own (by repeat (first | exact Pick.here | apply Pick.there)) h hs⟩
  intro _
  refine Seq.on 200 ?_
  have h32 := sumB_length (joinT k l r)
  unfold joinB
  generalize sumB (joinT k l r) = H at h32 ⊢
  refine Seq.storeAll rfl rfl rfl rfl rfl rfl (by repeat (first | exact Pick.here | apply Pick.there)) (by simp [Value.cells, bytesV, h32]) (Ones_bytesV _) rfl ?_
  refine Seq.on 200 ?_
  refine JL.ret (At.doneC2 rfl () rfl rfl (Tells.all (by repeat (first | exact Pick.here | apply Pick.there))) (by simp [Value.cells, bytesV, h32]) rfl rfl rfl ?_)
  exact (Gives.sound (by repeat (first | exact Gives.nil | (apply Gives.cons; · repeat (first | exact Pick.here | apply Pick.there)))))
end Go.Ent
namespace Go.Ent
open Go Go.Proofs
def emptyB : Nat → List UInt8
  | 0 => sumB [0]
  | h + 1 => joinB (h + 1) (emptyB h) (emptyB h)
theorem emptyB_length : ∀ h, (emptyB h).length = 32
  | 0 => sumB_length _
  | h + 1 => sumB_length _
def flatB : Nat → List UInt8
  | 0 => []
  | t + 1 => flatB t ++ emptyB t
theorem flatB_length : ∀ t, (flatB t).length = 32 * t
  | 0 => rfl
  | t + 1 => by simp [flatB, flatB_length t, emptyB_length]; omega
def EB (t : Nat) : List UInt8 := flatB t ++ List.replicate (1056 - 32 * t) 0
theorem EB_length {t : Nat} (h : t ≤ 33) : (EB t).length = 1056 := by simp [EB, flatB_length]; omega
theorem EB_last {t : Nat} (h : t + 1 ≤ 33) : ((EB (t + 1)).drop (t * 32)).take 32 = emptyB t := by
  have h1 := flatB_length t
  have h2 := emptyB_length t
  unfold EB flatB
  rw [List.append_assoc, List.drop_append_of_le_length (by omega), List.drop_of_length_le (by omega), List.nil_append, List.take_append_of_le_length (by omega), List.take_of_length_le (by omega)]
theorem EB_over {t : Nat} (h : t < 33) : over (bytesV (EB t)) (t * 32) (bytesV (emptyB t)) = bytesV (EB (t + 1)) := by
  have h1 := flatB_length t
  have h2 := emptyB_length t
  unfold over
  rw [bytesV_length, ← bytesV_take, ← bytesV_drop, ← bytesV_append, ← bytesV_append]
  congr 1
  unfold EB
  rw [List.take_append_of_le_length (by omega), List.take_of_length_le (by omega), show flatB (t + 1) = flatB t ++ emptyB t from rfl]
  congr 1
  rw [List.drop_append, List.drop_of_length_le (by omega), List.nil_append, List.drop_replicate]
  congr 1
  omega
theorem fill_first {v : Value} {z : List Value} {s : Nat} (hv : v.cells.size = s) (hz : s ≤ z.length) : fillL (fun i => some (i * s, s)) z [(0, v)] = some (over z 0 v.cells.toList) := by
  subst hv
  have : Nat.blt z.length (0 * v.cells.size + v.cells.size) = false := by
    cases hb : Nat.blt z.length (0 * v.cells.size + v.cells.size) with
    | false => rfl
    | true => rw [Nat.blt_eq] at hb; omega
  rw [Nat.zero_mul, Nat.zero_add] at this
  simp [fillL, this]
theorem zero33 : zeroOf tab 8 105 = some (bytesV (EB 0)) := by kernel_rfl
theorem Empties_ok : Trip Tryz.prog 43 [] Glob [] (X := Unit) (fun _ => .agg (bytesV (EB 33)).toArray) (fun _ => []) := by
  refine Trip.start (n := 31) Tryz.func43 (by kernel_rfl) rfl rfl rfl ?_
  intro F w hD
  repeat (refine JL.flat ?_)
  refine JL.go 0 ?_
  refine Seq.eff rfl rfl (Ef.alloc tab_zero rfl zero33) ?_
  intro b0
  refine Seq.on 200 ?_
  repeat (refine JL.flat ?_)
  refine JL.go 0 ?_
  refine Seq.bslice (out := (bytesV [0])) rfl rfl rfl rfl rfl rfl rfl rfl (by rfl) rfl (by rfl) ?_
  intro bs
  apply Seq.call (Sum_ok (some ⟨bs, 0, none⟩) [0] 1 (by simp)) rfl rfl rfl rfl rfl rfl
  ·
    repeat (first | exact Picks.nil | (apply Picks.cons; · repeat (first | exact Pick.here | apply Pick.there)))
  · exact fun h hs => ⟨Tells.frame (D := Glob) (by repeat (first | exact Pick.here | apply Pick.there)) (fun _ _ => Glob.mono) hD h hs, Tells.own (by repeat (first | exact Pick.here | apply Pick.there)) h hs⟩
  intro _
  have h0 : sumB [0] = emptyB 0 := rfl
  rw [h0]
  have hl0 := emptyB_length 0
  refine Seq.buildArr (out := bytesV (EB 1)) (z := bytesV (EB 0)) rfl rfl rfl rfl rfl rfl zero33 ?_ ?_
  · have hz : 32 ≤ (bytesV (EB 0)).length := by rw [bytesV_length, EB_length (by omega)]; omega
    have hv : (Value.agg (bytesV (emptyB 0)).toArray).cells.size = 32 := by simp [Value.cells, bytesV, hl0]
    have he : over (bytesV (EB 0)) 0 (bytesV (emptyB 0)) = bytesV (EB 1) := by have := EB_over (t := 0) (by omega); simpa using this
    exact (fill_first (s := 32) hv hz).trans (congrArg some he)
  refine Seq.eff rfl rfl (Ef.alloc tab_zero rfl zero33) ?_
  intro b1
  refine Seq.storeAll rfl rfl rfl rfl rfl rfl (by repeat (first | exact Pick.here | apply Pick.there)) (by rw [show (Value.agg (bytesV (EB 1)).toArray).cells = (bytesV (EB 1)).toArray from rfl]; simp only [List.size_toArray]; rw [bytesV_length]; exact EB_length (by omega)) (Ones_bytesV _) (by rw [List.size_toArray, bytesV_length]; exact EB_length (by omega)) ?_
  refine Seq.on 200 ?_
  repeat (refine JL.flat ?_)
  refine JL.go 200 ?_
  repeat (refine JL.flat ?_)
  refine JL.block ?_
  refine JL.loop (X := {t : Nat // 1 ≤ t ∧ t ≤ 33}) ⟨1, by omega⟩ (fun t => [(0, ptrV b0), (1, ptrV b1), (2, .int .i64 (t.1 : Int))])
    (fun t => [pt b1 (.cells (bytesV (EB t.1)).toArray 105 (0, 0)), pt b0 (.cells (bytesV (EB 0)).toArray 105 (0, 0)), F]) (fun t => 33 - t.1) ?_ ?_ ?_
  ·
    repeat (first | exact Sub.nil | refine Sub.cons rfl ?_)
  · exact (Gives.sound (by repeat (first | exact Gives.nil | (apply Gives.cons; · repeat (first | exact Pick.here | apply Pick.there)))))
  rintro ⟨t, ht1, ht⟩
  dsimp only
  repeat (refine JL.flat ?_)
  refine JL.go 200 ?_
  rcases Nat.lt_or_ge t 33 with hlt | hge
  · refine JL.set 9 (.bool true) rfl (congrArg Value.bool (by simp; omega)) ?_
    repeat (refine JL.flat ?_)
    refine JL.ifT rfl ?_
    try refine JL.skip ?_
    repeat (refine JL.flat ?_)
    refine JL.block ?_
    obtain ⟨u, rfl⟩ : ∃ u, t = u + 1 := ⟨t - 1, by omega⟩
    have hu : emptyB (u + 1) = joinB (u + 1) (emptyB u) (emptyB u) := rfl
    have hlu := emptyB_length u
    have hEl := EB_length (t := u + 1) (by omega)
    have hT : ∀ {G G' : List Assn}, Pick (pt b1 (.cells (bytesV (EB (u + 1))).toArray 105 (0, 0))) G G' → Tells G (CellsAt b1 (u * 32) (bytesV (emptyB u))) := fun p => Tells.pick p (fun _ _ => CellsAt.mono) (fun h hx => by
      have := CellsAt.of_bytes (lo := u * 32) (k := 32) h hx
      rw [EB_last (by omega)] at this
      exact this)
    repeat (refine JL.flat ?_)
    refine JL.draw ([0, 1, 2, 3, 4, 5, 6, 7, 8, 99, 0, 1, 2, 3, 4, 5, 6, 7, 8]) (by kernel_rfl) (fun hR => ?_)
    refine Ord.on hR 200 ?_
    refine Ord.set 15 (.int .i64 (u : Int)) rfl (congrArg (Value.int .i64) (by have := wrapSub (a := u + 1) (b := 1) (by omega) (by omega); simpa using this)) ?_
    refine Ord.idxArr u hR NP.nop rfl rfl rfl rfl rfl rfl rfl rfl rfl (by omega) ?_
    refine Ord.set 16 (.pointer (some ⟨b1, u * 32, none⟩)) rfl (by simp) ?_
    refine Ord.load hR NP.nop rfl rfl rfl rfl rfl rfl rfl (hT (by repeat (first | exact Pick.here | apply Pick.there))) (by rw [bytesV_length, hlu]) rfl ?_
    refine Ord.on hR 200 ?_
    refine Ord.set 19 (.int .i64 (u : Int)) rfl (congrArg (Value.int .i64) (by have := wrapSub (a := u + 1) (b := 1) (by omega) (by omega); simpa using this)) ?_
    refine Ord.idxArr u hR NP.nop rfl rfl rfl rfl rfl rfl rfl rfl rfl (by omega) ?_
    refine Ord.set 20 (.pointer (some ⟨b1, u * 32, none⟩)) rfl (by simp) ?_
    refine Ord.load hR NP.nop rfl rfl rfl rfl rfl rfl rfl (hT (by repeat (first | exact Pick.here | apply Pick.there))) (by rw [bytesV_length, hlu]) rfl ?_
    refine Ord.fork (L := [9, 13]) (k := 6) hR rfl (by kernel_rfl) rfl rfl ?_
    have hl32 : (joinB (u + 1) (emptyB u) (emptyB u)).length = 32 := sumB_length _
    refine Forks.act (ord := [10, 11, 12, 13, 14, 15]) rfl rfl rfl rfl (Ef.call rfl rfl rfl rfl (Join_ok (u + 1) (emptyB u) (emptyB u) (by omega) (by omega) hlu hlu) Picks.nil (Tells.frame (by repeat (first | exact Pick.here | apply Pick.there)) (fun _ _ => Glob.mono) hD)) (fun _ => ?_) (by kernel_rfl) (by kernel_rfl) (fun _ => ?_) ?_
    · repeat (first | exact Keep.nil | (refine Keep.loadT rfl rfl rfl (hT (by repeat (first | exact Pick.here | apply Pick.there))) (by rw [bytesV_length, hlu]) rfl ?_) | (refine Keep.waits (by kernel_rfl) ?_))
    ·
      refine Ord.on hR 200 ?_
      refine Ord.eff hR rfl rfl rfl rfl (Ef.alloc tab_zero rfl rfl) (fun b3 => ?_) (fun b3 => ?_)
      · repeat (first | exact Keep.nil | (refine Keep.loadT rfl rfl rfl (hT (by repeat (first | exact Pick.here | apply Pick.there))) (by rw [bytesV_length, hlu]) rfl ?_) | (refine Keep.waits (by kernel_rfl) ?_))
      refine Ord.storeAll hR rfl rfl rfl rfl rfl rfl rfl rfl (by repeat (first | exact Pick.here | apply Pick.there)) (by simp [Value.cells, bytesV, hl32]) (Ones_bytesV _) rfl ?_ ?_
      · repeat (first | exact Keep.nil | (refine Keep.waits (by kernel_rfl) ?_))
      refine Ord.on hR 200 ?_
      repeat (refine JL.flat ?_)
      refine JL.go 200 ?_
      repeat (refine JL.flat ?_)
      refine JL.ifF rfl ?_
      try refine JL.skip ?_
      repeat (refine JL.flat ?_)
      refine JL.go 200 ?_
      refine Seq.loadAll rfl rfl rfl rfl rfl rfl (by repeat (first | exact Pick.here | apply Pick.there)) (by simp [Value.cells, bytesV, hl32]) ?_
      refine Seq.idxArr (u + 1) rfl rfl rfl rfl rfl rfl rfl (by omega) ?_
      refine Seq.set 29 (.pointer (some ⟨b1, (u + 1) * 32, none⟩)) rfl (by simp) ?_
      refine Seq.eff rfl rfl (Ef.store (c := bytesV (EB (u + 1))) tab_ok rfl rfl rfl rfl (by repeat (first | exact Pick.here | apply Pick.there)) (by simp [Value.cells, bytesV, hl32]) (Ones_bytesV _) (by rw [bytesV_length, hEl]; show (u + 1) * 32 + 32 ≤ 1056; omega)) ?_
      intro _
      have hov := EB_over (t := u + 1) hlt
      rw [hu] at hov
      rw [show (Value.agg (Value.agg (bytesV (joinB (u + 1) (emptyB u) (emptyB u))).toArray).cells).cells.toList = bytesV (joinB (u + 1) (emptyB u) (emptyB u)) from rfl, hov]
      refine Seq.on 200 ?_
      repeat (refine JL.flat ?_)
      refine JL.nil (At.block_normal (At.then_normal (JL.at ?_)))
      repeat (refine JL.flat ?_)
      refine JL.go 200 ?_
      refine JL.set 2 (.int .i64 ((u + 1 + 1 : Nat) : Int)) rfl (congrArg (Value.int .i64) (by rw [show ((u + 1 : Nat) : Int) + 1 = ((u + 1 + 1 : Nat) : Int) by omega]; exact wrapSmall (by omega))) ?_
      repeat (refine JL.flat ?_)
      refine JL.nil (At.then_normal ?_)
      refine At.again (X := {t : Nat // 1 ≤ t ∧ t ≤ 33}) (x := ⟨u + 1, ht1, ht⟩) ⟨u + 1 + 1, by omega⟩ (by show 33 - (u + 1 + 1) < 33 - (u + 1); omega) (Sub.look ?_) ?_
      ·
        repeat (first | exact Sub.nil | refine Sub.cons rfl ?_)
      · exact (Gives.sound (by repeat (first | exact Gives.nil | (apply Gives.cons; · repeat (first | exact Pick.here | apply Pick.there)))))
    refine Forks.act (ord := [9, 10, 11, 12, 14, 15]) rfl rfl rfl rfl (Ef.alloc tab_zero rfl rfl) (fun b3 => ?_) (by kernel_rfl) (by kernel_rfl) (fun b3 => ?_) Forks.nil
    · repeat (first | exact Keep.nil | (refine Keep.loadT rfl rfl rfl (hT (by repeat (first | exact Pick.here | apply Pick.there))) (by rw [bytesV_length, hlu]) rfl ?_) | (refine Keep.waits (by kernel_rfl) ?_))
    ·
      apply Ord.call (Join_ok (u + 1) (emptyB u) (emptyB u) (by omega) (by omega) hlu hlu) hR rfl rfl rfl rfl rfl rfl rfl rfl
      ·
        repeat (first | exact Picks.nil | (apply Picks.cons; · repeat (first | exact Pick.here | apply Pick.there)))
      · exact Tells.frame (by repeat (first | exact Pick.here | apply Pick.there)) (fun _ _ => Glob.mono) hD
      · intro _
        repeat (first | exact Keep.nil | (refine Keep.loadT rfl rfl rfl (hT (by repeat (first | exact Pick.here | apply Pick.there))) (by rw [bytesV_length, hlu]) rfl ?_) | (refine Keep.waits (by kernel_rfl) ?_))
      intro _
      refine Ord.on hR 200 ?_
      refine Ord.storeAll hR rfl rfl rfl rfl rfl rfl rfl rfl (by repeat (first | exact Pick.here | apply Pick.there)) (by simp [Value.cells, bytesV, hl32]) (Ones_bytesV _) rfl ?_ ?_
      · repeat (first | exact Keep.nil | (refine Keep.waits (by kernel_rfl) ?_))
      refine Ord.on hR 200 ?_
      repeat (refine JL.flat ?_)
      refine JL.go 200 ?_
      repeat (refine JL.flat ?_)
      refine JL.ifF rfl ?_
      try refine JL.skip ?_
      repeat (refine JL.flat ?_)
      refine JL.go 200 ?_
      refine Seq.loadAll rfl rfl rfl rfl rfl rfl (by repeat (first | exact Pick.here | apply Pick.there)) (by simp [Value.cells, bytesV, hl32]) ?_
      refine Seq.idxArr (u + 1) rfl rfl rfl rfl rfl rfl rfl (by omega) ?_
      refine Seq.set 29 (.pointer (some ⟨b1, (u + 1) * 32, none⟩)) rfl (by simp) ?_
      refine Seq.eff rfl rfl (Ef.store (c := bytesV (EB (u + 1))) tab_ok rfl rfl rfl rfl (by repeat (first | exact Pick.here | apply Pick.there)) (by simp [Value.cells, bytesV, hl32]) (Ones_bytesV _) (by rw [bytesV_length, hEl]; show (u + 1) * 32 + 32 ≤ 1056; omega)) ?_
      intro _
      have hov := EB_over (t := u + 1) hlt
      rw [hu] at hov
      rw [show (Value.agg (Value.agg (bytesV (joinB (u + 1) (emptyB u) (emptyB u))).toArray).cells).cells.toList = bytesV (joinB (u + 1) (emptyB u) (emptyB u)) from rfl, hov]
      refine Seq.on 200 ?_
      repeat (refine JL.flat ?_)
      refine JL.nil (At.block_normal (At.then_normal (JL.at ?_)))
      repeat (refine JL.flat ?_)
      refine JL.go 200 ?_
      refine JL.set 2 (.int .i64 ((u + 1 + 1 : Nat) : Int)) rfl (congrArg (Value.int .i64) (by rw [show ((u + 1 : Nat) : Int) + 1 = ((u + 1 + 1 : Nat) : Int) by omega]; exact wrapSmall (by omega))) ?_
      repeat (refine JL.flat ?_)
      refine JL.nil (At.then_normal ?_)
      refine At.again (X := {t : Nat // 1 ≤ t ∧ t ≤ 33}) (x := ⟨u + 1, ht1, ht⟩) ⟨u + 1 + 1, by omega⟩ (by show 33 - (u + 1 + 1) < 33 - (u + 1); omega) (Sub.look ?_) ?_
      ·
        repeat (first | exact Sub.nil | refine Sub.cons rfl ?_)
      · exact (Gives.sound (by repeat (first | exact Gives.nil | (apply Gives.cons; · repeat (first | exact Pick.here | apply Pick.there)))))
  · obtain rfl : t = 33 := by omega
    repeat (refine JL.flat ?_)
    refine JL.ifF rfl ?_
    try refine JL.skip ?_
    repeat (refine JL.flat ?_)
    refine JL.exit ?_
    repeat (first | refine At.then_exit ?_ | refine At.block_pass rfl ?_)
    refine At.block_exit (At.then_normal (JL.at ?_))
    repeat (refine JL.flat ?_)
    refine JL.go 0 ?_
    have hl := EB_length (t := 33) (by omega)
    generalize EB 33 = L at hl ⊢
    refine Seq.loadAll rfl rfl rfl rfl rfl rfl (by repeat (first | exact Pick.here | apply Pick.there)) (by simpa [bytesV] using hl) ?_
    refine Seq.storeAll rfl rfl rfl rfl rfl rfl (by repeat (first | exact Pick.here | apply Pick.there)) (by simpa [bytesV, Value.cells] using hl) (Ones_bytesV _) (by rw [List.size_toArray, bytesV_length]; exact EB_length (by omega)) ?_
    refine Seq.on 200 ?_
    refine JL.ret (At.doneC rfl () rfl rfl (Tells.all (by repeat (first | exact Pick.here | apply Pick.there))) (by simpa [bytesV, Value.cells] using hl) rfl rfl ?_)
    exact (Gives.sound (by repeat (first | exact Gives.nil | (apply Gives.cons; · repeat (first | exact Pick.here | apply Pick.there)))))
end Go.Ent
namespace Go.Ent
open Go Go.Proofs
abbrev Piece := Option Addr × Nat × List UInt8
def pieceV (x : Piece) : Value := .slice x.1 x.2.2.length x.2.1
def flatP (l : List Piece) : List UInt8 := l.flatMap fun x => x.2.2
theorem flatP_take {l : List Piece} {k : Nat} (h : k < l.length) : flatP (l.take (k + 1)) = flatP (l.take k) ++ l[k].2.2 := by
  unfold flatP
  rw [List.take_succ_eq_append_getElem h, List.flatMap_append]
  simp
theorem flatP_le {l : List Piece} {k : Nat} : (flatP (l.take k)).length ≤ (flatP l).length := by
  have : flatP l = flatP (l.take k) ++ flatP (l.drop k) := by
    unfold flatP
    rw [← List.flatMap_append, List.take_append_drop]
  rw [this, List.length_append]; omega
/-- pieces that can be read: the list, and each of them. -/
def Pieces (a : Option Addr) (l : List Piece) : Assn := fun h => SlIn 1 a l.length (l.map pieceV) h ∧ ∀ x ∈ l, BIn x.1 x.2.2 h
theorem Pieces.mono {a : Option Addr} {l : List Piece} {h k : Part} (hk : Part.le h k) (x : Pieces a l h) : Pieces a l k := ⟨SlIn.mono hk x.1, fun y hy => SlIn.mono hk (x.2 y hy)⟩
theorem sub_pieces {l : List Piece} {i : Nat} (h : i < l.length) : Ent.sub (l.map pieceV) (i * 1) 1 = [pieceV l[i]] := by
  unfold Ent.sub
  rw [Nat.mul_one, ← List.map_drop, ← List.map_take, List.drop_eq_getElem_cons h]
  rfl
theorem over_take {c vs : List Value} {off : Nat} (h : off ≤ c.length) : (over c off vs).take (off + vs.length) = c.take off ++ vs := by
  unfold over
  rw [List.take_append_of_le_length (by simp; omega), List.take_of_length_le (by simp; omega)]
theorem over_nil (c : List Value) (off : Nat) : over c off [] = c := by simp [over]
theorem over_len {c vs : List Value} {off : Nat} (h : off + vs.length ≤ c.length) : (over c off vs).length = c.length := over_length h
theorem sub_tail {l : List Piece} {j : Nat} (h : j + 1 < l.length) : Ent.sub (((l.map pieceV).drop (1 * 1)).take ((l.length - 1) * 1)) (j * 1) 1 = [pieceV l[j + 1]] := by
  unfold Ent.sub
  rw [Nat.mul_one, Nat.mul_one, Nat.mul_one, ← List.map_drop, ← List.map_take, ← List.map_drop, ← List.map_take, List.take_of_length_le (l := l.drop 1) (by simp), List.drop_drop, Nat.add_comm 1 j, List.drop_eq_getElem_cons h]
  rfl
set_option maxHeartbeats 800000 in
theorem BJoin_ok (a : Option Addr) (l : List Piece) (c : Nat) (h2 : 2 ≤ l.length) (hc : l.length ≤ c) (hm : l.length ≤ 1000) (hl : (flatP l).length ≤ 10000000) : Trip Tryz.prog 326 [.slice a l.length c, .slice none 0 0] (Pieces a l) [] (X := Option Addr × Nat)
    (fun r => .slice r.1 (flatP l).length r.2) (fun r => [BIn r.1 (flatP l)]) := by
  refine Trip.start (n := 92) Tryz.func326 (by kernel_rfl) rfl rfl rfl ?_
  intro F w hD
  have hS : ∀ h, F h → SlIn 1 a l.length (l.map pieceV) h := fun h hF => (hD h hF).1
  have hP : ∀ i (hi : i < l.length), ∀ h, F h → BIn l[i].1 l[i].2.2 h := fun i hi h hF => (hD h hF).2 _ (List.getElem_mem hi)
  repeat (refine JL.flat ?_)
  refine JL.go 200 ?_
  repeat (refine JL.flat ?_)
  refine JL.go 200 ?_
  refine JL.set 14 (.bool false) rfl (congrArg Value.bool (beq_eq_false_iff_ne.2 (by omega))) ?_
  repeat (refine JL.flat ?_)
  refine JL.ifF rfl ?_
  try refine JL.skip ?_
  repeat (refine JL.flat ?_)
  refine JL.go 200 ?_
  refine JL.set 18 (.bool false) rfl (congrArg Value.bool (beq_eq_false_iff_ne.2 (by omega))) ?_
  repeat (refine JL.flat ?_)
  refine JL.ifF rfl ?_
  try refine JL.skip ?_
  repeat (refine JL.flat ?_)
  refine JL.go 200 ?_
  repeat (refine JL.flat ?_)
  refine JL.go 200 ?_
  repeat (refine JL.flat ?_)
  refine JL.ifF rfl ?_
  try refine JL.skip ?_
  repeat (refine JL.flat ?_)
  refine JL.go 200 ?_
  repeat (refine JL.flat ?_)
  refine JL.block ?_
  refine JL.loop (X := {i : Nat // i ≤ l.length}) ⟨0, by omega⟩ (fun i => [(0, .slice a l.length c), (1, .slice none 0 0), (42, .slice a l.length c), (43, .int .i64 (l.length : Int)), (44, .int .i64 (i.1 : Int)), (5, .int .i64 ((flatP (l.take i.1)).length : Int))])
    (fun i => [F]) (fun i => l.length - i.1) ?_ ?_ ?_
  ·
    repeat (first | exact Sub.nil | refine Sub.cons rfl ?_)
  · exact (Gives.sound (by repeat (first | exact Gives.nil | (apply Gives.cons; · repeat (first | exact Pick.here | apply Pick.there)))))
  rintro ⟨i, hi⟩
  dsimp only
  have hle := flatP_le (l := l) (k := i)
  repeat (refine JL.flat ?_)
  refine JL.go 200 ?_
  rcases Nat.lt_or_ge i l.length with hlt | hge
  · refine JL.set 45 (.bool true) rfl (congrArg Value.bool (by simp; omega)) ?_
    have hft := flatP_take hlt
    have hle1 := flatP_le (l := l) (k := i + 1)
    have hlen1 : (flatP (l.take (i + 1))).length = (flatP (l.take i)).length + l[i].2.2.length := by rw [hft, List.length_append]
    repeat (refine JL.flat ?_)
    refine JL.ifT rfl ?_
    try refine JL.skip ?_
    repeat (refine JL.flat ?_)
    refine JL.block ?_
    repeat (refine JL.flat ?_)
    refine JL.go 0 ?_
    refine Seq.idx i rfl rfl rfl rfl rfl rfl rfl (Tells.frame (by repeat (first | exact Pick.here | apply Pick.there)) (fun _ _ => SlIn.mono) hS) hlt ?_
    intro bb off hcell
    refine Seq.load (v := pieceV l[i]) rfl rfl rfl rfl rfl hcell (by show (Ent.sub (l.map pieceV) (i * 1) 1).length = 1; rw [sub_pieces hlt]; rfl) (by show valOf false (Ent.sub (l.map pieceV) (i * 1) 1) = _; rw [sub_pieces hlt]; rfl) ?_
    refine Seq.on 200 ?_
    repeat (refine JL.flat ?_)
    refine JL.go 200 ?_
    refine JL.set 52 (.bool false) rfl (congrArg Value.bool (by
      show decide (((l[i].2.2.length : Nat) : Int) > IntKind.i64.wrap (9223372036854775807 - ((flatP (l.take i)).length : Int))) = false
      have e : (9223372036854775807 : Int) - ((flatP (l.take i)).length : Int) = ((9223372036854775807 - (flatP (l.take i)).length : Nat) : Int) := by omega
      rw [e, wrapI (Nat.lt_of_lt_of_eq (show _ < 9223372036854775808 by omega) two63)]
      simp; omega)) ?_
    repeat (refine JL.flat ?_)
    refine JL.ifF rfl ?_
    try refine JL.skip ?_
    repeat (refine JL.flat ?_)
    refine JL.go 200 ?_
    refine JL.set 5 (.int .i64 ((flatP (l.take (i + 1))).length : Int)) rfl (congrArg (Value.int .i64) (by
      rw [hlen1, ← Int.natCast_add]
      exact wrapI (Nat.lt_of_lt_of_eq (Nat.lt_of_le_of_lt (show (flatP (l.take i)).length + l[i].2.2.length ≤ 10000000 by omega) (by decide)) two63))) ?_
    repeat (refine JL.flat ?_)
    refine JL.nil (At.block_normal (At.then_normal (JL.at ?_)))
    repeat (refine JL.flat ?_)
    refine JL.go 200 ?_
    refine JL.set 44 (.int .i64 ((i + 1 : Nat) : Int)) rfl (congrArg (Value.int .i64) (by rw [show (i : Int) + 1 = ((i + 1 : Nat) : Int) by omega]; exact wrapI (Nat.lt_of_lt_of_eq (Nat.lt_of_le_of_lt (show i + 1 ≤ 10000000 by omega) (by decide)) two63))) ?_
    repeat (refine JL.flat ?_)
    refine JL.nil (At.then_normal ?_)
    refine At.again (X := {i : Nat // i ≤ l.length}) (x := ⟨i, hi⟩) ⟨i + 1, by omega⟩ (by show l.length - (i + 1) < l.length - i; omega) (Sub.look ?_) ?_
    ·
      repeat (first | exact Sub.nil | refine Sub.cons rfl ?_)
    · exact (Gives.sound (by repeat (first | exact Gives.nil | (apply Gives.cons; · repeat (first | exact Pick.here | apply Pick.there)))))
  · obtain rfl : i = l.length := by omega
    refine JL.set 45 (.bool false) rfl (congrArg Value.bool (by simp)) ?_
    repeat (refine JL.flat ?_)
    refine JL.ifF rfl ?_
    try refine JL.skip ?_
    repeat (refine JL.flat ?_)
    refine JL.exit ?_
    repeat (first | refine At.then_exit ?_ | refine At.block_pass rfl ?_)
    refine At.block_exit (At.then_normal (JL.at ?_))
    rw [List.take_length]
    repeat (refine JL.flat ?_)
    refine JL.go 200 ?_
    refine Seq.eff rfl rfl (Ef.makeNoZero (m := (flatP l).length) (ps := #[3]) (t := 177) rfl rfl rfl Tryz.func331 (by kernel_rfl) rfl (by kernel_rfl) (by kernel_rfl) rfl (by omega)) ?_
    rintro ⟨⟨b, cs⟩, hcs, hmax⟩
    have hcs' : (flatP l).length ≤ cs.size := hcs
    have hmax' : cs.size ≤ maxLen := hmax
    refine Seq.on 200 ?_
    refine Seq.yield rfl rfl (fun a w ha _ => run_slice30 (flatP l).length rfl rfl rfl rfl rfl rfl hcs a w ha) ?_
    refine Seq.on 200 ?_
    repeat (refine JL.flat ?_)
    refine JL.go 2 ?_
    refine Seq.idx 0 rfl rfl rfl rfl rfl rfl rfl (Tells.frame (by repeat (first | exact Pick.here | apply Pick.there)) (fun _ _ => SlIn.mono) hS) (by omega) ?_
    intro b0 off0 hcell0
    refine Seq.load (v := pieceV l[0]) rfl rfl rfl rfl rfl hcell0 (by show (Ent.sub (l.map pieceV) (0 * 1) 1).length = 1; rw [sub_pieces (by omega)]; rfl) (by show valOf false (Ent.sub (l.map pieceV) (0 * 1) 1) = _; rw [sub_pieces (by omega)]; rfl) ?_
    have hle1 := flatP_le (l := l) (k := 0 + 1)
    have hft := flatP_take (l := l) (k := 0) (by omega)
    have hlen1 : (flatP (l.take (0 + 1))).length = (flatP (l.take 0)).length + l[0].2.2.length := by rw [hft, List.length_append]
    have hz : (flatP (l.take 0)).length = 0 := rfl
    refine Seq.eff rfl rfl (Ef.copyB (c := cs.toList) (ys := l[0].2.2) rfl rfl rfl rfl rfl (by repeat (first | exact Pick.here | apply Pick.there)) (Tells.frame (by repeat (first | exact Pick.here | apply Pick.there)) (fun _ _ => BIn.mono) (hP 0 (by omega))) (by omega) (by simp; omega)) ?_
    intro _
    have hc1 : (over cs.toList 0 (bytesV l[0].2.2)).length = cs.size := by rw [over_len (by simp [bytesV_length]; omega)]; simp
    have ht1 : (over cs.toList 0 (bytesV l[0].2.2)).take (flatP (l.take 1)).length = bytesV (flatP (l.take 1)) := by
      have h1 := over_take (c := cs.toList) (vs := bytesV l[0].2.2) (off := 0) (by omega)
      have e1 : flatP (l.take 1) = l[0].2.2 := by rw [hft]; rfl
      rw [e1]
      simpa [bytesV_length] using h1
    generalize over cs.toList 0 (bytesV l[0].2.2) = c1 at hc1 ht1 ⊢
    refine Seq.set 68 (.int .i64 ((flatP (l.take 1)).length : Int)) rfl (by show Value.int .i64 ((l[0].2.2.length : Nat) : Int) = _; congr 2; rw [show (1 : Nat) = 0 + 1 from rfl, hlen1, hz, Nat.zero_add]) ?_
    refine Seq.on 200 ?_
    repeat (refine JL.flat ?_)
    refine JL.go 1 ?_
    refine Seq.yield rfl rfl (Yl.sliceB 1 l.length rfl rfl rfl rfl rfl rfl rfl rfl (by omega) (by omega) hc) ?_
    refine Seq.on 200 ?_
    have hS' : ∀ h, F h → SlIn 1 (slAddr a c 1 1) (l.length - 1) (((l.map pieceV).drop (1 * 1)).take ((l.length - 1) * 1)) h := fun h hF => slAddr_in (hS h hF) hc (by omega) (by omega)
    repeat (refine JL.flat ?_)
    refine JL.block ?_
    refine JL.loop (X := {p : Nat × List Value // p.1 ≤ l.length - 1 ∧ p.2.length = cs.size ∧ p.2.take (flatP (l.take (p.1 + 1))).length = bytesV (flatP (l.take (p.1 + 1)))}) ⟨(0, c1), by omega, hc1, ht1⟩
      (fun p => [(1, .slice none 0 0), (8, .slice (some ⟨b, 0, none⟩) (flatP l).length (flatP l).length), (70, .slice (slAddr a c 1 1) (l.length - 1) (c - 1)), (71, .int .i64 ((l.length - 1 : Nat) : Int)), (72, .int .i64 (p.1.1 : Int)), (9, .int .i64 ((flatP (l.take (p.1.1 + 1))).length : Int))])
      (fun p => [pt b (.cells p.1.2.toArray 5 (0, 0)), F]) (fun p => l.length - 1 - p.1.1) ?_ ?_ ?_
    ·
      repeat (first | exact Sub.nil | refine Sub.cons rfl ?_)
    · exact (Gives.sound (by repeat (first | exact Gives.nil | (apply Gives.cons; · repeat (first | exact Pick.here | apply Pick.there)))))
    rintro ⟨⟨j, cj⟩, hj, hcj, htj⟩
    dsimp only at hj hcj htj ⊢
    repeat (refine JL.flat ?_)
    refine JL.go 200 ?_
    rcases Nat.lt_or_ge j (l.length - 1) with hjlt | hjge
    · refine JL.set 73 (.bool true) rfl (congrArg Value.bool (by simp; omega)) ?_
      repeat (refine JL.flat ?_)
      refine JL.ifT rfl ?_
      try refine JL.skip ?_
      repeat (refine JL.flat ?_)
      refine JL.block ?_
      have hj1 : j + 1 < l.length := by omega
      have hftj := flatP_take (l := l) (k := j + 1) hj1
      have hlej := flatP_le (l := l) (k := j + 1 + 1)
      have hlenj : (flatP (l.take (j + 1 + 1))).length = (flatP (l.take (j + 1))).length + l[j + 1].2.2.length := by rw [hftj, List.length_append]
      repeat (refine JL.flat ?_)
      refine JL.go 0 ?_
      refine Seq.idx j rfl rfl rfl rfl rfl rfl rfl (Tells.frame (by repeat (first | exact Pick.here | apply Pick.there)) (fun _ _ => SlIn.mono) hS') (by omega) ?_
      intro b0 off0 hcell0
      refine Seq.load (v := pieceV l[j + 1]) rfl rfl rfl rfl rfl hcell0 (by show (Ent.sub _ (j * 1) 1).length = 1; rw [sub_tail hj1]; rfl) (by show valOf false (Ent.sub _ (j * 1) 1) = _; rw [sub_tail hj1]; rfl) ?_
      refine Seq.on 200 ?_
      repeat (refine JL.flat ?_)
      refine JL.go 200 ?_
      have hsl : slAddr (some ⟨b, 0, none⟩) (flatP l).length (flatP (l.take (j + 1))).length 1 = some ⟨b, if (flatP l).length = (flatP (l.take (j + 1))).length then 0 else (flatP (l.take (j + 1))).length, none⟩ := by
        unfold slAddr
        split
        · rfl
        · simp [Addr.add_plain]
      generalize hoff : (if (flatP l).length = (flatP (l.take (j + 1))).length then 0 else (flatP (l.take (j + 1))).length) = off at hsl
      refine Seq.yield rfl rfl (Yl.sliceB (flatP (l.take (j + 1))).length (flatP l).length rfl rfl rfl rfl rfl rfl rfl rfl (by omega) (by omega) (Nat.le_refl _)) ?_
      refine Seq.set 79 (.slice (some ⟨b, off, none⟩) ((flatP l).length - (flatP (l.take (j + 1))).length) ((flatP l).length - (flatP (l.take (j + 1))).length)) rfl (by rw [← hsl]) ?_
      refine Seq.on 200 ?_
      refine Seq.eff rfl rfl (Ef.copyB (ys := []) rfl rfl rfl rfl rfl (by repeat (first | exact Pick.here | apply Pick.there)) (fun _ _ => ⟨rfl, .inl rfl⟩) (by simp) (by subst hoff; simp; split <;> omega)) ?_
      intro _
      rw [show bytesV ([] : List UInt8) = [] from rfl, over_nil]
      refine Seq.on 1 ?_
      refine Seq.set 82 (.int .i64 ((flatP (l.take (j + 1))).length : Int)) rfl (congrArg (Value.int .i64) (by
        show IntKind.i64.wrap (((flatP (l.take (j + 1))).length : Int) + ((0 : Nat) : Int)) = _
        rw [← Int.natCast_add]; exact wrapI (Nat.lt_of_lt_of_eq (Nat.lt_of_le_of_lt (show (flatP (l.take (j + 1))).length + 0 ≤ 10000000 by omega) (by decide)) two63))) ?_
      refine Seq.on 200 ?_
      repeat (refine JL.flat ?_)
      refine JL.go 200 ?_
      refine Seq.yield rfl rfl (Yl.sliceB (flatP (l.take (j + 1))).length (flatP l).length rfl rfl rfl rfl rfl rfl rfl rfl (by omega) (by omega) (Nat.le_refl _)) ?_
      refine Seq.set 86 (.slice (some ⟨b, off, none⟩) ((flatP l).length - (flatP (l.take (j + 1))).length) ((flatP l).length - (flatP (l.take (j + 1))).length)) rfl (by rw [← hsl]) ?_
      refine Seq.on 200 ?_
      refine Seq.eff rfl rfl (Ef.copyB (ys := l[j + 1].2.2) rfl rfl rfl rfl rfl (by repeat (first | exact Pick.here | apply Pick.there)) (Tells.frame (by repeat (first | exact Pick.here | apply Pick.there)) (fun _ _ => BIn.mono) (hP (j + 1) hj1)) (by omega) (by subst hoff; split <;> omega)) ?_
      intro _
      refine Seq.on 1 ?_
      refine Seq.set 89 (.int .i64 ((flatP (l.take (j + 1 + 1))).length : Int)) rfl (congrArg (Value.int .i64) (by
        show IntKind.i64.wrap (((flatP (l.take (j + 1))).length : Int) + ((l[j + 1].2.2.length : Nat) : Int)) = _
        rw [← Int.natCast_add, hlenj]; exact wrapI (Nat.lt_of_lt_of_eq (Nat.lt_of_le_of_lt (show (flatP (l.take (j + 1))).length + l[j + 1].2.2.length ≤ 10000000 by omega) (by decide)) two63))) ?_
      refine Seq.on 200 ?_
      repeat (refine JL.flat ?_)
      refine JL.nil (At.block_normal (At.then_normal (JL.at ?_)))
      repeat (refine JL.flat ?_)
      refine JL.go 200 ?_
      refine JL.set 72 (.int .i64 ((j + 1 : Nat) : Int)) rfl (congrArg (Value.int .i64) (by rw [show (j : Int) + 1 = ((j + 1 : Nat) : Int) by omega]; exact wrapI (Nat.lt_of_lt_of_eq (Nat.lt_of_le_of_lt (show j + 1 ≤ 10000000 by omega) (by decide)) two63))) ?_
      have hc2 : (over cj off (bytesV l[j + 1].2.2)).length = cs.size := by
        rw [over_len (by rw [bytesV_length, hcj]; subst hoff; split <;> omega), hcj]
      have ht2 : (over cj off (bytesV l[j + 1].2.2)).take (flatP (l.take (j + 1 + 1))).length = bytesV (flatP (l.take (j + 1 + 1))) := by
        rw [hftj, List.length_append, bytesV_append]
        by_cases hN : (flatP l).length = (flatP (l.take (j + 1))).length
        · have h0 : l[j + 1].2.2 = [] := List.eq_nil_of_length_eq_zero (by omega)
          rw [h0, show bytesV ([] : List UInt8) = [] from rfl, over_nil, List.length_nil, Nat.add_zero, List.append_nil]
          exact htj
        · rw [if_neg hN] at hoff
          subst hoff
          have := over_take (c := cj) (vs := bytesV l[j + 1].2.2) (off := (flatP (l.take (j + 1))).length) (by omega)
          rw [bytesV_length] at this
          rw [this, htj]
      generalize over cj off (bytesV l[j + 1].2.2) = c2 at hc2 ht2 ⊢
      repeat (refine JL.flat ?_)
      refine JL.nil (At.then_normal ?_)
      refine At.again (X := {p : Nat × List Value // p.1 ≤ l.length - 1 ∧ p.2.length = cs.size ∧ p.2.take (flatP (l.take (p.1 + 1))).length = bytesV (flatP (l.take (p.1 + 1)))}) (x := ⟨(j, cj), hj, hcj, htj⟩) ⟨(j + 1, c2), by show j + 1 ≤ l.length - 1; omega, hc2, ht2⟩ (by show l.length - 1 - (j + 1) < l.length - 1 - j; omega) (Sub.look ?_) ?_
      ·
        repeat (first | exact Sub.nil | refine Sub.cons rfl ?_)
      · exact (Gives.sound (by repeat (first | exact Gives.nil | (apply Gives.cons; · repeat (first | exact Pick.here | apply Pick.there)))))
    · obtain rfl : j = l.length - 1 := by omega
      refine JL.set 73 (.bool false) rfl (congrArg Value.bool (by simp)) ?_
      repeat (refine JL.flat ?_)
      refine JL.ifF rfl ?_
      try refine JL.skip ?_
      repeat (refine JL.flat ?_)
      refine JL.exit ?_
      repeat (first | refine At.then_exit ?_ | refine At.block_pass rfl ?_)
      refine At.block_exit (At.then_normal (JL.at ?_))
      rw [show l.length - 1 + 1 = l.length by omega, List.take_length] at htj
      repeat (refine JL.flat ?_)
      refine JL.go 200 ?_
      repeat (refine JL.flat ?_)
      refine JL.ret ?_
      repeat (first | refine At.then_ret ?_ | refine At.block_ret ?_)
      refine At.done1 rfl ((some ⟨b, 0, none⟩, (flatP l).length)) rfl ?_
      refine fun h hs => star_mono (fun h hx => ?_) (fun _ h => h) hs
      refine ⟨by simp [bytesV], .inr ⟨b, 0, rfl, cj.toArray, _, _, hx, fun q v hq => ?_⟩⟩
      rw [← htj, List.getElem?_take] at hq
      split at hq
      · simpa using hq
      · cases hq
theorem Of_ok (a : Option Addr) (l : List Piece) (c : Nat) (h2 : 2 ≤ l.length) (hc : l.length ≤ c) (hm : l.length ≤ 1000) (hl : (flatP l).length ≤ 10000000) : Trip Tryz.prog 298 [.slice a l.length c] (fun h => Glob h ∧ Pieces a l h) [] (X := Unit)
    (fun _ => .agg (bytesV (sumB (flatP l))).toArray) (fun _ => []) := by
  refine Trip.start (n := 6) Tryz.func298 (by kernel_rfl) rfl rfl rfl ?_
  intro F w hD
  repeat (refine JL.flat ?_)
  refine JL.go 0 ?_
  refine Seq.eff rfl rfl (Ef.alloc tab_zero rfl rfl) ?_
  intro b2
  refine Seq.on 200 ?_
  repeat (refine JL.flat ?_)
  refine JL.go 200 ?_
  apply Seq.call (BJoin_ok a l c h2 hc hm hl) rfl rfl rfl rfl rfl rfl
  ·
    repeat (first | exact Picks.nil | (apply Picks.cons; · repeat (first | exact Pick.here | apply Pick.there)))
  · exact Tells.frame (by repeat (first | exact Pick.here | apply Pick.there)) (fun _ _ => Pieces.mono) (fun h hF => (hD h hF).2)
  intro r
  apply Seq.call (Sum_ok r.1 (flatP l) r.2 hl) rfl rfl rfl rfl rfl rfl
  ·
    repeat (first | exact Picks.nil | (apply Picks.cons; · repeat (first | exact Pick.here | apply Pick.there)))
  · exact fun h hs => ⟨Tells.frame (D := Glob) (by repeat (first | exact Pick.here | apply Pick.there)) (fun _ _ => Glob.mono) (fun h hF => (hD h hF).1) h hs, Tells.read (by repeat (first | exact Pick.here | apply Pick.there)) h hs⟩
  intro _
  have h32 := sumB_length (flatP l)
  generalize sumB (flatP l) = H at h32 ⊢
  refine Seq.storeAll rfl rfl rfl rfl rfl rfl (by repeat (first | exact Pick.here | apply Pick.there)) (by simp [Value.cells, bytesV, h32]) (Ones_bytesV _) rfl ?_
  refine Seq.on 200 ?_
  refine JL.ret (At.doneC rfl () rfl rfl (Tells.all (by repeat (first | exact Pick.here | apply Pick.there))) (by simp [Value.cells, bytesV, h32]) rfl rfl ?_)
  exact (Gives.sound (by repeat (first | exact Gives.nil | (apply Gives.cons; · repeat (first | exact Pick.here | apply Pick.there)))))
end Go.Ent
