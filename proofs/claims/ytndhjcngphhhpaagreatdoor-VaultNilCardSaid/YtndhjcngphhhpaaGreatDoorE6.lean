/-
  a part of the proof: contracts of functions, and the engine by which they are walked.
-/
import Derived.Test.YtndhjcngphhhpaaGreatDoorE5
import Derived.Test.YtndhjcngphhhpaaGreatDoorE3
set_option linter.unusedVariables false
set_option linter.unusedSimpArgs false
namespace Go.Ent
open Go Go.Proofs Go.MapKept
section
variable {n : Nat} {ds : Fz} {w0 : World} {E : Env} {G : List Assn} {Q : Exit → Act → World → Prop}
/-- a key that is two numbers, looked up in a map that is empty. -/
theorem Yl.lookEmpty {o : Oper} {t kt et : TypeId} {s1 b1 : Nat} {x i : Operand} {c : Bool} {b cl : Nat} {zi : TI} {z : List Value} {zv kv : Value} (ho : o.op = .lookup t x i c) (hx : ev E x = some (.map (some b))) (hi : ev E i = some kv)
    (ht : tab t = some ⟨.map kt et, s1, b1⟩) (hck : ∀ w, (Instr.checkKey true 10000 kt kv).run Tryz.prog w = .ok () w) (hd : ∃ d, Tryz.prog.underlying kt = some d) (p : Tells G (fun h => h b = some (.map #[] cl))) (he : tab et = some zi) (hz : zeroOf tab 8 et = some z) (hzv : valOf (aggK zi.k) z = some zv) : Yl Tryz.prog n ds w0 E G o (if c then .tuple #[zv, .bool false] else zv) := fun a w ha hw => by
  have hb' : w.heap[b]? = some (.map #[] cl) := p _ hw.sep
  obtain ⟨v, hzr, _, i', hi', hv'⟩ := tab_zero et z hz
  rw [he] at hi'
  cases hi'
  rw [hzv] at hv'
  cases hv'
  obtain ⟨d, hd⟩ := hd
  have hu := tab_ok.map ht
  have hfk : (Instr.findKey kt kv ([] : List MapEntry)).run Tryz.prog w = .ok none w := by
    simp [Instr.findKey, run_underlying hd, Instr.findNow]
  cases c <;> simp [execOp, ho, Instr.lookup, ha.eval hx, ha.eval hi, run_underlying hu, MapKept.run_getObj_map hb', hck, hfk, hzr]
theorem Yl.lookEmptyT {o : Oper} {t kt et : TypeId} {s1 b1 : Nat} {x i : Operand} {b cl : Nat} {zi : TI} {z : List Value} {zv : Value} (kv : Value) (ho : o.op = .lookup t x i true) (hx : ev E x = some (.map (some b))) (hi : ev E i = some kv)
    (ht : tab t = some ⟨.map kt et, s1, b1⟩) (hck : ∀ w, (Instr.checkKey true 10000 kt kv).run Tryz.prog w = .ok () w) (hd : ∃ d, Tryz.prog.underlying kt = some d) (p : Tells G (fun h => h b = some (.map #[] cl))) (he : tab et = some zi) (hz : zeroOf tab 8 et = some z) (hzv : valOf (aggK zi.k) z = some zv) : Yl Tryz.prog n ds w0 E G o (.tuple #[zv, .bool false]) := by
  have := Yl.lookEmpty (c := true) (n := n) (ds := ds) (w0 := w0) ho hx hi ht hck hd p he hz hzv
  exact this
theorem run_indexAgg {o : Oper} {x ix : Operand} {t e : TypeId} {ts tb m : Nat} {ei : TI} {cs : List Value} {ik : IntKind} (i : Nat) (ho : o.op = .index t x ix) (hx : ev E x = some (.agg cs.toArray)) (hi : ev E ix = some (.int ik (i : Int)))
    (ht : tab t = some ⟨.arr m e, ts, tb⟩) (he : tab e = some ei) (hk : aggK ei.k = true) (hlt : i < m) (a : Act) (w : World) (ha : Agree n ds E a) :
    (execOp a.eval o).run Tryz.prog w = .ok (.value (.agg (Ent.sub cs (i * ei.size) ei.size).toArray)) w := by
  have h0 : (0 : Int) ≤ i := by omega
  have h1 : (i : Int) < m := by omega
  have hsz := fun w => run_sizeOf_tab tab_ok he w
  have hag := fun w => run_isAgg_tab tab_ok he w
  rw [hk] at hag
  simp [execOp, ho, Instr.index, ha.eval hx, ha.eval hi, asIntOf, run_underlying (tab_ok.arr ht), hsz, part, hag]
  rw [if_pos hlt]
  simp [Ent.sub]
end
theorem flatB_at (t : Nat) : ∀ d, ((flatB (t + 1 + d)).drop (t * 32)).take 32 = emptyB t
  | 0 => by
    have h1 := flatB_length t
    have h2 := emptyB_length t
    show ((flatB t ++ emptyB t).drop (t * 32)).take 32 = _
    rw [List.drop_append_of_le_length (by omega), List.drop_of_length_le (by omega), List.nil_append, List.take_of_length_le (by omega)]
  | d + 1 => by
    have h1 := flatB_length (t + 1 + d)
    show ((flatB (t + 1 + d) ++ emptyB (t + 1 + d)).drop (t * 32)).take 32 = _
    rw [List.drop_append_of_le_length (by omega), List.take_append_of_le_length (by simp; omega)]
    exact flatB_at t d
theorem EB_at {t : Nat} (h : t < 33) : ((EB 33).drop (t * 32)).take 32 = emptyB t := by
  have h1 := flatB_length 33
  unfold EB
  rw [List.drop_append_of_le_length (by omega), List.take_append_of_le_length (by simp; omega)]
  have := flatB_at t (32 - t)
  rw [show t + 1 + (32 - t) = 33 by omega] at this
  exact this
/-- the height for so many blocks. -/
def heightN (blocks : Nat) : Nat := Lib.bitLen (blocks - 1)
theorem bitLen_le (x : Nat) (h : x < 4294967296) : Lib.bitLen x ≤ 32 := by
  have : Lib.bitLen x = Lib.bitLenAux 32 x := Lib.bitLenAux_fuel 32 x (by simpa using h) 64 (by omega)
  rw [this]
  have aux : ∀ f x, Lib.bitLenAux f x ≤ f := by
    intro f
    induction f with
    | zero => intro x; exact Nat.le_refl _
    | succ f ih => intro x; unfold Lib.bitLenAux; split; omega; have := ih (x / 2); omega
  exact aux 32 x
theorem heightN_le {blocks : Nat} (h2 : blocks ≤ 4294967296) : heightN blocks ≤ 32 := bitLen_le _ (by omega)
theorem Height_ok (blocks : Nat) (h1 : 1 ≤ blocks) (h2 : blocks ≤ 4294967296) : Trip Tryz.prog 37 [.int .u64 (blocks : Int)] none_ [] (X := Unit) (fun _ => .tuple #[.int .i64 (heightN blocks : Int), .nilIface]) (fun _ => []) := by
  refine Trip.start (n := 14) Tryz.func37 (by kernel_rfl) rfl rfl rfl ?_
  intro F w hD
  repeat (refine JL.flat ?_)
  refine JL.go 200 ?_
  repeat (refine JL.flat ?_)
  refine JL.go 2 ?_
  refine Seq.set 5 (.bool false) rfl (congrArg Value.bool (by simp; omega)) ?_
  refine Seq.on 3 ?_
  refine Seq.set 8 (.bool false) rfl (congrArg Value.bool (by simp; omega)) ?_
  refine Seq.on 200 ?_
  repeat (refine JL.flat ?_)
  refine JL.ifF rfl ?_
  try refine JL.skip ?_
  repeat (refine JL.flat ?_)
  refine JL.go 2 ?_
  refine Seq.set 12 (.int .u64 ((blocks - 1 : Nat) : Int)) rfl (congrArg (Value.int .u64) (by rw [show (blocks : Int) - 1 = ((blocks - 1 : Nat) : Int) by omega]; exact wrap_int (by omega) (by omega))) ?_
  apply Seq.call (Len64_ok (blocks - 1) (by omega)) rfl rfl rfl rfl rfl rfl
  · repeat (first | exact Picks.nil | (apply Picks.cons; · repeat (first | exact Pick.here | apply Pick.there)))
  · exact Tells.none
  intro _
  refine Seq.on 200 ?_
  repeat (refine JL.flat ?_)
  refine JL.ret ?_
  repeat (first | refine At.then_ret ?_ | refine At.block_ret ?_)
  refine At.done2 rfl (()) rfl rfl rfl ?_
  exact (Gives.sound (by repeat (first | exact Gives.nil | (apply Gives.cons; · repeat (first | exact Pick.here | apply Pick.there)))))
/-- an empty tree of a height. -/
def TrE (p h : Nat) : Assn := exA fun mb : Nat => [pt p (.cells (Value.int .i64 (h : Int) :: Value.map (some mb) :: bytesV (EB 33)).toArray 265 (0, 0)), pt mb (.map #[] 0)]
theorem zeroTree : zeroOf tab 8 265 = some (Value.int .i64 0 :: Value.map none :: bytesV (EB 0)) := by kernel_rfl
theorem fill_tree (h : Int) (mb : Nat) (L : List UInt8) (hL : L.length = 1056) :
    fillL (placesOf [(0, 3, 1), (1, 263, 1), (2, 105, 1056)]) (Value.int .i64 0 :: Value.map none :: bytesV (EB 0)) [(0, .int .i64 h), (1, .map (some mb)), (2, .agg (bytesV L).toArray)] = some (Value.int .i64 h :: Value.map (some mb) :: bytesV L) := by
  have hE : (bytesV (EB 0)).length = 1056 := by rw [bytesV_length]; exact EB_length (by omega)
  have hb : ∀ (x y : Value), Nat.blt (x :: y :: bytesV (EB 0)).length (2 + 1056) = false := fun x y => by
    cases hq : Nat.blt (x :: y :: bytesV (EB 0)).length (2 + 1056) with
    | false => rfl
    | true => rw [Nat.blt_eq] at hq; simp [hE] at hq
  have hb1 : ∀ (x y : Value), Nat.blt (x :: y :: bytesV (EB 0)).length 2 = false := fun x y => by
    cases hq : Nat.blt (x :: y :: bytesV (EB 0)).length 2 with
    | false => rfl
    | true => rw [Nat.blt_eq] at hq; exfalso; simp only [List.length_cons] at hq; omega
  have hb0 : ∀ (x y : Value), Nat.blt (x :: y :: bytesV (EB 0)).length 1 = false := fun x y => by
    cases hq : Nat.blt (x :: y :: bytesV (EB 0)).length 1 with
    | false => rfl
    | true => rw [Nat.blt_eq] at hq; exfalso; simp only [List.length_cons] at hq; omega
  have hs : (Value.agg (bytesV L).toArray).cells.size = 1056 := by simp [Value.cells, bytesV, hL]
  have o0 : over (Value.int .i64 0 :: Value.map none :: bytesV (EB 0)) 0 [Value.int .i64 h] = Value.int .i64 h :: Value.map none :: bytesV (EB 0) := rfl
  have o1 : over (Value.int .i64 h :: Value.map none :: bytesV (EB 0)) 1 [Value.map (some mb)] = Value.int .i64 h :: Value.map (some mb) :: bytesV (EB 0) := rfl
  have o2 : over (Value.int .i64 h :: Value.map (some mb) :: bytesV (EB 0)) 2 (bytesV L) = Value.int .i64 h :: Value.map (some mb) :: bytesV L := by
    unfold over
    rw [bytesV_length, hL, List.drop_of_length_le (by simp [hE]; )]
    simp
  have hsL : (bytesV L).length = 1056 := by rw [bytesV_length, hL]
  simp [fillL, placesOf, nth, Value.cells, o0, o1, o2, hsL, hE]
  try rfl
theorem TNew_ok (h : Nat) (h2 : h ≤ 32) : Trip Tryz.prog 174 [.int .i64 (h : Int)] Glob [] (X := Nat) (fun p => .tuple #[ptrV p, .nilIface]) (fun p => [TrE p h]) := by
  refine Trip.start (n := 16) Tryz.func174 (by kernel_rfl) rfl rfl rfl ?_
  intro F w hD
  repeat (refine JL.flat ?_)
  refine JL.go 200 ?_
  repeat (refine JL.flat ?_)
  refine JL.go 2 ?_
  refine Seq.set 5 (.bool false) rfl (congrArg Value.bool (by simp)) ?_
  refine Seq.on 3 ?_
  refine Seq.set 8 (.bool false) rfl (congrArg Value.bool (by simp; omega)) ?_
  refine Seq.on 200 ?_
  repeat (refine JL.flat ?_)
  refine JL.ifF rfl ?_
  try refine JL.skip ?_
  repeat (refine JL.flat ?_)
  refine JL.go 200 ?_
  refine Seq.eff rfl rfl (Ef.makeMap rfl) ?_
  intro mb
  apply Seq.call (Empties_ok) rfl rfl rfl rfl rfl rfl
  ·
    repeat (first | exact Picks.nil | (apply Picks.cons; · repeat (first | exact Pick.here | apply Pick.there)))
  · exact Tells.frame (by repeat (first | exact Pick.here | apply Pick.there)) (fun _ _ => Glob.mono) hD
  intro _
  have hl := EB_length (t := 33) (by omega)
  unfold TrE
  generalize EB 33 = L at hl ⊢
  refine Seq.yield rfl rfl (Yl.build rfl rfl rfl zeroTree (fill_tree (h : Int) mb L hl)) ?_
  refine Seq.eff rfl rfl (Ef.box rfl rfl) ?_
  intro p
  refine Seq.on 200 ?_
  repeat (refine JL.flat ?_)
  refine JL.ret ?_
  repeat (first | refine At.then_ret ?_ | refine At.block_ret ?_)
  refine At.done2 rfl (p) rfl rfl rfl ?_
  exact Gives.sound (Gives.ex mb (by repeat (first | exact Gives.nil | (apply Gives.cons; · repeat (first | exact Pick.here | apply Pick.there)))))
/-- a state of so many blocks, without sealed ones. -/
theorem blank_ok (blocks : Nat) (h1 : 1 ≤ blocks) (h2 : blocks ≤ 4294967296) : Trip Tryz.prog 92 [.int .u64 (blocks : Int)] Glob [] (X := Nat × Nat) (fun r => .tuple #[.agg #[.int .u64 (blocks : Int), .map (some r.1), ptrV r.2], .nilIface])
    (fun r => [pt r.1 (.map #[] 0), TrE r.2 (heightN blocks)]) := by
  refine Trip.start (n := 26) Tryz.func92 (by kernel_rfl) rfl rfl rfl ?_
  intro F w hD
  repeat (refine JL.flat ?_)
  refine JL.go 0 ?_
  refine Seq.eff rfl rfl (Ef.alloc tab_zero rfl rfl) ?_
  intro b2
  refine Seq.on 200 ?_
  repeat (refine JL.flat ?_)
  refine JL.go 200 ?_
  apply Seq.call (Height_ok blocks h1 h2) rfl rfl rfl rfl rfl rfl
  · repeat (first | exact Picks.nil | (apply Picks.cons; · repeat (first | exact Pick.here | apply Pick.there)))
  · exact Tells.none
  intro _
  refine Seq.on 200 ?_
  repeat (refine JL.flat ?_)
  refine JL.go 200 ?_
  repeat (refine JL.flat ?_)
  refine JL.ifF rfl ?_
  try refine JL.skip ?_
  repeat (refine JL.flat ?_)
  refine JL.go 200 ?_
  apply Seq.call (TNew_ok (heightN blocks) (heightN_le h2)) rfl rfl rfl rfl rfl rfl
  ·
    repeat (first | exact Picks.nil | (apply Picks.cons; · repeat (first | exact Pick.here | apply Pick.there)))
  · exact Tells.frame (by repeat (first | exact Pick.here | apply Pick.there)) (fun _ _ => Glob.mono) hD
  intro tp
  refine Seq.on 200 ?_
  repeat (refine JL.flat ?_)
  refine JL.go 200 ?_
  refine Seq.eff rfl rfl (Ef.makeMap rfl) ?_
  intro mb
  refine Seq.on 200 ?_
  refine Seq.yield rfl rfl (Yl.build rfl rfl rfl rfl rfl) ?_
  refine Seq.on 200 ?_
  apply Seq.storeLit rfl rfl rfl rfl rfl rfl
  · repeat (first | exact Pick.here | apply Pick.there)
  · rfl
  · rfl
  · rfl
  refine Seq.on 200 ?_
  refine JL.ret (At.doneC2 rfl (mb, tp) rfl rfl (Tells.all (by repeat (first | exact Pick.here | apply Pick.there))) rfl rfl rfl rfl ?_)
  exact (Gives.sound (by repeat (first | exact Gives.nil | (apply Gives.cons; · repeat (first | exact Pick.here | apply Pick.there)))))
/-- what the vault itself has. -/
def metaB (blocks epoch base : Nat) : List UInt8 := beB blocks 8 ++ beB epoch 8 ++ beB base 8
def metaC (blocks epoch base : Nat) : Cc := ([77], metaB blocks epoch base, false)
theorem metaB_length (blocks epoch base : Nat) : (metaB blocks epoch base).length = 24 := by simp [metaB, beB_length]
theorem meta_ok (blocks epoch base : Nat) (h1 : blocks < 18446744073709551616) (h2 : epoch < 18446744073709551616) (h3 : base < 18446744073709551616) : Trip Tryz.prog 77 [.int .u64 (blocks : Int), .int .u64 (epoch : Int), .int .u64 (base : Int)] none_ [] (X := (Option Addr × Nat) × (Option Addr × Nat))
    (fun r => chV ⟨(r.1.1, r.1.2, [77]), (r.2.1, r.2.2, metaB blocks epoch base), false⟩) (fun r => [BOwn r.1 [77], BOwn r.2 (metaB blocks epoch base)]) := by
  have h64 : (2 : Nat) ^ (8 * 8) = 18446744073709551616 := by decide
  refine Trip.start (n := 29) Tryz.func77 (by kernel_rfl) rfl rfl rfl ?_
  intro F w hD
  repeat (refine JL.flat ?_)
  refine JL.go 0 ?_
  refine Seq.eff rfl rfl (Ef.alloc tab_zero rfl rfl) ?_
  intro b6
  refine Seq.on 200 ?_
  repeat (refine JL.flat ?_)
  refine JL.go 200 ?_
  refine Seq.yield rfl rfl (Yl.build rfl rfl rfl rfl rfl) ?_
  refine Seq.eff rfl rfl (Ef.box rfl rfl) ?_
  intro pw
  refine Seq.on 200 ?_
  refine JL.to [Wr pw .nilIface [], pt b6 (.cells [Value.slice none 0 0, Value.slice none 0 0, Value.bool false].toArray 179 (0, 0)), F] (fun h hs => star_mono (fun h hx => Wr.new h hx) (fun _ h => h) hs) ?_
  repeat (refine JL.flat ?_)
  refine JL.go 200 ?_
  apply Seq.call (Num_8 pw .nilIface [] blocks (by omega) (by simp)) rfl rfl rfl rfl rfl rfl
  · repeat (first | exact Picks.nil | (apply Picks.cons; · repeat (first | exact Pick.here | apply Pick.there)))
  · exact Tells.none
  intro _
  refine Seq.on 200 ?_
  apply Seq.call (Num_8 pw .nilIface ([] ++ beB blocks 8) epoch (by omega) (by simp [beB_length])) rfl rfl rfl rfl rfl rfl
  · repeat (first | exact Picks.nil | (apply Picks.cons; · repeat (first | exact Pick.here | apply Pick.there)))
  · exact Tells.none
  intro _
  refine Seq.on 200 ?_
  apply Seq.call (Num_8 pw .nilIface ([] ++ beB blocks 8 ++ beB epoch 8) base (by omega) (by simp [beB_length])) rfl rfl rfl rfl rfl rfl
  · repeat (first | exact Picks.nil | (apply Picks.cons; · repeat (first | exact Pick.here | apply Pick.there)))
  · exact Tells.none
  intro _
  refine Seq.on 200 ?_
  have hm : [] ++ beB blocks 8 ++ beB epoch 8 ++ beB base 8 = metaB blocks epoch base := rfl
  rw [hm]
  have hl := metaB_length blocks epoch base
  generalize metaB blocks epoch base = M at hl ⊢
  apply Seq.call (Done_ok pw M (by omega)) rfl rfl rfl rfl rfl rfl
  · repeat (first | exact Picks.nil | (apply Picks.cons; · repeat (first | exact Pick.here | apply Pick.there)))
  · exact Tells.none
  intro r
  refine Seq.on 200 ?_
  repeat (refine JL.flat ?_)
  refine JL.go 200 ?_
  repeat (refine JL.flat ?_)
  refine JL.ifF rfl ?_
  try refine JL.skip ?_
  repeat (refine JL.flat ?_)
  refine JL.go 200 ?_
  refine Seq.bslice (out := (bytesV [77])) rfl rfl rfl rfl rfl rfl rfl rfl (by rfl) rfl (by rfl) ?_
  intro bk
  refine Seq.on 200 ?_
  refine Seq.yield rfl rfl (Yl.build rfl rfl rfl rfl rfl) ?_
  apply Seq.storeLit rfl rfl rfl rfl rfl rfl
  · repeat (first | exact Pick.here | apply Pick.there)
  · rfl
  · rfl
  · rfl
  refine Seq.on 200 ?_
  refine JL.ret (At.doneC rfl ((some ⟨bk, 0, none⟩, 1), r) rfl rfl (Tells.all (by repeat (first | exact Pick.here | apply Pick.there))) rfl rfl rfl ?_)
  exact (Gives.sound (by repeat (first | exact Gives.nil | (apply Gives.cons; · repeat (first | exact Pick.here | apply Pick.there)))))
end Go.Ent
namespace Go.Ent
open Go Go.Proofs Go.MapKept
/-- a disk behind sweep.Format. -/
def L1 : Int → List UInt8 := updL zeroL 1 (manB 1)
theorem L1_zero {n : Int} (h : n ≠ 1) : L1 n = List.replicate 64 0 := by unfold L1 updL zeroL; rw [if_neg h]
theorem L1_one : L1 1 = manB 1 := by unfold L1 updL; rw [if_pos rfl]
theorem L1_len (n : Int) : (L1 n).length = 64 := by
  by_cases h : n = 1
  · subst h; rw [L1_one, manB_length]
  · rw [L1_zero h]; simp
theorem man1_gen : numB ((manB 1).take 4) = 1 := by
  unfold manB manH
  rw [List.append_assoc, List.take_left' (beB_length 1 4)]
  rfl
theorem zeros_gen : numB ((List.replicate 64 (0 : UInt8)).take 4) = 0 := rfl
/-- the first generation counts on a disk whose first two sectors are those of sweep.Format. -/
theorem best_one {L : Int → List UInt8} (h0 : L 0 = List.replicate 64 0) (h1 : L 1 = manB 1) : bestN L 2 = 1 := by
  have g0 : genOf L 0 = 0 := by unfold genOf; rw [show ((0 : Nat) : Int) = 0 from rfl, h0, zeros_gen]
  have g1 : genOf L 1 = 1 := by unfold genOf; rw [show ((1 : Nat) : Int) = 1 from rfl, h1, man1_gen]
  have b1 : bestN L 1 = 0 := by
    show (if L ((0 : Nat) : Int) = manB (genOf L 0) ∧ genOf L 0 % 2 = 0 then max (bestN L 0) (genOf L 0) else bestN L 0) = 0
    rw [g0]
    split <;> rfl
  show (if L ((1 : Nat) : Int) = manB (genOf L 1) ∧ genOf L 1 % 2 = 1 then max (bestN L 1) (genOf L 1) else bestN L 1) = 1
  rw [g1, b1, show ((1 : Nat) : Int) = 1 from rfl, h1]
  simp
theorem L1_recs {k : Nat} (h : 4 ≤ k) : Recs L1 (firstN k 1) (sizeN k) 1 [] := by
  have hf : 3 ≤ firstN k 1 := by unfold firstN; omega
  refine ⟨fun i hi => by simp at hi, Nat.zero_le _, ?_, fun j _ _ => ?_⟩
  · show partR L1 (firstN k 1) (sizeN k) 1 0 1 = none
    unfold partR
    rw [L1_zero (by omega)]
    unfold partOf
    rw [zeros_gen]
    simp
  · rw [L1_zero (by omega), zeros_gen]
    omega
def metaP (blocks : Nat) : List UInt8 := putB [metaC blocks 0 0]
theorem metaP_length (blocks : Nat) : (metaP blocks).length = 32 := by simp [metaP, putB, ccB, metaC, beB_length, metaB_length]
theorem sec32 : sectorsN 32 = 1 := rfl
/-- a disk behind vault.Format. -/
def L2 (k blocks : Nat) : Int → List UInt8 := wrL L1 (firstN k 1) 0 1 (frameB (List.replicate 16 0) 1 (metaP blocks)) 1
theorem L2_other {k blocks : Nat} {n : Int} (h : n ≠ ((firstN k 1 : Nat) : Int)) : L2 k blocks n = L1 n := wrL_other _ _ _ _ _ _ _ (fun j hj => by
  obtain rfl : j = 0 := by omega
  simpa using h)
theorem L2_at {k blocks : Nat} : L2 k blocks ((firstN k 1 + (0 + 0) : Nat) : Int) = recSec 1 (0 + 0) (if 0 = 0 then 1 else 2) (chunkAt (frameB (List.replicate 16 0) 1 (metaP blocks)) 55 0) := wrL_at _ _ _ _ _ _ 0 (by omega)
theorem L2_len {k blocks : Nat} (n : Int) : (L2 k blocks n).length = 64 := by
  by_cases h : n = ((firstN k 1 : Nat) : Int)
  · subst h
    have := L2_at (k := k) (blocks := blocks)
    simp only [Nat.add_zero] at this
    rw [this]
    exact recSec_length (by rw [chunkAt_length]; omega)
  · rw [L2_other h, L1_len]
theorem L2_recs {k blocks : Nat} (h : 4 ≤ k) : Recs (L2 k blocks) (firstN k 1) (sizeN k) 1 [metaP blocks] := by
  have hf : 3 ≤ firstN k 1 := by unfold firstN; omega
  have hs : 1 ≤ sizeN k := by unfold sizeN; omega
  have hl := metaP_length blocks
  have hu : (endR 1 (0, List.replicate 16 0) [metaP blocks]).1 = 1 := by simp [endR, hl, sec32]
  refine ⟨fun i hi => ?_, by rw [hu]; exact hs, ?_, fun j hj1 _ => ?_⟩
  · obtain rfl : i = 0 := by simp at hi; omega
    refine ⟨by show 1 ≤ (metaP blocks).length; omega, by show (metaP blocks).length ≤ 65536; omega, ?_, fun i hi => ?_⟩
    · show 0 + sectorsN (metaP blocks).length ≤ sizeN k
      rw [hl, sec32]; omega
    · have hi' : i < sectorsN (metaP blocks).length := hi
      rw [hl, sec32] at hi'
      obtain rfl : i = 0 := by omega
      exact L2_at
  · rw [hu]
    unfold partR
    split
    · rw [L2_other (by omega), L1_zero (by omega)]
      unfold partOf
      rw [zeros_gen]
      simp
    · rfl
  · rw [hu] at hj1
    rw [L2_other (by omega), L1_zero (by omega), zeros_gen]
    omega
theorem meta_right (blocks epoch base : Nat) : (metaC blocks epoch base).right := by
  refine ⟨by simp [metaC], by simp [metaC], ?_, fun h => by cases h⟩
  show (metaB blocks epoch base).length ≤ 16384
  rw [metaB_length]; omega
set_option maxHeartbeats 800000 in
theorem VFormat_ok (d k m blocks : Nat) (h : 4 ≤ k) (hk : k ≤ 16384) (hm : m ≤ 500) (h1 : 1 ≤ blocks) (h2 : blocks ≤ 4294967296) : Trip Tryz.prog 31 [ptrV d, .int .u64 (blocks : Int)] Glob [Dv d k zeroL m] (X := Unit)
    (fun _ => .nilIface) (fun _ => [Dv d k (L2 k blocks) 0]) := by
  refine Trip.start (n := 33) Tryz.func31 (by kernel_rfl) rfl rfl rfl ?_
  intro F w hD
  repeat (refine JL.flat ?_)
  refine JL.go 200 ?_
  repeat (refine JL.flat ?_)
  refine JL.go 2 ?_
  refine Seq.set 9 (.bool false) rfl (congrArg Value.bool (by simp; omega)) ?_
  refine Seq.on 3 ?_
  refine Seq.set 12 (.bool false) rfl (congrArg Value.bool (by simp; omega)) ?_
  refine Seq.on 200 ?_
  repeat (refine JL.flat ?_)
  refine JL.ifF rfl ?_
  try refine JL.skip ?_
  repeat (refine JL.flat ?_)
  refine JL.go 200 ?_
  apply Seq.call (SwFormat_ok d k m h hk hm) rfl rfl rfl rfl rfl rfl
  ·
    repeat (first | exact Picks.nil | (apply Picks.cons; · repeat (first | exact Pick.here | apply Pick.there)))
  · exact Tells.frame (by repeat (first | exact Pick.here | apply Pick.there)) (fun _ _ => Glob.mono) hD
  intro _
  refine Seq.on 200 ?_
  repeat (refine JL.flat ?_)
  refine JL.go 200 ?_
  repeat (refine JL.flat ?_)
  refine JL.ifF rfl ?_
  try refine JL.skip ?_
  repeat (refine JL.flat ?_)
  refine JL.go 200 ?_
  have hb := best_one (L := L1) (L1_zero (by omega)) L1_one
  have hop := SwOpen_ok d k L1 0 [] h hk L1_len (fun _ hb => by cases hb) (by omega) (by rw [hb]; exact L1_recs h)
  rw [hb] at hop
  apply Seq.call (hop) rfl rfl rfl rfl rfl rfl
  ·
    repeat (first | exact Picks.nil | (apply Picks.cons; · repeat (first | exact Pick.here | apply Pick.there)))
  · exact Tells.frame (by repeat (first | exact Pick.here | apply Pick.there)) (fun _ _ => Glob.mono) hD
  intro s
  refine Seq.on 200 ?_
  repeat (refine JL.flat ?_)
  refine JL.go 200 ?_
  repeat (refine JL.flat ?_)
  refine JL.ifF rfl ?_
  try refine JL.skip ?_
  repeat (refine JL.flat ?_)
  refine JL.go 200 ?_
  apply Seq.call (meta_ok blocks 0 0 (by omega) (by omega) (by omega)) rfl rfl rfl rfl rfl rfl
  · repeat (first | exact Picks.nil | (apply Picks.cons; · repeat (first | exact Pick.here | apply Pick.there)))
  · exact Tells.none
  rintro ⟨r1, r2⟩
  refine Seq.bslice (out := chL ⟨(r1.1, r1.2, [77]), (r2.1, r2.2, metaB blocks 0 0), false⟩) rfl rfl rfl rfl rfl rfl rfl rfl (by rfl) rfl (by rfl) ?_
  intro bl
  refine Seq.on 200 ?_
  have hpl := metaP_length blocks
  have hcm := Commit_ok s d k L1 0 1 (uAt 1 []) (tAt 1 []) (tabOf []) (some ⟨bl, 0, none⟩) [⟨(r1.1, r1.2, [77]), (r2.1, r2.2, metaB blocks 0 0), false⟩] 1 (by simp) (by simp) (fun x hx => by
    simp only [List.mem_cons, List.not_mem_nil, or_false] at hx
    subst hx
    exact meta_right blocks 0 0) (by show (metaP blocks).length ≤ 65536; omega) h hk (by omega) (tAt_length _ _) (by
    show 0 + sectorsN (metaP blocks).length ≤ sizeN k
    rw [hpl, sec32]; unfold sizeN; omega) (by omega)
  apply Seq.call (hcm) rfl rfl rfl rfl rfl rfl
  ·
    repeat (first | exact Picks.nil | (apply Picks.cons; · repeat (first | exact Pick.here | apply Pick.there)))
  · refine fun h hs => ⟨Tells.frame (D := Glob) (by repeat (first | exact Pick.here | apply Pick.there)) (fun _ _ => Glob.mono) hD h hs, ?_, fun c hc => ?_⟩
    · exact Tells.own (by repeat (first | exact Pick.here | apply Pick.there)) h hs
    · simp only [List.mem_cons, List.not_mem_nil, or_false] at hc
      subst hc
      exact ⟨Tells.own (by repeat (first | exact Pick.here | apply Pick.there)) h hs, Tells.own (by repeat (first | exact Pick.here | apply Pick.there)) h hs⟩
  intro _
  refine Seq.on 200 ?_
  repeat (refine JL.flat ?_)
  refine JL.ret ?_
  repeat (first | refine At.then_ret ?_ | refine At.block_ret ?_)
  refine At.done1 rfl (()) rfl ?_
  intro h hs
  have hs1 := (Gives.sound (L := [Swp s d k _ 0 1 _ _ _, F]) (by repeat (first | exact Gives.nil | (apply Gives.cons; · repeat (first | exact Pick.here | apply Pick.there))))) h hs
  obtain ⟨⟨lg, t⟩, hs2⟩ := exA_out hs1
  have hL : wrL L1 (firstN k 1) (uAt 1 []) 1 (frameB (tAt 1 []) 1 (putB [metaC blocks 0 0])) (sectorsN (putB [metaC blocks 0 0]).length) = L2 k blocks := by
    have : sectorsN (putB [metaC blocks 0 0]).length = 1 := by
      show sectorsN (metaP blocks).length = 1
      rw [hpl]; rfl
    rw [this]; rfl
  have hs3 := (Gives.sound (L := [Dv d k (wrL L1 (firstN k 1) (uAt 1 []) 1 (frameB (tAt 1 []) 1 (putB [metaC blocks 0 0])) (sectorsN (putB [metaC blocks 0 0]).length)) 0, F]) (by repeat (first | exact Gives.nil | (apply Gives.cons; · repeat (first | exact Pick.here | apply Pick.there))))) h hs2
  rw [hL] at hs3
  exact hs3
theorem IndexE_nil (g : Value) : Trip Tryz.prog 68 [.slice none 0 0, g] none_ [] (X := Unit) (fun _ => .int .i64 (-1)) (fun _ => []) := by
  refine Trip.start (n := 19) Tryz.func68 (by kernel_rfl) rfl rfl rfl ?_
  intro F w hD
  repeat (refine JL.flat ?_)
  refine JL.go 200 ?_
  repeat (refine JL.flat ?_)
  refine JL.go 200 ?_
  repeat (refine JL.flat ?_)
  refine JL.block ?_
  refine JL.loop (X := Unit) () (fun _ => [(7, .int .i64 0), (8, .int .i64 0)]) (fun _ => [F]) (fun _ => 0) ?_ ?_ ?_
  ·
    repeat (first | exact Sub.nil | refine Sub.cons rfl ?_)
  · exact (Gives.sound (by repeat (first | exact Gives.nil | (apply Gives.cons; · repeat (first | exact Pick.here | apply Pick.there)))))
  intro _
  repeat (refine JL.flat ?_)
  refine JL.go 200 ?_
  repeat (refine JL.flat ?_)
  refine JL.ifF rfl ?_
  try refine JL.skip ?_
  repeat (refine JL.flat ?_)
  refine JL.exit ?_
  repeat (first | refine At.then_exit ?_ | refine At.block_pass rfl ?_)
  refine At.block_exit (At.then_normal (JL.at ?_))
  repeat (refine JL.flat ?_)
  refine JL.go 200 ?_
  repeat (refine JL.flat ?_)
  refine JL.ret ?_
  repeat (first | refine At.then_ret ?_ | refine At.block_ret ?_)
  refine At.done1 rfl (()) rfl ?_
  exact (Gives.sound (by repeat (first | exact Gives.nil | (apply Gives.cons; · repeat (first | exact Pick.here | apply Pick.there)))))
theorem DeleteE_nil (g : Value) : Trip Tryz.prog 96 [.slice none 0 0, g] none_ [] (X := Unit) (fun _ => .slice none 0 0) (fun _ => []) := by
  refine Trip.start (n := 42) Tryz.func96 (by kernel_rfl) rfl rfl rfl ?_
  intro F w hD
  repeat (refine JL.flat ?_)
  refine JL.go 200 ?_
  repeat (refine JL.flat ?_)
  refine JL.go 200 ?_
  apply Seq.call (IndexE_nil g) rfl rfl rfl rfl rfl rfl
  · repeat (first | exact Picks.nil | (apply Picks.cons; · repeat (first | exact Pick.here | apply Pick.there)))
  · exact Tells.none
  intro _
  refine Seq.on 200 ?_
  repeat (refine JL.flat ?_)
  refine JL.go 200 ?_
  repeat (refine JL.flat ?_)
  refine JL.ifT rfl ?_
  try refine JL.skip ?_
  repeat (refine JL.flat ?_)
  refine JL.go 200 ?_
  repeat (refine JL.flat ?_)
  refine JL.ret ?_
  repeat (first | refine At.then_ret ?_ | refine At.block_ret ?_)
  refine At.done1 rfl (()) rfl ?_
  exact (Gives.sound (by repeat (first | exact Gives.nil | (apply Gives.cons; · repeat (first | exact Pick.here | apply Pick.there)))))
theorem loadM_ok (v u : Nat) (b : Value) : Trip Tryz.prog 95 [ptrV v, ptrV u, mkS [77], b] none_ [] (X := Unit) (fun _ => .nilIface) (fun _ => []) := by
  refine Trip.start (n := 77) Tryz.func95 (by kernel_rfl) rfl rfl rfl ?_
  intro F w hD
  repeat (refine JL.flat ?_)
  refine JL.go 200 ?_
  repeat (refine JL.flat ?_)
  refine JL.go 1 ?_
  refine Seq.yield rfl rfl (fun a w ha _ => run_strDrop (l := [77]) 1 rfl rfl rfl rfl (by simp) a w ha) ?_
  refine Seq.eff rfl rfl (Ef.strBytes (l := []) rfl rfl rfl rfl rfl) ?_
  rintro ⟨r, hr1, hr2⟩
  apply Seq.call (From_ok r.1 [] r.2 (by simp)) rfl rfl rfl rfl rfl rfl
  ·
    repeat (first | exact Picks.nil | (apply Picks.cons; · repeat (first | exact Pick.here | apply Pick.there)))
  · exact Tells.read (m := 0) (xs := bytesV []) (by repeat (first | exact Pick.here | apply Pick.there))
  intro pr
  refine Seq.on 200 ?_
  repeat (refine JL.flat ?_)
  refine JL.go 1 ?_
  refine Seq.yield rfl rfl (fun a w ha _ => run_strIdx (l := [77]) 0 rfl rfl rfl rfl (by simp) a w ha) ?_
  refine Seq.on 200 ?_
  repeat (refine JL.flat ?_)
  refine JL.block ?_
  repeat (refine JL.flat ?_)
  refine JL.go 200 ?_
  repeat (refine JL.flat ?_)
  refine JL.ifF rfl ?_
  try refine JL.skip ?_
  repeat (refine JL.flat ?_)
  refine JL.go 200 ?_
  repeat (refine JL.flat ?_)
  refine JL.ifF rfl ?_
  try refine JL.skip ?_
  repeat (refine JL.flat ?_)
  refine JL.nil (At.block_normal (At.then_normal (JL.at ?_)))
  repeat (refine JL.flat ?_)
  refine JL.go 200 ?_
  repeat (refine JL.flat ?_)
  refine JL.ret ?_
  repeat (first | refine At.then_ret ?_ | refine At.block_ret ?_)
  refine At.done1 rfl (()) rfl ?_
  exact (Gives.sound (by repeat (first | exact Gives.nil | (apply Gives.cons; · repeat (first | exact Pick.here | apply Pick.there)))))
end Go.Ent
namespace Go.Ent
open Go Go.Proofs Go.MapKept
theorem At.doneMCC {n : Nat} {w0 : World} {E : Env} {G : List Assn} {fn : Func} {q : Nat} {p p2 : Tmp} {ty ty2 : TypeId} {i i2 : TI} {b off b2 off2 : Nat} {cs cs2 : List Value} {v1 v2 : Value} {X : Type} {r : X → Value} {B : X → List Assn} {F : Assn} {G' : List Assn} (hr : fn.results = #[.cell p ty, .cell p2 ty2]) (x : X) (pk : Pick (pt q (.deferred (some []))) G G')
    (hp : look E p = some (.pointer (some ⟨b, off, none⟩))) (ht : tab ty = some i) (hT : Tells (pt q (.deferred none) :: G') (CellsAt b off cs)) (hl : cs.length = i.size) (hv1 : valOf (aggK i.k) cs = some v1)
    (hp2 : look E p2 = some (.pointer (some ⟨b2, off2, none⟩))) (ht2 : tab ty2 = some i2) (hT2 : Tells (pt q (.deferred none) :: G') (CellsAt b2 off2 cs2)) (hl2 : cs2.length = i2.size) (hv2 : valOf (aggK i2.k) cs2 = some v2) (hv : Value.tuple #[v1, v2] = r x)
    (hG : ∀ h, sep (pt q (.deferred none) :: G') h → sep (B x ++ [F]) h) :
    At n ⟨[{ target := .collected q, args := #[] }], none⟩ w0 E G (bodyPostM (fen fz0) 0 Tryz.prog fn (fun e w' => ∃ x, e = .returned (r x) ∧ St w0 (B x ++ [F]) w') .ret) := At.doneM x pk (fun a w ha hw => by
  have h1 := run_loadVar_cells (P := Tryz.prog) tab_ok ht (hT _ hw.sep) hl hv1
  have h2 := run_loadVar_cells (P := Tryz.prog) tab_ok ht2 (hT2 _ hw.sep) hl2 hv2
  simp [results, hr, ha.get p _ hp, ha.get p2 _ hp2, asAddr, h1, h2, hv]) hG
/-- the function's end, likewise, without a loop over a function. -/
theorem At.doneCC {n : Nat} {w0 : World} {E : Env} {G : List Assn} {fn : Func} {p p2 : Tmp} {ty ty2 : TypeId} {i i2 : TI} {b off b2 off2 : Nat} {cs cs2 : List Value} {v1 v2 : Value} {X : Type} {r : X → Value} {B : X → List Assn} {F : Assn} (hr : fn.results = #[.cell p ty, .cell p2 ty2]) (x : X)
    (hp : look E p = some (.pointer (some ⟨b, off, none⟩))) (ht : tab ty = some i) (hT : Tells G (CellsAt b off cs)) (hl : cs.length = i.size) (hv1 : valOf (aggK i.k) cs = some v1)
    (hp2 : look E p2 = some (.pointer (some ⟨b2, off2, none⟩))) (ht2 : tab ty2 = some i2) (hT2 : Tells G (CellsAt b2 off2 cs2)) (hl2 : cs2.length = i2.size) (hv2 : valOf (aggK i2.k) cs2 = some v2) (hv : Value.tuple #[v1, v2] = r x)
    (hG : ∀ h, sep G h → sep (B x ++ [F]) h) :
    At n fz0 w0 E G (bodyPost Tryz.prog fn (fun e w' => ∃ x, e = .returned (r x) ∧ St w0 (B x ++ [F]) w') .ret) := ⟨fun a w ha hw => by
  refine ⟨ha.defers, r x, ?_, x, rfl, hG _ hw.sep, hw.same⟩
  have h1 := run_loadVar_cells (P := Tryz.prog) tab_ok ht (hT _ hw.sep) hl hv1
  have h2 := run_loadVar_cells (P := Tryz.prog) tab_ok ht2 (hT2 _ hw.sep) hl2 hv2
  simp [results, hr, ha.get p _ hp, ha.get p2 _ hp2, asAddr, h1, h2, hv]⟩
theorem Vals.keys {g : List UInt8 → Option Value} {f : Tf} {k v : List UInt8} (hf : f k = some v) (hk : ∀ q, q ≠ k → f q = none) (h : Part) (x : Vals g f h) : (∀ q, (∃ v, g q = some v) ↔ q = k) ∧ ∃ a c, g k = some (.slice a v.length c) := by
  have hkk := x k
  rw [hf] at hkk
  obtain ⟨a, c, e, _, _⟩ := hkk
  refine ⟨fun q => ⟨fun ⟨u, hu⟩ => ?_, fun hq => ?_⟩, a, c, e⟩
  · by_cases hq : q = k
    · exact hq
    · have := x q
      rw [hk q hq] at this
      rw [this] at hu; cases hu
  · subst hq; exact ⟨_, e⟩
theorem All_ok (u : Nat) : Trip Tryz.prog 94 [ptrV u] none_ [] (X := Nat) (fun bx => .func (.func 176) #[] #[ptrV bx]) (fun bx => [pt bx (.cells #[ptrV u] 206 (0, 0))]) := by
  refine Trip.start (n := 4) Tryz.func94 (by kernel_rfl) rfl rfl rfl ?_
  intro F w hD
  repeat (refine JL.flat ?_)
  refine JL.go 0 ?_
  refine Seq.eff rfl rfl (Ef.box rfl rfl) ?_
  intro bx
  refine Seq.on 200 ?_
  repeat (refine JL.flat ?_)
  refine JL.go 200 ?_
  repeat (refine JL.flat ?_)
  refine JL.ret ?_
  repeat (first | refine At.then_ret ?_ | refine At.block_ret ?_)
  refine At.done1 rfl (bx) rfl ?_
  exact (Gives.sound (by repeat (first | exact Gives.nil | (apply Gives.cons; · repeat (first | exact Pick.here | apply Pick.there)))))
set_option maxHeartbeats 1600000 in
theorem All_iter (bx u b : Nat) (g : List UInt8 → Option Value) (f : Tf) (k v : List UInt8) (hf : f k = some v) (hk : ∀ q, q ≠ k → f q = none) (hv : v.length ≤ 100000) :
    IterC Tryz.prog 176 [ptrV bx] [pt bx (.cells #[ptrV u] 206 (0, 0)), pt u (.cells [Value.map (some b)].toArray 323 (0, 0)), MapOf mkS b g, Vals g f] 1 (Y := Option Addr × Nat) (fun _ y => [mkS k, .slice y.1 v.length y.2]) (fun _ y => [BOwn y v])
      [pt bx (.cells #[ptrV u] 206 (0, 0)), pt u (.cells [Value.map (some b)].toArray 323 (0, 0)), MapOf mkS b g, Vals g f] := ⟨fun lp I X hY => by
  refine Trip.start (n := 24) Tryz.func176 (by kernel_rfl) rfl rfl rfl ?_
  intro F w hD
  refine JL.to [pt bx (.cells #[ptrV u] 206 (0, 0)), pt u (.cells [Value.map (some b)].toArray 323 (0, 0)), MapOf mkS b g, Vals g f, sep (I 0), F]
    (fun h hs => sep_pack (I := I 0) (A := [pt bx (.cells #[ptrV u] 206 (0, 0)), pt u (.cells [Value.map (some b)].toArray 323 (0, 0)), MapOf mkS b g, Vals g f]) (B := [F]) hs) ?_
  refine JL.fact (p := (∀ q, (∃ v, g q = some v) ↔ q = k) ∧ ∃ a c, g k = some (.slice a v.length c)) (Tells.fact (Tells.pick (A := Vals g f) (D := Vals g f) (by repeat (first | exact Pick.here | apply Pick.there)) (fun _ _ => Vals.mono) (fun _ h => h)) (fun h x => Vals.keys hf hk h x)) ?_
  rintro ⟨hkk, a, c, hg⟩
  have hTv : ∀ {G G' : List Assn}, Pick (Vals g f) G G' → Tells G (BIn a v) := fun pk => Tells.pick pk (fun _ _ => BIn.mono) (fun h x => by
    have := x k
    rw [hf] at this
    obtain ⟨a2, c2, e, hb, _⟩ := this
    rw [hg] at e
    simp only [Option.some.injEq, Value.slice.injEq] at e
    rw [← e.1] at hb
    exact hb)
  repeat (refine JL.flat ?_)
  refine JL.go 200 ?_
  apply Seq.loadLit rfl rfl rfl rfl rfl
  · repeat (first | exact Pick.here | apply Pick.there)
  · rfl
  · rfl
  refine Seq.on 200 ?_
  apply Seq.call (keys1_ok u b g k hkk) rfl rfl rfl rfl rfl rfl
  · repeat (first | exact Picks.nil | (apply Picks.cons; · repeat (first | exact Pick.here | apply Pick.there)))
  · exact Tells.none
  intro r
  refine Seq.on 200 ?_
  repeat (refine JL.flat ?_)
  refine JL.block ?_
  refine JL.loop (X := {i : Nat // i ≤ 1}) ⟨0, by omega⟩ (fun i => [(0, .func (.yield lp) #[] #[]), (1, ptrV bx), (6, .slice r.1 1 r.2), (7, .int .i64 1), (8, .int .i64 (i.1 : Int))])
    (fun i => [SlOwn 9 1 r.1 1 r.2 [mkS k], pt bx (.cells #[ptrV u] 206 (0, 0)), pt u (.cells [Value.map (some b)].toArray 323 (0, 0)), MapOf mkS b g, Vals g f, sep (I i.1), F]) (fun i => 1 - i.1) ?_ ?_ ?_
  ·
    repeat (first | exact Sub.nil | refine Sub.cons rfl ?_)
  · exact (Gives.sound (by repeat (first | exact Gives.nil | (apply Gives.cons; · repeat (first | exact Pick.here | apply Pick.there)))))
  rintro ⟨i, hi⟩
  dsimp only
  rcases Nat.lt_or_ge i 1 with hlt | hge
  · obtain rfl : i = 0 := by omega
    repeat (refine JL.flat ?_)
    refine JL.go 200 ?_
    repeat (refine JL.flat ?_)
    refine JL.ifT rfl ?_
    try refine JL.skip ?_
    repeat (refine JL.flat ?_)
    refine JL.block ?_
    repeat (refine JL.flat ?_)
    refine JL.go 200 ?_
    refine Seq.idx (xs := [mkS k]) 0 rfl rfl rfl rfl rfl rfl rfl (Tells.own (by repeat (first | exact Pick.here | apply Pick.there))) (by omega) ?_
    intro bb off hc
    refine Seq.load (v := mkS k) rfl rfl rfl rfl rfl hc rfl rfl ?_
    refine Seq.on 200 ?_
    repeat (refine JL.flat ?_)
    refine JL.go 200 ?_
    apply Seq.loadLit rfl rfl rfl rfl rfl
    · repeat (first | exact Pick.here | apply Pick.there)
    · rfl
    · rfl
    refine Seq.on 200 ?_
    apply Seq.loadLit rfl rfl rfl rfl rfl
    · repeat (first | exact Pick.here | apply Pick.there)
    · rfl
    · rfl
    refine Seq.on 200 ?_
    refine Seq.lookupV (mk := mkS) (f := g) (.slice a v.length c) k (by rw [hg]; rfl) rfl rfl rfl rfl rfl rfl (keyBytes rfl) (Tells.map (by repeat (first | exact Pick.here | apply Pick.there))) rfl rfl rfl ?_
    apply Seq.call (bclone_ok a v c (by omega)) rfl rfl rfl rfl rfl rfl
    ·
      repeat (first | exact Picks.nil | (apply Picks.cons; · repeat (first | exact Pick.here | apply Pick.there)))
    · exact hTv (by repeat (first | exact Pick.here | apply Pick.there))
    intro y
    refine Seq.eff rfl rfl (Ef.yield (G' := [SlOwn 9 1 r.1 1 r.2 [mkS k], pt bx (.cells #[ptrV u] 206 (0, 0)), pt u (.cells [Value.map (some b)].toArray 323 (0, 0)), MapOf mkS b g, Vals g f, F]) rfl rfl rfl (hY 0 (by omega) y) (fun h hs => ?_)) ?_
    · have hs1 := (Gives.sound (L := [SlOwn 9 1 r.1 1 r.2 [mkS k], pt bx (.cells #[ptrV u] 206 (0, 0)), pt u (.cells [Value.map (some b)].toArray 323 (0, 0)), MapOf mkS b g, Vals g f, BOwn y v, sep (I 0), F]) (by repeat (first | exact Gives.nil | (apply Gives.cons; · repeat (first | exact Pick.here | apply Pick.there))))) h hs
      have h1 := sep_unpack (I := I 0) (A := [SlOwn 9 1 r.1 1 r.2 [mkS k], pt bx (.cells #[ptrV u] 206 (0, 0)), pt u (.cells [Value.map (some b)].toArray 323 (0, 0)), MapOf mkS b g, Vals g f, BOwn y v]) (B := [F]) hs1
      have h2 : star (sep (I 0)) (sep [SlOwn 9 1 r.1 1 r.2 [mkS k], pt bx (.cells #[ptrV u] 206 (0, 0)), pt u (.cells [Value.map (some b)].toArray 323 (0, 0)), MapOf mkS b g, Vals g f, BOwn y v, F]) h := by
        rw [List.append_assoc] at h1
        exact sep_append h1
      rw [List.append_assoc]
      exact append_sep (star_mono (fun _ h => h) (fun h hs => (Gives.sound (L := [BOwn y v, SlOwn 9 1 r.1 1 r.2 [mkS k], pt bx (.cells #[ptrV u] 206 (0, 0)), pt u (.cells [Value.map (some b)].toArray 323 (0, 0)), MapOf mkS b g, Vals g f, F]) (by repeat (first | exact Gives.nil | (apply Gives.cons; · repeat (first | exact Pick.here | apply Pick.there))))) h hs) h2)
    intro bb
    cases bb with
    | false =>
      refine Seq.on 200 ?_
      repeat (refine JL.flat ?_)
      refine JL.ifT rfl ?_
      try refine JL.skip ?_
      repeat (refine JL.flat ?_)
      refine JL.ret ?_
      repeat (first | refine At.then_ret ?_ | refine At.block_ret ?_)
      exact ⟨(At.done0 rfl false rfl (fun h hs => by
        have h2 := sep_append hs
        exact append_sep (star_mono (fun _ h => h) (fun h hs => (Gives.sound (L := [F]) (by repeat (first | exact Gives.nil | (apply Gives.cons; · repeat (first | exact Pick.here | apply Pick.there))))) h hs) h2))).run⟩
    | true =>
      refine Seq.to [SlOwn 9 1 r.1 1 r.2 [mkS k], pt bx (.cells #[ptrV u] 206 (0, 0)), pt u (.cells [Value.map (some b)].toArray 323 (0, 0)), MapOf mkS b g, Vals g f, sep (I (0 + 1)), F] (fun h hs => ?_) ?_
      · exact sep_pack (I := I (0 + 1)) (A := [SlOwn 9 1 r.1 1 r.2 [mkS k], pt bx (.cells #[ptrV u] 206 (0, 0)), pt u (.cells [Value.map (some b)].toArray 323 (0, 0)), MapOf mkS b g, Vals g f]) (B := [F]) (by rw [List.append_assoc]; exact hs)
      refine Seq.on 200 ?_
      repeat (refine JL.flat ?_)
      refine JL.ifF rfl ?_
      try refine JL.skip ?_
      repeat (refine JL.flat ?_)
      refine JL.nil (At.block_normal (At.then_normal (JL.at ?_)))
      repeat (refine JL.flat ?_)
      refine JL.go 200 ?_
      repeat (refine JL.flat ?_)
      refine JL.nil (At.then_normal ?_)
      refine At.again (X := {i : Nat // i ≤ 1}) (x := ⟨0, hi⟩) ⟨0 + 1, by omega⟩ (by show 1 - (0 + 1) < 1 - 0; omega) (Sub.look ?_) ?_
      ·
        repeat (first | exact Sub.nil | refine Sub.cons rfl ?_)
      · exact (Gives.sound (by repeat (first | exact Gives.nil | (apply Gives.cons; · repeat (first | exact Pick.here | apply Pick.there)))))
  · obtain rfl : i = 1 := by omega
    repeat (refine JL.flat ?_)
    refine JL.go 200 ?_
    repeat (refine JL.flat ?_)
    refine JL.ifF rfl ?_
    try refine JL.skip ?_
    repeat (refine JL.flat ?_)
    refine JL.exit ?_
    repeat (first | refine At.then_exit ?_ | refine At.block_pass rfl ?_)
    refine At.block_exit (At.then_normal (JL.at ?_))
    repeat (refine JL.flat ?_)
    refine JL.nil ?_
    refine At.done0 rfl true rfl (fun h hs => ?_)
    have hs1 := (Gives.sound (L := [pt bx (.cells #[ptrV u] 206 (0, 0)), pt u (.cells [Value.map (some b)].toArray 323 (0, 0)), MapOf mkS b g, Vals g f, sep (I 1), F]) (by repeat (first | exact Gives.nil | (apply Gives.cons; · repeat (first | exact Pick.here | apply Pick.there))))) h hs
    exact sep_unpack (I := I 1) (A := [pt bx (.cells #[ptrV u] 206 (0, 0)), pt u (.cells [Value.map (some b)].toArray 323 (0, 0)), MapOf mkS b g, Vals g f]) (B := [F]) hs1⟩
/-- a vault that has no tickets. -/
def Vt (v s blocks mp tr epoch base : Nat) : Assn := pt v (.cells [ptrV s, .int .u64 (blocks : Int), .map (some mp), ptrV tr, .int .u64 (epoch : Int), .int .u64 (base : Int), .slice none 0 0].toArray 136 (0, 0))
theorem meta_num (blocks : Nat) (h : blocks < 18446744073709551616) : numB ((metaB blocks 0 0).take 8) = blocks ∧ (metaB blocks 0 0).drop 8 = beB 0 8 ++ beB 0 8 := by
  have h256 : (256 : Nat) ^ 8 = 18446744073709551616 := by decide
  unfold metaB
  rw [List.append_assoc, List.take_left' (beB_length _ 8), List.drop_left' (beB_length _ 8)]
  exact ⟨numB_beB 8 blocks (by omega), rfl⟩
theorem tab_meta (blocks : Nat) : tabOf [[metaC blocks 0 0]] = updT noT [77] (metaB blocks 0 0) := rfl
set_option maxHeartbeats 3200000 in
theorem VOpen_ok (d k m blocks : Nat) (h : 4 ≤ k) (hk : k ≤ 16384) (h1 : 1 ≤ blocks) (h2 : blocks ≤ 4294967296) : Trip Tryz.prog 33 [ptrV d] Glob [Dv d k (L2 k blocks) m] (X := Nat × Nat × Nat × Nat)
    (fun r => .tuple #[ptrV r.1, .nilIface]) (fun r => [Vt r.1 r.2.1 blocks r.2.2.1 r.2.2.2 0 0, pt r.2.2.1 (.map #[] 0), TrE r.2.2.2 (heightN blocks), Swp r.2.1 d k (L2 k blocks) m 1 (uAt 1 [metaP blocks]) (tAt 1 [metaP blocks]) (updT noT [77] (metaB blocks 0 0))]) := by
  refine Trip.startM (n := 79) Tryz.func33 (by kernel_rfl) rfl rfl rfl ?_
  intro F w hD
  have hDg : ∀ {G G' : List Assn}, Pick F G G' → Tells G Glob := fun pk => Tells.frame pk (fun _ _ => Glob.mono) hD
  have hf3 : 3 ≤ firstN k 1 := by unfold firstN; omega
  repeat (refine JL.flat ?_)
  refine JL.go 0 ?_
  refine Seq.eff rfl rfl (Ef.alloc tab_zero rfl rfl) ?_
  intro b2
  refine Seq.eff rfl rfl (Ef.alloc tab_zero rfl rfl) ?_
  intro b3
  refine Seq.on 200 ?_
  repeat (refine JL.flat ?_)
  refine JL.go 200 ?_
  have hb := best_one (L := L2 k blocks) (by rw [L2_other (by omega)]; exact L1_zero (by omega)) (by rw [L2_other (by omega)]; exact L1_one)
  have hop := SwOpen_ok d k (L2 k blocks) m [[metaC blocks 0 0]] h hk L2_len (fun b hb => by
    simp only [List.mem_cons, List.not_mem_nil, or_false] at hb
    subst hb
    exact ⟨by simp, by simp, fun x hx => by
      simp only [List.mem_cons, List.not_mem_nil, or_false] at hx
      subst hx
      exact meta_right blocks 0 0, fun x hx _ => by
      simp only [List.mem_cons, List.not_mem_nil, or_false] at hx
      subst hx
      show 0 < (metaB blocks 0 0).length
      rw [metaB_length]; omega⟩) (by omega) (by rw [hb]; exact L2_recs h)
  rw [hb, tab_meta] at hop
  have hmp : List.map putB [[metaC blocks 0 0]] = [metaP blocks] := rfl
  rw [hmp] at hop
  generalize L2 k blocks = LL at hop ⊢
  generalize uAt 1 [metaP blocks] = UU at hop ⊢
  generalize tAt 1 [metaP blocks] = TT at hop ⊢
  apply Seq.call (hop) rfl rfl rfl rfl rfl rfl
  ·
    repeat (first | exact Picks.nil | (apply Picks.cons; · repeat (first | exact Pick.here | apply Pick.there)))
  · exact hDg (by repeat (first | exact Pick.here | apply Pick.there))
  intro s
  refine Seq.on 200 ?_
  repeat (refine JL.flat ?_)
  refine JL.go 200 ?_
  repeat (refine JL.flat ?_)
  refine JL.ifF rfl ?_
  try refine JL.skip ?_
  repeat (refine JL.flat ?_)
  refine JL.go 200 ?_
  refine Seq.bslice (out := (bytesV [77])) rfl rfl rfl rfl rfl rfl rfl rfl (by rfl) rfl (by rfl) ?_
  intro bk
  have hfm : (updT noT [77] (metaB blocks 0 0)) [77] = some (metaB blocks 0 0) := by unfold updT; rw [if_pos rfl]
  have hfo : ∀ q, q ≠ [77] → (updT noT [77] (metaB blocks 0 0)) q = none := fun q hq => by unfold updT noT; rw [if_neg hq]
  have hml := metaB_length blocks 0 0
  obtain ⟨hn1, hd1⟩ := meta_num blocks (by omega)
  generalize updT noT [77] (metaB blocks 0 0) = f at hfm hfo ⊢
  generalize metaB blocks 0 0 = M at hfm hml hn1 hd1
  have hget := SwGet_ok s d k LL m 1 UU TT f (some ⟨bk, 0, none⟩) [77] 1
  rw [hfm] at hget
  apply Seq.call (hget) rfl rfl rfl rfl rfl rfl
  ·
    repeat (first | exact Picks.nil | (apply Picks.cons; · repeat (first | exact Pick.here | apply Pick.there)))
  · exact Tells.own (by repeat (first | exact Pick.here | apply Pick.there))
  intro rg
  simp only [Option.getD_some]
  refine Seq.on 200 ?_
  repeat (refine JL.flat ?_)
  refine JL.go 200 ?_
  apply Seq.call (From_ok rg.1 M rg.2 (by omega)) rfl rfl rfl rfl rfl rfl
  ·
    repeat (first | exact Picks.nil | (apply Picks.cons; · repeat (first | exact Pick.here | apply Pick.there)))
  · exact Tells.own (by repeat (first | exact Pick.here | apply Pick.there))
  intro pr
  refine Seq.on 200 ?_
  repeat (refine JL.flat ?_)
  refine JL.go 200 ?_
  apply Seq.call (RNum_8 pr M (by omega) (by omega)) rfl rfl rfl rfl rfl rfl
  · repeat (first | exact Picks.nil | (apply Picks.cons; · repeat (first | exact Pick.here | apply Pick.there)))
  · exact Tells.none
  intro _
  rw [hn1, hd1]
  refine Seq.on 200 ?_
  repeat (refine JL.flat ?_)
  refine JL.go 200 ?_
  apply Seq.call (RNum_8 pr (beB 0 8 ++ beB 0 8) (by simp [beB_length]) (by simp [beB_length])) rfl rfl rfl rfl rfl rfl
  · repeat (first | exact Picks.nil | (apply Picks.cons; · repeat (first | exact Pick.here | apply Pick.there)))
  · exact Tells.none
  intro _
  rw [List.take_left' (beB_length 0 8), List.drop_left' (beB_length 0 8), numB_beB 8 0 (by simp)]
  refine Seq.on 200 ?_
  apply Seq.call (RNum_8 pr (beB 0 8) (by simp [beB_length]) (by simp [beB_length])) rfl rfl rfl rfl rfl rfl
  · repeat (first | exact Picks.nil | (apply Picks.cons; · repeat (first | exact Pick.here | apply Pick.there)))
  · exact Tells.none
  intro _
  rw [List.take_of_length_le (by simp [beB_length]), List.drop_of_length_le (by simp [beB_length]), numB_beB 8 0 (by simp)]
  refine Seq.on 200 ?_
  refine Seq.yield rfl rfl (Yl.build rfl rfl rfl rfl rfl) ?_
  refine Seq.eff rfl rfl (Ef.box rfl rfl) ?_
  intro v
  refine Seq.eff rfl rfl (Ef.alloc tab_zero rfl rfl) ?_
  intro b10
  apply Seq.storeLit rfl rfl rfl rfl rfl rfl
  · repeat (first | exact Pick.here | apply Pick.there)
  · rfl
  · rfl
  · rfl
  refine Seq.on 200 ?_
  repeat (refine JL.flat ?_)
  refine JL.go 200 ?_
  apply Seq.call (REnd_ok pr) rfl rfl rfl rfl rfl rfl
  · repeat (first | exact Picks.nil | (apply Picks.cons; · repeat (first | exact Pick.here | apply Pick.there)))
  · exact Tells.none
  intro _
  refine Seq.on 200 ?_
  repeat (refine JL.flat ?_)
  refine JL.ifF rfl ?_
  try refine JL.skip ?_
  repeat (refine JL.flat ?_)
  refine JL.draws (by kernel_rfl) (fun hR => ?_)
  refine Ord.on hR 200 ?_
  apply Ord.loadLit hR NP.nop rfl rfl rfl rfl rfl rfl rfl
  · repeat (first | exact Pick.here | apply Pick.there)
  · rfl
  · rfl
  refine Ord.on hR 200 ?_
  apply Ord.call (blank_ok blocks h1 h2) hR rfl rfl rfl rfl rfl rfl rfl rfl
  ·
    repeat (first | exact Picks.nil | (apply Picks.cons; · repeat (first | exact Pick.here | apply Pick.there)))
  · exact hDg (by repeat (first | exact Pick.here | apply Pick.there))
  · intro _
    repeat (first | exact Keep.nil | (refine Keep.load rfl rfl rfl (by repeat (first | exact Pick.here | apply Pick.there)) (by rfl) (by rfl) ?_) | (refine Keep.waits (by kernel_rfl) ?_))
  rintro ⟨mp, tr⟩
  refine Ord.on hR 200 ?_
  apply Ord.storeLit hR rfl rfl rfl rfl rfl rfl rfl rfl
  · repeat (first | exact Pick.here | apply Pick.there)
  · rfl
  · rfl
  · rfl
  · repeat (first | exact Keep.nil | (refine Keep.load rfl rfl rfl (by repeat (first | exact Pick.here | apply Pick.there)) (by rfl) (by rfl) ?_) | (refine Keep.waits (by kernel_rfl) ?_))
  refine Ord.on hR 200 ?_
  repeat (refine JL.flat ?_)
  refine JL.go 200 ?_
  repeat (refine JL.flat ?_)
  refine JL.ifF rfl ?_
  try refine JL.skip ?_
  repeat (refine JL.flat ?_)
  refine JL.go 200 ?_
  apply Seq.call (Table_ok s d k LL m 1 UU TT f) rfl rfl rfl rfl rfl rfl
  · repeat (first | exact Picks.nil | (apply Picks.cons; · repeat (first | exact Pick.here | apply Pick.there)))
  · exact Tells.none
  rintro ⟨u, lg, t⟩
  refine Seq.eff rfl rfl (Ef.alloc tab_zero rfl rfl) ?_
  intro b11
  apply Seq.storeLit rfl rfl rfl rfl rfl rfl
  · repeat (first | exact Pick.here | apply Pick.there)
  · rfl
  · rfl
  · rfl
  refine Seq.on 200 ?_
  refine JL.perm (G' := [Tbl2 t u f, pt v (.cells [ptrV s, .int .u64 (blocks : Int), .map (some mp), ptrV tr, .int .u64 0, .int .u64 0, .slice none 0 0].toArray 136 (0, 0)), pt b11 (.cells [ptrV u].toArray 206 (0, 0)), pt b10 (.cells [ptrV v].toArray 26 (0, 0)), pt b2 (.cells [Value.pointer none].toArray 26 (0, 0)), pt b3 (.cells [Value.nilIface].toArray 43 (0, 0)), Sto s d lg t 1, Lg lg d (firstN k 1) (sizeN k) 1 UU TT, Dv d k LL m, pt mp (.map #[] 0), TrE tr (heightN blocks), F])
    (by repeat (first | exact Gives.nil | (apply Gives.cons; · repeat (first | exact Pick.here | apply Pick.there)))) ?_
  refine JL.open ?_
  rintro ⟨bt, bu, g⟩
  repeat (refine JL.flat ?_)
  refine JL.go 200 ?_
  apply Seq.loadLit rfl rfl rfl rfl rfl
  · repeat (first | exact Pick.here | apply Pick.there)
  · rfl
  · rfl
  refine Seq.on 200 ?_
  apply Seq.call (All_ok u) rfl rfl rfl rfl rfl rfl
  · repeat (first | exact Picks.nil | (apply Picks.cons; · repeat (first | exact Pick.here | apply Pick.there)))
  · exact Tells.none
  intro bx
  refine Seq.on 200 ?_
  repeat (refine JL.flat ?_)
  refine JL.block ?_
  refine JL.of (J.rangeFunc (cap := [ptrV bx]) rfl rfl (All_iter bx u bu g f [77] M hfm hfo (by omega)) rfl (fun _ _ => rfl)
    (fun _ => [pt v (.cells [ptrV s, .int .u64 (blocks : Int), .map (some mp), ptrV tr, .int .u64 0, .int .u64 0, .slice none 0 0].toArray 136 (0, 0)), pt b11 (.cells [ptrV u].toArray 206 (0, 0)), pt b10 (.cells [ptrV v].toArray 26 (0, 0)), pt b2 (.cells [Value.pointer none].toArray 26 (0, 0)), pt b3 (.cells [Value.nilIface].toArray 43 (0, 0)), Sto s d lg t 1, Lg lg d (firstN k 1) (sizeN k) 1 UU TT, Dv d k LL m, pt mp (.map #[] 0), TrE tr (heightN blocks), pt t (.cells [Value.map (some bt)].toArray 323 (0, 0)), MapOf mkS bt g, F])
    [fun _ => False] none (fun _ h s => ?_) ?_
    (fun i y => [(2, ptrV b2), (3, ptrV b3), (10, ptrV b10), (11, ptrV b11), (12, mkS [77]), (13, .slice y.1 M.length y.2)]) ?_ ?_ ?_ ?_)
  · obtain ⟨_, _, _, _, _, h, _⟩ := s
    exact h
  · exact (Gives.sound (by repeat (first | exact Gives.nil | (apply Gives.cons; · repeat (first | exact Pick.here | apply Pick.there)))))
  · intro i y l' G' w1
    refine JL.start ?_
    repeat (refine JL.flat ?_)
    refine JL.go 200 ?_
    repeat (refine JL.flat ?_)
    refine JL.go 200 ?_
    refine JL.nil (At.then_normal ⟨fun a w ha hw => ⟨ha.weaken (Sub.look ?_), hw⟩⟩)
    repeat (first | exact Sub.nil | refine Sub.cons rfl ?_)
  · intro i hi y l' r' F' w1
    refine JL.start ?_
    repeat (refine JL.flat ?_)
    refine JL.block ?_
    repeat (refine JL.flat ?_)
    refine JL.go 200 ?_
    apply Seq.loadLit rfl rfl rfl rfl rfl
    · repeat (first | exact Pick.here | apply Pick.there)
    · rfl
    · rfl
    refine Seq.on 200 ?_
    apply Seq.loadLit rfl rfl rfl rfl rfl
    · repeat (first | exact Pick.here | apply Pick.there)
    · rfl
    · rfl
    refine Seq.on 200 ?_
    apply Seq.call (loadM_ok v u (.slice y.1 M.length y.2)) rfl rfl rfl rfl rfl rfl
    · repeat (first | exact Picks.nil | (apply Picks.cons; · repeat (first | exact Pick.here | apply Pick.there)))
    · exact Tells.none
    intro _
    refine Seq.on 200 ?_
    repeat (refine JL.flat ?_)
    refine JL.go 200 ?_
    repeat (refine JL.flat ?_)
    refine JL.ifF rfl ?_
    try refine JL.skip ?_
    refine JL.nil (At.block_normal (At.then_normal ⟨fun a w ha hw => ⟨?_, hw.same⟩⟩))
    refine (Gives.sound (by repeat (first | exact Gives.nil | (apply Gives.cons; · repeat (first | exact Pick.here | apply Pick.there))))) _ hw.sep
  · intro q l' kk
    refine At.then_normal (At.block_normal (At.then_normal (JL.at' rfl ?_)))
    repeat (refine JL.flat ?_)
    refine JL.draws (by kernel_rfl) (fun hR => ?_)
    refine Ord.on hR 200 ?_
    apply Ord.loadLit hR NP.nop rfl rfl rfl rfl rfl rfl rfl
    · repeat (first | exact Pick.here | apply Pick.there)
    · rfl
    · rfl
    refine Ord.on hR 200 ?_
    apply Ord.loadLit hR NP.nop rfl rfl rfl rfl rfl rfl rfl
    · repeat (first | exact Pick.here | apply Pick.there)
    · rfl
    · rfl
    refine Ord.on hR 200 ?_
    apply Ord.loadLit hR NP.nop rfl rfl rfl rfl rfl rfl rfl
    · repeat (first | exact Pick.here | apply Pick.there)
    · rfl
    · rfl
    refine Ord.on hR 200 ?_
    apply Ord.call (DeleteE_nil _) hR rfl rfl rfl rfl rfl rfl rfl rfl
    · repeat (first | exact Picks.nil | (apply Picks.cons; · repeat (first | exact Pick.here | apply Pick.there)))
    · exact Tells.none
    · intro _
      repeat (first | exact Keep.nil | (refine Keep.load rfl rfl rfl (by repeat (first | exact Pick.here | apply Pick.there)) (by rfl) (by rfl) ?_) | (refine Keep.waits (by kernel_rfl) ?_))
    intro _
    refine Ord.on hR 200 ?_
    apply Ord.storeLit hR rfl rfl rfl rfl rfl rfl rfl rfl
    · repeat (first | exact Pick.here | apply Pick.there)
    · rfl
    · rfl
    · rfl
    · repeat (first | exact Keep.nil | (refine Keep.load rfl rfl rfl (by repeat (first | exact Pick.here | apply Pick.there)) (by rfl) (by rfl) ?_) | (refine Keep.waits (by kernel_rfl) ?_))
    refine Ord.on hR 200 ?_
    repeat (refine JL.flat ?_)
    refine JL.go 200 ?_
    apply Seq.loadLit rfl rfl rfl rfl rfl
    · repeat (first | exact Pick.here | apply Pick.there)
    · rfl
    · rfl
    apply Seq.storeLit rfl rfl rfl rfl rfl rfl
    · repeat (first | exact Pick.here | apply Pick.there)
    · rfl
    · rfl
    · rfl
    apply Seq.storeLit rfl rfl rfl rfl rfl rfl
    · repeat (first | exact Pick.here | apply Pick.there)
    · rfl
    · rfl
    · rfl
    refine Seq.on 200 ?_
    refine JL.ret (At.doneMCC rfl (v, s, mp, tr) (by repeat (first | exact Pick.here | apply Pick.there)) rfl rfl (Tells.all (by repeat (first | exact Pick.here | apply Pick.there))) rfl rfl rfl rfl (Tells.all (by repeat (first | exact Pick.here | apply Pick.there))) rfl rfl rfl ?_)
    intro h hs
    have hs1 := (Gives.sound (L := [pt t (.cells [Value.map (some bt)].toArray 323 (0, 0)), MapOf mkS bt g, Vals g f, Sto s d lg t 1, Lg lg d (firstN k 1) (sizeN k) 1 UU TT, Dv d k LL m, Vt v s blocks mp tr 0 0, pt mp (.map #[] 0), TrE tr (heightN blocks), F]) (by repeat (first | exact Gives.nil | (apply Gives.cons; · repeat (first | exact Pick.here | apply Pick.there))))) h hs
    have hs2 := exA_in (A := TblA t f) (bt, g) hs1
    have hs3 := (Gives.sound (L := [Sto s d lg t 1, Lg lg d (firstN k 1) (sizeN k) 1 UU TT, Dv d k LL m, Tbl t f, Vt v s blocks mp tr 0 0, pt mp (.map #[] 0), TrE tr (heightN blocks), F]) (by repeat (first | exact Gives.nil | (apply Gives.cons; · repeat (first | exact Pick.here | apply Pick.there))))) h hs2
    have hs4 := exA_in (A := SwpA s d k LL m 1 UU TT f) (lg, t) hs3
    exact (Gives.sound (L := [Vt v s blocks mp tr 0 0, pt mp (.map #[] 0), TrE tr (heightN blocks), Swp s d k LL m 1 UU TT f, F]) (by repeat (first | exact Gives.nil | (apply Gives.cons; · repeat (first | exact Pick.here | apply Pick.there))))) h hs4
  · intro r' l' k' c' hc'
    cases hc'
end Go.Ent
namespace Go.Ent
open Go Go.Proofs Go.MapKept
def atK (level place : Int) : Value := .agg #[.int .i64 level, .int .u64 place]
theorem checkAt (e : Bool) (h p : Int) (w : World) : (Instr.checkKey e 10000 267 (atK h p)).run Tryz.prog w = .ok () w := by
  obtain ⟨gs, hu, hsz, hf⟩ := tab_ok.str (show tab 267 = some ⟨.str [(0, 3, 1), (1, 22, 1)], 2, 16⟩ from rfl)
  obtain ⟨g0, j0, e0, o0, t0, _, _⟩ := hf 0 (0, 3, 1) rfl
  obtain ⟨g1, j1, e1, o1, t1, _, _⟩ := hf 1 (1, 22, 1) rfl
  have hgs : gs = #[g0, g1] := by
    apply Array.ext_getElem?
    intro i
    match i with
    | 0 => simpa using e0
    | 1 => simpa using e1
    | i + 2 =>
      have : gs.size = 2 := hsz
      rw [Array.getElem?_eq_none (by omega), Array.getElem?_eq_none (by simp)]
  subst hgs
  have hi3 : Tryz.prog.underlying 3 = some (.int .i64) := tab_ok.int (show tab 3 = some ⟨.int .i64, 1, 8⟩ from rfl)
  have hi22 : Tryz.prog.underlying 22 = some (.int .u64) := tab_ok.int (show tab 22 = some ⟨.int .u64, 1, 8⟩ from rfl)
  have p0 : (part 3 #[.int .i64 h, .int .u64 p] 0).run Tryz.prog w = .ok (.int .i64 h) w := run_part_plain w (by simp [Program.plainKey, hi3]) (by simp)
  have p1 : (part 22 #[.int .i64 h, .int .u64 p] 1).run Tryz.prog w = .ok (.int .u64 p) w := run_part_plain w (by simp [Program.plainKey, hi22]) (by simp)
  simp only at o0 t0 o1 t1
  have c0 : ∀ m, (Instr.checkKey e (m + 1) 3 (.int .i64 h)).run Tryz.prog w = .ok () w := fun m => by simp [Instr.checkKey, run_underlying hi3]
  have c1 : ∀ m, (Instr.checkKey e (m + 1) 22 (.int .u64 p)).run Tryz.prog w = .ok () w := fun m => by simp [Instr.checkKey, run_underlying hi22]
  rw [show (10000 : Nat) = 9998 + 1 + 1 from rfl]
  generalize 9998 = m
  unfold atK
  simp only [Instr.checkKey, Sem.run_bind, run_underlying hu, Result.andThen_ok]
  by_cases n0 : g0.name = "_" <;> by_cases n1 : g1.name = "_" <;> simp [n0, n1, o0, o1, t0, t1, p0, p1, c0, c1]
theorem atUnd : ∃ d, Tryz.prog.underlying 267 = some d := by
  obtain ⟨gs, hu, _⟩ := tab_ok.str (show tab 267 = some ⟨.str [(0, 3, 1), (1, 22, 1)], 2, 16⟩ from rfl)
  exact ⟨_, hu⟩
theorem get_ok (t h lv : Nat) (hl : lv ≤ 32) : Trip Tryz.prog 135 [ptrV t, atK (lv : Int) 0] none_ [TrE t h] (X := Unit) (fun _ => .agg (bytesV (emptyB lv)).toArray) (fun _ => [TrE t h]) := by
  refine Trip.start (n := 25) Tryz.func135 (by kernel_rfl) rfl rfl rfl ?_
  intro F w hD
  refine JL.open ?_
  intro mb
  have hE := EB_length (t := 33) (by omega)
  have hat := EB_at (t := lv) (by omega)
  have hlv := emptyB_length lv
  repeat (refine JL.flat ?_)
  refine JL.go 0 ?_
  refine Seq.eff rfl rfl (Ef.box rfl rfl) ?_
  intro b3
  refine Seq.eff rfl rfl (Ef.alloc tab_zero rfl rfl) ?_
  intro b4
  refine Seq.on 200 ?_
  repeat (refine JL.flat ?_)
  refine JL.draws (by kernel_rfl) (fun hR => ?_)
  refine Ord.on hR 200 ?_
  apply Ord.loadLit hR NP.nop rfl rfl rfl rfl rfl rfl rfl
  · repeat (first | exact Pick.here | apply Pick.there)
  · rfl
  · rfl
  refine Ord.on hR 200 ?_
  apply Ord.loadLit hR NP.nop rfl rfl rfl rfl rfl rfl rfl
  · repeat (first | exact Pick.here | apply Pick.there)
  · rfl
  · rfl
  refine Ord.look hR NP.nop rfl rfl rfl rfl (Yl.lookEmptyT (b := mb) (cl := 0) (atK (lv : Int) 0) rfl rfl rfl rfl (fun w => checkAt true _ _ w) atUnd (Tells.pick (A := pt mb (.map #[] 0)) (by repeat (first | exact Pick.here | apply Pick.there)) (fun _ _ hk x => hk _ _ x) (fun _ x => x)) rfl rfl rfl) ?_
  refine Ord.on hR 200 ?_
  refine Ord.eff hR rfl rfl rfl rfl (Ef.alloc tab_zero rfl rfl) (fun b5 => ?_) (fun b5 => ?_)
  · refine Keep.again (Yl.lookEmptyT (b := mb) (cl := 0) (atK (lv : Int) 0) rfl rfl rfl rfl (fun w => checkAt true _ _ w) atUnd (Tells.pick (A := pt mb (.map #[] 0)) (by repeat (first | exact Pick.here | apply Pick.there)) (fun _ _ hk x => hk _ _ x) (fun _ x => x)) rfl rfl rfl) ?_
    refine Keep.load rfl rfl rfl (by repeat (first | exact Pick.here | apply Pick.there)) (by rfl) (by rfl) ?_
    refine Keep.load rfl rfl rfl (by repeat (first | exact Pick.here | apply Pick.there)) (by rfl) (by rfl) ?_
    exact Keep.nil
  refine Ord.storeAll hR rfl rfl rfl rfl rfl rfl rfl rfl (by repeat (first | exact Pick.here | apply Pick.there)) rfl (Ones_bytesV (List.replicate 32 0)) rfl ?_ ?_
  · repeat (first | exact Keep.nil | (refine Keep.waits (by kernel_rfl) ?_))
  refine Ord.on hR 200 ?_
  repeat (refine JL.flat ?_)
  refine JL.go 200 ?_
  repeat (refine JL.flat ?_)
  refine JL.ifF rfl ?_
  try refine JL.skip ?_
  repeat (refine JL.flat ?_)
  refine JL.draws (by kernel_rfl) (fun hR => ?_)
  refine Ord.on hR 200 ?_
  apply Ord.loadLit hR NP.nop rfl rfl rfl rfl rfl rfl rfl
  · repeat (first | exact Pick.here | apply Pick.there)
  · rfl
  · rfl
  refine Ord.on hR 200 ?_
  refine Ord.idxArr lv hR NP.nop rfl rfl rfl rfl rfl rfl rfl rfl rfl (by omega) ?_
  refine Ord.set 23 (.pointer (some ⟨t, 2 + lv * 32, none⟩)) rfl (by simp) ?_
  refine Ord.load (cs := bytesV (emptyB lv)) hR NP.nop rfl rfl rfl rfl rfl rfl rfl (Tells.pick (A := pt t (.cells (Value.int .i64 (h : Int) :: Value.map (some mb) :: bytesV (EB 33)).toArray 265 (0, 0))) (by repeat (first | exact Pick.here | apply Pick.there)) (fun _ _ => CellsAt.mono) (fun p hx => by
    refine ⟨_, _, _, hx, fun j v hj => ?_⟩
    rw [← hat, bytesV_take, bytesV_drop, List.getElem?_take] at hj
    split at hj
    · rw [List.getElem?_drop] at hj
      rw [List.getElem?_toArray, show 2 + lv * 32 + j = (lv * 32 + j) + 1 + 1 by omega, List.getElem?_cons_succ, List.getElem?_cons_succ]
      exact hj
    · cases hj)) (by rw [bytesV_length, hlv]) rfl ?_
  refine Ord.storeAll hR rfl rfl rfl rfl rfl rfl rfl rfl (by repeat (first | exact Pick.here | apply Pick.there)) (by simp [Value.cells, bytesV, hlv]) (Ones_bytesV _) rfl ?_ ?_
  · repeat (first | exact Keep.nil | (refine Keep.waits (by kernel_rfl) ?_))
  refine Ord.on hR 200 ?_
  refine JL.ret (At.doneC rfl () rfl rfl (Tells.all (by repeat (first | exact Pick.here | apply Pick.there))) (by simp [Value.cells, bytesV, hlv]) rfl rfl ?_)
  exact Gives.sound (Gives.ex mb (by repeat (first | exact Gives.nil | (apply Gives.cons; · repeat (first | exact Pick.here | apply Pick.there)))))
end Go.Ent
namespace Go.Ent
open Go Go.Proofs Go.MapKept
theorem TRoot_ok (t h : Nat) (hh : h ≤ 32) : Trip Tryz.prog 74 [ptrV t] none_ [TrE t h] (X := Unit) (fun _ => .agg (bytesV (emptyB h)).toArray) (fun _ => [TrE t h]) := by
  have hlv := emptyB_length h
  have hget := get_ok t h h hh
  generalize emptyB h = H at hlv hget ⊢
  refine Trip.start (n := 13) Tryz.func74 (by kernel_rfl) rfl rfl rfl ?_
  intro F w hD
  repeat (refine JL.flat ?_)
  refine JL.go 0 ?_
  refine Seq.eff rfl rfl (Ef.alloc tab_zero rfl rfl) ?_
  intro b2
  refine Seq.on 200 ?_
  repeat (refine JL.flat ?_)
  refine JL.go 200 ?_
  repeat (refine JL.flat ?_)
  refine JL.ifF rfl ?_
  try refine JL.skip ?_
  refine JL.perm (G' := [TrE t h, pt b2 (.cells (bytesV (List.replicate 32 0)).toArray 70 (0, 0)), F]) (by repeat (first | exact Gives.nil | (apply Gives.cons; · repeat (first | exact Pick.here | apply Pick.there)))) ?_
  refine JL.open ?_
  intro mb
  repeat (refine JL.flat ?_)
  refine JL.go 200 ?_
  refine Seq.load (cs := [Value.int .i64 (h : Int)]) rfl rfl rfl rfl rfl (Tells.pick (A := pt t (.cells (Value.int .i64 (h : Int) :: Value.map (some mb) :: bytesV (EB 33)).toArray 265 (0, 0))) (by repeat (first | exact Pick.here | apply Pick.there)) (fun _ _ => CellsAt.mono) (fun p hx => ⟨_, _, _, hx, fun j v hj => by
    obtain ⟨hlt, hv⟩ := List.getElem?_eq_some_iff.1 hj
    have hj0 : j = 0 := by simp at hlt; omega
    subst hj0
    simpa using hv⟩)) rfl rfl ?_
  refine Seq.yield rfl rfl (Yl.build rfl rfl rfl rfl rfl) ?_
  refine Seq.set 11 (atK (h : Int) 0) rfl rfl ?_
  refine Seq.to [TrE t h, pt b2 (.cells (bytesV (List.replicate 32 0)).toArray 70 (0, 0)), F] (fun h' hs => exA_in (A := fun mb : Nat => [pt t (.cells (Value.int .i64 (h : Int) :: Value.map (some mb) :: bytesV (EB 33)).toArray 265 (0, 0)), pt mb (.map #[] 0)]) mb hs) ?_
  apply Seq.call (hget) rfl rfl rfl rfl rfl rfl
  · repeat (first | exact Picks.nil | (apply Picks.cons; · repeat (first | exact Pick.here | apply Pick.there)))
  · exact Tells.none
  intro _
  refine Seq.storeAll rfl rfl rfl rfl rfl rfl (by repeat (first | exact Pick.here | apply Pick.there)) (by simp [Value.cells, bytesV, hlv]) (Ones_bytesV _) rfl ?_
  refine Seq.on 200 ?_
  refine JL.ret (At.doneC rfl () rfl rfl (Tells.all (by repeat (first | exact Pick.here | apply Pick.there))) (by simp [Value.cells, bytesV, hlv]) rfl rfl ?_)
  exact (Gives.sound (by repeat (first | exact Gives.nil | (apply Gives.cons; · repeat (first | exact Pick.here | apply Pick.there)))))
theorem known_ok (v s blocks mp tr : Nat) : Trip Tryz.prog 76 [ptrV v, .int .u64 0] none_ [Vt v s blocks mp tr 0 0] (X := Unit) (fun _ => .nilIface) (fun _ => [Vt v s blocks mp tr 0 0]) := by
  refine Trip.start (n := 36) Tryz.func76 (by kernel_rfl) rfl rfl rfl ?_
  intro F w hD
  repeat (refine JL.flat ?_)
  refine JL.go 0 ?_
  refine Seq.eff rfl rfl (Ef.box rfl rfl) ?_
  intro b3
  refine Seq.on 200 ?_
  repeat (refine JL.flat ?_)
  refine JL.go 200 ?_
  repeat (refine JL.flat ?_)
  refine JL.block ?_
  repeat (refine JL.flat ?_)
  refine JL.draws (by kernel_rfl) (fun hR => ?_)
  refine Ord.on hR 200 ?_
  apply Ord.loadLit hR NP.nop rfl rfl rfl rfl rfl rfl rfl
  · repeat (first | exact Pick.here | apply Pick.there)
  · rfl
  · rfl
  refine Ord.on hR 200 ?_
  apply Ord.loadLit hR NP.nop rfl rfl rfl rfl rfl rfl rfl
  · repeat (first | exact Pick.here | apply Pick.there)
  · rfl
  · rfl
  refine Ord.on hR 200 ?_
  repeat (refine JL.flat ?_)
  refine JL.ifF rfl ?_
  try refine JL.skip ?_
  repeat (refine JL.flat ?_)
  refine JL.draws (by kernel_rfl) (fun hR => ?_)
  refine Ord.on hR 200 ?_
  apply Ord.loadLit hR NP.nop rfl rfl rfl rfl rfl rfl rfl
  · repeat (first | exact Pick.here | apply Pick.there)
  · rfl
  · rfl
  refine Ord.on hR 200 ?_
  apply Ord.loadLit hR NP.nop rfl rfl rfl rfl rfl rfl rfl
  · repeat (first | exact Pick.here | apply Pick.there)
  · rfl
  · rfl
  refine Ord.on hR 200 ?_
  refine Ord.skip_eff hR rfl rfl rfl rfl ?_ ?_
  · repeat (first | exact Keep.nil | (refine Keep.load rfl rfl rfl (by repeat (first | exact Pick.here | apply Pick.there)) (by rfl) (by rfl) ?_) | (refine Keep.waits (by kernel_rfl) ?_))
  refine Ord.on hR 200 ?_
  repeat (refine JL.flat ?_)
  refine JL.ifF rfl ?_
  try refine JL.skip ?_
  repeat (refine JL.flat ?_)
  refine JL.nil (At.block_normal (At.then_normal (JL.at ?_)))
  repeat (refine JL.flat ?_)
  refine JL.go 200 ?_
  repeat (refine JL.flat ?_)
  refine JL.ret ?_
  repeat (first | refine At.then_ret ?_ | refine At.block_ret ?_)
  refine At.done1 rfl (()) rfl ?_
  exact (Gives.sound (by repeat (first | exact Gives.nil | (apply Gives.cons; · repeat (first | exact Pick.here | apply Pick.there)))))
theorem known_nil (e : Int) : Trip Tryz.prog 76 [.pointer none, .int .u64 e] none_ [] (X := Unit) (fun _ => errV 11) (fun _ => []) := by
  refine Trip.start (n := 36) Tryz.func76 (by kernel_rfl) rfl rfl rfl ?_
  intro F w hD
  repeat (refine JL.flat ?_)
  refine JL.go 0 ?_
  refine Seq.eff rfl rfl (Ef.box rfl rfl) ?_
  intro b3
  refine Seq.on 200 ?_
  repeat (refine JL.flat ?_)
  refine JL.go 200 ?_
  repeat (refine JL.flat ?_)
  refine JL.block ?_
  repeat (refine JL.flat ?_)
  refine JL.draws (by kernel_rfl) (fun hR => ?_)
  refine Ord.on hR 200 ?_
  repeat (refine JL.flat ?_)
  refine JL.ifT rfl ?_
  try refine JL.skip ?_
  repeat (refine JL.flat ?_)
  refine JL.go 200 ?_
  repeat (refine JL.flat ?_)
  refine JL.ret ?_
  repeat (first | refine At.then_ret ?_ | refine At.block_ret ?_)
  refine At.done1 rfl (()) rfl ?_
  exact (Gives.sound (by repeat (first | exact Gives.nil | (apply Gives.cons; · repeat (first | exact Pick.here | apply Pick.there)))))
def stV (blocks mp tr : Nat) : Value := .agg #[.int .u64 (blocks : Int), .map (some mp), ptrV tr]
theorem at_ok0 (v s blocks mp tr : Nat) : Trip Tryz.prog 55 [ptrV v, .int .u64 0] none_ [Vt v s blocks mp tr 0 0] (X := Unit) (fun _ => .tuple #[stV blocks mp tr, .nilIface]) (fun _ => [Vt v s blocks mp tr 0 0]) := by
  refine Trip.start (n := 52) Tryz.func55 (by kernel_rfl) rfl rfl rfl ?_
  intro F w hD
  repeat (refine JL.flat ?_)
  refine JL.go 0 ?_
  refine Seq.eff rfl rfl (Ef.box rfl rfl) ?_
  intro b3
  refine Seq.eff rfl rfl (Ef.alloc tab_zero rfl rfl) ?_
  intro b4
  refine Seq.eff rfl rfl (Ef.alloc tab_zero rfl rfl) ?_
  intro b5
  refine Seq.on 200 ?_
  repeat (refine JL.flat ?_)
  refine JL.go 200 ?_
  apply Seq.loadLit rfl rfl rfl rfl rfl
  · repeat (first | exact Pick.here | apply Pick.there)
  · rfl
  · rfl
  apply Seq.call (known_ok v s blocks mp tr) rfl rfl rfl rfl rfl rfl
  · repeat (first | exact Picks.nil | (apply Picks.cons; · repeat (first | exact Pick.here | apply Pick.there)))
  · exact Tells.none
  intro _
  refine Seq.on 200 ?_
  repeat (refine JL.flat ?_)
  refine JL.go 200 ?_
  repeat (refine JL.flat ?_)
  refine JL.ifF rfl ?_
  try refine JL.skip ?_
  repeat (refine JL.flat ?_)
  refine JL.draws (by kernel_rfl) (fun hR => ?_)
  refine Ord.on hR 200 ?_
  apply Ord.loadLit hR NP.nop rfl rfl rfl rfl rfl rfl rfl
  · repeat (first | exact Pick.here | apply Pick.there)
  · rfl
  · rfl
  refine Ord.on hR 200 ?_
  apply Ord.loadLit hR NP.nop rfl rfl rfl rfl rfl rfl rfl
  · repeat (first | exact Pick.here | apply Pick.there)
  · rfl
  · rfl
  refine Ord.on hR 200 ?_
  repeat (refine JL.flat ?_)
  refine JL.ifT rfl ?_
  try refine JL.skip ?_
  repeat (refine JL.flat ?_)
  refine JL.go 200 ?_
  apply Seq.loadLit rfl rfl rfl rfl rfl
  · repeat (first | exact Pick.here | apply Pick.there)
  · rfl
  · rfl
  apply Seq.storeLit rfl rfl rfl rfl rfl rfl
  · repeat (first | exact Pick.here | apply Pick.there)
  · rfl
  · rfl
  · rfl
  apply Seq.storeLit rfl rfl rfl rfl rfl rfl
  · repeat (first | exact Pick.here | apply Pick.there)
  · rfl
  · rfl
  · rfl
  refine Seq.on 200 ?_
  refine JL.ret (At.doneCC rfl () rfl rfl (Tells.all (by repeat (first | exact Pick.here | apply Pick.there))) rfl rfl rfl rfl (Tells.all (by repeat (first | exact Pick.here | apply Pick.there))) rfl rfl rfl ?_)
  exact (Gives.sound (by repeat (first | exact Gives.nil | (apply Gives.cons; · repeat (first | exact Pick.here | apply Pick.there)))))
def zS : List Value := [.int .u64 0, .map none, .pointer none]
theorem at_nil (e : Int) : Trip Tryz.prog 55 [.pointer none, .int .u64 e] none_ [] (X := Unit) (fun _ => .tuple #[.agg zS.toArray, errV 11]) (fun _ => []) := by
  refine Trip.start (n := 52) Tryz.func55 (by kernel_rfl) rfl rfl rfl ?_
  intro F w hD
  repeat (refine JL.flat ?_)
  refine JL.go 0 ?_
  refine Seq.eff rfl rfl (Ef.box rfl rfl) ?_
  intro b3
  refine Seq.eff rfl rfl (Ef.alloc tab_zero rfl rfl) ?_
  intro b4
  refine Seq.eff rfl rfl (Ef.alloc tab_zero rfl rfl) ?_
  intro b5
  refine Seq.on 200 ?_
  repeat (refine JL.flat ?_)
  refine JL.go 200 ?_
  apply Seq.loadLit rfl rfl rfl rfl rfl
  · repeat (first | exact Pick.here | apply Pick.there)
  · rfl
  · rfl
  apply Seq.call (known_nil e) rfl rfl rfl rfl rfl rfl
  · repeat (first | exact Picks.nil | (apply Picks.cons; · repeat (first | exact Pick.here | apply Pick.there)))
  · exact Tells.none
  intro _
  refine Seq.on 200 ?_
  repeat (refine JL.flat ?_)
  refine JL.go 200 ?_
  repeat (refine JL.flat ?_)
  refine JL.ifT rfl ?_
  try refine JL.skip ?_
  repeat (refine JL.flat ?_)
  refine JL.go 200 ?_
  refine Seq.yield rfl rfl (Yl.build rfl rfl rfl rfl rfl) ?_
  refine Seq.on 200 ?_
  apply Seq.storeLit rfl rfl rfl rfl rfl rfl
  · repeat (first | exact Pick.here | apply Pick.there)
  · rfl
  · rfl
  · rfl
  apply Seq.storeLit rfl rfl rfl rfl rfl rfl
  · repeat (first | exact Pick.here | apply Pick.there)
  · rfl
  · rfl
  · rfl
  refine Seq.on 200 ?_
  refine JL.ret (At.doneCC rfl () rfl rfl (Tells.all (by repeat (first | exact Pick.here | apply Pick.there))) rfl rfl rfl rfl (Tells.all (by repeat (first | exact Pick.here | apply Pick.there))) rfl rfl rfl ?_)
  exact (Gives.sound (by repeat (first | exact Gives.nil | (apply Gives.cons; · repeat (first | exact Pick.here | apply Pick.there)))))
theorem VRoot_ok (v s blocks mp tr : Nat) (h2 : blocks ≤ 4294967296) : Trip Tryz.prog 21 [ptrV v, .int .u64 0] none_ [Vt v s blocks mp tr 0 0, TrE tr (heightN blocks)] (X := Unit) (fun _ => .tuple #[.agg (bytesV (emptyB (heightN blocks))).toArray, .nilIface]) (fun _ => [Vt v s blocks mp tr 0 0, TrE tr (heightN blocks)]) := by
  have hlv := emptyB_length (heightN blocks)
  have hroot := TRoot_ok tr (heightN blocks) (heightN_le h2)
  generalize emptyB (heightN blocks) = H at hlv hroot ⊢
  refine Trip.start (n := 21) Tryz.func21 (by kernel_rfl) rfl rfl rfl ?_
  intro F w hD
  repeat (refine JL.flat ?_)
  refine JL.go 0 ?_
  refine Seq.eff rfl rfl (Ef.alloc tab_zero rfl rfl) ?_
  intro b4
  refine Seq.on 200 ?_
  repeat (refine JL.flat ?_)
  refine JL.go 200 ?_
  apply Seq.call (at_ok0 v s blocks mp tr) rfl rfl rfl rfl rfl rfl
  · repeat (first | exact Picks.nil | (apply Picks.cons; · repeat (first | exact Pick.here | apply Pick.there)))
  · exact Tells.none
  intro _
  refine Seq.on 200 ?_
  refine Seq.eff rfl rfl (Ef.alloc tab_zero rfl rfl) ?_
  intro b6
  apply Seq.storeLit rfl rfl rfl rfl rfl rfl
  · repeat (first | exact Pick.here | apply Pick.there)
  · rfl
  · rfl
  · rfl
  refine Seq.on 200 ?_
  repeat (refine JL.flat ?_)
  refine JL.go 200 ?_
  repeat (refine JL.flat ?_)
  refine JL.ifF rfl ?_
  try refine JL.skip ?_
  repeat (refine JL.flat ?_)
  refine JL.go 200 ?_
  apply Seq.loadLit rfl rfl rfl rfl rfl
  · repeat (first | exact Pick.here | apply Pick.there)
  · rfl
  · rfl
  apply Seq.call (hroot) rfl rfl rfl rfl rfl rfl
  · repeat (first | exact Picks.nil | (apply Picks.cons; · repeat (first | exact Pick.here | apply Pick.there)))
  · exact Tells.none
  intro _
  refine Seq.storeAll rfl rfl rfl rfl rfl rfl (by repeat (first | exact Pick.here | apply Pick.there)) (by simp [Value.cells, bytesV, hlv]) (Ones_bytesV _) rfl ?_
  refine Seq.on 200 ?_
  refine JL.ret (At.doneC2 rfl () rfl rfl (Tells.all (by repeat (first | exact Pick.here | apply Pick.there))) (by simp [Value.cells, bytesV, hlv]) rfl rfl rfl ?_)
  exact (Gives.sound (by repeat (first | exact Gives.nil | (apply Gives.cons; · repeat (first | exact Pick.here | apply Pick.there)))))
theorem VRoot_nil (e : Int) : Trip Tryz.prog 21 [.pointer none, .int .u64 e] none_ [] (X := Unit) (fun _ => .tuple #[.agg (bytesV (List.replicate 32 0)).toArray, errV 11]) (fun _ => []) := by
  refine Trip.start (n := 21) Tryz.func21 (by kernel_rfl) rfl rfl rfl ?_
  intro F w hD
  repeat (refine JL.flat ?_)
  refine JL.go 0 ?_
  refine Seq.eff rfl rfl (Ef.alloc tab_zero rfl rfl) ?_
  intro b4
  refine Seq.on 200 ?_
  repeat (refine JL.flat ?_)
  refine JL.go 200 ?_
  apply Seq.call (at_nil e) rfl rfl rfl rfl rfl rfl
  · repeat (first | exact Picks.nil | (apply Picks.cons; · repeat (first | exact Pick.here | apply Pick.there)))
  · exact Tells.none
  intro _
  refine Seq.on 200 ?_
  refine Seq.eff rfl rfl (Ef.alloc tab_zero rfl rfl) ?_
  intro b6
  refine Seq.storeAgg (cs := zS) rfl rfl rfl rfl rfl rfl (by repeat (first | exact Pick.here | apply Pick.there)) rfl (fun u hu => by simp [zS] at hu; rcases hu with rfl | rfl | rfl <;> rfl) rfl ?_
  refine Seq.on 200 ?_
  repeat (refine JL.flat ?_)
  refine JL.go 200 ?_
  repeat (refine JL.flat ?_)
  refine JL.ifT rfl ?_
  try refine JL.skip ?_
  repeat (refine JL.flat ?_)
  refine JL.go 200 ?_
  refine Seq.buildArr (parts := []) rfl rfl rfl rfl rfl rfl rfl rfl ?_
  refine Seq.on 200 ?_
  refine Seq.storeAgg (cs := bytesV (List.replicate 32 0)) rfl rfl rfl rfl rfl rfl (by repeat (first | exact Pick.here | apply Pick.there)) rfl (Ones_bytesV _) rfl ?_
  refine Seq.on 200 ?_
  refine JL.ret (At.doneC2 rfl () rfl rfl (Tells.all (by repeat (first | exact Pick.here | apply Pick.there))) rfl rfl rfl rfl ?_)
  exact (Gives.sound (by repeat (first | exact Gives.nil | (apply Gives.cons; · repeat (first | exact Pick.here | apply Pick.there)))))
theorem Step_nil (e : Int) : Trip Tryz.prog 19 [.pointer none, .int .u64 e] none_ [] (X := Unit) (fun _ => .tuple #[.slice none 0 0, .slice none 0 0, errV 11]) (fun _ => []) := by
  refine Trip.start (n := 85) Tryz.func19 (by kernel_rfl) rfl rfl rfl ?_
  intro F w hD
  repeat (refine JL.flat ?_)
  refine JL.go 0 ?_
  refine Seq.eff rfl rfl (Ef.box rfl rfl) ?_
  intro b3
  refine Seq.on 200 ?_
  repeat (refine JL.flat ?_)
  refine JL.go 200 ?_
  repeat (refine JL.flat ?_)
  refine JL.ifT rfl ?_
  try refine JL.skip ?_
  repeat (refine JL.flat ?_)
  refine JL.go 200 ?_
  repeat (refine JL.flat ?_)
  refine JL.ret ?_
  repeat (first | refine At.then_ret ?_ | refine At.block_ret ?_)
  refine At.done3 rfl (()) rfl rfl rfl rfl ?_
  exact (Gives.sound (by repeat (first | exact Gives.nil | (apply Gives.cons; · repeat (first | exact Pick.here | apply Pick.there)))))
def zT : List Value := [.int .u64 0, .int .u64 0, .int .i64 0, .slice none 0 0, .slice none 0 0, .int .u64 0] ++ bytesV (List.replicate 16 0)
theorem Ones_zT : Ones zT := fun u hu => by
  unfold zT at hu
  rcases List.mem_append.1 hu with hu | hu
  · simp at hu; rcases hu with rfl | rfl | rfl | rfl | rfl | rfl <;> rfl
  · exact Ones_bytesV _ u hu
theorem Next_nil (e : Int) : Trip Tryz.prog 20 [.pointer none, .int .u64 e] none_ [] (X := Unit) (fun _ => .tuple #[.agg zT.toArray, .bool false]) (fun _ => []) := by
  refine Trip.start (n := 28) Tryz.func20 (by kernel_rfl) rfl rfl rfl ?_
  intro F w hD
  repeat (refine JL.flat ?_)
  refine JL.go 0 ?_
  refine Seq.eff rfl rfl (Ef.box rfl rfl) ?_
  intro b3
  refine Seq.eff rfl rfl (Ef.alloc tab_zero rfl rfl) ?_
  intro b4
  refine Seq.on 200 ?_
  repeat (refine JL.flat ?_)
  refine JL.go 200 ?_
  repeat (refine JL.flat ?_)
  refine JL.ifT rfl ?_
  try refine JL.skip ?_
  repeat (refine JL.flat ?_)
  refine JL.go 200 ?_
  refine Seq.yield rfl rfl (Yl.build rfl rfl rfl rfl rfl) ?_
  refine Seq.storeAgg (cs := zT) rfl rfl rfl rfl rfl rfl (by repeat (first | exact Pick.here | apply Pick.there)) rfl Ones_zT rfl ?_
  refine Seq.on 200 ?_
  refine JL.ret (At.doneC2 rfl () rfl rfl (Tells.all (by repeat (first | exact Pick.here | apply Pick.there))) rfl rfl rfl rfl ?_)
  exact (Gives.sound (by repeat (first | exact Gives.nil | (apply Gives.cons; · repeat (first | exact Pick.here | apply Pick.there)))))
theorem VRead_nil (e : Int) (l : Value) : Trip Tryz.prog 12 [.pointer none, .int .u64 e, l] none_ [] (X := Unit) (fun _ => .tuple #[.slice none 0 0, .slice none 0 0, errV 11]) (fun _ => []) := by
  refine Trip.start (n := 50) Tryz.func12 (by kernel_rfl) rfl rfl rfl ?_
  intro F w hD
  repeat (refine JL.flat ?_)
  refine JL.go 200 ?_
  repeat (refine JL.flat ?_)
  refine JL.go 200 ?_
  apply Seq.call (at_nil e) rfl rfl rfl rfl rfl rfl
  · repeat (first | exact Picks.nil | (apply Picks.cons; · repeat (first | exact Pick.here | apply Pick.there)))
  · exact Tells.none
  intro _
  refine Seq.on 200 ?_
  refine Seq.eff rfl rfl (Ef.alloc tab_zero rfl rfl) ?_
  intro b6
  refine Seq.storeAgg (cs := zS) rfl rfl rfl rfl rfl rfl (by repeat (first | exact Pick.here | apply Pick.there)) rfl (fun u hu => by simp [zS] at hu; rcases hu with rfl | rfl | rfl <;> rfl) rfl ?_
  refine Seq.on 200 ?_
  repeat (refine JL.flat ?_)
  refine JL.go 200 ?_
  repeat (refine JL.flat ?_)
  refine JL.ifT rfl ?_
  try refine JL.skip ?_
  repeat (refine JL.flat ?_)
  refine JL.go 200 ?_
  repeat (refine JL.flat ?_)
  refine JL.ret ?_
  repeat (first | refine At.then_ret ?_ | refine At.block_ret ?_)
  refine At.done3 rfl (()) rfl rfl rfl rfl ?_
  exact (Gives.sound (by repeat (first | exact Gives.nil | (apply Gives.cons; · repeat (first | exact Pick.here | apply Pick.there)))))
def zP : List Value := [.slice none 0 0, .slice none 0 0]
theorem Ones_zP : Ones zP := fun u hu => by simp [zP] at hu; subst hu; rfl
theorem At.done1C1 {n : Nat} {w0 : World} {E : Env} {G : List Assn} {fn : Func} {t p u : Tmp} {ty : TypeId} {i : TI} {b off : Nat} {cs : List Value} {v0 v1 v2 : Value} {X : Type} {r : X → Value} {B : X → List Assn} {F : Assn} (hr : fn.results = #[.tmp t, .cell p ty, .tmp u]) (x : X)
    (h0 : look E t = some v0) (hp : look E p = some (.pointer (some ⟨b, off, none⟩))) (ht : tab ty = some i) (hT : Tells G (CellsAt b off cs)) (hl : cs.length = i.size) (hv1 : valOf (aggK i.k) cs = some v1) (hu : look E u = some v2) (hv : Value.tuple #[v0, v1, v2] = r x) (hG : ∀ h, sep G h → sep (B x ++ [F]) h) :
    At n fz0 w0 E G (bodyPost Tryz.prog fn (fun e w' => ∃ x, e = .returned (r x) ∧ St w0 (B x ++ [F]) w') .ret) := ⟨fun a w ha hw => by
  refine ⟨ha.defers, r x, ?_, x, rfl, hG _ hw.sep, hw.same⟩
  have := run_loadVar_cells (P := Tryz.prog) tab_ok ht (hT _ hw.sep) hl hv1
  simp [results, hr, ha.get t _ h0, ha.get p _ hp, ha.get u _ hu, asAddr, this, hv]⟩
theorem Span_nil (e f g : Int) : Trip Tryz.prog 17 [.pointer none, .int .u64 e, .int .u64 f, .int .i64 g] none_ [] (X := Unit) (fun _ => .tuple #[.slice none 0 0, .agg zP.toArray, errV 11]) (fun _ => []) := by
  refine Trip.start (n := 57) Tryz.func17 (by kernel_rfl) rfl rfl rfl ?_
  intro F w hD
  repeat (refine JL.flat ?_)
  refine JL.go 200 ?_
  refine Seq.eff rfl rfl (Ef.alloc tab_zero rfl rfl) ?_
  intro b9
  refine Seq.on 200 ?_
  repeat (refine JL.flat ?_)
  refine JL.go 200 ?_
  apply Seq.call (at_nil e) rfl rfl rfl rfl rfl rfl
  · repeat (first | exact Picks.nil | (apply Picks.cons; · repeat (first | exact Pick.here | apply Pick.there)))
  · exact Tells.none
  intro _
  refine Seq.on 200 ?_
  refine Seq.eff rfl rfl (Ef.alloc tab_zero rfl rfl) ?_
  intro b11
  refine Seq.storeAgg (cs := zS) rfl rfl rfl rfl rfl rfl (by repeat (first | exact Pick.here | apply Pick.there)) rfl (fun u hu => by simp [zS] at hu; rcases hu with rfl | rfl | rfl <;> rfl) rfl ?_
  refine Seq.on 200 ?_
  repeat (refine JL.flat ?_)
  refine JL.go 200 ?_
  repeat (refine JL.flat ?_)
  refine JL.ifT rfl ?_
  try refine JL.skip ?_
  repeat (refine JL.flat ?_)
  refine JL.go 200 ?_
  refine Seq.yield rfl rfl (Yl.build rfl rfl rfl rfl rfl) ?_
  refine Seq.on 200 ?_
  refine Seq.storeAgg (cs := zP) rfl rfl rfl rfl rfl rfl (by repeat (first | exact Pick.here | apply Pick.there)) rfl Ones_zP rfl ?_
  refine Seq.on 200 ?_
  refine JL.ret (At.done1C1 rfl () rfl rfl rfl (Tells.all (by repeat (first | exact Pick.here | apply Pick.there))) rfl rfl rfl rfl ?_)
  exact (Gives.sound (by repeat (first | exact Gives.nil | (apply Gives.cons; · repeat (first | exact Pick.here | apply Pick.there)))))
theorem Tidy_nil (x : Value) : Trip Tryz.prog 22 [.pointer none, x] none_ [] (X := Unit) (fun _ => .tuple #[.bool false, errV 11]) (fun _ => []) := by
  refine Trip.start (n := 17) Tryz.func22 (by kernel_rfl) rfl rfl rfl ?_
  intro F w hD
  repeat (refine JL.flat ?_)
  refine JL.go 200 ?_
  repeat (refine JL.flat ?_)
  refine JL.go 200 ?_
  repeat (refine JL.flat ?_)
  refine JL.ifT rfl ?_
  try refine JL.skip ?_
  repeat (refine JL.flat ?_)
  refine JL.go 200 ?_
  repeat (refine JL.flat ?_)
  refine JL.ret ?_
  repeat (first | refine At.then_ret ?_ | refine At.block_ret ?_)
  refine At.done2 rfl (()) rfl rfl rfl ?_
  exact (Gives.sound (by repeat (first | exact Gives.nil | (apply Gives.cons; · repeat (first | exact Pick.here | apply Pick.there)))))
theorem Forget_nil (e : Int) : Trip Tryz.prog 23 [.pointer none, .int .u64 e] none_ [] (X := Unit) (fun _ => errV 11) (fun _ => []) := by
  refine Trip.start (n := 95) Tryz.func23 (by kernel_rfl) rfl rfl rfl ?_
  intro F w hD
  repeat (refine JL.flat ?_)
  refine JL.go 0 ?_
  refine Seq.eff rfl rfl (Ef.box rfl rfl) ?_
  intro b2
  refine Seq.eff rfl rfl (Ef.alloc tab_zero rfl rfl) ?_
  intro b4
  refine Seq.on 200 ?_
  repeat (refine JL.flat ?_)
  refine JL.go 200 ?_
  apply Seq.loadLit rfl rfl rfl rfl rfl
  · repeat (first | exact Pick.here | apply Pick.there)
  · rfl
  · rfl
  refine Seq.on 200 ?_
  repeat (refine JL.flat ?_)
  refine JL.ifF rfl ?_
  try refine JL.skip ?_
  repeat (refine JL.flat ?_)
  refine JL.go 200 ?_
  apply Seq.loadLit rfl rfl rfl rfl rfl
  · repeat (first | exact Pick.here | apply Pick.there)
  · rfl
  · rfl
  refine Seq.on 200 ?_
  apply Seq.call (known_nil e) rfl rfl rfl rfl rfl rfl
  · repeat (first | exact Picks.nil | (apply Picks.cons; · repeat (first | exact Pick.here | apply Pick.there)))
  · exact Tells.none
  intro _
  refine Seq.on 200 ?_
  repeat (refine JL.flat ?_)
  refine JL.go 200 ?_
  repeat (refine JL.flat ?_)
  refine JL.ifT rfl ?_
  try refine JL.skip ?_
  repeat (refine JL.flat ?_)
  refine JL.go 200 ?_
  apply Seq.storeLit rfl rfl rfl rfl rfl rfl
  · repeat (first | exact Pick.here | apply Pick.there)
  · rfl
  · rfl
  · rfl
  refine Seq.on 200 ?_
  refine JL.ret (At.doneC rfl () rfl rfl (Tells.all (by repeat (first | exact Pick.here | apply Pick.there))) rfl rfl rfl ?_)
  exact (Gives.sound (by repeat (first | exact Gives.nil | (apply Gives.cons; · repeat (first | exact Pick.here | apply Pick.there)))))
theorem Apply_nil : Trip Tryz.prog 24 [.pointer none, .agg zT.toArray] none_ [] (X := Unit) (fun _ => errV 11) (fun _ => []) := by
  refine Trip.start (n := 97) Tryz.func24 (by kernel_rfl) rfl rfl rfl ?_
  intro F w hD
  repeat (refine JL.flat ?_)
  refine JL.go 0 ?_
  refine Seq.eff rfl rfl (Ef.box rfl rfl) ?_
  intro b3
  refine Seq.on 200 ?_
  repeat (refine JL.flat ?_)
  refine JL.go 200 ?_
  repeat (refine JL.flat ?_)
  refine JL.ifT rfl ?_
  try refine JL.skip ?_
  repeat (refine JL.flat ?_)
  refine JL.go 200 ?_
  repeat (refine JL.flat ?_)
  refine JL.ret ?_
  repeat (first | refine At.then_ret ?_ | refine At.block_ret ?_)
  refine At.done1 rfl (()) rfl ?_
  exact (Gives.sound (by repeat (first | exact Gives.nil | (apply Gives.cons; · repeat (first | exact Pick.here | apply Pick.there)))))
theorem Blocks_nil : Trip Tryz.prog 26 [.pointer none] none_ [] (X := Unit) (fun _ => .int .u64 0) (fun _ => []) := by
  refine Trip.start (n := 10) Tryz.func26 (by kernel_rfl) rfl rfl rfl ?_
  intro F w hD
  repeat (refine JL.flat ?_)
  refine JL.go 200 ?_
  repeat (refine JL.flat ?_)
  refine JL.go 200 ?_
  repeat (refine JL.flat ?_)
  refine JL.ifT rfl ?_
  try refine JL.skip ?_
  repeat (refine JL.flat ?_)
  refine JL.go 200 ?_
  repeat (refine JL.flat ?_)
  refine JL.ret ?_
  repeat (first | refine At.then_ret ?_ | refine At.block_ret ?_)
  refine At.done1 rfl (()) rfl ?_
  exact (Gives.sound (by repeat (first | exact Gives.nil | (apply Gives.cons; · repeat (first | exact Pick.here | apply Pick.there)))))
theorem Epoch_nil : Trip Tryz.prog 27 [.pointer none] none_ [] (X := Unit) (fun _ => .int .u64 0) (fun _ => []) := by
  refine Trip.start (n := 9) Tryz.func27 (by kernel_rfl) rfl rfl rfl ?_
  intro F w hD
  repeat (refine JL.flat ?_)
  refine JL.go 200 ?_
  repeat (refine JL.flat ?_)
  refine JL.go 200 ?_
  repeat (refine JL.flat ?_)
  refine JL.ifT rfl ?_
  try refine JL.skip ?_
  repeat (refine JL.flat ?_)
  refine JL.go 200 ?_
  repeat (refine JL.flat ?_)
  refine JL.ret ?_
  repeat (first | refine At.then_ret ?_ | refine At.block_ret ?_)
  refine At.done1 rfl (()) rfl ?_
  exact (Gives.sound (by repeat (first | exact Gives.nil | (apply Gives.cons; · repeat (first | exact Pick.here | apply Pick.there)))))
theorem Base_nil : Trip Tryz.prog 28 [.pointer none] none_ [] (X := Unit) (fun _ => .int .u64 0) (fun _ => []) := by
  refine Trip.start (n := 9) Tryz.func28 (by kernel_rfl) rfl rfl rfl ?_
  intro F w hD
  repeat (refine JL.flat ?_)
  refine JL.go 200 ?_
  repeat (refine JL.flat ?_)
  refine JL.go 200 ?_
  repeat (refine JL.flat ?_)
  refine JL.ifT rfl ?_
  try refine JL.skip ?_
  repeat (refine JL.flat ?_)
  refine JL.go 200 ?_
  repeat (refine JL.flat ?_)
  refine JL.ret ?_
  repeat (first | refine At.then_ret ?_ | refine At.block_ret ?_)
  refine At.done1 rfl (()) rfl ?_
  exact (Gives.sound (by repeat (first | exact Gives.nil | (apply Gives.cons; · repeat (first | exact Pick.here | apply Pick.there)))))
theorem VLen_nil : Trip Tryz.prog 29 [.pointer none] none_ [] (X := Unit) (fun _ => .int .i64 0) (fun _ => []) := by
  refine Trip.start (n := 11) Tryz.func29 (by kernel_rfl) rfl rfl rfl ?_
  intro F w hD
  repeat (refine JL.flat ?_)
  refine JL.go 200 ?_
  repeat (refine JL.flat ?_)
  refine JL.go 200 ?_
  repeat (refine JL.flat ?_)
  refine JL.ifT rfl ?_
  try refine JL.skip ?_
  repeat (refine JL.flat ?_)
  refine JL.go 200 ?_
  repeat (refine JL.flat ?_)
  refine JL.ret ?_
  repeat (first | refine At.then_ret ?_ | refine At.block_ret ?_)
  refine At.done1 rfl (()) rfl ?_
  exact (Gives.sound (by repeat (first | exact Gives.nil | (apply Gives.cons; · repeat (first | exact Pick.here | apply Pick.there)))))
theorem Broken_nil : Trip Tryz.prog 11 [.pointer none] none_ [] (X := Unit) (fun _ => .bool false) (fun _ => []) := by
  refine Trip.start (n := 12) Tryz.func11 (by kernel_rfl) rfl rfl rfl ?_
  intro F w hD
  repeat (refine JL.flat ?_)
  refine JL.go 200 ?_
  repeat (refine JL.flat ?_)
  refine JL.go 200 ?_
  repeat (refine JL.flat ?_)
  refine JL.ret ?_
  repeat (first | refine At.then_ret ?_ | refine At.block_ret ?_)
  refine At.done1 rfl (()) rfl ?_
  exact (Gives.sound (by repeat (first | exact Gives.nil | (apply Gives.cons; · repeat (first | exact Pick.here | apply Pick.there)))))
theorem VBlocks_ok (v s blocks mp tr : Nat) : Trip Tryz.prog 26 [ptrV v] none_ [Vt v s blocks mp tr 0 0] (X := Unit) (fun _ => .int .u64 (blocks : Int)) (fun _ => [Vt v s blocks mp tr 0 0]) := by
  refine Trip.start (n := 10) Tryz.func26 (by kernel_rfl) rfl rfl rfl ?_
  intro F w hD
  repeat (refine JL.flat ?_)
  refine JL.go 200 ?_
  repeat (refine JL.flat ?_)
  refine JL.go 200 ?_
  repeat (refine JL.flat ?_)
  refine JL.ifF rfl ?_
  try refine JL.skip ?_
  repeat (refine JL.flat ?_)
  refine JL.go 200 ?_
  apply Seq.loadLit rfl rfl rfl rfl rfl
  · repeat (first | exact Pick.here | apply Pick.there)
  · rfl
  · rfl
  refine Seq.on 200 ?_
  repeat (refine JL.flat ?_)
  refine JL.ret ?_
  repeat (first | refine At.then_ret ?_ | refine At.block_ret ?_)
  refine At.done1 rfl (()) rfl ?_
  exact (Gives.sound (by repeat (first | exact Gives.nil | (apply Gives.cons; · repeat (first | exact Pick.here | apply Pick.there)))))
section
variable {n : Nat} {ds : Fz} {w0 : World} {E : Env} {G : List Assn} {Q : Exit → Act → World → Prop}
theorem run_assertT2 {o : Oper} {x : Operand} {xt t : TypeId} {v : Value} {d : TypeDesc} (ho : o.op = .typeAssert x xt t true) (hx : ev E x = some (.iface t v)) (hd : Tryz.prog.underlying t = some d) (hn : (match d with | .interface _ => false | _ => true) = true) (a : Act) (w : World) (ha : Agree n ds E a) :
    (execOp a.eval o).run Tryz.prog w = .ok (.value (.tuple #[v, .bool true])) w := by
  cases d <;> simp at hn <;> simp [execOp, ho, Instr.typeAssert, ha.eval hx, run_underlying hd]
theorem Yl.lenMap {o : Oper} {t kt et : TypeId} {s1 b1 : Nat} {x : Operand} {b cl : Nat} {es : Array MapEntry} (ho : o.op = .call { callee := .builtin .len, args := #[x], argTypes := #[t] }) (hx : ev E x = some (.map (some b))) (ht : tab t = some ⟨.map kt et, s1, b1⟩) (p : Tells G (fun h => h b = some (.map es cl))) :
    Yl Tryz.prog n ds w0 E G o (.int .i64 (es.size : Int)) := fun a w ha hw => by
  have hb' : w.heap[b]? = some (.map es cl) := p _ hw.sep
  simp [execOp, ho, resolve, invoke, builtin, Builtin.len_, ha.eval hx, run_underlying (tab_ok.map ht), MapKept.run_getObj_map hb', goInt]
end
theorem VLen_ok (v s blocks mp tr : Nat) : Trip Tryz.prog 29 [ptrV v] none_ [Vt v s blocks mp tr 0 0, pt mp (.map #[] 0)] (X := Unit) (fun _ => .int .i64 0) (fun _ => [Vt v s blocks mp tr 0 0, pt mp (.map #[] 0)]) := by
  refine Trip.start (n := 11) Tryz.func29 (by kernel_rfl) rfl rfl rfl ?_
  intro F w hD
  repeat (refine JL.flat ?_)
  refine JL.go 200 ?_
  repeat (refine JL.flat ?_)
  refine JL.go 200 ?_
  repeat (refine JL.flat ?_)
  refine JL.ifF rfl ?_
  try refine JL.skip ?_
  repeat (refine JL.flat ?_)
  refine JL.go 200 ?_
  apply Seq.loadLit rfl rfl rfl rfl rfl
  · repeat (first | exact Pick.here | apply Pick.there)
  · rfl
  · rfl
  refine Seq.on 200 ?_
  refine Seq.yield rfl rfl (Yl.lenMap (b := mp) (cl := 0) (es := #[]) rfl rfl rfl (Tells.pick (A := pt mp (.map #[] 0)) (by repeat (first | exact Pick.here | apply Pick.there)) (fun _ _ hk x => hk _ _ x) (fun _ x => x))) ?_
  refine Seq.on 200 ?_
  repeat (refine JL.flat ?_)
  refine JL.ret ?_
  repeat (first | refine At.then_ret ?_ | refine At.block_ret ?_)
  refine At.done1 rfl (()) rfl ?_
  exact (Gives.sound (by repeat (first | exact Gives.nil | (apply Gives.cons; · repeat (first | exact Pick.here | apply Pick.there)))))
theorem Num_err (k : Int) (hk : k ≠ 0) : Trip Tryz.prog 14 [errV k] none_ [] (X := Unit) (fun _ => .int .i64 k) (fun _ => []) := by
  unfold errV
  refine Trip.start (n := 18) Tryz.func14 (by kernel_rfl) rfl rfl rfl ?_
  intro F w hD
  repeat (refine JL.flat ?_)
  refine JL.go 200 ?_
  repeat (refine JL.flat ?_)
  refine JL.go 200 ?_
  repeat (refine JL.flat ?_)
  refine JL.ifF rfl ?_
  try refine JL.skip ?_
  repeat (refine JL.flat ?_)
  refine JL.go 200 ?_
  refine Seq.yield rfl rfl (fun a w ha _ => run_assertT2 rfl rfl (tab_ok.int (show tab 80 = some ⟨.int .i64, 1, 8⟩ from rfl)) rfl a w ha) ?_
  refine Seq.on 200 ?_
  repeat (refine JL.flat ?_)
  refine JL.go 4 ?_
  refine Seq.set 15 (.bool true) rfl (congrArg Value.bool (by simpa [bne] using hk)) ?_
  refine Seq.on 200 ?_
  repeat (refine JL.flat ?_)
  refine JL.ifT rfl ?_
  try refine JL.skip ?_
  repeat (refine JL.flat ?_)
  refine JL.go 200 ?_
  repeat (refine JL.flat ?_)
  refine JL.ret ?_
  repeat (first | refine At.then_ret ?_ | refine At.block_ret ?_)
  refine At.done1 rfl (()) rfl ?_
  exact (Gives.sound (by repeat (first | exact Gives.nil | (apply Gives.cons; · repeat (first | exact Pick.here | apply Pick.there)))))
theorem Is_err (k j : Int) (hk : k ≠ 0) : Trip Tryz.prog 25 [errV k, .int .i64 j] none_ [] (X := Unit) (fun _ => .bool (k == j)) (fun _ => []) := by
  refine Trip.start (n := 9) Tryz.func25 (by kernel_rfl) rfl rfl rfl ?_
  intro F w hD
  repeat (refine JL.flat ?_)
  refine JL.go 200 ?_
  repeat (refine JL.flat ?_)
  refine JL.go 200 ?_
  apply Seq.call (Num_err k hk) rfl rfl rfl rfl rfl rfl
  · repeat (first | exact Picks.nil | (apply Picks.cons; · repeat (first | exact Pick.here | apply Pick.there)))
  · exact Tells.none
  intro _
  refine Seq.on 200 ?_
  repeat (refine JL.flat ?_)
  refine JL.ret ?_
  repeat (first | refine At.then_ret ?_ | refine At.block_ret ?_)
  refine At.done1 rfl (()) rfl ?_
  exact (Gives.sound (by repeat (first | exact Gives.nil | (apply Gives.cons; · repeat (first | exact Pick.here | apply Pick.there)))))
end Go.Ent
namespace Go.Ent
open Go Go.Proofs Go.MapKept
theorem zero_last : lastS noS noS = zeroL := by funext n; rfl
theorem New_view (k : Nat) (h1 : 1 ≤ k) (h2 : k ≤ 16384) : Trip Tryz.prog 30 [.int .i64 (k : Int)] none_ [] (X := Nat) (fun p => .tuple #[ptrV p, .nilIface]) (fun p => [Dv p k zeroL 0]) :=
  (New_ok k h1 h2).post (fun p => p) (fun _ => rfl) (fun p h s => by
    have := star_mono (fun h hx => DkV h hx) (fun _ h => h) s
    rw [zero_last] at this
    exact this)
theorem Begin_ok (k blocks : Nat) (h : 4 ≤ k) (hk : k ≤ 16384) (h1 : 1 ≤ blocks) (h2 : blocks ≤ 4294967296) : Trip Tryz.prog 35 [.int .i64 (k : Int), .int .u64 (blocks : Int)] Glob [] (X := Nat × (Nat × Nat × Nat × Nat)) (fun r => ptrV r.2.1)
    (fun r => [Vt r.2.1 r.2.2.1 blocks r.2.2.2.1 r.2.2.2.2 0 0, pt r.2.2.2.1 (.map #[] 0), TrE r.2.2.2.2 (heightN blocks), Swp r.2.2.1 r.1 k (L2 k blocks) 0 1 (uAt 1 [metaP blocks]) (tAt 1 [metaP blocks]) (updT noT [77] (metaB blocks 0 0))]) := by
  refine Trip.start (n := 29) Tryz.func35 (by kernel_rfl) rfl rfl rfl ?_
  intro F w hD
  repeat (refine JL.flat ?_)
  refine JL.go 200 ?_
  repeat (refine JL.flat ?_)
  refine JL.go 200 ?_
  apply Seq.call (New_view k (by omega) hk) rfl rfl rfl rfl rfl rfl
  · repeat (first | exact Picks.nil | (apply Picks.cons; · repeat (first | exact Pick.here | apply Pick.there)))
  · exact Tells.none
  intro d
  refine Seq.on 200 ?_
  repeat (refine JL.flat ?_)
  refine JL.go 200 ?_
  apply Seq.call (VFormat_ok d k 0 blocks h hk (by omega) h1 h2) rfl rfl rfl rfl rfl rfl
  ·
    repeat (first | exact Picks.nil | (apply Picks.cons; · repeat (first | exact Pick.here | apply Pick.there)))
  · exact Tells.frame (by repeat (first | exact Pick.here | apply Pick.there)) (fun _ _ => Glob.mono) hD
  intro _
  refine Seq.on 200 ?_
  repeat (refine JL.flat ?_)
  refine JL.ifF rfl ?_
  try refine JL.skip ?_
  repeat (refine JL.flat ?_)
  refine JL.go 200 ?_
  apply Seq.call (VOpen_ok d k 0 blocks h hk h1 h2) rfl rfl rfl rfl rfl rfl
  ·
    repeat (first | exact Picks.nil | (apply Picks.cons; · repeat (first | exact Pick.here | apply Pick.there)))
  · exact Tells.frame (by repeat (first | exact Pick.here | apply Pick.there)) (fun _ _ => Glob.mono) hD
  intro r
  refine Seq.on 200 ?_
  repeat (refine JL.flat ?_)
  refine JL.go 200 ?_
  repeat (refine JL.flat ?_)
  refine JL.ifF rfl ?_
  try refine JL.skip ?_
  repeat (refine JL.flat ?_)
  refine JL.go 200 ?_
  repeat (refine JL.flat ?_)
  refine JL.ret ?_
  repeat (first | refine At.then_ret ?_ | refine At.block_ret ?_)
  refine At.done1 rfl ((d, r)) rfl ?_
  exact (Gives.sound (by repeat (first | exact Gives.nil | (apply Gives.cons; · repeat (first | exact Pick.here | apply Pick.there)))))
theorem height_one : heightN 1 = 0 := by decide
set_option maxHeartbeats 800000 in
theorem alive_ok : Trip Tryz.prog 7 [] Glob [] (X := Unit) (fun _ => .bool true) (fun _ => []) := by
  refine Trip.start (n := 30) Tryz.func7 (by kernel_rfl) rfl rfl rfl ?_
  intro F w hD
  have hDg : ∀ {G G' : List Assn}, Pick F G G' → Tells G Glob := fun pk => Tells.frame pk (fun _ _ => Glob.mono) hD
  repeat (refine JL.flat ?_)
  refine JL.go 200 ?_
  repeat (refine JL.flat ?_)
  refine JL.go 200 ?_
  have hbeg := Begin_ok 100 1 (by omega) (by omega) (by omega) (by omega)
  have hrt := fun v s mp tr => VRoot_ok v s 1 mp tr (by omega)
  rw [height_one] at hbeg hrt
  generalize L2 100 1 = LL at hbeg
  generalize uAt 1 [metaP 1] = UU at hbeg
  generalize tAt 1 [metaP 1] = TT at hbeg
  generalize updT noT [77] (metaB 1 0 0) = f at hbeg
  apply Seq.call (hbeg) rfl rfl rfl rfl rfl rfl
  ·
    repeat (first | exact Picks.nil | (apply Picks.cons; · repeat (first | exact Pick.here | apply Pick.there)))
  · exact hDg (by repeat (first | exact Pick.here | apply Pick.there))
  rintro ⟨d, v, s, mp, tr⟩
  refine Seq.on 200 ?_
  repeat (refine JL.flat ?_)
  refine JL.go 200 ?_
  repeat (refine JL.flat ?_)
  refine JL.ifF rfl ?_
  try refine JL.skip ?_
  repeat (refine JL.flat ?_)
  refine JL.go 200 ?_
  apply Seq.call (hrt v s mp tr) rfl rfl rfl rfl rfl rfl
  · repeat (first | exact Picks.nil | (apply Picks.cons; · repeat (first | exact Pick.here | apply Pick.there)))
  · exact Tells.none
  intro _
  have hl0 := emptyB_length 0
  have hat := EB_at (t := 0) (by omega)
  have hE := EB_length (t := 33) (by omega)
  have hemp := Empties_ok
  simp only [Nat.zero_mul, List.drop_zero] at hat
  generalize emptyB 0 = H0 at hl0 hat ⊢
  generalize EB 33 = L at hat hE hemp
  refine Seq.on 200 ?_
  refine Seq.eff rfl rfl (Ef.alloc tab_zero rfl rfl) ?_
  intro b2
  refine Seq.storeAgg (cs := bytesV H0) rfl rfl rfl rfl rfl rfl (by repeat (first | exact Pick.here | apply Pick.there)) (by simpa [bytesV] using hl0) (Ones_bytesV _) rfl ?_
  refine Seq.on 200 ?_
  repeat (refine JL.flat ?_)
  refine JL.draws (by kernel_rfl) (fun hR => ?_)
  refine Ord.on hR 200 ?_
  refine Ord.loadAll hR NP.nop rfl rfl rfl rfl rfl rfl rfl rfl (by repeat (first | exact Pick.here | apply Pick.there)) (by simpa [bytesV] using hl0) ?_
  apply Ord.call (hemp) hR rfl rfl rfl rfl rfl rfl rfl rfl
  ·
    repeat (first | exact Picks.nil | (apply Picks.cons; · repeat (first | exact Pick.here | apply Pick.there)))
  · exact hDg (by repeat (first | exact Pick.here | apply Pick.there))
  · intro _
    repeat (first | exact Keep.nil | (refine Keep.again (Yl.loadAll rfl rfl rfl rfl (by repeat (first | exact Pick.here | apply Pick.there)) (by simpa [bytesV] using hl0)) ?_))
  intro _
  refine Ord.pure hR NP.nop rfl rfl rfl rfl (fun a w ha => run_indexAgg 0 rfl rfl rfl rfl rfl rfl (by omega) a w ha) ?_
  refine Ord.set 17 (.agg (bytesV H0).toArray) rfl (by
    rw [← hat, bytesV_take]
    show Value.agg (Ent.sub (bytesV L) (0 * 32) 32).toArray = _
    unfold Ent.sub
    rw [Nat.zero_mul, List.drop_zero]) ?_
  refine Ord.pure hR NP.nop rfl rfl rfl rfl (fun a w ha => run_eqB rfl rfl rfl rfl rfl (by kernel_rfl) (by kernel_rfl) hl0 hl0 a w ha) ?_
  refine Ord.set 18 (.bool true) rfl (by simp) ?_
  refine Ord.on hR 200 ?_
  apply Ord.call (VBlocks_ok v s 1 mp tr) hR rfl rfl rfl rfl rfl rfl rfl rfl
  ·
    repeat (first | exact Picks.nil | (apply Picks.cons; · repeat (first | exact Pick.here | apply Pick.there)))
  · exact Tells.none
  · intro _
    repeat (first | exact Keep.nil | (refine Keep.again (Yl.loadAll rfl rfl rfl rfl (by repeat (first | exact Pick.here | apply Pick.there)) (by simpa [bytesV] using hl0)) ?_))
  intro _
  refine Ord.on hR 200 ?_
  apply Ord.call (VLen_ok v s 1 mp tr) hR rfl rfl rfl rfl rfl rfl rfl rfl
  ·
    repeat (first | exact Picks.nil | (apply Picks.cons; · repeat (first | exact Pick.here | apply Pick.there)))
  · exact Tells.none
  · intro _
    repeat (first | exact Keep.nil | (refine Keep.again (Yl.loadAll rfl rfl rfl rfl (by repeat (first | exact Pick.here | apply Pick.there)) (by simpa [bytesV] using hl0)) ?_))
  intro _
  refine Ord.on hR 200 ?_
  repeat (refine JL.flat ?_)
  refine JL.ret ?_
  repeat (first | refine At.then_ret ?_ | refine At.block_ret ?_)
  refine At.done1 rfl (()) rfl ?_
  exact (Gives.sound (by repeat (first | exact Gives.nil | (apply Gives.cons; · repeat (first | exact Pick.here | apply Pick.there)))))
theorem SwFormat_small (d k : Nat) (S W : Secs) (q : List Value) (h : k < 4) : Trip Tryz.prog 86 [ptrV d] none_ [Dk d k S W q] (X := Unit) (fun _ => errV 1) (fun _ => [Dk d k S W q]) := by
  refine Trip.start (n := 49) Tryz.func86 (by kernel_rfl) rfl rfl rfl ?_
  intro F w hD
  repeat (refine JL.flat ?_)
  refine JL.go 200 ?_
  repeat (refine JL.flat ?_)
  refine JL.go 200 ?_
  apply Seq.call (fits_small d k S W q h) rfl rfl rfl rfl rfl rfl
  · repeat (first | exact Picks.nil | (apply Picks.cons; · repeat (first | exact Pick.here | apply Pick.there)))
  · exact Tells.none
  intro _
  unfold errV
  refine Seq.on 200 ?_
  repeat (refine JL.flat ?_)
  refine JL.go 200 ?_
  repeat (refine JL.flat ?_)
  refine JL.ifT rfl ?_
  try refine JL.skip ?_
  repeat (refine JL.flat ?_)
  refine JL.go 200 ?_
  repeat (refine JL.flat ?_)
  refine JL.ret ?_
  repeat (first | refine At.then_ret ?_ | refine At.block_ret ?_)
  refine At.done1 rfl (()) rfl ?_
  exact (Gives.sound (by repeat (first | exact Gives.nil | (apply Gives.cons; · repeat (first | exact Pick.here | apply Pick.there)))))
theorem SwOpen_small (d k : Nat) (S W : Secs) (q : List Value) (h : k < 4) : Trip Tryz.prog 87 [ptrV d] none_ [Dk d k S W q] (X := Unit) (fun _ => .tuple #[.pointer none, errV 1]) (fun _ => [Dk d k S W q]) := by
  refine Trip.start (n := 84) Tryz.func87 (by kernel_rfl) rfl rfl rfl ?_
  intro F w hD
  repeat (refine JL.flat ?_)
  refine JL.go 200 ?_
  repeat (refine JL.flat ?_)
  refine JL.go 200 ?_
  apply Seq.call (fits_small d k S W q h) rfl rfl rfl rfl rfl rfl
  · repeat (first | exact Picks.nil | (apply Picks.cons; · repeat (first | exact Pick.here | apply Pick.there)))
  · exact Tells.none
  intro _
  unfold errV
  refine Seq.on 200 ?_
  repeat (refine JL.flat ?_)
  refine JL.go 200 ?_
  repeat (refine JL.flat ?_)
  refine JL.ifT rfl ?_
  try refine JL.skip ?_
  repeat (refine JL.flat ?_)
  refine JL.go 200 ?_
  repeat (refine JL.flat ?_)
  refine JL.ret ?_
  repeat (first | refine At.then_ret ?_ | refine At.block_ret ?_)
  refine At.done2 rfl (()) rfl rfl rfl ?_
  exact (Gives.sound (by repeat (first | exact Gives.nil | (apply Gives.cons; · repeat (first | exact Pick.here | apply Pick.there)))))
theorem VFormat_small (d k : Nat) (S W : Secs) (q : List Value) (blocks : Nat) (h : k < 4) (h1 : 1 ≤ blocks) (h2 : blocks ≤ 4294967296) : Trip Tryz.prog 31 [ptrV d, .int .u64 (blocks : Int)] none_ [Dk d k S W q] (X := Unit) (fun _ => errV 1) (fun _ => [Dk d k S W q]) := by
  refine Trip.start (n := 33) Tryz.func31 (by kernel_rfl) rfl rfl rfl ?_
  intro F w hD
  repeat (refine JL.flat ?_)
  refine JL.go 200 ?_
  repeat (refine JL.flat ?_)
  refine JL.go 2 ?_
  refine Seq.set 9 (.bool false) rfl (congrArg Value.bool (by simp; omega)) ?_
  refine Seq.on 3 ?_
  refine Seq.set 12 (.bool false) rfl (congrArg Value.bool (by simp; omega)) ?_
  refine Seq.on 200 ?_
  repeat (refine JL.flat ?_)
  refine JL.ifF rfl ?_
  try refine JL.skip ?_
  repeat (refine JL.flat ?_)
  refine JL.go 200 ?_
  apply Seq.call (SwFormat_small d k S W q h) rfl rfl rfl rfl rfl rfl
  · repeat (first | exact Picks.nil | (apply Picks.cons; · repeat (first | exact Pick.here | apply Pick.there)))
  · exact Tells.none
  intro _
  unfold errV
  refine Seq.on 200 ?_
  repeat (refine JL.flat ?_)
  refine JL.go 200 ?_
  repeat (refine JL.flat ?_)
  refine JL.ifT rfl ?_
  try refine JL.skip ?_
  repeat (refine JL.flat ?_)
  refine JL.go 200 ?_
  repeat (refine JL.flat ?_)
  refine JL.ret ?_
  repeat (first | refine At.then_ret ?_ | refine At.block_ret ?_)
  refine At.done1 rfl (()) rfl ?_
  exact (Gives.sound (by repeat (first | exact Gives.nil | (apply Gives.cons; · repeat (first | exact Pick.here | apply Pick.there)))))
theorem VFormat_bad (d blocks : Nat) (h : blocks < 1 ∨ 4294967296 < blocks) : Trip Tryz.prog 31 [ptrV d, .int .u64 (blocks : Int)] none_ [] (X := Unit) (fun _ => errV 1) (fun _ => []) := by
  refine Trip.start (n := 33) Tryz.func31 (by kernel_rfl) rfl rfl rfl ?_
  intro F w hD
  repeat (refine JL.flat ?_)
  refine JL.go 200 ?_
  repeat (refine JL.flat ?_)
  refine JL.go 2 ?_
  by_cases h1 : blocks < 1
  · refine Seq.set 9 (.bool true) rfl (congrArg Value.bool (by simp; omega)) ?_
    refine Seq.on 200 ?_
    repeat (refine JL.flat ?_)
    refine JL.ifT rfl ?_
    try refine JL.skip ?_
    repeat (refine JL.flat ?_)
    refine JL.go 200 ?_
    repeat (refine JL.flat ?_)
    refine JL.ret ?_
    repeat (first | refine At.then_ret ?_ | refine At.block_ret ?_)
    refine At.done1 rfl (()) rfl ?_
    exact (Gives.sound (by repeat (first | exact Gives.nil | (apply Gives.cons; · repeat (first | exact Pick.here | apply Pick.there)))))
  · refine Seq.set 9 (.bool false) rfl (congrArg Value.bool (by simp; omega)) ?_
    refine Seq.on 3 ?_
    refine Seq.set 12 (.bool true) rfl (congrArg Value.bool (by simp; omega)) ?_
    refine Seq.on 200 ?_
    repeat (refine JL.flat ?_)
    refine JL.ifT rfl ?_
    try refine JL.skip ?_
    repeat (refine JL.flat ?_)
    refine JL.go 200 ?_
    repeat (refine JL.flat ?_)
    refine JL.ret ?_
    repeat (first | refine At.then_ret ?_ | refine At.block_ret ?_)
    refine At.done1 rfl (()) rfl ?_
    exact (Gives.sound (by repeat (first | exact Gives.nil | (apply Gives.cons; · repeat (first | exact Pick.here | apply Pick.there)))))
theorem VOpen_small (d k : Nat) (S W : Secs) (q : List Value) (h : k < 4) : Trip Tryz.prog 33 [ptrV d] none_ [Dk d k S W q] (X := Unit) (fun _ => .tuple #[.pointer none, errV 1]) (fun _ => [Dk d k S W q]) := by
  refine Trip.start (n := 79) Tryz.func33 (by kernel_rfl) rfl rfl rfl ?_
  intro F w hD
  repeat (refine JL.flat ?_)
  refine JL.go 0 ?_
  refine Seq.eff rfl rfl (Ef.alloc tab_zero rfl rfl) ?_
  intro b2
  refine Seq.eff rfl rfl (Ef.alloc tab_zero rfl rfl) ?_
  intro b3
  refine Seq.on 200 ?_
  repeat (refine JL.flat ?_)
  refine JL.go 200 ?_
  apply Seq.call (SwOpen_small d k S W q h) rfl rfl rfl rfl rfl rfl
  · repeat (first | exact Picks.nil | (apply Picks.cons; · repeat (first | exact Pick.here | apply Pick.there)))
  · exact Tells.none
  intro _
  unfold errV
  refine Seq.on 200 ?_
  repeat (refine JL.flat ?_)
  refine JL.go 200 ?_
  repeat (refine JL.flat ?_)
  refine JL.ifT rfl ?_
  try refine JL.skip ?_
  repeat (refine JL.flat ?_)
  refine JL.go 200 ?_
  apply Seq.storeLit rfl rfl rfl rfl rfl rfl
  · repeat (first | exact Pick.here | apply Pick.there)
  · rfl
  · rfl
  · rfl
  apply Seq.storeLit rfl rfl rfl rfl rfl rfl
  · repeat (first | exact Pick.here | apply Pick.there)
  · rfl
  · rfl
  · rfl
  refine Seq.on 200 ?_
  refine JL.ret (At.doneCC rfl () rfl rfl (Tells.all (by repeat (first | exact Pick.here | apply Pick.there))) rfl rfl rfl rfl (Tells.all (by repeat (first | exact Pick.here | apply Pick.there))) rfl rfl rfl ?_)
  exact (Gives.sound (by repeat (first | exact Gives.nil | (apply Gives.cons; · repeat (first | exact Pick.here | apply Pick.there)))))
set_option maxHeartbeats 1600000 in
theorem VaultNil_ok (blocks epoch : Nat) (sectors : Int) (hb : blocks < 18446744073709551616) : Trip Tryz.prog 5 [.int .u64 (blocks : Int), .int .u64 (epoch : Int), .int .i64 sectors] Glob [] (X := Unit) (fun _ => .bool true) (fun _ => []) := by
  refine Trip.start (n := 155) Tryz.func5 (by kernel_rfl) rfl rfl rfl ?_
  intro F w hD
  have hDg : ∀ {G G' : List Assn}, Pick F G G' → Tells G Glob := fun pk => Tells.frame pk (fun _ _ => Glob.mono) hD
  repeat (refine JL.flat ?_)
  refine JL.go 200 ?_
  repeat (refine JL.flat ?_)
  refine JL.go 200 ?_
  apply Seq.call (alive_ok) rfl rfl rfl rfl rfl rfl
  ·
    repeat (first | exact Picks.nil | (apply Picks.cons; · repeat (first | exact Pick.here | apply Pick.there)))
  · exact hDg (by repeat (first | exact Pick.here | apply Pick.there))
  intro _
  refine Seq.on 200 ?_
  repeat (refine JL.flat ?_)
  refine JL.ifF rfl ?_
  try refine JL.skip ?_
  repeat (refine JL.flat ?_)
  refine JL.go 200 ?_
  repeat (refine JL.flat ?_)
  refine JL.go 200 ?_
  apply Seq.call (Step_nil (epoch : Int)) rfl rfl rfl rfl rfl rfl
  · repeat (first | exact Picks.nil | (apply Picks.cons; · repeat (first | exact Pick.here | apply Pick.there)))
  · exact Tells.none
  intro _
  refine Seq.on 200 ?_
  repeat (refine JL.flat ?_)
  refine JL.go 200 ?_
  apply Seq.call (Next_nil (epoch : Int)) rfl rfl rfl rfl rfl rfl
  · repeat (first | exact Picks.nil | (apply Picks.cons; · repeat (first | exact Pick.here | apply Pick.there)))
  · exact Tells.none
  intro _
  refine Seq.on 200 ?_
  refine Seq.eff rfl rfl (Ef.alloc tab_zero rfl rfl) ?_
  intro b11
  refine Seq.storeAgg (cs := zT) rfl rfl rfl rfl rfl rfl (by repeat (first | exact Pick.here | apply Pick.there)) rfl Ones_zT rfl ?_
  refine Seq.on 200 ?_
  repeat (refine JL.flat ?_)
  refine JL.go 200 ?_
  apply Seq.call (VRead_nil (epoch : Int) (.slice none 0 0)) rfl rfl rfl rfl rfl rfl
  · repeat (first | exact Picks.nil | (apply Picks.cons; · repeat (first | exact Pick.here | apply Pick.there)))
  · exact Tells.none
  intro _
  refine Seq.on 200 ?_
  repeat (refine JL.flat ?_)
  refine JL.go 200 ?_
  apply Seq.call (Span_nil (epoch : Int) 0 1) rfl rfl rfl rfl rfl rfl
  · repeat (first | exact Picks.nil | (apply Picks.cons; · repeat (first | exact Pick.here | apply Pick.there)))
  · exact Tells.none
  intro _
  refine Seq.on 200 ?_
  refine Seq.eff rfl rfl (Ef.alloc tab_zero rfl rfl) ?_
  intro b17
  refine Seq.on 200 ?_
  refine Seq.storeAgg (cs := zP) rfl rfl rfl rfl rfl rfl (by repeat (first | exact Pick.here | apply Pick.there)) rfl Ones_zP rfl ?_
  refine Seq.on 200 ?_
  repeat (refine JL.flat ?_)
  refine JL.go 200 ?_
  apply Seq.call (VRoot_nil (epoch : Int)) rfl rfl rfl rfl rfl rfl
  · repeat (first | exact Picks.nil | (apply Picks.cons; · repeat (first | exact Pick.here | apply Pick.there)))
  · exact Tells.none
  intro _
  refine Seq.on 200 ?_
  refine Seq.eff rfl rfl (Ef.alloc tab_zero rfl rfl) ?_
  intro b19
  refine Seq.storeAgg (cs := bytesV (List.replicate 32 0)) rfl rfl rfl rfl rfl rfl (by repeat (first | exact Pick.here | apply Pick.there)) rfl (Ones_bytesV _) rfl ?_
  refine Seq.on 200 ?_
  repeat (refine JL.flat ?_)
  refine JL.go 200 ?_
  apply Seq.call (Tidy_nil (.float .f64 0)) rfl rfl rfl rfl rfl rfl
  · repeat (first | exact Picks.nil | (apply Picks.cons; · repeat (first | exact Pick.here | apply Pick.there)))
  · exact Tells.none
  intro _
  refine Seq.on 200 ?_
  repeat (refine JL.flat ?_)
  refine JL.go 200 ?_
  apply Seq.call (Forget_nil (epoch : Int)) rfl rfl rfl rfl rfl rfl
  · repeat (first | exact Picks.nil | (apply Picks.cons; · repeat (first | exact Pick.here | apply Pick.there)))
  · exact Tells.none
  intro _
  refine Seq.on 200 ?_
  refine Seq.yield rfl rfl (Yl.build rfl rfl rfl rfl rfl) ?_
  refine Seq.set 75 (.agg zT.toArray) rfl rfl ?_
  apply Seq.call (Apply_nil) rfl rfl rfl rfl rfl rfl
  · repeat (first | exact Picks.nil | (apply Picks.cons; · repeat (first | exact Pick.here | apply Pick.there)))
  · exact Tells.none
  intro _
  refine Seq.bslice (out := [errV 11, errV 11, errV 11, errV 11, errV 11, errV 11, errV 11]) rfl rfl rfl rfl rfl rfl rfl rfl (by rfl) rfl (by rfl) ?_
  intro bl
  refine Seq.on 200 ?_
  repeat (refine JL.flat ?_)
  refine JL.block ?_
  refine JL.loop (X := {i : Nat // i ≤ 7}) ⟨0, by omega⟩ (fun i => [(0, .int .u64 (blocks : Int)), (2, .int .i64 sectors), (7, .pointer none), (12, .bool false), (77, .slice (some ⟨bl, 0, none⟩) 7 7), (78, .int .i64 7), (79, .int .i64 (i.1 : Int))])
    (fun _ => [SlOwn 43 1 (some ⟨bl, 0, none⟩) 7 7 [errV 11, errV 11, errV 11, errV 11, errV 11, errV 11, errV 11], F]) (fun i => 7 - i.1) ?_ ?_ ?_
  ·
    repeat (first | exact Sub.nil | refine Sub.cons rfl ?_)
  · exact (Gives.sound (by repeat (first | exact Gives.nil | (apply Gives.cons; · repeat (first | exact Pick.here | apply Pick.there)))))
  rintro ⟨i, hi⟩
  dsimp only
  repeat (refine JL.flat ?_)
  refine JL.go 200 ?_
  rcases Nat.lt_or_ge i 7 with hlt | hge
  · refine JL.set 80 (.bool true) rfl (congrArg Value.bool (by simp; omega)) ?_
    repeat (refine JL.flat ?_)
    refine JL.ifT rfl ?_
    try refine JL.skip ?_
    repeat (refine JL.flat ?_)
    refine JL.block ?_
    repeat (refine JL.flat ?_)
    refine JL.go 200 ?_
    refine Seq.idx (xs := [errV 11, errV 11, errV 11, errV 11, errV 11, errV 11, errV 11]) i rfl rfl rfl rfl rfl rfl rfl (Tells.own (by repeat (first | exact Pick.here | apply Pick.there))) hlt ?_
    intro bb off hc
    have hsub : Ent.sub [errV 11, errV 11, errV 11, errV 11, errV 11, errV 11, errV 11] (i * 1) 1 = [errV 11] := by
      rcases (show i = 0 ∨ i = 1 ∨ i = 2 ∨ i = 3 ∨ i = 4 ∨ i = 5 ∨ i = 6 by omega) with rfl | rfl | rfl | rfl | rfl | rfl | rfl <;> rfl
    have hc' : Tells _ (CellsAt bb off [errV 11]) := fun h s => by rw [← hsub]; exact hc h s
    refine Seq.load (v := errV 11) rfl rfl rfl rfl rfl hc' rfl rfl ?_
    refine Seq.on 200 ?_
    repeat (refine JL.flat ?_)
    refine JL.go 200 ?_
    apply Seq.call (Is_err 11 11 (by decide)) rfl rfl rfl rfl rfl rfl
    · repeat (first | exact Picks.nil | (apply Picks.cons; · repeat (first | exact Pick.here | apply Pick.there)))
    · exact Tells.none
    intro _
    refine Seq.on 200 ?_
    repeat (refine JL.flat ?_)
    refine JL.ifF rfl ?_
    try refine JL.skip ?_
    repeat (refine JL.flat ?_)
    refine JL.nil (At.block_normal (At.then_normal (JL.at ?_)))
    repeat (refine JL.flat ?_)
    refine JL.go 200 ?_
    refine JL.set 79 (.int .i64 ((i + 1 : Nat) : Int)) rfl (congrArg (Value.int .i64) (by rw [show (i : Int) + 1 = ((i + 1 : Nat) : Int) by omega]; exact wrapI (small63 (by omega)))) ?_
    repeat (refine JL.flat ?_)
    refine JL.nil (At.then_normal ?_)
    refine At.again (X := {i : Nat // i ≤ 7}) (x := ⟨i, hi⟩) ⟨i + 1, by omega⟩ (by show 7 - (i + 1) < 7 - i; omega) (Sub.look ?_) ?_
    ·
      repeat (first | exact Sub.nil | refine Sub.cons rfl ?_)
    · exact (Gives.sound (by repeat (first | exact Gives.nil | (apply Gives.cons; · repeat (first | exact Pick.here | apply Pick.there)))))
  · obtain rfl : i = 7 := by omega
    refine JL.set 80 (.bool false) rfl rfl ?_
    repeat (refine JL.flat ?_)
    refine JL.ifF rfl ?_
    try refine JL.skip ?_
    repeat (refine JL.flat ?_)
    refine JL.exit ?_
    repeat (first | refine At.then_exit ?_ | refine At.block_pass rfl ?_)
    refine At.block_exit (At.then_normal (JL.at ?_))
    repeat (refine JL.flat ?_)
    refine JL.go 200 ?_
    apply Seq.call (Blocks_nil) rfl rfl rfl rfl rfl rfl
    · repeat (first | exact Picks.nil | (apply Picks.cons; · repeat (first | exact Pick.here | apply Pick.there)))
    · exact Tells.none
    intro _
    refine Seq.on 200 ?_
    apply Seq.call (Epoch_nil) rfl rfl rfl rfl rfl rfl
    · repeat (first | exact Picks.nil | (apply Picks.cons; · repeat (first | exact Pick.here | apply Pick.there)))
    · exact Tells.none
    intro _
    refine Seq.on 200 ?_
    apply Seq.call (Base_nil) rfl rfl rfl rfl rfl rfl
    · repeat (first | exact Picks.nil | (apply Picks.cons; · repeat (first | exact Pick.here | apply Pick.there)))
    · exact Tells.none
    intro _
    refine Seq.on 1 ?_
    refine Seq.set 96 (.int .u64 0) rfl rfl ?_
    refine Seq.on 200 ?_
    apply Seq.call (VLen_nil) rfl rfl rfl rfl rfl rfl
    · repeat (first | exact Picks.nil | (apply Picks.cons; · repeat (first | exact Pick.here | apply Pick.there)))
    · exact Tells.none
    intro _
    refine Seq.on 200 ?_
    apply Seq.call (Broken_nil) rfl rfl rfl rfl rfl rfl
    · repeat (first | exact Picks.nil | (apply Picks.cons; · repeat (first | exact Pick.here | apply Pick.there)))
    · exact Tells.none
    intro _
    refine Seq.on 200 ?_
    repeat (refine JL.flat ?_)
    refine JL.ifF rfl ?_
    try refine JL.skip ?_
    obtain ⟨s, hs⟩ : ∃ s : Nat, IntKind.u64.wrap sectors = (s : Int) := ⟨(IntKind.u64.wrap sectors).toNat, by
      have : 0 ≤ IntKind.u64.wrap sectors := by
        simp only [IntKind.wrap, IntKind.signed, IntKind.bits, Bool.false_and, Bool.false_eq_true, if_false]
        omega
      omega⟩
    repeat (refine JL.flat ?_)
    refine JL.go 2 ?_
    refine Seq.set 110 (.int .u64 (s : Int)) rfl (congrArg (Value.int .u64) hs) ?_
    refine Seq.on 1 ?_
    refine Seq.set 111 (.int .u64 ((s % 40 : Nat) : Int)) rfl rfl ?_
    refine Seq.on 1 ?_
    refine Seq.set 112 (.int .i64 ((s % 40 : Nat) : Int)) rfl (congrArg (Value.int .i64) (wrapI (small63 (by omega)))) ?_
    refine Seq.on 1 ?_
    refine Seq.set 113 (.int .i64 ((1 + s % 40 : Nat) : Int)) rfl (congrArg (Value.int .i64) (by rw [show (1 : Int) + ((s % 40 : Nat) : Int) = ((1 + s % 40 : Nat) : Int) by omega]; exact wrapI (small63 (by omega)))) ?_
    have hk1 : 1 ≤ 1 + s % 40 := by omega
    have hk2 : 1 + s % 40 ≤ 40 := by omega
    generalize 1 + s % 40 = k at hk1 hk2 ⊢
    apply Seq.call (New_ok k hk1 (by omega)) rfl rfl rfl rfl rfl rfl
    · repeat (first | exact Picks.nil | (apply Picks.cons; · repeat (first | exact Pick.here | apply Pick.there)))
    · exact Tells.none
    intro d
    refine Seq.on 200 ?_
    repeat (refine JL.flat ?_)
    refine JL.go 200 ?_
    repeat (refine JL.flat ?_)
    refine JL.ifF rfl ?_
    try refine JL.skip ?_
    by_cases hbad : blocks < 1 ∨ 4294967296 < blocks
    ·
      repeat (refine JL.flat ?_)
      refine JL.go 200 ?_
      apply Seq.call (VFormat_bad d blocks hbad) rfl rfl rfl rfl rfl rfl
      · repeat (first | exact Picks.nil | (apply Picks.cons; · repeat (first | exact Pick.here | apply Pick.there)))
      · exact Tells.none
      intro _
      refine Seq.on 200 ?_
      repeat (refine JL.flat ?_)
      refine JL.go 2 ?_
      by_cases h1 : blocks < 1
      · refine Seq.set 123 (.bool true) rfl (congrArg Value.bool (by simp; omega)) ?_
        refine Seq.on 200 ?_
        repeat (refine JL.flat ?_)
        refine JL.ifT rfl ?_
        try refine JL.skip ?_
        repeat (refine JL.flat ?_)
        refine JL.go 200 ?_
        apply Seq.call (Is_err 1 1 (by decide)) rfl rfl rfl rfl rfl rfl
        · repeat (first | exact Picks.nil | (apply Picks.cons; · repeat (first | exact Pick.here | apply Pick.there)))
        · exact Tells.none
        intro _
        refine Seq.on 200 ?_
        apply Seq.call (Waiting_ok d k noS noS []) rfl rfl rfl rfl rfl rfl
        · repeat (first | exact Picks.nil | (apply Picks.cons; · repeat (first | exact Pick.here | apply Pick.there)))
        · exact Tells.none
        intro _
        refine Seq.on 200 ?_
        repeat (refine JL.flat ?_)
        refine JL.ret ?_
        repeat (first | refine At.then_ret ?_ | refine At.block_ret ?_)
        refine At.done1 rfl (()) rfl ?_
        exact (Gives.sound (by repeat (first | exact Gives.nil | (apply Gives.cons; · repeat (first | exact Pick.here | apply Pick.there)))))
      · refine Seq.set 123 (.bool false) rfl (congrArg Value.bool (by simp; omega)) ?_
        refine Seq.on 3 ?_
        refine Seq.set 126 (.bool true) rfl (congrArg Value.bool (by simp; omega)) ?_
        refine Seq.on 200 ?_
        repeat (refine JL.flat ?_)
        refine JL.ifT rfl ?_
        try refine JL.skip ?_
        repeat (refine JL.flat ?_)
        refine JL.go 200 ?_
        apply Seq.call (Is_err 1 1 (by decide)) rfl rfl rfl rfl rfl rfl
        · repeat (first | exact Picks.nil | (apply Picks.cons; · repeat (first | exact Pick.here | apply Pick.there)))
        · exact Tells.none
        intro _
        refine Seq.on 200 ?_
        apply Seq.call (Waiting_ok d k noS noS []) rfl rfl rfl rfl rfl rfl
        · repeat (first | exact Picks.nil | (apply Picks.cons; · repeat (first | exact Pick.here | apply Pick.there)))
        · exact Tells.none
        intro _
        refine Seq.on 200 ?_
        repeat (refine JL.flat ?_)
        refine JL.ret ?_
        repeat (first | refine At.then_ret ?_ | refine At.block_ret ?_)
        refine At.done1 rfl (()) rfl ?_
        exact (Gives.sound (by repeat (first | exact Gives.nil | (apply Gives.cons; · repeat (first | exact Pick.here | apply Pick.there)))))
    · have hb1 : 1 ≤ blocks := by omega
      have hb2 : blocks ≤ 4294967296 := by omega
      rcases Nat.lt_or_ge k 4 with h4 | h4
      ·
        repeat (refine JL.flat ?_)
        refine JL.go 200 ?_
        apply Seq.call (VFormat_small d k noS noS [] blocks h4 hb1 hb2) rfl rfl rfl rfl rfl rfl
        · repeat (first | exact Picks.nil | (apply Picks.cons; · repeat (first | exact Pick.here | apply Pick.there)))
        · exact Tells.none
        intro _
        refine Seq.on 200 ?_
        repeat (refine JL.flat ?_)
        refine JL.go 2 ?_
        refine Seq.set 123 (.bool false) rfl (congrArg Value.bool (by simp; omega)) ?_
        refine Seq.on 3 ?_
        refine Seq.set 126 (.bool false) rfl (congrArg Value.bool (by simp; omega)) ?_
        refine Seq.on 200 ?_
        repeat (refine JL.flat ?_)
        refine JL.ifF rfl ?_
        try refine JL.skip ?_
        repeat (refine JL.flat ?_)
        refine JL.go 200 ?_
        apply Seq.call (VOpen_small d k noS noS [] h4) rfl rfl rfl rfl rfl rfl
        · repeat (first | exact Picks.nil | (apply Picks.cons; · repeat (first | exact Pick.here | apply Pick.there)))
        · exact Tells.none
        intro _
        refine Seq.on 200 ?_
        repeat (refine JL.flat ?_)
        refine JL.go 200 ?_
        apply Seq.call (Len_ok d k noS noS []) rfl rfl rfl rfl rfl rfl
        · repeat (first | exact Picks.nil | (apply Picks.cons; · repeat (first | exact Pick.here | apply Pick.there)))
        · exact Tells.none
        intro _
        refine Seq.on 200 ?_
        refine JL.set 142 (.bool true) rfl (congrArg Value.bool (by simp; omega)) ?_
        repeat (refine JL.flat ?_)
        refine JL.ifT rfl ?_
        try refine JL.skip ?_
        repeat (refine JL.flat ?_)
        refine JL.go 200 ?_
        apply Seq.call (Is_err 1 1 (by decide)) rfl rfl rfl rfl rfl rfl
        · repeat (first | exact Picks.nil | (apply Picks.cons; · repeat (first | exact Pick.here | apply Pick.there)))
        · exact Tells.none
        intro _
        refine Seq.on 200 ?_
        apply Seq.call (Is_err 1 1 (by decide)) rfl rfl rfl rfl rfl rfl
        · repeat (first | exact Picks.nil | (apply Picks.cons; · repeat (first | exact Pick.here | apply Pick.there)))
        · exact Tells.none
        intro _
        refine Seq.on 200 ?_
        repeat (refine JL.flat ?_)
        refine JL.ret ?_
        repeat (first | refine At.then_ret ?_ | refine At.block_ret ?_)
        refine At.done1 rfl (()) rfl ?_
        exact (Gives.sound (by repeat (first | exact Gives.nil | (apply Gives.cons; · repeat (first | exact Pick.here | apply Pick.there)))))
      · refine JL.to [Dv d k zeroL 0, SlOwn 43 1 (some ⟨bl, 0, none⟩) 7 7 [errV 11, errV 11, errV 11, errV 11, errV 11, errV 11, errV 11], F] (fun h hs => by
          have hs1 := (Gives.sound (L := [Dk d k noS noS [], SlOwn 43 1 (some ⟨bl, 0, none⟩) 7 7 [errV 11, errV 11, errV 11, errV 11, errV 11, errV 11, errV 11], F]) (by repeat (first | exact Gives.nil | (apply Gives.cons; · repeat (first | exact Pick.here | apply Pick.there))))) h hs
          have := star_mono (fun h hx => DkV h hx) (fun _ h => h) hs1
          rw [zero_last] at this
          exact this) ?_
        have hfm := VFormat_ok d k 0 blocks h4 (by omega) (by omega) hb1 hb2
        have hop := VOpen_ok d k 0 blocks h4 (by omega) hb1 hb2
        repeat (refine JL.flat ?_)
        refine JL.go 200 ?_
        apply Seq.call (hfm) rfl rfl rfl rfl rfl rfl
        ·
          repeat (first | exact Picks.nil | (apply Picks.cons; · repeat (first | exact Pick.here | apply Pick.there)))
        · exact hDg (by repeat (first | exact Pick.here | apply Pick.there))
        intro _
        refine Seq.on 200 ?_
        repeat (refine JL.flat ?_)
        refine JL.go 2 ?_
        refine Seq.set 123 (.bool false) rfl (congrArg Value.bool (by simp; omega)) ?_
        refine Seq.on 3 ?_
        refine Seq.set 126 (.bool false) rfl (congrArg Value.bool (by simp; omega)) ?_
        refine Seq.on 200 ?_
        repeat (refine JL.flat ?_)
        refine JL.ifF rfl ?_
        try refine JL.skip ?_
        repeat (refine JL.flat ?_)
        refine JL.go 200 ?_
        apply Seq.call (hop) rfl rfl rfl rfl rfl rfl
        ·
          repeat (first | exact Picks.nil | (apply Picks.cons; · repeat (first | exact Pick.here | apply Pick.there)))
        · exact hDg (by repeat (first | exact Pick.here | apply Pick.there))
        rintro ⟨v, s', mp, tr⟩
        refine Seq.on 200 ?_
        generalize updT noT [77] (metaB blocks 0 0) = f
        generalize uAt 1 [metaP blocks] = UU
        generalize tAt 1 [metaP blocks] = TT
        refine JL.perm (G' := [Swp s' d k (L2 k blocks) 0 1 UU TT f, F]) (by repeat (first | exact Gives.nil | (apply Gives.cons; · repeat (first | exact Pick.here | apply Pick.there)))) ?_
        refine JL.open ?_
        rintro ⟨lg, t⟩
        repeat (refine JL.flat ?_)
        refine JL.go 200 ?_
        apply Seq.call (LenV d k (L2 k blocks) 0) rfl rfl rfl rfl rfl rfl
        · repeat (first | exact Picks.nil | (apply Picks.cons; · repeat (first | exact Pick.here | apply Pick.there)))
        · exact Tells.none
        intro _
        refine Seq.on 200 ?_
        refine JL.set 142 (.bool false) rfl (congrArg Value.bool (by simp; omega)) ?_
        repeat (refine JL.flat ?_)
        refine JL.ifF rfl ?_
        try refine JL.skip ?_
        repeat (refine JL.flat ?_)
        refine JL.go 200 ?_
        repeat (refine JL.flat ?_)
        refine JL.ret ?_
        repeat (first | refine At.then_ret ?_ | refine At.block_ret ?_)
        refine At.done1 rfl (()) rfl ?_
        exact (Gives.sound (by repeat (first | exact Gives.nil | (apply Gives.cons; · repeat (first | exact Pick.here | apply Pick.there)))))
end Go.Ent
