/-
  a part of the proof: contracts of functions, and the engine by which they are walked.
-/
import Derived.Test.YtndhjcngphhhpaaGreatDoorE1
import Derived.Test.YtndhjcngphhhpaaGreatDoorE3
import Derived.Test.YtndhjcngphhhpaaGreatDoorE4
import Derived.Test.YtndhjcngphhhpaaGreatDoorE2
import Derived.Test.YtndhjcngphhhpaaGreatDoorL0
set_option linter.unusedVariables false
set_option linter.unusedSimpArgs false
namespace Go.Ent
open Go Go.Proofs
/-- a change: its key, its value, whether it drops. -/
structure Ch where
  key : Piece
  val : Piece
  drop : Bool
abbrev Cc := List UInt8 × List UInt8 × Bool
def Ch.cc (c : Ch) : Cc := (c.key.2.2, c.val.2.2, c.drop)
def chL (c : Ch) : List Value := [pieceV c.key, pieceV c.val, .bool c.drop]
def chV (c : Ch) : Value := .agg (chL c).toArray
/-- may be in a batch. -/
def Cc.right (c : Cc) : Prop := 1 ≤ c.1.length ∧ c.1.length ≤ 16 ∧ c.2.1.length ≤ 16384 ∧ (c.2.2 = true → c.2.1 = [])
def ChsB (l : List Ch) : Assn := fun h => ∀ c ∈ l, BIn c.key.1 c.key.2.2 h ∧ BIn c.val.1 c.val.2.2 h
def Chs (a : Option Addr) (l : List Ch) : Assn := fun h => SlIn 3 a l.length (l.flatMap chL) h ∧ ChsB l h
theorem ChsB.mono {l : List Ch} {h k : Part} (hk : Part.le h k) (x : ChsB l h) : ChsB l k := fun c hc => ⟨BIn.mono hk (x c hc).1, BIn.mono hk (x c hc).2⟩
theorem Chs.mono {a : Option Addr} {l : List Ch} {h k : Part} (hk : Part.le h k) (x : Chs a l h) : Chs a l k := ⟨SlIn.mono hk x.1, ChsB.mono hk x.2⟩
theorem sub_flat {α : Type} (f : α → List Value) (k : Nat) (hf : ∀ x, (f x).length = k) : ∀ (l : List α) (i : Nat) (h : i < l.length), Ent.sub (l.flatMap f) (i * k) k = f l[i]
  | [], i, h => by simp at h
  | x :: l, 0, _ => by
    unfold Ent.sub
    rw [Nat.zero_mul, List.drop_zero, List.flatMap_cons, List.take_left' (hf x)]
    rfl
  | x :: l, i + 1, h => by
    have := sub_flat f k hf l i (by simpa using h)
    unfold Ent.sub at this ⊢
    rw [Nat.succ_mul, List.flatMap_cons, Nat.add_comm, ← List.drop_drop, List.drop_left' (hf x), this]
    rfl
theorem flat_len {α : Type} (f : α → List Value) (k : Nat) (hf : ∀ x, (f x).length = k) (l : List α) : (l.flatMap f).length = l.length * k := by
  induction l with
  | nil => simp
  | cons x l ih => rw [List.flatMap_cons, List.length_append, ih, hf, List.length_cons, Nat.succ_mul, Nat.add_comm]
theorem chL_len (c : Ch) : (chL c).length = 3 := rfl
section
variable {n : Nat} {ds : Fz} {w0 : World} {E : Env} {G : List Assn} {Q : Exit → Act → World → Prop}
/-- a block that is stored over as a whole, by values that are written out. -/
theorem Seq.storeAgg {ops : Array Oper} {o : Oper} {rest : List Oper} {t : TypeId} {i : TI} {x y : Operand} {b : Nat} {c : Array Value} {ty : TypeId} {cs : List Value} {G' : List Assn} (hg : gv ops E o = some true) (hd : fits n o.dst = true) (ho : o.op = .store t x y)
    (hx : ev E x = some (.pointer (some ⟨b, 0, none⟩))) (hy : ev E y = some (.agg cs.toArray)) (ht : tab t = some i) (p : Pick (pt b (.cells c ty (0, 0))) G G') (hsz : cs.length = i.size) (hone : Ones cs) (hc : c.size = i.size)
    (h : Seq Tryz.prog n ds w0 ops (put E o.dst undef) (pt b (.cells cs.toArray ty (0, 0)) :: G') Q rest) : Seq Tryz.prog n ds w0 ops E G Q (o :: rest) :=
  Seq.storeAll hg hd ho hx hy ht p (by simpa [Value.cells] using hsz) hone hc h
end
theorem Ones_chL (c : Ch) : Ones (chL c) := fun u hu => by
  simp only [chL, List.mem_cons, List.not_mem_nil, or_false] at hu
  rcases hu with rfl | rfl | rfl <;> rfl
theorem right_ok (c : Ch) (hr : c.cc.right) : Trip Tryz.prog 279 [chV c] none_ [] (X := Unit) (fun _ => .bool true) (fun _ => []) := by
  obtain ⟨⟨ka, kc, kl⟩, ⟨va, vc, vl⟩, d⟩ := c
  obtain ⟨h1, h2, h3, h4⟩ := hr
  simp only [Ch.cc] at h1 h2 h3 h4
  unfold chV chL
  dsimp only [pieceV]
  refine Trip.start (n := 30) Tryz.func279 (by kernel_rfl) rfl rfl rfl ?_
  intro F w hD
  repeat (refine JL.flat ?_)
  refine JL.go 0 ?_
  refine Seq.eff rfl rfl (Ef.box rfl rfl) ?_
  intro b1
  refine Seq.on 200 ?_
  repeat (refine JL.flat ?_)
  refine JL.go 200 ?_
  apply Seq.loadLit rfl rfl rfl rfl rfl
  · repeat (first | exact Pick.here | apply Pick.there)
  · rfl
  · rfl
  refine Seq.on 2 ?_
  refine Seq.set 6 (.bool true) rfl (congrArg Value.bool (by simp; omega)) ?_
  refine Seq.on 200 ?_
  apply Seq.loadLit rfl rfl rfl rfl rfl
  · repeat (first | exact Pick.here | apply Pick.there)
  · rfl
  · rfl
  refine Seq.on 2 ?_
  refine Seq.set 11 (.bool true) rfl (congrArg Value.bool (by simp; omega)) ?_
  refine Seq.on 200 ?_
  apply Seq.loadLit rfl rfl rfl rfl rfl
  · repeat (first | exact Pick.here | apply Pick.there)
  · rfl
  · rfl
  refine Seq.on 2 ?_
  refine Seq.set 17 (.bool true) rfl (congrArg Value.bool (by simp; omega)) ?_
  refine Seq.on 200 ?_
  apply Seq.loadLit rfl rfl rfl rfl rfl
  · repeat (first | exact Pick.here | apply Pick.there)
  · rfl
  · rfl
  cases d with
  | false =>
    refine Seq.on 200 ?_
    repeat (refine JL.flat ?_)
    refine JL.ret ?_
    repeat (first | refine At.then_ret ?_ | refine At.block_ret ?_)
    refine At.done1 rfl (()) rfl ?_
    exact (Gives.sound (by repeat (first | exact Gives.nil | (apply Gives.cons; · repeat (first | exact Pick.here | apply Pick.there)))))
  | true =>
    have hv := h4 rfl
    subst hv
    refine Seq.on 200 ?_
    apply Seq.loadLit rfl rfl rfl rfl rfl
    · repeat (first | exact Pick.here | apply Pick.there)
    · rfl
    · rfl
    refine Seq.on 200 ?_
    repeat (refine JL.flat ?_)
    refine JL.ret ?_
    repeat (first | refine At.then_ret ?_ | refine At.block_ret ?_)
    refine At.done1 rfl (()) rfl ?_
    exact (Gives.sound (by repeat (first | exact Gives.nil | (apply Gives.cons; · repeat (first | exact Pick.here | apply Pick.there)))))
theorem right1_ok (c : Ch) (hr : c.cc.right) : Trip Tryz.prog 278 [chV c] none_ [] (X := Unit) (fun _ => .bool false) (fun _ => []) := by
  refine Trip.start (n := 6) Tryz.func278 (by kernel_rfl) rfl rfl rfl ?_
  intro F w hD
  repeat (refine JL.flat ?_)
  refine JL.go 0 ?_
  refine Seq.eff rfl rfl (Ef.box rfl rfl) ?_
  intro b1
  refine Seq.on 200 ?_
  repeat (refine JL.flat ?_)
  refine JL.go 200 ?_
  refine Seq.loadAll rfl rfl rfl rfl rfl rfl (by repeat (first | exact Pick.here | apply Pick.there)) rfl ?_
  apply Seq.call (right_ok c hr) rfl rfl rfl rfl rfl rfl
  · repeat (first | exact Picks.nil | (apply Picks.cons; · repeat (first | exact Pick.here | apply Pick.there)))
  · exact Tells.none
  intro _
  refine Seq.on 200 ?_
  repeat (refine JL.flat ?_)
  refine JL.ret ?_
  repeat (first | refine At.then_ret ?_ | refine At.block_ret ?_)
  refine At.done1 rfl (()) rfl ?_
  exact (Gives.sound (by repeat (first | exact Gives.nil | (apply Gives.cons; · repeat (first | exact Pick.here | apply Pick.there)))))
theorem IndexCh_ok (a : Option Addr) (l : List Ch) (c : Nat) (g : Nat) (hl : l.length ≤ 100000) (hg : ∀ x ∈ l, Trip Tryz.prog g [chV x] none_ [] (X := Unit) (fun _ => .bool false) (fun _ => [])) :
    Trip Tryz.prog 316 [.slice a l.length c, .func (.func g) #[] #[]] (Chs a l) [] (X := Unit) (fun _ => .int .i64 (-1)) (fun _ => []) := by
  refine Trip.start (n := 19) Tryz.func316 (by kernel_rfl) rfl rfl rfl ?_
  intro F w hD
  repeat (refine JL.flat ?_)
  refine JL.go 200 ?_
  repeat (refine JL.flat ?_)
  refine JL.go 200 ?_
  repeat (refine JL.flat ?_)
  refine JL.block ?_
  refine JL.loop (X := {i : Nat // i ≤ l.length}) ⟨0, by omega⟩ (fun i => [(0, .slice a l.length c), (1, .func (.func g) #[] #[]), (7, .int .i64 (l.length : Int)), (8, .int .i64 (i.1 : Int))]) (fun _ => [F]) (fun i => l.length - i.1) ?_ ?_ ?_
  ·
    repeat (first | exact Sub.nil | refine Sub.cons rfl ?_)
  · exact (Gives.sound (by repeat (first | exact Gives.nil | (apply Gives.cons; · repeat (first | exact Pick.here | apply Pick.there)))))
  rintro ⟨i, hi⟩
  dsimp only
  repeat (refine JL.flat ?_)
  refine JL.go 200 ?_
  rcases Nat.lt_or_ge i l.length with hlt | hge
  · refine JL.set 9 (.bool true) rfl (congrArg Value.bool (by simp; omega)) ?_
    repeat (refine JL.flat ?_)
    refine JL.ifT rfl ?_
    try refine JL.skip ?_
    repeat (refine JL.flat ?_)
    refine JL.block ?_
    repeat (refine JL.flat ?_)
    refine JL.go 200 ?_
    repeat (refine JL.flat ?_)
    refine JL.go 200 ?_
    refine Seq.idx (xs := l.flatMap chL) i rfl rfl rfl rfl rfl rfl rfl (Tells.frame (by repeat (first | exact Pick.here | apply Pick.there)) (fun _ _ => SlIn.mono) (fun h hF => (hD h hF).1)) hlt ?_
    intro b off hc
    have hsub : Ent.sub (l.flatMap chL) (i * 3) 3 = chL l[i] := sub_flat chL 3 chL_len l i hlt
    have hc' : Tells [F] (CellsAt b off (chL l[i])) := fun h s => by rw [← hsub]; exact hc h s
    refine Seq.load (v := chV l[i]) rfl rfl rfl rfl rfl hc' rfl rfl ?_
    refine Seq.on 200 ?_
    apply Seq.call (hg l[i] (List.getElem_mem hlt)) rfl rfl rfl rfl rfl rfl
    · repeat (first | exact Picks.nil | (apply Picks.cons; · repeat (first | exact Pick.here | apply Pick.there)))
    · exact Tells.none
    intro _
    refine Seq.on 200 ?_
    repeat (refine JL.flat ?_)
    refine JL.ifF rfl ?_
    try refine JL.skip ?_
    repeat (refine JL.flat ?_)
    refine JL.nil (At.block_normal (At.then_normal (JL.at ?_)))
    repeat (refine JL.flat ?_)
    refine JL.go 200 ?_
    refine JL.set 8 (.int .i64 ((i + 1 : Nat) : Int)) rfl (congrArg (Value.int .i64) (by rw [show (i : Int) + 1 = ((i + 1 : Nat) : Int) by omega]; exact wrapI (small63 (by omega)))) ?_
    repeat (refine JL.flat ?_)
    refine JL.nil (At.then_normal ?_)
    refine At.again (X := {i : Nat // i ≤ l.length}) (x := ⟨i, hi⟩) ⟨i + 1, by omega⟩ (by show l.length - (i + 1) < l.length - i; omega) (Sub.look ?_) ?_
    ·
      repeat (first | exact Sub.nil | refine Sub.cons rfl ?_)
    · exact (Gives.sound (by repeat (first | exact Gives.nil | (apply Gives.cons; · repeat (first | exact Pick.here | apply Pick.there)))))
  · obtain rfl : i = l.length := by omega
    refine JL.set 9 (.bool false) rfl (congrArg Value.bool (by simp)) ?_
    repeat (refine JL.flat ?_)
    refine JL.ifF rfl ?_
    try refine JL.skip ?_
    repeat (refine JL.flat ?_)
    refine JL.exit ?_
    repeat (first | refine At.then_exit ?_ | refine At.block_pass rfl ?_)
    refine At.block_exit (At.then_normal (JL.at ?_))
    repeat (refine JL.flat ?_)
    refine JL.go 200 ?_
    repeat (refine JL.flat ?_)
    refine JL.ret ?_
    repeat (first | refine At.then_ret ?_ | refine At.block_ret ?_)
    refine At.done1 rfl (()) rfl ?_
    exact (Gives.sound (by repeat (first | exact Gives.nil | (apply Gives.cons; · repeat (first | exact Pick.here | apply Pick.there)))))
theorem ContainsCh_ok (a : Option Addr) (l : List Ch) (c : Nat) (g : Nat) (hl : l.length ≤ 100000) (hg : ∀ x ∈ l, Trip Tryz.prog g [chV x] none_ [] (X := Unit) (fun _ => .bool false) (fun _ => [])) :
    Trip Tryz.prog 280 [.slice a l.length c, .func (.func g) #[] #[]] (Chs a l) [] (X := Unit) (fun _ => .bool false) (fun _ => []) := by
  refine Trip.start (n := 9) Tryz.func280 (by kernel_rfl) rfl rfl rfl ?_
  intro F w hD
  repeat (refine JL.flat ?_)
  refine JL.go 200 ?_
  repeat (refine JL.flat ?_)
  refine JL.go 200 ?_
  apply Seq.call (IndexCh_ok a l c g hl hg) rfl rfl rfl rfl rfl rfl
  ·
    repeat (first | exact Picks.nil | (apply Picks.cons; · repeat (first | exact Pick.here | apply Pick.there)))
  · exact Tells.frame (by repeat (first | exact Pick.here | apply Pick.there)) (fun _ _ => Chs.mono) hD
  intro _
  refine Seq.on 200 ?_
  repeat (refine JL.flat ?_)
  refine JL.ret ?_
  repeat (first | refine At.then_ret ?_ | refine At.block_ret ?_)
  refine At.done1 rfl (()) rfl ?_
  exact (Gives.sound (by repeat (first | exact Gives.nil | (apply Gives.cons; · repeat (first | exact Pick.here | apply Pick.there)))))
theorem Right_ok (a : Option Addr) (l : List Ch) (c : Nat) (h1 : 1 ≤ l.length) (h2 : l.length ≤ 600) (hr : ∀ x ∈ l, x.cc.right) : Trip Tryz.prog 216 [.slice a l.length c] (Chs a l) [] (X := Unit) (fun _ => .bool true) (fun _ => []) := by
  refine Trip.start (n := 18) Tryz.func216 (by kernel_rfl) rfl rfl rfl ?_
  intro F w hD
  repeat (refine JL.flat ?_)
  refine JL.go 200 ?_
  repeat (refine JL.flat ?_)
  refine JL.go 200 ?_
  repeat (refine JL.flat ?_)
  refine JL.go 3 ?_
  refine Seq.set 6 (.bool true) rfl (congrArg Value.bool (by simp; omega)) ?_
  refine Seq.on 4 ?_
  refine Seq.set 10 (.bool true) rfl (congrArg Value.bool (by simp; omega)) ?_
  refine Seq.on 200 ?_
  apply Seq.call (ContainsCh_ok a l c 278 (by omega) (fun x hx => right1_ok x (hr x hx))) rfl rfl rfl rfl rfl rfl
  ·
    repeat (first | exact Picks.nil | (apply Picks.cons; · repeat (first | exact Pick.here | apply Pick.there)))
  · exact Tells.frame (by repeat (first | exact Pick.here | apply Pick.there)) (fun _ _ => Chs.mono) hD
  intro _
  refine Seq.on 200 ?_
  repeat (refine JL.flat ?_)
  refine JL.ret ?_
  repeat (first | refine At.then_ret ?_ | refine At.block_ret ?_)
  refine At.done1 rfl (()) rfl ?_
  exact (Gives.sound (by repeat (first | exact Gives.nil | (apply Gives.cons; · repeat (first | exact Pick.here | apply Pick.there)))))
end Go.Ent
namespace Go.Ent
open Go Go.Proofs
def ccB (c : Cc) : List UInt8 := beB (!c.2.2).toNat 1 ++ (beB c.1.length 2 ++ c.1) ++ (if c.2.2 then [] else beB c.2.1.length 2 ++ c.2.1)
/-- a batch's bytes. -/
def putB (l : List Cc) : List UInt8 := beB l.length 2 ++ l.flatMap ccB
theorem ccB_le (c : Cc) (h : c.right) : (ccB c).length ≤ 16405 := by
  obtain ⟨_, h2, h3, _⟩ := h
  unfold ccB
  split <;> simp [beB_length] <;> omega
theorem flat_le (l : List Cc) (h : ∀ c ∈ l, c.right) : (l.flatMap ccB).length ≤ l.length * 16405 := by
  induction l with
  | nil => simp
  | cons c l ih =>
    have h1 := ccB_le c (h c (by simp))
    have h2 := ih fun x hx => h x (by simp [hx])
    rw [List.flatMap_cons, List.length_append, List.length_cons, Nat.succ_mul]
    omega
set_option maxHeartbeats 1600000 in
theorem Put_ok (a : Option Addr) (l : List Ch) (c : Nat) (h1 : 1 ≤ l.length) (h2 : l.length ≤ 600) (hr : ∀ x ∈ l, x.cc.right) : Trip Tryz.prog 144 [.slice a l.length c] (Chs a l) [] (X := Option Addr × Nat)
    (fun r => .tuple #[.slice r.1 (putB (l.map Ch.cc)).length r.2, .nilIface]) (fun r => [BOwn r (putB (l.map Ch.cc))]) := by
  have hbound : ∀ i, i ≤ l.length → (((l.map Ch.cc).take i).flatMap ccB).length ≤ 9843000 := fun i hi => by
    have := flat_le ((l.map Ch.cc).take i) (fun c hc => by
      obtain ⟨x, hx, rfl⟩ := List.mem_map.1 (List.mem_of_mem_take hc)
      exact hr x hx)
    have h3 : ((l.map Ch.cc).take i).length ≤ 600 := by simp; omega
    have h4 := Nat.mul_le_mul_right 16405 h3
    omega
  refine Trip.start (n := 44) Tryz.func144 (by kernel_rfl) rfl rfl rfl ?_
  intro F w hD
  repeat (refine JL.flat ?_)
  refine JL.go 200 ?_
  repeat (refine JL.flat ?_)
  refine JL.go 200 ?_
  apply Seq.call (Right_ok a l c h1 h2 hr) rfl rfl rfl rfl rfl rfl
  ·
    repeat (first | exact Picks.nil | (apply Picks.cons; · repeat (first | exact Pick.here | apply Pick.there)))
  · exact Tells.frame (by repeat (first | exact Pick.here | apply Pick.there)) (fun _ _ => Chs.mono) hD
  intro _
  refine Seq.on 200 ?_
  repeat (refine JL.flat ?_)
  refine JL.ifF rfl ?_
  try refine JL.skip ?_
  repeat (refine JL.flat ?_)
  refine JL.go 200 ?_
  refine Seq.yield rfl rfl (Yl.build rfl rfl rfl rfl rfl) ?_
  refine Seq.eff rfl rfl (Ef.box rfl rfl) ?_
  intro pw
  refine Seq.on 200 ?_
  refine JL.to [Wr pw .nilIface [], F] (fun h hs => star_mono (fun h hx => Wr.new h hx) (fun _ h => h) hs) ?_
  repeat (refine JL.flat ?_)
  refine JL.go 4 ?_
  refine Seq.set 16 (.int .u64 (l.length : Int)) rfl (congrArg (Value.int .u64) (wrap_int (by omega) (by omega))) ?_
  refine Seq.on 200 ?_
  have h216 : (2 : Nat) ^ (8 * 2) = 65536 := by decide
  apply Seq.call (Num_2 pw .nilIface [] l.length (by omega) (by simp)) rfl rfl rfl rfl rfl rfl
  · repeat (first | exact Picks.nil | (apply Picks.cons; · repeat (first | exact Pick.here | apply Pick.there)))
  · exact Tells.none
  intro _
  refine Seq.on 200 ?_
  repeat (refine JL.flat ?_)
  refine JL.go 200 ?_
  repeat (refine JL.flat ?_)
  refine JL.block ?_
  refine JL.loop (X := {i : Nat // i ≤ l.length}) ⟨0, by omega⟩ (fun i => [(4, ptrV pw), (18, .slice a l.length c), (19, .int .i64 (l.length : Int)), (20, .int .i64 (i.1 : Int))])
    (fun i => [Wr pw .nilIface (beB l.length 2 ++ ((l.map Ch.cc).take i.1).flatMap ccB), F]) (fun i => l.length - i.1) ?_ ?_ ?_
  ·
    repeat (first | exact Sub.nil | refine Sub.cons rfl ?_)
  · exact (Gives.sound (by repeat (first | exact Gives.nil | (apply Gives.cons; · repeat (first | exact Pick.here | apply Pick.there)))))
  rintro ⟨i, hi⟩
  dsimp only
  have hb := hbound i hi
  repeat (refine JL.flat ?_)
  refine JL.go 200 ?_
  rcases Nat.lt_or_ge i l.length with hlt | hge
  · refine JL.set 21 (.bool true) rfl (congrArg Value.bool (by simp; omega)) ?_
    have htake : ((l.map Ch.cc).take (i + 1)).flatMap ccB = ((l.map Ch.cc).take i).flatMap ccB ++ ccB l[i].cc := by
      rw [List.take_succ_eq_append_getElem (by simpa using hlt), List.flatMap_append]
      simp
    generalize ((l.map Ch.cc).take i).flatMap ccB = Z at hb htake ⊢
    have hri := hr l[i] (List.getElem_mem hlt)
    have hDi : ∀ h, F h → BIn l[i].key.1 l[i].key.2.2 h ∧ BIn l[i].val.1 l[i].val.2.2 h := fun h hF => (hD h hF).2 _ (List.getElem_mem hlt)
    repeat (refine JL.flat ?_)
    refine JL.ifT rfl ?_
    try refine JL.skip ?_
    repeat (refine JL.flat ?_)
    refine JL.block ?_
    repeat (refine JL.flat ?_)
    refine JL.go 200 ?_
    refine Seq.idx (xs := l.flatMap chL) i rfl rfl rfl rfl rfl rfl rfl (Tells.frame (by repeat (first | exact Pick.here | apply Pick.there)) (fun _ _ => SlIn.mono) (fun h hF => (hD h hF).1)) hlt ?_
    intro b off hc
    have hsub : Ent.sub (l.flatMap chL) (i * 3) 3 = chL l[i] := sub_flat chL 3 chL_len l i hlt
    have hc' : Tells [Wr pw .nilIface (beB l.length 2 ++ Z), F] (CellsAt b off (chL l[i])) := fun h s => by rw [← hsub]; exact hc h s
    refine Seq.load (v := .agg (chL l[i]).toArray) rfl rfl rfl rfl rfl hc' rfl rfl ?_
    generalize l[i] = X at hri hDi htake ⊢
    obtain ⟨⟨ka, kc, kl⟩, ⟨va, vc, vl⟩, d⟩ := X
    obtain ⟨r1, r2, r3, r4⟩ := hri
    simp only [Ch.cc] at r1 r2 r3 r4 hDi htake
    refine Seq.eff rfl rfl (Ef.alloc tab_zero rfl rfl) ?_
    intro b6
    refine Seq.storeAgg rfl rfl rfl rfl rfl rfl (by repeat (first | exact Pick.here | apply Pick.there)) rfl (Ones_chL _) rfl ?_
    unfold chL
    dsimp only [pieceV]
    refine Seq.on 200 ?_
    cases d with
    | true =>
      repeat (refine JL.flat ?_)
      refine JL.draw ([0, 1, 2, 3, 5, 6, 4, 7]) (by kernel_rfl) (fun hR => ?_)
      refine Ord.on hR 200 ?_
      apply Ord.loadLit hR NP.nop rfl rfl rfl rfl rfl rfl rfl
      · repeat (first | exact Pick.here | apply Pick.there)
      · rfl
      · rfl
      refine Ord.on hR 200 ?_
      apply Ord.loadLit hR NP.nop rfl rfl rfl rfl rfl rfl rfl
      · repeat (first | exact Pick.here | apply Pick.there)
      · rfl
      · rfl
      refine Ord.on hR 200 ?_
      apply Ord.call (Flag_ok pw .nilIface (beB l.length 2 ++ Z) (!true) (by simp [beB_length]; omega)) hR rfl rfl rfl rfl rfl rfl rfl rfl
      ·
        repeat (first | exact Picks.nil | (apply Picks.cons; · repeat (first | exact Pick.here | apply Pick.there)))
      · exact Tells.none
      · intro _
        repeat (first | exact Keep.nil | (refine Keep.load rfl rfl rfl (by repeat (first | exact Pick.here | apply Pick.there)) (by rfl) (by rfl) ?_) | (refine Keep.waits (by kernel_rfl) ?_))
      intro _
      refine Ord.on hR 200 ?_
      apply Ord.call (Bytes_ok pw .nilIface (beB l.length 2 ++ Z ++ beB (!true).toNat 1) kl ka kc (by omega) (by simp [beB_length]; omega)) hR rfl rfl rfl rfl rfl rfl rfl rfl
      ·
        repeat (first | exact Picks.nil | (apply Picks.cons; · repeat (first | exact Pick.here | apply Pick.there)))
      · exact Tells.frame (by repeat (first | exact Pick.here | apply Pick.there)) (fun _ _ => BIn.mono) (fun h hF => (hDi h hF).1)
      · intro _
        repeat (first | exact Keep.nil | (refine Keep.load rfl rfl rfl (by repeat (first | exact Pick.here | apply Pick.there)) (by rfl) (by rfl) ?_) | (refine Keep.waits (by kernel_rfl) ?_))
      intro _
      refine Ord.on hR 200 ?_
      repeat (refine JL.flat ?_)
      refine JL.go 200 ?_
      apply Seq.loadLit rfl rfl rfl rfl rfl
      · repeat (first | exact Pick.here | apply Pick.there)
      · rfl
      · rfl
      refine Seq.on 200 ?_
      repeat (refine JL.flat ?_)
      refine JL.ifF rfl ?_
      try refine JL.skip ?_
      repeat (refine JL.flat ?_)
      refine JL.nil (At.block_normal (At.then_normal (JL.at ?_)))
      repeat (refine JL.flat ?_)
      refine JL.go 200 ?_
      refine JL.set 20 (.int .i64 ((i + 1 : Nat) : Int)) rfl (congrArg (Value.int .i64) (by rw [show (i : Int) + 1 = ((i + 1 : Nat) : Int) by omega]; exact wrapI (small63 (by omega)))) ?_
      repeat (refine JL.flat ?_)
      refine JL.nil (At.then_normal ?_)
      refine At.again (X := {i : Nat // i ≤ l.length}) (x := ⟨i, hi⟩) ⟨i + 1, by omega⟩ (by show l.length - (i + 1) < l.length - i; omega) (Sub.look ?_) ?_
      ·
        repeat (first | exact Sub.nil | refine Sub.cons rfl ?_)
      · intro h hs
        have e : beB l.length 2 ++ Z ++ beB (!true).toNat 1 ++ beB kl.length 2 ++ kl = beB l.length 2 ++ ((l.map Ch.cc).take (i + 1)).flatMap ccB := by rw [htake]; simp [ccB]
        rw [← e]
        exact ((Gives.sound (by repeat (first | exact Gives.nil | (apply Gives.cons; · repeat (first | exact Pick.here | apply Pick.there)))))) h hs
    | false =>
      repeat (refine JL.flat ?_)
      refine JL.draw ([0, 1, 2, 3, 5, 6, 4, 7]) (by kernel_rfl) (fun hR => ?_)
      refine Ord.on hR 200 ?_
      apply Ord.loadLit hR NP.nop rfl rfl rfl rfl rfl rfl rfl
      · repeat (first | exact Pick.here | apply Pick.there)
      · rfl
      · rfl
      refine Ord.on hR 200 ?_
      apply Ord.loadLit hR NP.nop rfl rfl rfl rfl rfl rfl rfl
      · repeat (first | exact Pick.here | apply Pick.there)
      · rfl
      · rfl
      refine Ord.on hR 200 ?_
      apply Ord.call (Flag_ok pw .nilIface (beB l.length 2 ++ Z) (!false) (by simp [beB_length]; omega)) hR rfl rfl rfl rfl rfl rfl rfl rfl
      ·
        repeat (first | exact Picks.nil | (apply Picks.cons; · repeat (first | exact Pick.here | apply Pick.there)))
      · exact Tells.none
      · intro _
        repeat (first | exact Keep.nil | (refine Keep.load rfl rfl rfl (by repeat (first | exact Pick.here | apply Pick.there)) (by rfl) (by rfl) ?_) | (refine Keep.waits (by kernel_rfl) ?_))
      intro _
      refine Ord.on hR 200 ?_
      apply Ord.call (Bytes_ok pw .nilIface (beB l.length 2 ++ Z ++ beB (!false).toNat 1) kl ka kc (by omega) (by simp [beB_length]; omega)) hR rfl rfl rfl rfl rfl rfl rfl rfl
      ·
        repeat (first | exact Picks.nil | (apply Picks.cons; · repeat (first | exact Pick.here | apply Pick.there)))
      · exact Tells.frame (by repeat (first | exact Pick.here | apply Pick.there)) (fun _ _ => BIn.mono) (fun h hF => (hDi h hF).1)
      · intro _
        repeat (first | exact Keep.nil | (refine Keep.load rfl rfl rfl (by repeat (first | exact Pick.here | apply Pick.there)) (by rfl) (by rfl) ?_) | (refine Keep.waits (by kernel_rfl) ?_))
      intro _
      refine Ord.on hR 200 ?_
      repeat (refine JL.flat ?_)
      refine JL.go 200 ?_
      apply Seq.loadLit rfl rfl rfl rfl rfl
      · repeat (first | exact Pick.here | apply Pick.there)
      · rfl
      · rfl
      refine Seq.on 200 ?_
      repeat (refine JL.flat ?_)
      refine JL.ifT rfl ?_
      try refine JL.skip ?_
      repeat (refine JL.flat ?_)
      refine JL.go 200 ?_
      apply Seq.loadLit rfl rfl rfl rfl rfl
      · repeat (first | exact Pick.here | apply Pick.there)
      · rfl
      · rfl
      refine Seq.on 200 ?_
      apply Seq.call (Bytes_ok pw .nilIface (beB l.length 2 ++ Z ++ beB (!false).toNat 1 ++ beB kl.length 2 ++ kl) vl va vc (by omega) (by simp [beB_length]; omega)) rfl rfl rfl rfl rfl rfl
      ·
        repeat (first | exact Picks.nil | (apply Picks.cons; · repeat (first | exact Pick.here | apply Pick.there)))
      · exact Tells.frame (by repeat (first | exact Pick.here | apply Pick.there)) (fun _ _ => BIn.mono) (fun h hF => (hDi h hF).2)
      intro _
      refine Seq.on 200 ?_
      repeat (refine JL.flat ?_)
      refine JL.nil (At.block_normal (At.then_normal (JL.at ?_)))
      repeat (refine JL.flat ?_)
      refine JL.go 200 ?_
      refine JL.set 20 (.int .i64 ((i + 1 : Nat) : Int)) rfl (congrArg (Value.int .i64) (by rw [show (i : Int) + 1 = ((i + 1 : Nat) : Int) by omega]; exact wrapI (small63 (by omega)))) ?_
      repeat (refine JL.flat ?_)
      refine JL.nil (At.then_normal ?_)
      refine At.again (X := {i : Nat // i ≤ l.length}) (x := ⟨i, hi⟩) ⟨i + 1, by omega⟩ (by show l.length - (i + 1) < l.length - i; omega) (Sub.look ?_) ?_
      ·
        repeat (first | exact Sub.nil | refine Sub.cons rfl ?_)
      · intro h hs
        have e : beB l.length 2 ++ Z ++ beB (!false).toNat 1 ++ beB kl.length 2 ++ kl ++ beB vl.length 2 ++ vl = beB l.length 2 ++ ((l.map Ch.cc).take (i + 1)).flatMap ccB := by rw [htake]; simp [ccB]
        rw [← e]
        exact ((Gives.sound (by repeat (first | exact Gives.nil | (apply Gives.cons; · repeat (first | exact Pick.here | apply Pick.there)))))) h hs
  · obtain rfl : i = l.length := by omega
    refine JL.set 21 (.bool false) rfl (congrArg Value.bool (by simp)) ?_
    repeat (refine JL.flat ?_)
    refine JL.ifF rfl ?_
    try refine JL.skip ?_
    repeat (refine JL.flat ?_)
    refine JL.exit ?_
    repeat (first | refine At.then_exit ?_ | refine At.block_pass rfl ?_)
    refine At.block_exit (At.then_normal (JL.at ?_))
    have e : beB l.length 2 ++ ((l.map Ch.cc).take l.length).flatMap ccB = putB (l.map Ch.cc) := by
      unfold putB
      rw [List.length_map, List.take_of_length_le (by simp)]
    rw [e]
    have hlen : (putB (l.map Ch.cc)).length ≤ 9843002 := by rw [← e]; simp only [List.length_append, beB_length]; omega
    generalize putB (l.map Ch.cc) = Z at hlen ⊢
    repeat (refine JL.flat ?_)
    refine JL.go 200 ?_
    apply Seq.call (Done_ok pw Z (by omega)) rfl rfl rfl rfl rfl rfl
    · repeat (first | exact Picks.nil | (apply Picks.cons; · repeat (first | exact Pick.here | apply Pick.there)))
    · exact Tells.none
    intro r
    refine Seq.on 200 ?_
    repeat (refine JL.flat ?_)
    refine JL.ret ?_
    repeat (first | refine At.then_ret ?_ | refine At.block_ret ?_)
    refine At.done2 rfl (r) rfl rfl rfl ?_
    exact (Gives.sound (by repeat (first | exact Gives.nil | (apply Gives.cons; · repeat (first | exact Pick.here | apply Pick.there)))))
end Go.Ent
namespace Go.Ent
open Go Go.Proofs
theorem ChsB.nil (h : Part) : ChsB [] h := fun _ hx => by cases hx
theorem ChsB.snoc {l : List Ch} {c : Ch} {G : List Assn} (h : Part) (s : sep (ChsB l :: BIn c.key.1 c.key.2.2 :: BIn c.val.1 c.val.2.2 :: G) h) : sep (ChsB (l ++ [c]) :: G) h := by
  have s1 := star_mono (fun _ h => h) (fun _ h => star_assoc' h) s
  refine star_mono (fun h s => ?_) (fun _ h => h) (star_assoc' s1)
  obtain ⟨h1, h2, _, l1, l2, a, ⟨h3, h4, _, l3, l4, b, d⟩⟩ := s
  intro x hx
  rcases List.mem_append.1 hx with hx | hx
  · exact ⟨BIn.mono l1 (a x hx).1, BIn.mono l1 (a x hx).2⟩
  · simp only [List.mem_cons, List.not_mem_nil, or_false] at hx
    subst hx
    exact ⟨BIn.mono (Part.le_trans l3 l2) b, BIn.mono (Part.le_trans l4 l2) d⟩
theorem BIn.nil (a : Option Addr) (h : Part) : BIn a [] h := ⟨rfl, .inl rfl⟩
set_option maxHeartbeats 1600000 in
theorem Parse_ok (a : Option Addr) (l : List Cc) (c : Nat) (h1 : 1 ≤ l.length) (h2 : l.length ≤ 600) (hr : ∀ x ∈ l, x.right) (hv : ∀ x ∈ l, x.2.2 = false → 0 < x.2.1.length) :
    Trip Tryz.prog 168 [.slice a (putB l).length c] (BIn a (putB l)) [] (X := (Option Addr × Nat) × {chs : List Ch // chs.map Ch.cc = l})
    (fun r => .tuple #[.slice r.1.1 l.length r.1.2, .nilIface]) (fun r => [SlOwn 179 3 r.1.1 l.length r.1.2 (r.2.1.flatMap chL), ChsB r.2.1]) := by
  have hlen : (putB l).length ≤ 9843002 := by
    have := flat_le l hr
    have h4 := Nat.mul_le_mul_right 16405 h2
    simp only [putB, List.length_append, beB_length]
    omega
  have hd2 : (putB l).drop 2 = l.flatMap ccB := List.drop_left' (beB_length _ 2)
  have ht2 : numB ((putB l).take 2) = l.length := by
    unfold putB
    rw [List.take_left' (beB_length _ 2)]
    have h256 : (256 : Nat) ^ 2 = 65536 := by decide
    exact numB_beB 2 l.length (by omega)
  have hlen2 : 2 ≤ (putB l).length := by simp [putB, beB_length]
  generalize putB l = PB at hlen hd2 ht2 hlen2 ⊢
  refine Trip.start (n := 47) Tryz.func168 (by kernel_rfl) rfl rfl rfl ?_
  intro F w hD
  repeat (refine JL.flat ?_)
  refine JL.go 200 ?_
  repeat (refine JL.flat ?_)
  refine JL.go 200 ?_
  apply Seq.call (From_ok a PB c (by omega)) rfl rfl rfl rfl rfl rfl
  ·
    repeat (first | exact Picks.nil | (apply Picks.cons; · repeat (first | exact Pick.here | apply Pick.there)))
  · exact Tells.frame (by repeat (first | exact Pick.here | apply Pick.there)) (fun _ _ => BIn.mono) hD
  intro pr
  refine Seq.on 200 ?_
  repeat (refine JL.flat ?_)
  refine JL.go 200 ?_
  repeat (refine JL.flat ?_)
  refine JL.go 200 ?_
  apply Seq.call (RNum_2 pr PB (by omega) (by omega)) rfl rfl rfl rfl rfl rfl
  · repeat (first | exact Picks.nil | (apply Picks.cons; · repeat (first | exact Pick.here | apply Pick.there)))
  · exact Tells.none
  intro _
  rw [hd2, ht2]
  refine Seq.on 200 ?_
  repeat (refine JL.flat ?_)
  refine JL.block ?_
  refine JL.loop (X := {i : Nat // i ≤ l.length} × {chs : List Ch // True} × (Option Addr × Nat)) (⟨0, by omega⟩, ⟨[], trivial⟩, (none, 0))
    (fun x => [(4, ptrV pr), (5, .slice x.2.2.1 x.1.1 x.2.2.2), (10, .int .u64 (l.length : Int)), (11, .int .u64 (x.1.1 : Int))])
    (fun x => [SlOwn 179 3 x.2.2.1 x.1.1 x.2.2.2 (x.2.1.1.flatMap chL), ChsB x.2.1.1, fun _ => x.2.1.1.map Ch.cc = l.take x.1.1, Rd pr ((l.drop x.1.1).flatMap ccB), F]) (fun x => l.length - x.1.1) ?_ ?_ ?_
  ·
    repeat (first | exact Sub.nil | refine Sub.cons rfl ?_)
  · intro h hs
    exact sep_pure (SlOwn.nil _ _) (sep_pure ChsB.nil (sep_pure (fun _ => rfl) hs))
  rintro ⟨⟨i, hi⟩, ⟨chs, _⟩, q⟩
  dsimp only
  refine JL.know (p := chs.map Ch.cc = l.take i) (by repeat (first | exact Pick.here | apply Pick.there)) (fun hch => ?_)
  have hcl : chs.length = i := by
    have := congrArg List.length hch
    simp only [List.length_map, List.length_take] at this
    omega
  repeat (refine JL.flat ?_)
  refine JL.go 200 ?_
  rcases Nat.lt_or_ge i l.length with hlt | hge
  · refine JL.set 12 (.bool true) rfl (congrArg Value.bool (by simp; omega)) ?_
    have hri := hr l[i] (List.getElem_mem hlt)
    have hvi := hv l[i] (List.getElem_mem hlt)
    have hde : (l.drop i).flatMap ccB = ccB l[i] ++ (l.drop (i + 1)).flatMap ccB := by rw [List.drop_eq_getElem_cons hlt, List.flatMap_cons]
    have hti : l.take (i + 1) = l.take i ++ [l[i]] := List.take_succ_eq_append_getElem hlt
    have hZ : ((l.drop (i + 1)).flatMap ccB).length ≤ 9843000 := by
      have := flat_le (l.drop (i + 1)) (fun c hc => hr c (List.mem_of_mem_drop hc))
      have h3 : (l.drop (i + 1)).length ≤ 600 := by simp; omega
      have h4 := Nat.mul_le_mul_right 16405 h3
      omega
    rw [hde]
    have goon : ∀ {ks vs : Option Addr × Nat} {kl vl : List UInt8} {d : Bool} {a' : Option Addr} {cap' : Nat} {G : List Assn} {h : Part}, l[i] = (kl, vl, d) →
        sep (ChsB chs :: BIn ks.1 kl :: BIn vs.1 vl :: SlOwn 179 3 a' (i + 1) cap' (chs.flatMap chL ++ [Value.slice ks.1 kl.length ks.2, Value.slice vs.1 vl.length vs.2, Value.bool d]) :: Rd pr ((l.drop (i + 1)).flatMap ccB) :: G) h →
        sep (SlOwn 179 3 a' (i + 1) cap' ((chs ++ [Ch.mk (ks.1, ks.2, kl) (vs.1, vs.2, vl) d]).flatMap chL) :: ChsB (chs ++ [Ch.mk (ks.1, ks.2, kl) (vs.1, vs.2, vl) d]) :: (fun _ => (chs ++ [Ch.mk (ks.1, ks.2, kl) (vs.1, vs.2, vl) d]).map Ch.cc = l.take (i + 1)) :: Rd pr ((l.drop (i + 1)).flatMap ccB) :: G) h := by
      intro ks vs kl vl d a' cap' G h he s
      have s2 := ChsB.snoc (c := Ch.mk (ks.1, ks.2, kl) (vs.1, vs.2, vl) d) h s
      have s3 := star_left s2
      have e1 : (chs ++ [Ch.mk (ks.1, ks.2, kl) (vs.1, vs.2, vl) d]).flatMap chL = chs.flatMap chL ++ [Value.slice ks.1 kl.length ks.2, Value.slice vs.1 vl.length vs.2, Value.bool d] := by
        rw [List.flatMap_append]; rfl
      have e2 : (chs ++ [Ch.mk (ks.1, ks.2, kl) (vs.1, vs.2, vl) d]).map Ch.cc = l.take (i + 1) := by
        rw [List.map_append, hch, hti, he]; rfl
      rw [e1]
      exact star_mono (fun _ h => h) (fun h hs => star_mono (fun _ h => h) (fun h hs => sep_pure (fun _ => e2) hs) hs) s3
    generalize hX : l[i] = X at hri hvi goon ⊢
    generalize hZZ : (l.drop (i + 1)).flatMap ccB = Z at hZ goon ⊢
    obtain ⟨kl, vl, d⟩ := X
    obtain ⟨r1, r2, r3, r4⟩ := hri
    simp only at r1 r2 r3 r4 hvi
    repeat (refine JL.flat ?_)
    refine JL.ifT rfl ?_
    try refine JL.skip ?_
    repeat (refine JL.flat ?_)
    refine JL.block ?_
    cases d with
    | true =>
      have hv0 := r4 rfl
      subst hv0
      have hcc : ccB (kl, [], true) ++ Z = (0 : UInt8) :: (beB kl.length 2 ++ kl ++ Z) := by simp [ccB, beB, byteAt]
      rw [hcc]
      repeat (refine JL.flat ?_)
      refine JL.go 200 ?_
      apply Seq.call (RFlag_ok pr (beB kl.length 2 ++ kl ++ Z) 0 (by decide) (by simp [beB_length]; omega)) rfl rfl rfl rfl rfl rfl
      · repeat (first | exact Picks.nil | (apply Picks.cons; · repeat (first | exact Pick.here | apply Pick.there)))
      · exact Tells.none
      intro _
      refine Seq.on 200 ?_
      apply Seq.call (RBytes_ok pr Z kl 16 (by omega) (by omega) (by omega) (by omega)) rfl rfl rfl rfl rfl rfl
      · repeat (first | exact Picks.nil | (apply Picks.cons; · repeat (first | exact Pick.here | apply Pick.there)))
      · exact Tells.none
      intro ks
      refine Seq.yield rfl rfl (Yl.build rfl rfl rfl rfl rfl) ?_
      refine Seq.eff rfl rfl (Ef.alloc tab_zero rfl rfl) ?_
      intro b6
      refine Seq.storeAgg (cs := [Value.slice ks.1 kl.length ks.2, Value.slice none 0 0, Value.bool true]) rfl rfl rfl rfl rfl rfl (by repeat (first | exact Pick.here | apply Pick.there)) rfl (fun u hu => by simp at hu; rcases hu with rfl | rfl | rfl <;> rfl) rfl ?_
      refine Seq.on 200 ?_
      repeat (refine JL.flat ?_)
      refine JL.go 200 ?_
      apply Seq.loadLit rfl rfl rfl rfl rfl
      · repeat (first | exact Pick.here | apply Pick.there)
      · rfl
      · rfl
      refine Seq.on 200 ?_
      repeat (refine JL.flat ?_)
      refine JL.ifF rfl ?_
      try refine JL.skip ?_
      repeat (refine JL.flat ?_)
      refine JL.go 200 ?_
      apply Seq.loadLit rfl rfl rfl rfl rfl
      · repeat (first | exact Pick.here | apply Pick.there)
      · rfl
      · rfl
      refine Seq.on 200 ?_
      refine JL.set 28 (.bool false) rfl (congrArg Value.bool (by
        show ((kl.length : Int) == ((0 : Nat) : Int)) = false
        rw [int_beq]; exact beq_eq_false_iff_ne.2 (by omega))) ?_
      repeat (refine JL.flat ?_)
      refine JL.ifF rfl ?_
      try refine JL.skip ?_
      repeat (refine JL.flat ?_)
      refine JL.go 200 ?_
      refine Seq.loadAll rfl rfl rfl rfl rfl rfl (by repeat (first | exact Pick.here | apply Pick.there)) rfl ?_
      refine Seq.bslice (out := [Value.slice ks.1 kl.length ks.2, Value.slice none 0 0, Value.bool true]) rfl rfl rfl rfl rfl rfl rfl rfl (by rfl) rfl (by rfl) ?_
      intro bx
      refine Seq.append rfl rfl rfl rfl rfl rfl rfl rfl rfl (by repeat (first | exact Pick.here | apply Pick.there)) (Tells.own (by repeat (first | exact Pick.here | apply Pick.there))) (fun u hu => by simp at hu; rcases hu with rfl | rfl | rfl <;> rfl) (by unfold maxLen; omega) (by omega) ?_
      intro a' cap'
      refine Seq.on 200 ?_
      repeat (refine JL.flat ?_)
      refine JL.nil (At.block_normal (At.then_normal (JL.at ?_)))
      repeat (refine JL.flat ?_)
      refine JL.go 200 ?_
      refine JL.set 11 (.int .u64 ((i + 1 : Nat) : Int)) rfl (congrArg (Value.int .u64) (by rw [show (i : Int) + 1 = ((i + 1 : Nat) : Int) by omega]; exact wrap_int (by omega) (by omega))) ?_
      repeat (refine JL.flat ?_)
      refine JL.nil (At.then_normal ?_)
      refine At.again (X := {i : Nat // i ≤ l.length} × {chs : List Ch // True} × (Option Addr × Nat)) (x := (⟨i, hi⟩, ⟨chs, trivial⟩, q)) (⟨i + 1, hlt⟩, ⟨chs ++ [Ch.mk (ks.1, ks.2, kl) (none, 0, []) true], trivial⟩, (a', cap')) (by show l.length - (i + 1) < l.length - i; omega) (Sub.look ?_) ?_
      ·
        repeat (first | exact Sub.nil | refine Sub.cons rfl ?_)
      · intro h hs
        have hs1 := (Gives.sound (L := [BOwn ks kl, ChsB chs, SlOwn 179 3 a' (i + 1) cap' (chs.flatMap chL ++ [Value.slice ks.1 kl.length ks.2, Value.slice none 0 0, Value.bool true]), Rd pr Z, F]) (by repeat (first | exact Gives.nil | (apply Gives.cons; · repeat (first | exact Pick.here | apply Pick.there))))) h hs
        have hs2 := star_left hs1
        have hs3 := star_mono (fun _ h => h) (fun h hs => star_mono (fun _ hb => BOwn_BIn hb) (fun h hs => sep_pure (BIn.nil none) hs) hs) hs2
        have hs4 := goon (ks := ks) (vs := (none, 0)) rfl hs3
        simp only [hZZ]
        exact hs4
    | false =>
      have hv0 := hvi rfl
      have hcc : ccB (kl, vl, false) ++ Z = (1 : UInt8) :: (beB kl.length 2 ++ kl ++ (beB vl.length 2 ++ vl ++ Z)) := by simp [ccB, beB, byteAt]
      rw [hcc]
      repeat (refine JL.flat ?_)
      refine JL.go 200 ?_
      apply Seq.call (RFlag_ok pr (beB kl.length 2 ++ kl ++ (beB vl.length 2 ++ vl ++ Z)) 1 (by decide) (by simp [beB_length]; omega)) rfl rfl rfl rfl rfl rfl
      · repeat (first | exact Picks.nil | (apply Picks.cons; · repeat (first | exact Pick.here | apply Pick.there)))
      · exact Tells.none
      intro _
      refine Seq.on 200 ?_
      apply Seq.call (RBytes_ok pr (beB vl.length 2 ++ vl ++ Z) kl 16 (by omega) (by omega) (by omega) (by simp [beB_length]; omega)) rfl rfl rfl rfl rfl rfl
      · repeat (first | exact Picks.nil | (apply Picks.cons; · repeat (first | exact Pick.here | apply Pick.there)))
      · exact Tells.none
      intro ks
      refine Seq.yield rfl rfl (Yl.build rfl rfl rfl rfl rfl) ?_
      refine Seq.eff rfl rfl (Ef.alloc tab_zero rfl rfl) ?_
      intro b6
      refine Seq.storeAgg (cs := [Value.slice ks.1 kl.length ks.2, Value.slice none 0 0, Value.bool false]) rfl rfl rfl rfl rfl rfl (by repeat (first | exact Pick.here | apply Pick.there)) rfl (fun u hu => by simp at hu; rcases hu with rfl | rfl | rfl <;> rfl) rfl ?_
      refine Seq.on 200 ?_
      repeat (refine JL.flat ?_)
      refine JL.go 200 ?_
      apply Seq.loadLit rfl rfl rfl rfl rfl
      · repeat (first | exact Pick.here | apply Pick.there)
      · rfl
      · rfl
      refine Seq.on 200 ?_
      repeat (refine JL.flat ?_)
      refine JL.ifT rfl ?_
      try refine JL.skip ?_
      repeat (refine JL.flat ?_)
      refine JL.go 200 ?_
      apply Seq.call (RBytes_ok pr Z vl 16384 (by omega) (by omega) (by omega) (by omega)) rfl rfl rfl rfl rfl rfl
      · repeat (first | exact Picks.nil | (apply Picks.cons; · repeat (first | exact Pick.here | apply Pick.there)))
      · exact Tells.none
      intro vs
      refine Seq.on 200 ?_
      apply Seq.storeLit rfl rfl rfl rfl rfl rfl
      · repeat (first | exact Pick.here | apply Pick.there)
      · rfl
      · rfl
      · rfl
      refine Seq.on 200 ?_
      repeat (refine JL.flat ?_)
      refine JL.go 200 ?_
      apply Seq.loadLit rfl rfl rfl rfl rfl
      · repeat (first | exact Pick.here | apply Pick.there)
      · rfl
      · rfl
      refine Seq.on 200 ?_
      refine JL.set 28 (.bool false) rfl (congrArg Value.bool (by
        show ((kl.length : Int) == ((0 : Nat) : Int)) = false
        rw [int_beq]; exact beq_eq_false_iff_ne.2 (by omega))) ?_
      repeat (refine JL.flat ?_)
      refine JL.ifF rfl ?_
      try refine JL.skip ?_
      repeat (refine JL.flat ?_)
      refine JL.go 200 ?_
      refine Seq.loadAll rfl rfl rfl rfl rfl rfl (by repeat (first | exact Pick.here | apply Pick.there)) rfl ?_
      refine Seq.bslice (out := [Value.slice ks.1 kl.length ks.2, Value.slice vs.1 vl.length vs.2, Value.bool false]) rfl rfl rfl rfl rfl rfl rfl rfl (by rfl) rfl (by rfl) ?_
      intro bx
      refine Seq.append rfl rfl rfl rfl rfl rfl rfl rfl rfl (by repeat (first | exact Pick.here | apply Pick.there)) (Tells.own (by repeat (first | exact Pick.here | apply Pick.there))) (fun u hu => by simp at hu; rcases hu with rfl | rfl | rfl <;> rfl) (by unfold maxLen; omega) (by omega) ?_
      intro a' cap'
      refine Seq.on 200 ?_
      repeat (refine JL.flat ?_)
      refine JL.nil (At.block_normal (At.then_normal (JL.at ?_)))
      repeat (refine JL.flat ?_)
      refine JL.go 200 ?_
      refine JL.set 11 (.int .u64 ((i + 1 : Nat) : Int)) rfl (congrArg (Value.int .u64) (by rw [show (i : Int) + 1 = ((i + 1 : Nat) : Int) by omega]; exact wrap_int (by omega) (by omega))) ?_
      repeat (refine JL.flat ?_)
      refine JL.nil (At.then_normal ?_)
      refine At.again (X := {i : Nat // i ≤ l.length} × {chs : List Ch // True} × (Option Addr × Nat)) (x := (⟨i, hi⟩, ⟨chs, trivial⟩, q)) (⟨i + 1, hlt⟩, ⟨chs ++ [Ch.mk (ks.1, ks.2, kl) (vs.1, vs.2, vl) false], trivial⟩, (a', cap')) (by show l.length - (i + 1) < l.length - i; omega) (Sub.look ?_) ?_
      ·
        repeat (first | exact Sub.nil | refine Sub.cons rfl ?_)
      · intro h hs
        have hs1 := (Gives.sound (L := [ChsB chs, BOwn ks kl, BOwn vs vl, SlOwn 179 3 a' (i + 1) cap' (chs.flatMap chL ++ [Value.slice ks.1 kl.length ks.2, Value.slice vs.1 vl.length vs.2, Value.bool false]), Rd pr Z, F]) (by repeat (first | exact Gives.nil | (apply Gives.cons; · repeat (first | exact Pick.here | apply Pick.there))))) h hs
        have hs3 := star_mono (fun _ h => h) (fun h hs => star_mono (fun _ hb => BOwn_BIn hb) (fun h hs => star_mono (fun _ hb => BOwn_BIn hb) (fun _ h => h) hs) hs) hs1
        have hs4 := goon (ks := ks) (vs := vs) rfl hs3
        simp only [hZZ]
        exact hs4
  · obtain rfl : i = l.length := by omega
    refine JL.set 12 (.bool false) rfl (congrArg Value.bool (by simp)) ?_
    rw [List.take_length] at hch
    rw [List.drop_length]
    repeat (refine JL.flat ?_)
    refine JL.ifF rfl ?_
    try refine JL.skip ?_
    repeat (refine JL.flat ?_)
    refine JL.exit ?_
    repeat (first | refine At.then_exit ?_ | refine At.block_pass rfl ?_)
    refine At.block_exit (At.then_normal (JL.at ?_))
    repeat (refine JL.flat ?_)
    refine JL.go 200 ?_
    apply Seq.call (REnd_ok pr) rfl rfl rfl rfl rfl rfl
    · repeat (first | exact Picks.nil | (apply Picks.cons; · repeat (first | exact Pick.here | apply Pick.there)))
    · exact Tells.none
    intro _
    refine Seq.on 200 ?_
    have hrc := Right_ok q.1 chs q.2 (by omega) (by omega) (fun x hx => hr _ (by rw [← hch]; exact List.mem_map.2 ⟨x, hx, rfl⟩))
    rw [hcl] at hrc
    apply Seq.call (hrc) rfl rfl rfl rfl rfl rfl
    ·
      repeat (first | exact Picks.nil | (apply Picks.cons; · repeat (first | exact Pick.here | apply Pick.there)))
    · intro h hs
      refine ⟨?_, Tells.pick (A := ChsB chs) (by repeat (first | exact Pick.here | apply Pick.there)) (fun _ _ => ChsB.mono) (fun _ h => h) h hs⟩
      have := Tells.own (e := 179) (k := 3) (a := q.1) (m := l.length) (cap := q.2) (xs := chs.flatMap chL) (by repeat (first | exact Pick.here | apply Pick.there)) h hs
      rw [hcl]
      exact this
    intro _
    refine Seq.on 200 ?_
    repeat (refine JL.flat ?_)
    refine JL.ifF rfl ?_
    try refine JL.skip ?_
    repeat (refine JL.flat ?_)
    refine JL.go 200 ?_
    repeat (refine JL.flat ?_)
    refine JL.ret ?_
    repeat (first | refine At.then_ret ?_ | refine At.block_ret ?_)
    refine At.done2 rfl ((q, ⟨chs, hch⟩)) rfl rfl rfl ?_
    exact (Gives.sound (by repeat (first | exact Gives.nil | (apply Gives.cons; · repeat (first | exact Pick.here | apply Pick.there)))))
end Go.Ent
namespace Go.Ent
open Go Go.Proofs
abbrev Tf := List UInt8 → Option (List UInt8)
/-- the values of a table. -/
def Vals (g : List UInt8 → Option Value) (f : Tf) : Assn := fun h => ∀ k, match f k with
  | none => g k = none
  | some v => ∃ a c, g k = some (.slice a v.length c) ∧ BIn a v h ∧ v.length ≤ 100000
theorem Vals.mono {g : List UInt8 → Option Value} {f : Tf} {h k : Part} (hk : Part.le h k) (x : Vals g f h) : Vals g f k := fun q => by
  have := x q
  revert this
  cases f q with
  | none => exact fun h => h
  | some v => rintro ⟨a, c, e, b, l⟩; exact ⟨a, c, e, BIn.mono hk b, l⟩
def TblA (t : Nat) (f : Tf) (r : Nat × (List UInt8 → Option Value)) : List Assn := [pt t (.cells [Value.map (some r.1)].toArray 323 (0, 0)), MapOf mkS r.1 r.2, Vals r.2 f]
def Tbl (t : Nat) (f : Tf) : Assn := exA (TblA t f)
def noT : Tf := fun _ => none
def updT (f : Tf) (k v : List UInt8) : Tf := fun q => if q = k then some v else f q
def delT (f : Tf) (k : List UInt8) : Tf := fun q => if q = k then none else f q
def appT (f : Tf) (c : Cc) : Tf := if c.2.2 then delT f c.1 else updT f c.1 c.2.1
def applyT (f : Tf) (l : List Cc) : Tf := l.foldl appT f
theorem applyT_take (f : Tf) (l : List Cc) (i : Nat) (h : i < l.length) : applyT f (l.take (i + 1)) = appT (applyT f (l.take i)) l[i] := by
  rw [List.take_succ_eq_append_getElem h]; unfold applyT; rw [List.foldl_append]; rfl
theorem Vals.upd {g : List UInt8 → Option Value} {f : Tf} {k v : List UInt8} {r : Option Addr × Nat} {G : List Assn} (hv : v.length ≤ 100000) (h : Part) (s : sep (Vals g f :: BOwn r v :: G) h) : sep (Vals (Ent.upd g k (.slice r.1 v.length r.2)) (updT f k v) :: G) h := by
  refine star_mono (fun h s => ?_) (fun _ h => h) (star_assoc' s)
  obtain ⟨h1, h2, _, l1, l2, a, b⟩ := s
  intro q
  unfold updT Ent.upd
  by_cases e : q = k
  · simp only [e, if_true]
    exact ⟨r.1, r.2, rfl, BIn.mono l2 (BOwn_BIn b), hv⟩
  · simp only [e, if_false]
    exact Vals.mono l1 a q
theorem Vals.del {g : List UInt8 → Option Value} {f : Tf} {k : List UInt8} (h : Part) (s : Vals g f h) : Vals (Ent.del g k) (delT f k) h := by
  intro q
  unfold delT Ent.del
  by_cases e : q = k
  · simp only [e, if_true]
  · simp only [e, if_false]
    exact s q
theorem New_tbl : Trip Tryz.prog 167 [] none_ [] (X := Nat) (fun p => ptrV p) (fun p => [Tbl p noT]) := by
  refine Trip.start (n := 4) Tryz.func167 (by kernel_rfl) rfl rfl rfl ?_
  intro F w hD
  repeat (refine JL.flat ?_)
  refine JL.go 200 ?_
  repeat (refine JL.flat ?_)
  refine JL.go 200 ?_
  refine Seq.eff rfl rfl (Ef.makeMap rfl) ?_
  intro b1
  refine Seq.yield rfl rfl (Yl.build rfl rfl rfl rfl rfl) ?_
  refine Seq.eff rfl rfl (Ef.box rfl rfl) ?_
  intro p
  refine Seq.on 200 ?_
  repeat (refine JL.flat ?_)
  refine JL.ret ?_
  repeat (first | refine At.then_ret ?_ | refine At.block_ret ?_)
  refine At.done1 rfl (p) rfl ?_
  intro h hs
  exact exA_in (A := TblA p noT) (b1, fun _ => none) (star_mono (fun _ h => h) (fun h hs => star_mono (fun _ h => MapOf.made mkS h) (fun h hs => sep_pure (fun _ _ => rfl) hs) hs) hs)
theorem Get_ok (t : Nat) (f : Tf) (a : Option Addr) (k : List UInt8) (c : Nat) : Trip Tryz.prog 169 [ptrV t, .slice a k.length c] (BIn a k) [Tbl t f] (X := Option Addr × Nat)
    (fun r => .tuple #[.slice r.1 ((f k).getD []).length r.2, .bool (f k).isSome]) (fun r => [BOwn r ((f k).getD []), Tbl t f]) := by
  refine Trip.start (n := 23) Tryz.func169 (by kernel_rfl) rfl rfl rfl ?_
  intro F w hD
  refine JL.open ?_
  rintro ⟨b, g⟩
  repeat (refine JL.flat ?_)
  refine JL.go 200 ?_
  repeat (refine JL.flat ?_)
  refine JL.go 200 ?_
  repeat (refine JL.flat ?_)
  refine JL.ifF rfl ?_
  try refine JL.skip ?_
  have hTk : ∀ {G G' : List Assn}, Pick F G G' → Tells G (BIn a k) := fun pk => Tells.frame pk (fun _ _ => BIn.mono) hD
  refine JL.fact (Tells.pick (A := Vals g f) (by repeat (first | exact Pick.here | apply Pick.there)) (D := fun h => Vals g f h) (fun _ _ => Vals.mono) (fun _ h => h) |> fun t => Tells.fact t (p := ∃ a' c', g k = (match f k with | some v => some (.slice a' v.length c') | none => none)) (fun h x => ?_)) (fun hg => ?_)
  · have := x k
    revert this
    cases f k with
    | none => exact fun e => ⟨none, 0, e⟩
    | some v => rintro ⟨a', c', e, _⟩; exact ⟨a', c', e⟩
  obtain ⟨a', c', hg⟩ := hg
  cases hf : f k with
  | none =>
    rw [hf] at hg
    repeat (refine JL.flat ?_)
    refine JL.draws (by kernel_rfl) (fun hR => ?_)
    refine Ord.on hR 200 ?_
    apply Ord.loadLit hR NP.nop rfl rfl rfl rfl rfl rfl rfl
    · repeat (first | exact Pick.here | apply Pick.there)
    · rfl
    · rfl
    refine Ord.on hR 200 ?_
    refine Ord.look hR NP.nop rfl rfl rfl rfl (Yl.convStr (l := k) rfl rfl rfl rfl rfl rfl (hTk (by repeat (first | exact Pick.here | apply Pick.there)))) ?_
    refine Ord.look hR NP.nop rfl rfl rfl rfl (Yl.lookup (mk := mkS) (f := g) k rfl rfl rfl rfl (keyBytes rfl) (Tells.map (by repeat (first | exact Pick.here | apply Pick.there))) rfl rfl rfl) ?_
    refine Ord.set 17 (.tuple #[.slice none 0 0, .bool false]) rfl (by rw [hg]; rfl) ?_
    refine Ord.on hR 200 ?_
    repeat (refine JL.flat ?_)
    refine JL.go 200 ?_
    apply Seq.call (bclone_ok none [] 0 (by simp)) rfl rfl rfl rfl rfl rfl
    ·
      repeat (first | exact Picks.nil | (apply Picks.cons; · repeat (first | exact Pick.here | apply Pick.there)))
    · exact fun h _ => BIn.nil none h
    intro r
    refine Seq.on 200 ?_
    repeat (refine JL.flat ?_)
    refine JL.ret ?_
    repeat (first | refine At.then_ret ?_ | refine At.block_ret ?_)
    refine At.done2 rfl (r) rfl rfl rfl ?_
    simp only [Option.getD_none]
    exact Gives.sound (by apply Gives.cons; (repeat (first | exact Pick.here | apply Pick.there)); exact Gives.ex (b, g) (by repeat (first | exact Gives.nil | (apply Gives.cons; · repeat (first | exact Pick.here | apply Pick.there)))))
  | some v =>
    rw [hf] at hg
    have hTv : ∀ {G G' : List Assn}, Pick (Vals g f) G G' → Tells G (fun h => BIn a' v h ∧ v.length ≤ 100000) := fun pk => Tells.pick pk (fun _ _ hk x => ⟨BIn.mono hk x.1, x.2⟩) (fun h x => by
      have := x k
      rw [hf] at this
      obtain ⟨a2, c2, e, hb, hl⟩ := this
      rw [hg] at e
      simp only [Option.some.injEq, Value.slice.injEq] at e
      rw [← e.1] at hb
      exact ⟨hb, hl⟩)
    refine JL.fact (Tells.fact (hTv (by repeat (first | exact Pick.here | apply Pick.there))) (fun _ h => h.2)) (fun hvl => ?_)
    repeat (refine JL.flat ?_)
    refine JL.draws (by kernel_rfl) (fun hR => ?_)
    refine Ord.on hR 200 ?_
    apply Ord.loadLit hR NP.nop rfl rfl rfl rfl rfl rfl rfl
    · repeat (first | exact Pick.here | apply Pick.there)
    · rfl
    · rfl
    refine Ord.on hR 200 ?_
    refine Ord.look hR NP.nop rfl rfl rfl rfl (Yl.convStr (l := k) rfl rfl rfl rfl rfl rfl (hTk (by repeat (first | exact Pick.here | apply Pick.there)))) ?_
    refine Ord.look hR NP.nop rfl rfl rfl rfl (Yl.lookup (mk := mkS) (f := g) k rfl rfl rfl rfl (keyBytes rfl) (Tells.map (by repeat (first | exact Pick.here | apply Pick.there))) rfl rfl rfl) ?_
    refine Ord.set 17 (.tuple #[.slice a' v.length c', .bool true]) rfl (by rw [hg]; rfl) ?_
    refine Ord.on hR 200 ?_
    repeat (refine JL.flat ?_)
    refine JL.go 200 ?_
    apply Seq.call (bclone_ok a' v c' (by omega)) rfl rfl rfl rfl rfl rfl
    ·
      repeat (first | exact Picks.nil | (apply Picks.cons; · repeat (first | exact Pick.here | apply Pick.there)))
    · exact Tells.at (hTv (by repeat (first | exact Pick.here | apply Pick.there))) (fun _ h => h.1)
    intro r
    refine Seq.on 200 ?_
    repeat (refine JL.flat ?_)
    refine JL.ret ?_
    repeat (first | refine At.then_ret ?_ | refine At.block_ret ?_)
    refine At.done2 rfl (r) rfl rfl rfl ?_
    simp only [Option.getD_some]
    exact Gives.sound (by apply Gives.cons; (repeat (first | exact Pick.here | apply Pick.there)); exact Gives.ex (b, g) (by repeat (first | exact Gives.nil | (apply Gives.cons; · repeat (first | exact Pick.here | apply Pick.there)))))
set_option maxHeartbeats 1600000 in
theorem Apply_ok (t : Nat) (f : Tf) (a : Option Addr) (l : List Ch) (c : Nat) (h1 : 1 ≤ l.length) (h2 : l.length ≤ 600) (hr : ∀ x ∈ l, x.cc.right) : Trip Tryz.prog 148 [ptrV t, .slice a l.length c] (Chs a l) [Tbl t f] (X := Unit)
    (fun _ => .nilIface) (fun _ => [Tbl t (applyT f (l.map Ch.cc))]) := by
  refine Trip.start (n := 43) Tryz.func148 (by kernel_rfl) rfl rfl rfl ?_
  intro F w hD
  repeat (refine JL.flat ?_)
  refine JL.go 200 ?_
  repeat (refine JL.flat ?_)
  refine JL.block ?_
  repeat (refine JL.flat ?_)
  refine JL.go 200 ?_
  repeat (refine JL.flat ?_)
  refine JL.ifF rfl ?_
  try refine JL.skip ?_
  repeat (refine JL.flat ?_)
  refine JL.go 200 ?_
  apply Seq.call (Right_ok a l c h1 h2 hr) rfl rfl rfl rfl rfl rfl
  ·
    repeat (first | exact Picks.nil | (apply Picks.cons; · repeat (first | exact Pick.here | apply Pick.there)))
  · exact Tells.frame (by repeat (first | exact Pick.here | apply Pick.there)) (fun _ _ => Chs.mono) hD
  intro _
  refine Seq.on 200 ?_
  repeat (refine JL.flat ?_)
  refine JL.ifF rfl ?_
  try refine JL.skip ?_
  repeat (refine JL.flat ?_)
  refine JL.nil (At.block_normal (At.then_normal (JL.at ?_)))
  repeat (refine JL.flat ?_)
  refine JL.go 200 ?_
  repeat (refine JL.flat ?_)
  refine JL.block ?_
  refine JL.loop (X := {i : Nat // i ≤ l.length}) ⟨0, by omega⟩ (fun i => [(0, ptrV t), (16, .slice a l.length c), (17, .int .i64 (l.length : Int)), (18, .int .i64 (i.1 : Int))])
    (fun i => [Tbl t (applyT f ((l.map Ch.cc).take i.1)), F]) (fun i => l.length - i.1) ?_ ?_ ?_
  ·
    repeat (first | exact Sub.nil | refine Sub.cons rfl ?_)
  · exact (Gives.sound (by repeat (first | exact Gives.nil | (apply Gives.cons; · repeat (first | exact Pick.here | apply Pick.there)))))
  rintro ⟨i, hi⟩
  dsimp only
  repeat (refine JL.flat ?_)
  refine JL.go 200 ?_
  rcases Nat.lt_or_ge i l.length with hlt | hge
  · refine JL.set 19 (.bool true) rfl (congrArg Value.bool (by simp; omega)) ?_
    have htake : applyT f ((l.map Ch.cc).take (i + 1)) = appT (applyT f ((l.map Ch.cc).take i)) l[i].cc := by
      rw [applyT_take f (l.map Ch.cc) i (by simpa using hlt)]; simp
    generalize applyT f ((l.map Ch.cc).take i) = f1 at htake ⊢
    have hri := hr l[i] (List.getElem_mem hlt)
    have hDi : ∀ h, F h → BIn l[i].key.1 l[i].key.2.2 h ∧ BIn l[i].val.1 l[i].val.2.2 h := fun h hF => (hD h hF).2 _ (List.getElem_mem hlt)
    repeat (refine JL.flat ?_)
    refine JL.ifT rfl ?_
    try refine JL.skip ?_
    repeat (refine JL.flat ?_)
    refine JL.block ?_
    repeat (refine JL.flat ?_)
    refine JL.go 200 ?_
    refine Seq.idx (xs := l.flatMap chL) i rfl rfl rfl rfl rfl rfl rfl (Tells.frame (by repeat (first | exact Pick.here | apply Pick.there)) (fun _ _ => SlIn.mono) (fun h hF => (hD h hF).1)) hlt ?_
    intro b off hc
    have hsub : Ent.sub (l.flatMap chL) (i * 3) 3 = chL l[i] := sub_flat chL 3 chL_len l i hlt
    have hc' : Tells [Tbl t f1, F] (CellsAt b off (chL l[i])) := fun h s => by rw [← hsub]; exact hc h s
    refine Seq.load (v := .agg (chL l[i]).toArray) rfl rfl rfl rfl rfl hc' rfl rfl ?_
    generalize l[i] = X at hri hDi htake ⊢
    obtain ⟨⟨ka, kc, kl⟩, ⟨va, vc, vl⟩, d⟩ := X
    obtain ⟨r1, r2, r3, r4⟩ := hri
    simp only [Ch.cc] at r1 r2 r3 r4 hDi htake
    refine Seq.eff rfl rfl (Ef.alloc tab_zero rfl rfl) ?_
    intro b6
    refine Seq.storeAgg rfl rfl rfl rfl rfl rfl (by repeat (first | exact Pick.here | apply Pick.there)) rfl (Ones_chL _) rfl ?_
    unfold chL
    dsimp only [pieceV]
    refine Seq.on 200 ?_
    repeat (refine JL.flat ?_)
    refine JL.go 200 ?_
    apply Seq.loadLit rfl rfl rfl rfl rfl
    · repeat (first | exact Pick.here | apply Pick.there)
    · rfl
    · rfl
    have hTk : ∀ {G G' : List Assn}, Pick F G G' → Tells G (BIn ka kl) := fun pk => Tells.frame pk (fun _ _ => BIn.mono) (fun h hF => (hDi h hF).1)
    have hTv : ∀ {G G' : List Assn}, Pick F G G' → Tells G (BIn va vl) := fun pk => Tells.frame pk (fun _ _ => BIn.mono) (fun h hF => (hDi h hF).2)
    cases d with
    | true =>
      refine Seq.on 200 ?_
      repeat (refine JL.flat ?_)
      refine JL.ifT rfl ?_
      try refine JL.skip ?_
      refine JL.perm (G' := [Tbl t f1, pt b6 (.cells [Value.slice ka kl.length kc, Value.slice va vl.length vc, Value.bool true].toArray 179 (0, 0)), F]) (by repeat (first | exact Gives.nil | (apply Gives.cons; · repeat (first | exact Pick.here | apply Pick.there)))) ?_
      refine JL.open ?_
      rintro ⟨b, g⟩
      repeat (refine JL.flat ?_)
      refine JL.draws (by kernel_rfl) (fun hR => ?_)
      refine Ord.on hR 200 ?_
      apply Ord.loadLit hR NP.nop rfl rfl rfl rfl rfl rfl rfl
      · repeat (first | exact Pick.here | apply Pick.there)
      · rfl
      · rfl
      refine Ord.on hR 200 ?_
      apply Ord.loadLit hR NP.nop rfl rfl rfl rfl rfl rfl rfl
      · repeat (first | exact Pick.here | apply Pick.there)
      · rfl
      · rfl
      refine Ord.on hR 200 ?_
      refine Ord.look hR NP.nop rfl rfl rfl rfl (Yl.convStr (l := kl) rfl rfl rfl rfl rfl rfl (hTk (by repeat (first | exact Pick.here | apply Pick.there)))) ?_
      refine Ord.eff hR rfl rfl rfl rfl (Ef.delete (mk := mkS) (f := g) kl rfl rfl rfl rfl (keyBytes rfl) (by repeat (first | exact Pick.here | apply Pick.there))) (fun _ => ?_) (fun _ => ?_)
      · repeat (first | exact Keep.nil | (refine Keep.waits (by kernel_rfl) ?_))
      refine Ord.on hR 200 ?_
      refine JL.fold (TblA t (applyT f ((l.map Ch.cc).take (i + 1)))) (b, Ent.del g kl) (fun h hs => ?_) (?_ : JL _ _ _ _ _ [Tbl t (applyT f ((l.map Ch.cc).take (i + 1))), F] _ _)
      · have hs1 := (Gives.sound (L := [pt t _, MapOf mkS b _, Vals g f1, F]) (by repeat (first | exact Gives.nil | (apply Gives.cons; · repeat (first | exact Pick.here | apply Pick.there))))) h hs
        rw [htake]
        exact star_mono (fun _ h => h) (fun h hs => star_mono (fun _ h => h) (fun h hs => star_mono (fun h hx => Vals.del h hx) (fun _ h => h) hs) hs) hs1
      repeat (refine JL.flat ?_)
      refine JL.exit ?_
      repeat (first | refine At.then_exit ?_ | refine At.block_pass rfl ?_)
      refine At.block_exit (At.then_normal (JL.at ?_))
      repeat (refine JL.flat ?_)
      refine JL.go 200 ?_
      refine JL.set 18 (.int .i64 ((i + 1 : Nat) : Int)) rfl (congrArg (Value.int .i64) (by rw [show (i : Int) + 1 = ((i + 1 : Nat) : Int) by omega]; exact wrapI (small63 (by omega)))) ?_
      repeat (refine JL.flat ?_)
      refine JL.nil (At.then_normal ?_)
      refine At.again (X := {i : Nat // i ≤ l.length}) (x := ⟨i, hi⟩) ⟨i + 1, by omega⟩ (by show l.length - (i + 1) < l.length - i; omega) (Sub.look ?_) ?_
      ·
        repeat (first | exact Sub.nil | refine Sub.cons rfl ?_)
      · exact (Gives.sound (by repeat (first | exact Gives.nil | (apply Gives.cons; · repeat (first | exact Pick.here | apply Pick.there)))))
    | false =>
      refine Seq.on 200 ?_
      repeat (refine JL.flat ?_)
      refine JL.ifF rfl ?_
      try refine JL.skip ?_
      refine JL.perm (G' := [Tbl t f1, pt b6 (.cells [Value.slice ka kl.length kc, Value.slice va vl.length vc, Value.bool false].toArray 179 (0, 0)), F]) (by repeat (first | exact Gives.nil | (apply Gives.cons; · repeat (first | exact Pick.here | apply Pick.there)))) ?_
      refine JL.open ?_
      rintro ⟨b, g⟩
      repeat (refine JL.flat ?_)
      refine JL.draw ([0, 1, 2, 3, 4, 5, 6, 8, 9, 7, 10, 11]) (by kernel_rfl) (fun hR => ?_)
      refine Ord.on hR 200 ?_
      apply Ord.loadLit hR NP.nop rfl rfl rfl rfl rfl rfl rfl
      · repeat (first | exact Pick.here | apply Pick.there)
      · rfl
      · rfl
      refine Ord.on hR 200 ?_
      apply Ord.loadLit hR NP.nop rfl rfl rfl rfl rfl rfl rfl
      · repeat (first | exact Pick.here | apply Pick.there)
      · rfl
      · rfl
      refine Ord.on hR 200 ?_
      refine Ord.look hR NP.nop rfl rfl rfl rfl (Yl.convStr (l := kl) rfl rfl rfl rfl rfl rfl (hTk (by repeat (first | exact Pick.here | apply Pick.there)))) ?_
      refine Ord.on hR 200 ?_
      apply Ord.loadLit hR NP.nop rfl rfl rfl rfl rfl rfl rfl
      · repeat (first | exact Pick.here | apply Pick.there)
      · rfl
      · rfl
      refine Ord.on hR 200 ?_
      refine Ord.bslice (out := bytesV []) hR rfl rfl rfl rfl rfl rfl rfl rfl rfl rfl (by rfl) rfl (by rfl) ?_ ?_
      · intro bx
        repeat (first | exact Keep.nil | (refine Keep.load rfl rfl rfl (by repeat (first | exact Pick.here | apply Pick.there)) (by rfl) (by rfl) ?_) | (refine Keep.again (Yl.convStr (l := kl) rfl rfl rfl rfl rfl rfl (hTk (by repeat (first | exact Pick.here | apply Pick.there)))) ?_) | (refine Keep.waits (by kernel_rfl) ?_))
      intro bx
      refine Ord.appendB (l := []) (ys := vl) hR rfl rfl rfl rfl rfl rfl rfl rfl rfl rfl rfl rfl rfl (by repeat (first | exact Pick.here | apply Pick.there)) (hTv (by repeat (first | exact Pick.here | apply Pick.there))) (by simp; omega) ?_ ?_
      · intro a' cap'
        repeat (first | exact Keep.nil | (refine Keep.load rfl rfl rfl (by repeat (first | exact Pick.here | apply Pick.there)) (by rfl) (by rfl) ?_) | (refine Keep.again (Yl.convStr (l := kl) rfl rfl rfl rfl rfl rfl (hTk (by repeat (first | exact Pick.here | apply Pick.there)))) ?_) | (refine Keep.waits (by kernel_rfl) ?_))
      intro a' cap'
      simp only [List.nil_append]
      refine Ord.mapUpdate (mk := mkS) (f := g) kl hR rfl rfl rfl rfl rfl rfl rfl rfl rfl (keyBytes rfl) (by repeat (first | exact Pick.here | apply Pick.there)) ?_ ?_
      · repeat (first | exact Keep.nil | (refine Keep.waits (by kernel_rfl) ?_))
      refine Ord.on hR 200 ?_
      refine JL.fold (TblA t (applyT f ((l.map Ch.cc).take (i + 1)))) (b, Ent.upd g kl (.slice a' vl.length cap')) (fun h hs => ?_) (?_ : JL _ _ _ _ _ [Tbl t (applyT f ((l.map Ch.cc).take (i + 1))), F] _ _)
      · have hs1 := (Gives.sound (L := [pt t _, MapOf mkS b _, Vals g f1, BOwn (a', cap') vl, F]) (by repeat (first | exact Gives.nil | (apply Gives.cons; · repeat (first | exact Pick.here | apply Pick.there))))) h hs
        rw [htake]
        exact star_mono (fun _ h => h) (fun h hs => star_mono (fun _ h => h) (fun h hs => Vals.upd (r := (a', cap')) (by omega) h hs) hs) hs1
      repeat (refine JL.flat ?_)
      refine JL.nil (At.block_normal (At.then_normal (JL.at ?_)))
      repeat (refine JL.flat ?_)
      refine JL.go 200 ?_
      refine JL.set 18 (.int .i64 ((i + 1 : Nat) : Int)) rfl (congrArg (Value.int .i64) (by rw [show (i : Int) + 1 = ((i + 1 : Nat) : Int) by omega]; exact wrapI (small63 (by omega)))) ?_
      repeat (refine JL.flat ?_)
      refine JL.nil (At.then_normal ?_)
      refine At.again (X := {i : Nat // i ≤ l.length}) (x := ⟨i, hi⟩) ⟨i + 1, by omega⟩ (by show l.length - (i + 1) < l.length - i; omega) (Sub.look ?_) ?_
      ·
        repeat (first | exact Sub.nil | refine Sub.cons rfl ?_)
      · exact (Gives.sound (by repeat (first | exact Gives.nil | (apply Gives.cons; · repeat (first | exact Pick.here | apply Pick.there)))))
  · obtain rfl : i = l.length := by omega
    refine JL.set 19 (.bool false) rfl (congrArg Value.bool (by simp)) ?_
    have e : (l.map Ch.cc).take l.length = l.map Ch.cc := List.take_of_length_le (by simp)
    rw [e]
    repeat (refine JL.flat ?_)
    refine JL.ifF rfl ?_
    try refine JL.skip ?_
    repeat (refine JL.flat ?_)
    refine JL.exit ?_
    repeat (first | refine At.then_exit ?_ | refine At.block_pass rfl ?_)
    refine At.block_exit (At.then_normal (JL.at ?_))
    repeat (refine JL.flat ?_)
    refine JL.go 200 ?_
    repeat (refine JL.flat ?_)
    refine JL.ret ?_
    repeat (first | refine At.then_ret ?_ | refine At.block_ret ?_)
    refine At.done1 rfl (()) rfl ?_
    exact (Gives.sound (by repeat (first | exact Gives.nil | (apply Gives.cons; · repeat (first | exact Pick.here | apply Pick.there)))))
end Go.Ent
namespace Go.Ent
open Go Go.Proofs
def errV (n : Int) : Value := .iface 80 (.int .i64 n)
section
variable {n : Nat} {ds : Fz} {w0 : World} {E : Env} {G : List Assn} {Q : Exit → Act → World → Prop}
theorem run_maxInt {o : Oper} {x y : Operand} {ats : Array TypeId} {k : IntKind} {p q : Int} (ho : o.op = .call { callee := .builtin .max, args := #[x, y], argTypes := ats }) (hx : ev E x = some (.int k p)) (hy : ev E y = some (.int k q)) (a : Act) (w : World) (ha : Agree n ds E a) :
    (execOp a.eval o).run Tryz.prog w = .ok (.value (.int k (if q > p then q else p))) w := by
  simp [execOp, ho, resolve, invoke, builtin, ha.eval hx, ha.eval hy, run_max_int2]
end
theorem fits_ok (d k : Nat) (L : Int → List UInt8) (m : Nat) (h : 4 ≤ k) : Trip Tryz.prog 160 [ptrV d] none_ [Dv d k L m] (X := Unit) (fun _ => .nilIface) (fun _ => [Dv d k L m]) := by
  refine Trip.start (n := 12) Tryz.func160 (by kernel_rfl) rfl rfl rfl ?_
  intro F w hD
  repeat (refine JL.flat ?_)
  refine JL.go 200 ?_
  repeat (refine JL.flat ?_)
  refine JL.block ?_
  repeat (refine JL.flat ?_)
  refine JL.go 200 ?_
  repeat (refine JL.flat ?_)
  refine JL.ifF rfl ?_
  try refine JL.skip ?_
  repeat (refine JL.flat ?_)
  refine JL.go 200 ?_
  apply Seq.call (LenV d k L m) rfl rfl rfl rfl rfl rfl
  · repeat (first | exact Picks.nil | (apply Picks.cons; · repeat (first | exact Pick.here | apply Pick.there)))
  · exact Tells.none
  intro _
  refine Seq.on 200 ?_
  refine JL.set 7 (.bool false) rfl (congrArg Value.bool (by simp; omega)) ?_
  repeat (refine JL.flat ?_)
  refine JL.ifF rfl ?_
  try refine JL.skip ?_
  repeat (refine JL.flat ?_)
  refine JL.nil (At.block_normal (At.then_normal (JL.at ?_)))
  repeat (refine JL.flat ?_)
  refine JL.go 200 ?_
  repeat (refine JL.flat ?_)
  refine JL.ret ?_
  repeat (first | refine At.then_ret ?_ | refine At.block_ret ?_)
  refine At.done1 rfl (()) rfl ?_
  exact (Gives.sound (by repeat (first | exact Gives.nil | (apply Gives.cons; · repeat (first | exact Pick.here | apply Pick.there)))))
theorem fits_small (d k : Nat) (S W : Secs) (q : List Value) (h : k < 4) : Trip Tryz.prog 160 [ptrV d] none_ [Dk d k S W q] (X := Unit) (fun _ => errV 1) (fun _ => [Dk d k S W q]) := by
  refine Trip.start (n := 12) Tryz.func160 (by kernel_rfl) rfl rfl rfl ?_
  intro F w hD
  repeat (refine JL.flat ?_)
  refine JL.go 200 ?_
  repeat (refine JL.flat ?_)
  refine JL.block ?_
  repeat (refine JL.flat ?_)
  refine JL.go 200 ?_
  repeat (refine JL.flat ?_)
  refine JL.ifF rfl ?_
  try refine JL.skip ?_
  repeat (refine JL.flat ?_)
  refine JL.go 200 ?_
  apply Seq.call (Len_ok d k S W q) rfl rfl rfl rfl rfl rfl
  · repeat (first | exact Picks.nil | (apply Picks.cons; · repeat (first | exact Pick.here | apply Pick.there)))
  · exact Tells.none
  intro _
  refine Seq.on 200 ?_
  refine JL.set 7 (.bool true) rfl (congrArg Value.bool (by simp; omega)) ?_
  repeat (refine JL.flat ?_)
  refine JL.ifT rfl ?_
  try refine JL.skip ?_
  repeat (refine JL.flat ?_)
  refine JL.go 200 ?_
  repeat (refine JL.flat ?_)
  refine JL.ret ?_
  repeat (first | refine At.then_ret ?_ | refine At.block_ret ?_)
  refine At.done1 rfl (()) rfl ?_
  exact (Gives.sound (by repeat (first | exact Gives.nil | (apply Gives.cons; · repeat (first | exact Pick.here | apply Pick.there)))))
theorem place_ok (d k : Nat) (L : Int → List UInt8) (m gen : Nat) (h : 4 ≤ k) (hk : k ≤ 16384) : Trip Tryz.prog 162 [ptrV d, .int .u32 (gen : Int)] none_ [Dv d k L m] (X := Unit)
    (fun _ => .tuple #[.int .i64 ((2 + gen % 2 * ((k - 2) / 2) : Nat) : Int), .int .i64 (((k - 2) / 2 : Nat) : Int)]) (fun _ => [Dv d k L m]) := by
  refine Trip.start (n := 17) Tryz.func162 (by kernel_rfl) rfl rfl rfl ?_
  intro F w hD
  repeat (refine JL.flat ?_)
  refine JL.go 200 ?_
  repeat (refine JL.flat ?_)
  refine JL.go 200 ?_
  apply Seq.call (LenV d k L m) rfl rfl rfl rfl rfl rfl
  · repeat (first | exact Picks.nil | (apply Picks.cons; · repeat (first | exact Pick.here | apply Pick.there)))
  · exact Tells.none
  intro _
  refine Seq.on 1 ?_
  refine Seq.set 8 (.int .i64 ((k - 2 : Nat) : Int)) rfl (congrArg (Value.int .i64) (by rw [show (k : Int) - 2 = ((k - 2 : Nat) : Int) by omega]; exact wrapI (small63 (by omega)))) ?_
  refine Seq.on 1 ?_
  refine Seq.set 9 (.int .i64 (((k - 2) / 2 : Nat) : Int)) rfl (congrArg (Value.int .i64) (by
    show IntKind.i64.wrap (((k - 2) / 2 : Nat) : Int) = _
    exact wrapI (small63 (by omega)))) ?_
  refine Seq.on 200 ?_
  have hg2 : gen % 2 < 2 := Nat.mod_lt _ (by omega)
  have hm : gen % 2 * ((k - 2) / 2) ≤ 16384 := Nat.le_trans (Nat.mul_le_mul_right _ (show gen % 2 ≤ 1 by omega)) (by omega)
  repeat (refine JL.flat ?_)
  refine JL.go 2 ?_
  refine Seq.set 11 (.int .u32 ((gen % 2 : Nat) : Int)) rfl rfl ?_
  refine Seq.on 1 ?_
  refine Seq.set 12 (.int .i64 ((gen % 2 : Nat) : Int)) rfl (congrArg (Value.int .i64) (wrapI (small63 (by omega)))) ?_
  refine Seq.on 2 ?_
  refine Seq.set 14 (.int .i64 ((gen % 2 * ((k - 2) / 2) : Nat) : Int)) rfl (congrArg (Value.int .i64) (by rw [← Int.natCast_mul]; exact wrapI (small63 (by omega)))) ?_
  refine Seq.on 1 ?_
  refine Seq.set 15 (.int .i64 ((2 + gen % 2 * ((k - 2) / 2) : Nat) : Int)) rfl (congrArg (Value.int .i64) (by
    rw [show (2 : Int) + ((gen % 2 * ((k - 2) / 2) : Nat) : Int) = ((2 + gen % 2 * ((k - 2) / 2) : Nat) : Int) by omega]
    exact wrapI (small63 (by omega)))) ?_
  refine Seq.on 200 ?_
  repeat (refine JL.flat ?_)
  refine JL.ret ?_
  repeat (first | refine At.then_ret ?_ | refine At.block_ret ?_)
  refine At.done2 rfl (()) rfl rfl rfl ?_
  exact (Gives.sound (by repeat (first | exact Gives.nil | (apply Gives.cons; · repeat (first | exact Pick.here | apply Pick.there)))))
def wordB : List UInt8 := [101, 110, 116, 114, 117, 115, 116, 32, 109, 97, 110, 105, 102, 101, 115, 116]
def manH (gen : Nat) : List UInt8 := beB gen 4 ++ (sumB (wordB ++ beB gen 4)).take 16
/-- a generation's manifest. -/
def manB (gen : Nat) : List UInt8 := manH gen ++ List.replicate 44 0
theorem manH_length (gen : Nat) : (manH gen).length = 20 := by simp [manH, beB_length, sumB_length]
theorem manB_length (gen : Nat) : (manB gen).length = 64 := by simp [manB, manH_length]
set_option maxHeartbeats 800000 in
theorem manifest_ok (gen : Nat) (hg : gen < 4294967296) : Trip Tryz.prog 241 [.int .u32 (gen : Int)] Glob [] (X := Unit) (fun _ => .tuple #[sec (manB gen), .nilIface]) (fun _ => []) := by
  refine Trip.start (n := 34) Tryz.func241 (by kernel_rfl) rfl rfl rfl ?_
  intro F w hD
  repeat (refine JL.flat ?_)
  refine JL.go 0 ?_
  refine Seq.eff rfl rfl (Ef.alloc tab_zero rfl rfl) ?_
  intro b2
  refine Seq.on 200 ?_
  repeat (refine JL.flat ?_)
  refine JL.go 200 ?_
  refine Seq.yield rfl rfl (Yl.build rfl rfl rfl rfl rfl) ?_
  refine Seq.eff rfl rfl (Ef.box rfl rfl) ?_
  intro pw
  refine Seq.on 200 ?_
  refine JL.to [Wr pw .nilIface [], pt b2 (.cells (bytesV (List.replicate 64 0)).toArray 298 (0, 0)), F] (fun h hs => star_mono (fun h hx => Wr.new h hx) (fun _ h => h) hs) ?_
  repeat (refine JL.flat ?_)
  refine JL.go 3 ?_
  refine Seq.set 14 (.int .u64 (gen : Int)) rfl (congrArg (Value.int .u64) (wrap_int (by omega) (by omega))) ?_
  refine Seq.on 200 ?_
  apply Seq.call (Num_4 pw .nilIface [] gen (by simpa using hg) (by simp)) rfl rfl rfl rfl rfl rfl
  · repeat (first | exact Picks.nil | (apply Picks.cons; · repeat (first | exact Pick.here | apply Pick.there)))
  · exact Tells.none
  intro _
  refine Seq.on 200 ?_
  apply Seq.call (Done_ok pw ([] ++ beB gen 4) (by simp [beB_length])) rfl rfl rfl rfl rfl rfl
  · repeat (first | exact Picks.nil | (apply Picks.cons; · repeat (first | exact Pick.here | apply Pick.there)))
  · exact Tells.none
  intro r
  rw [List.nil_append]
  refine Seq.on 200 ?_
  repeat (refine JL.flat ?_)
  refine JL.go 200 ?_
  repeat (refine JL.flat ?_)
  refine JL.ifF rfl ?_
  try refine JL.skip ?_
  repeat (refine JL.flat ?_)
  refine JL.go 200 ?_
  refine Seq.bslice (out := (bytesV wordB)) rfl rfl rfl rfl rfl rfl rfl rfl (by rfl) rfl (by rfl) ?_
  intro bw
  refine Seq.eff rfl rfl (Ef.markS (l := wordB) rfl rfl rfl rfl rfl (by decide) (by repeat (first | exact Pick.here | apply Pick.there))) ?_
  intro _
  refine Seq.on 200 ?_
  have h4 : (beB gen 4).length = 4 := beB_length _ 4
  refine Seq.bslice (out := [Value.slice (some ⟨bw, 0, none⟩) wordB.length 16, Value.slice r.1 (beB gen 4).length r.2]) rfl rfl rfl rfl rfl rfl rfl rfl (by rfl) rfl (by rfl) ?_
  intro bl
  have hfl : flatP [(some ⟨bw, 0, none⟩, 16, wordB), (r.1, r.2, beB gen 4)] = wordB ++ beB gen 4 := by simp [flatP]
  have hOf := Of_ok (some ⟨bl, 0, none⟩) [(some ⟨bw, 0, none⟩, 16, wordB), (r.1, r.2, beB gen 4)] 2 (by simp) (by simp) (by simp) (by rw [hfl]; simp [wordB, h4])
  rw [hfl] at hOf
  apply Seq.call (hOf) rfl rfl rfl rfl rfl rfl
  ·
    repeat (first | exact Picks.nil | (apply Picks.cons; · repeat (first | exact Pick.here | apply Pick.there)))
  · refine fun h hs => ⟨Tells.frame (D := Glob) (by repeat (first | exact Pick.here | apply Pick.there)) (fun _ _ => Glob.mono) hD h hs, ?_, fun x hx => ?_⟩
    · exact Tells.own (by repeat (first | exact Pick.here | apply Pick.there)) h hs
    · simp only [List.mem_cons, List.not_mem_nil, or_false] at hx
      rcases hx with rfl | rfl
      · exact Tells.read (a := some ⟨bw, 0, none⟩) (m := wordB.length) (xs := bytesV wordB) (by repeat (first | exact Pick.here | apply Pick.there)) h hs
      · exact Tells.own (by repeat (first | exact Pick.here | apply Pick.there)) h hs
  intro _
  have h32 := sumB_length (wordB ++ beB gen 4)
  have hman : manB gen = (beB gen 4 ++ (sumB (wordB ++ beB gen 4)).take 16) ++ List.replicate (64 - (beB gen 4 ++ (sumB (wordB ++ beB gen 4)).take 16).length) 0 := by
    have e : (beB gen 4 ++ (sumB (wordB ++ beB gen 4)).take 16).length = 20 := by simp [beB_length, h32]
    rw [e]
    rfl
  have hml := manB_length gen
  generalize manB gen = M at hman hml ⊢
  generalize sumB (wordB ++ beB gen 4) = H at h32 hman ⊢
  refine Seq.eff rfl rfl (Ef.alloc tab_zero rfl rfl) ?_
  intro b7
  refine Seq.storeAll rfl rfl rfl rfl rfl rfl (by repeat (first | exact Pick.here | apply Pick.there)) (by simp [Value.cells, bytesV, h32]) (Ones_bytesV _) rfl ?_
  refine Seq.on 200 ?_
  repeat (refine JL.flat ?_)
  refine JL.go 0 ?_
  refine Seq.eff rfl rfl (Ef.alloc tab_zero rfl rfl) ?_
  intro b8
  refine Seq.on 200 ?_
  repeat (refine JL.flat ?_)
  refine JL.draws (by kernel_rfl) (fun hR => ?_)
  refine Ord.on hR 200 ?_
  refine Ord.pure hR NP.nop rfl rfl rfl rfl (fun a w ha => run_sliceArr 0 64 rfl rfl rfl rfl rfl rfl rfl rfl (by omega) (by omega) a w ha) ?_
  refine Ord.set 28 (.slice (some ⟨b8, 0, none⟩) 64 64) rfl rfl ?_
  refine Ord.on hR 200 ?_
  refine Ord.pure hR NP.nop rfl rfl rfl rfl (fun a w ha => run_sliceArr 0 16 rfl rfl rfl rfl rfl rfl rfl rfl (by omega) (by omega) a w ha) ?_
  have h16 : (H.take 16).length = 16 := by simp [h32]
  refine Ord.set 30 (.slice (some ⟨b7, 0, none⟩) 16 32) rfl rfl ?_
  refine Ord.appendB (l := beB gen 4) (ys := H.take 16) hR rfl rfl rfl rfl rfl rfl rfl h16.symm rfl rfl rfl rfl rfl (by repeat (first | exact Pick.here | apply Pick.there)) (Tells.pick (A := pt b7 (.cells (bytesV H).toArray 70 (0, 0))) (by repeat (first | exact Pick.here | apply Pick.there)) (fun _ _ => BIn.mono) (fun h hx => by
      have := BIn.of_pt (lo := 0) (k := 16) (by omega) h hx
      simpa using this)) (by simp [h4, h32]) ?_ ?_
  · intro a' cap'
    repeat (first | exact Keep.nil | (refine Keep.load rfl rfl rfl (by repeat (first | exact Pick.here | apply Pick.there)) (by rfl) (by rfl) ?_) | (refine Keep.waits (by kernel_rfl) ?_))
  intro a' cap'
  have hl20 : (beB gen 4 ++ H.take 16).length = 20 := by simp [h4, h32]
  refine Ord.eff hR rfl rfl rfl rfl (Ef.copyB (c := bytesV (List.replicate 64 0)) (ys := beB gen 4 ++ H.take 16) rfl rfl rfl rfl rfl (by repeat (first | exact Pick.here | apply Pick.there)) (Tells.own (by repeat (first | exact Pick.here | apply Pick.there))) (by omega) (by rw [bytesV_length]; simp; omega)) (fun _ => ?_) (fun _ => ?_)
  ·
    repeat (first | exact Keep.nil | (refine Keep.load rfl rfl rfl (by repeat (first | exact Pick.here | apply Pick.there)) (by rfl) (by rfl) ?_) | (refine Keep.waits (by kernel_rfl) ?_))
  rw [over_zeros (by omega), ← hman]
  refine Ord.on hR 200 ?_
  repeat (refine JL.flat ?_)
  refine JL.go 200 ?_
  refine Seq.loadAll rfl rfl rfl rfl rfl rfl (by repeat (first | exact Pick.here | apply Pick.there)) (by simp [bytesV, hml]) ?_
  refine Seq.storeAll rfl rfl rfl rfl rfl rfl (by repeat (first | exact Pick.here | apply Pick.there)) (by simp [Value.cells, bytesV, hml]) (Ones_bytesV _) rfl ?_
  refine Seq.on 200 ?_
  refine JL.ret (At.doneC2 rfl () rfl rfl (Tells.all (by repeat (first | exact Pick.here | apply Pick.there))) (by simp [Value.cells, bytesV, hml]) rfl rfl rfl ?_)
  exact (Gives.sound (by repeat (first | exact Gives.nil | (apply Gives.cons; · repeat (first | exact Pick.here | apply Pick.there)))))
theorem proclaim_ok (d k : Nat) (L : Int → List UInt8) (m gen : Nat) (h : 4 ≤ k) (hg : gen < 4294967296) (hm : m ≤ 1000) : Trip Tryz.prog 164 [ptrV d, .int .u32 (gen : Int)] Glob [Dv d k L m] (X := Unit)
    (fun _ => .nilIface) (fun _ => [Dv d k (updL L ((gen % 2 : Nat) : Int) (manB gen)) 0]) := by
  refine Trip.start (n := 27) Tryz.func164 (by kernel_rfl) rfl rfl rfl ?_
  intro F w hD
  repeat (refine JL.flat ?_)
  refine JL.go 200 ?_
  repeat (refine JL.flat ?_)
  refine JL.go 200 ?_
  have hman := manifest_ok gen hg
  have hml := manB_length gen
  generalize manB gen = M at hman hml ⊢
  apply Seq.call (hman) rfl rfl rfl rfl rfl rfl
  ·
    repeat (first | exact Picks.nil | (apply Picks.cons; · repeat (first | exact Pick.here | apply Pick.there)))
  · exact Tells.frame (by repeat (first | exact Pick.here | apply Pick.there)) (fun _ _ => Glob.mono) hD
  intro _
  refine Seq.on 200 ?_
  refine Seq.eff rfl rfl (Ef.alloc tab_zero rfl rfl) ?_
  intro b5
  refine Seq.storeAll rfl rfl rfl rfl rfl rfl (by repeat (first | exact Pick.here | apply Pick.there)) (by simp [sec, Value.cells, bytesV, hml]) (Ones_bytesV _) rfl ?_
  refine Seq.on 200 ?_
  repeat (refine JL.flat ?_)
  refine JL.go 200 ?_
  repeat (refine JL.flat ?_)
  refine JL.ifF rfl ?_
  try refine JL.skip ?_
  repeat (refine JL.flat ?_)
  refine JL.go 4 ?_
  refine Seq.set 19 (.int .i64 ((gen % 2 : Nat) : Int)) rfl (congrArg (Value.int .i64) (by
    show IntKind.i64.wrap ((gen % 2 : Nat) : Int) = _
    exact wrapI (small63 (by omega)))) ?_
  refine Seq.loadAll rfl rfl rfl rfl rfl rfl (by repeat (first | exact Pick.here | apply Pick.there)) (by simp [sec, Value.cells, bytesV, hml]) ?_
  apply Seq.call (WriteV d k L m ((gen % 2 : Nat) : Int) M (by omega) (by omega) hml (by omega)) rfl rfl rfl rfl rfl rfl
  · repeat (first | exact Picks.nil | (apply Picks.cons; · repeat (first | exact Pick.here | apply Pick.there)))
  · exact Tells.none
  intro _
  refine Seq.on 200 ?_
  repeat (refine JL.flat ?_)
  refine JL.go 200 ?_
  repeat (refine JL.flat ?_)
  refine JL.ifF rfl ?_
  try refine JL.skip ?_
  repeat (refine JL.flat ?_)
  refine JL.go 200 ?_
  apply Seq.call (SyncV d k (updL L ((gen % 2 : Nat) : Int) M) (m + 1)) rfl rfl rfl rfl rfl rfl
  · repeat (first | exact Picks.nil | (apply Picks.cons; · repeat (first | exact Pick.here | apply Pick.there)))
  · exact Tells.none
  intro _
  refine Seq.on 200 ?_
  repeat (refine JL.flat ?_)
  refine JL.ret ?_
  repeat (first | refine At.then_ret ?_ | refine At.block_ret ?_)
  refine At.done1 rfl (()) rfl ?_
  exact (Gives.sound (by repeat (first | exact Gives.nil | (apply Gives.cons; · repeat (first | exact Pick.here | apply Pick.there)))))
def zeroL : Int → List UInt8 := fun _ => List.replicate 64 0
theorem zeroL_upd (n : Int) : updL zeroL n (List.replicate 64 0) = zeroL := by funext m; unfold updL zeroL; split <;> rfl
theorem zeroL_clean (first size gen used : Nat) (h : gen ≠ 0) : CleanL zeroL first size gen used := fun j _ _ => by
  show numB ((List.replicate 64 (0 : UInt8)).take 4) ≠ gen
  exact fun e => h e.symm
set_option maxHeartbeats 800000 in
theorem SwFormat_ok (d k m : Nat) (h : 4 ≤ k) (hk : k ≤ 16384) (hm : m ≤ 500) : Trip Tryz.prog 86 [ptrV d] Glob [Dv d k zeroL m] (X := Unit)
    (fun _ => .nilIface) (fun _ => [Dv d k (updL zeroL 1 (manB 1)) 0]) := by
  refine Trip.start (n := 49) Tryz.func86 (by kernel_rfl) rfl rfl rfl ?_
  intro F w hD
  repeat (refine JL.flat ?_)
  refine JL.go 200 ?_
  repeat (refine JL.flat ?_)
  refine JL.go 200 ?_
  apply Seq.call (fits_ok d k zeroL m h) rfl rfl rfl rfl rfl rfl
  · repeat (first | exact Picks.nil | (apply Picks.cons; · repeat (first | exact Pick.here | apply Pick.there)))
  · exact Tells.none
  intro _
  refine Seq.on 200 ?_
  repeat (refine JL.flat ?_)
  refine JL.go 200 ?_
  repeat (refine JL.flat ?_)
  refine JL.ifF rfl ?_
  try refine JL.skip ?_
  repeat (refine JL.flat ?_)
  refine JL.go 200 ?_
  repeat (refine JL.flat ?_)
  refine JL.block ?_
  refine JL.loop (X := {i : Nat // i ≤ 2}) ⟨0, by omega⟩ (fun i => [(0, ptrV d), (16, .int .i64 (i.1 : Int))]) (fun i => [Dv d k zeroL (m + i.1), F]) (fun i => 2 - i.1) ?_ ?_ ?_
  ·
    repeat (first | exact Sub.nil | refine Sub.cons rfl ?_)
  · exact (Gives.sound (by repeat (first | exact Gives.nil | (apply Gives.cons; · repeat (first | exact Pick.here | apply Pick.there)))))
  rintro ⟨i, hi⟩
  dsimp only
  repeat (refine JL.flat ?_)
  refine JL.go 200 ?_
  rcases Nat.lt_or_ge i 2 with hlt | hge
  · refine JL.set 17 (.bool true) rfl (congrArg Value.bool (by simp; omega)) ?_
    repeat (refine JL.flat ?_)
    refine JL.ifT rfl ?_
    try refine JL.skip ?_
    repeat (refine JL.flat ?_)
    refine JL.block ?_
    repeat (refine JL.flat ?_)
    refine JL.go 200 ?_
    repeat (refine JL.flat ?_)
    refine JL.go 200 ?_
    refine Seq.buildArr (parts := []) rfl rfl rfl rfl rfl rfl rfl rfl ?_
    refine Seq.set 21 (sec (List.replicate 64 0)) rfl rfl ?_
    apply Seq.call (WriteV d k zeroL (m + i) (i : Int) (List.replicate 64 0) (by omega) (by omega) (by simp) (by omega)) rfl rfl rfl rfl rfl rfl
    · repeat (first | exact Picks.nil | (apply Picks.cons; · repeat (first | exact Pick.here | apply Pick.there)))
    · exact Tells.none
    intro _
    rw [zeroL_upd]
    refine Seq.on 200 ?_
    repeat (refine JL.flat ?_)
    refine JL.go 200 ?_
    repeat (refine JL.flat ?_)
    refine JL.ifF rfl ?_
    try refine JL.skip ?_
    repeat (refine JL.flat ?_)
    refine JL.nil (At.block_normal (At.then_normal (JL.at ?_)))
    repeat (refine JL.flat ?_)
    refine JL.go 200 ?_
    refine JL.set 16 (.int .i64 ((i + 1 : Nat) : Int)) rfl (congrArg (Value.int .i64) (by rw [show (i : Int) + 1 = ((i + 1 : Nat) : Int) by omega]; exact wrapI (small63 (by omega)))) ?_
    repeat (refine JL.flat ?_)
    refine JL.nil (At.then_normal ?_)
    refine At.again (X := {i : Nat // i ≤ 2}) (x := ⟨i, hi⟩) ⟨i + 1, by omega⟩ (by show 2 - (i + 1) < 2 - i; omega) (Sub.look ?_) ?_
    ·
      repeat (first | exact Sub.nil | refine Sub.cons rfl ?_)
    · exact (Gives.sound (by repeat (first | exact Gives.nil | (apply Gives.cons; · repeat (first | exact Pick.here | apply Pick.there)))))
  · obtain rfl : i = 2 := by omega
    refine JL.set 17 (.bool false) rfl rfl ?_
    repeat (refine JL.flat ?_)
    refine JL.ifF rfl ?_
    try refine JL.skip ?_
    repeat (refine JL.flat ?_)
    refine JL.exit ?_
    repeat (first | refine At.then_exit ?_ | refine At.block_pass rfl ?_)
    refine At.block_exit (At.then_normal (JL.at ?_))
    repeat (refine JL.flat ?_)
    refine JL.go 200 ?_
    apply Seq.call (SyncV d k zeroL (m + 2)) rfl rfl rfl rfl rfl rfl
    · repeat (first | exact Picks.nil | (apply Picks.cons; · repeat (first | exact Pick.here | apply Pick.there)))
    · exact Tells.none
    intro _
    refine Seq.on 200 ?_
    repeat (refine JL.flat ?_)
    refine JL.go 200 ?_
    repeat (refine JL.flat ?_)
    refine JL.ifF rfl ?_
    try refine JL.skip ?_
    repeat (refine JL.flat ?_)
    refine JL.go 200 ?_
    have hp := place_ok d k zeroL 0 1 h hk
    apply Seq.call (hp) rfl rfl rfl rfl rfl rfl
    · repeat (first | exact Picks.nil | (apply Picks.cons; · repeat (first | exact Pick.here | apply Pick.there)))
    · exact Tells.none
    intro _
    refine Seq.on 200 ?_
    repeat (refine JL.flat ?_)
    refine JL.go 200 ?_
    apply Seq.call (FreshV d k zeroL 0 (2 + 1 % 2 * ((k - 2) / 2)) ((k - 2) / 2) 1 (by omega) (by omega) (by omega) (by omega) hk (zeroL_clean _ _ _ _ (by omega))) rfl rfl rfl rfl rfl rfl
    · repeat (first | exact Picks.nil | (apply Picks.cons; · repeat (first | exact Pick.here | apply Pick.there)))
    · exact Tells.none
    intro pl
    refine Seq.on 200 ?_
    repeat (refine JL.flat ?_)
    refine JL.go 200 ?_
    repeat (refine JL.flat ?_)
    refine JL.ifF rfl ?_
    try refine JL.skip ?_
    repeat (refine JL.flat ?_)
    refine JL.go 200 ?_
    apply Seq.call (proclaim_ok d k zeroL 0 1 h (by omega) (by omega)) rfl rfl rfl rfl rfl rfl
    ·
      repeat (first | exact Picks.nil | (apply Picks.cons; · repeat (first | exact Pick.here | apply Pick.there)))
    · exact Tells.frame (by repeat (first | exact Pick.here | apply Pick.there)) (fun _ _ => Glob.mono) hD
    intro _
    refine Seq.on 200 ?_
    repeat (refine JL.flat ?_)
    refine JL.ret ?_
    repeat (first | refine At.then_ret ?_ | refine At.block_ret ?_)
    refine At.done1 rfl (()) rfl ?_
    exact (Gives.sound (by repeat (first | exact Gives.nil | (apply Gives.cons; · repeat (first | exact Pick.here | apply Pick.there)))))
end Go.Ent
namespace Go.Ent
open Go Go.Proofs
def genOf (L : Int → List UInt8) (i : Nat) : Nat := numB ((L (i : Int)).take 4)
def bestN (L : Int → List UInt8) : Nat → Nat
  | 0 => 0
  | i + 1 => if L (i : Int) = manB (genOf L i) ∧ genOf L i % 2 = i then max (bestN L i) (genOf L i) else bestN L i
theorem genOf_lt {L : Int → List UInt8} {i : Nat} : genOf L i < 4294967296 := by
  have h := numB_lt ((L (i : Int)).take 4)
  have h2 : 256 ^ ((L (i : Int)).take 4).length ≤ 256 ^ 4 := Nat.pow_le_pow_right (by omega) (by simp; omega)
  have h3 : (256 : Nat) ^ 4 = 4294967296 := by decide
  unfold genOf
  omega
theorem bestN_lt {L : Int → List UInt8} : ∀ i, bestN L i < 4294967296
  | 0 => by simp [bestN]
  | i + 1 => by
    unfold bestN
    have := bestN_lt (L := L) i
    have := genOf_lt (L := L) (i := i)
    split <;> omega
set_option maxHeartbeats 1600000 in
theorem counts_ok (d k : Nat) (L : Int → List UInt8) (m : Nat) (h : 4 ≤ k) (hL : ∀ n, (L n).length = 64) : Trip Tryz.prog 165 [ptrV d] Glob [Dv d k L m] (X := Unit)
    (fun _ => .tuple #[.int .u32 (bestN L 2 : Int), .nilIface]) (fun _ => [Dv d k L m]) := by
  refine Trip.start (n := 49) Tryz.func165 (by kernel_rfl) rfl rfl rfl ?_
  intro F w hD
  repeat (refine JL.flat ?_)
  refine JL.go 200 ?_
  repeat (refine JL.flat ?_)
  refine JL.go 200 ?_
  repeat (refine JL.flat ?_)
  refine JL.go 200 ?_
  repeat (refine JL.flat ?_)
  refine JL.block ?_
  refine JL.loop (X := {i : Nat // i ≤ 2}) ⟨0, by omega⟩ (fun i => [(0, ptrV d), (4, .int .u32 (bestN L i.1 : Int)), (10, .int .i64 (i.1 : Int))]) (fun _ => [Dv d k L m, F]) (fun i => 2 - i.1) ?_ ?_ ?_
  ·
    repeat (first | exact Sub.nil | refine Sub.cons rfl ?_)
  · exact (Gives.sound (by repeat (first | exact Gives.nil | (apply Gives.cons; · repeat (first | exact Pick.here | apply Pick.there)))))
  rintro ⟨i, hi⟩
  dsimp only
  repeat (refine JL.flat ?_)
  refine JL.go 200 ?_
  rcases Nat.lt_or_ge i 2 with hlt | hge
  · refine JL.set 11 (.bool true) rfl (congrArg Value.bool (by simp; omega)) ?_
    repeat (refine JL.flat ?_)
    refine JL.ifT rfl ?_
    try refine JL.skip ?_
    repeat (refine JL.flat ?_)
    refine JL.block ?_
    have hbest : bestN L (i + 1) = if L (i : Int) = manB (genOf L i) ∧ genOf L i % 2 = i then max (bestN L i) (genOf L i) else bestN L i := rfl
    have hb1 := bestN_lt (L := L) i
    have hg1 := genOf_lt (L := L) (i := i)
    have hge : genOf L i = numB ((L (i : Int)).take 4) := rfl
    have hread := ReadV d k L m (i : Int) (by omega) (by omega)
    have h64 := hL (i : Int)
    generalize genOf L i = g at hbest hg1 hge
    generalize L (i : Int) = S at hbest hge hread h64
    generalize bestN L i = B at hbest hb1 ⊢
    repeat (refine JL.flat ?_)
    refine JL.go 200 ?_
    repeat (refine JL.flat ?_)
    refine JL.go 200 ?_
    apply Seq.call (hread) rfl rfl rfl rfl rfl rfl
    · repeat (first | exact Picks.nil | (apply Picks.cons; · repeat (first | exact Pick.here | apply Pick.there)))
    · exact Tells.none
    intro _
    refine Seq.on 200 ?_
    refine Seq.eff rfl rfl (Ef.alloc tab_zero rfl rfl) ?_
    intro b6
    refine Seq.storeAll rfl rfl rfl rfl rfl rfl (by repeat (first | exact Pick.here | apply Pick.there)) (by simp [sec, Value.cells, bytesV, h64]) (Ones_bytesV _) rfl ?_
    refine Seq.on 200 ?_
    repeat (refine JL.flat ?_)
    refine JL.go 200 ?_
    repeat (refine JL.flat ?_)
    refine JL.ifF rfl ?_
    try refine JL.skip ?_
    repeat (refine JL.flat ?_)
    refine JL.go 200 ?_
    refine Seq.sliceArrB 0 4 rfl rfl rfl rfl rfl rfl rfl rfl rfl rfl rfl (by omega) (by omega) ?_
    have hS4 : (S.take 4).length = 4 := by simp [h64]
    refine Seq.set 22 (.slice (some ⟨b6, 0, none⟩) (S.take 4).length 64) rfl (by rw [hS4]) ?_
    refine Seq.on 200 ?_
    apply Seq.call (From_ok (some ⟨b6, 0, none⟩) (S.take 4) 64 (by omega)) rfl rfl rfl rfl rfl rfl
    ·
      repeat (first | exact Picks.nil | (apply Picks.cons; · repeat (first | exact Pick.here | apply Pick.there)))
    · exact Tells.pick (A := pt b6 (.cells (bytesV S).toArray 298 (0, 0))) (by repeat (first | exact Pick.here | apply Pick.there)) (fun _ _ => BIn.mono) (fun h hx => by
        have := BIn.of_pt (lo := 0) (k := 4) (by omega) h hx
        simpa using this)
    intro pr
    refine Seq.on 200 ?_
    apply Seq.call (RNum_4 pr (S.take 4) (by omega) (by omega)) rfl rfl rfl rfl rfl rfl
    · repeat (first | exact Picks.nil | (apply Picks.cons; · repeat (first | exact Pick.here | apply Pick.there)))
    · exact Tells.none
    intro _
    rw [List.take_take, show min 4 4 = 4 from rfl, ← hge]
    refine Seq.on 1 ?_
    refine Seq.set 25 (.int .u32 (g : Int)) rfl (congrArg (Value.int .u32) (by
      simp only [IntKind.wrap, IntKind.signed, IntKind.bits, Bool.false_and, Bool.false_eq_true, if_false]
      omega)) ?_
    refine Seq.on 200 ?_
    repeat (refine JL.flat ?_)
    refine JL.go 200 ?_
    have hman := manifest_ok g hg1
    have hml := manB_length g
    generalize manB g = M at hman hml hbest
    apply Seq.call (hman) rfl rfl rfl rfl rfl rfl
    ·
      repeat (first | exact Picks.nil | (apply Picks.cons; · repeat (first | exact Pick.here | apply Pick.there)))
    · exact Tells.frame (by repeat (first | exact Pick.here | apply Pick.there)) (fun _ _ => Glob.mono) hD
    intro _
    refine Seq.on 200 ?_
    refine Seq.eff rfl rfl (Ef.alloc tab_zero rfl rfl) ?_
    intro b9
    refine Seq.storeAll rfl rfl rfl rfl rfl rfl (by repeat (first | exact Pick.here | apply Pick.there)) (by simp [sec, Value.cells, bytesV, hml]) (Ones_bytesV _) rfl ?_
    refine Seq.on 200 ?_
    repeat (refine JL.flat ?_)
    refine JL.go 200 ?_
    repeat (refine JL.flat ?_)
    refine JL.ifF rfl ?_
    try refine JL.skip ?_
    repeat (refine JL.flat ?_)
    refine JL.go 0 ?_
    refine Seq.loadAll rfl rfl rfl rfl rfl rfl (by repeat (first | exact Pick.here | apply Pick.there)) (by simp [sec, Value.cells, bytesV, h64]) ?_
    refine Seq.loadAll rfl rfl rfl rfl rfl rfl (by repeat (first | exact Pick.here | apply Pick.there)) (by simp [sec, Value.cells, bytesV, hml]) ?_
    refine Seq.yield rfl rfl (fun a w ha _ => run_eqB (l1 := S) (l2 := M) rfl rfl rfl rfl rfl (by kernel_rfl) (by kernel_rfl) h64 hml a w ha) ?_
    by_cases h1 : S = M
    · refine Seq.set 36 (.bool true) rfl (congrArg Value.bool (by simp [h1])) ?_
      refine Seq.on 5 ?_
      refine Seq.set 41 (.int .u32 (i : Int)) rfl (congrArg (Value.int .u32) (by
        simp only [IntKind.wrap, IntKind.signed, IntKind.bits, Bool.false_and, Bool.false_eq_true, if_false]
        omega)) ?_
      refine Seq.set 39 (.int .u32 ((g % 2 : Nat) : Int)) rfl rfl ?_
      refine Seq.on 1 ?_
      by_cases h2 : g % 2 = i
      · refine Seq.set 42 (.bool true) rfl (congrArg Value.bool (by simp [h2])) ?_
        refine Seq.on 200 ?_
        repeat (refine JL.flat ?_)
        refine JL.ifT rfl ?_
        try refine JL.skip ?_
        repeat (refine JL.flat ?_)
        refine JL.go 2 ?_
        refine Seq.yield rfl rfl (fun a w ha _ => run_maxInt rfl rfl rfl a w ha) ?_
        refine Seq.set 46 (.int .u32 (bestN L (i + 1) : Int)) rfl (congrArg (Value.int .u32) (by rw [hbest, if_pos (And.intro h1 h2)]; split <;> omega)) ?_
        refine Seq.on 200 ?_
        repeat (refine JL.flat ?_)
        refine JL.nil (At.block_normal (At.then_normal (JL.at ?_)))
        repeat (refine JL.flat ?_)
        refine JL.go 200 ?_
        refine JL.set 10 (.int .i64 ((i + 1 : Nat) : Int)) rfl (congrArg (Value.int .i64) (by rw [show (i : Int) + 1 = ((i + 1 : Nat) : Int) by omega]; exact wrapI (small63 (by omega)))) ?_
        repeat (refine JL.flat ?_)
        refine JL.nil (At.then_normal ?_)
        refine At.again (X := {i : Nat // i ≤ 2}) (x := ⟨i, hi⟩) ⟨i + 1, by omega⟩ (by show 2 - (i + 1) < 2 - i; omega) (Sub.look ?_) ?_
        ·
          repeat (first | exact Sub.nil | refine Sub.cons rfl ?_)
        · exact (Gives.sound (by repeat (first | exact Gives.nil | (apply Gives.cons; · repeat (first | exact Pick.here | apply Pick.there)))))
      · have hB : B = bestN L (i + 1) := by rw [hbest, if_neg (fun q => h2 q.2)]
        refine Seq.set 42 (.bool false) rfl (congrArg Value.bool (by simp; omega)) ?_
        refine Seq.set 4 (.int .u32 (bestN L (i + 1) : Int)) rfl (by rw [hB]) ?_
        refine Seq.on 200 ?_
        repeat (refine JL.flat ?_)
        refine JL.ifF rfl ?_
        try refine JL.skip ?_
        repeat (refine JL.flat ?_)
        refine JL.nil (At.block_normal (At.then_normal (JL.at ?_)))
        repeat (refine JL.flat ?_)
        refine JL.go 200 ?_
        refine JL.set 10 (.int .i64 ((i + 1 : Nat) : Int)) rfl (congrArg (Value.int .i64) (by rw [show (i : Int) + 1 = ((i + 1 : Nat) : Int) by omega]; exact wrapI (small63 (by omega)))) ?_
        repeat (refine JL.flat ?_)
        refine JL.nil (At.then_normal ?_)
        refine At.again (X := {i : Nat // i ≤ 2}) (x := ⟨i, hi⟩) ⟨i + 1, by omega⟩ (by show 2 - (i + 1) < 2 - i; omega) (Sub.look ?_) ?_
        ·
          repeat (first | exact Sub.nil | refine Sub.cons rfl ?_)
        · exact (Gives.sound (by repeat (first | exact Gives.nil | (apply Gives.cons; · repeat (first | exact Pick.here | apply Pick.there)))))
    · have hB : B = bestN L (i + 1) := by rw [hbest, if_neg (fun q => h1 q.1)]
      refine Seq.set 36 (.bool false) rfl (congrArg Value.bool (by simp [h1])) ?_
      refine Seq.set 4 (.int .u32 (bestN L (i + 1) : Int)) rfl (by rw [hB]) ?_
      refine Seq.on 200 ?_
      repeat (refine JL.flat ?_)
      refine JL.ifF rfl ?_
      try refine JL.skip ?_
      repeat (refine JL.flat ?_)
      refine JL.nil (At.block_normal (At.then_normal (JL.at ?_)))
      repeat (refine JL.flat ?_)
      refine JL.go 200 ?_
      refine JL.set 10 (.int .i64 ((i + 1 : Nat) : Int)) rfl (congrArg (Value.int .i64) (by rw [show (i : Int) + 1 = ((i + 1 : Nat) : Int) by omega]; exact wrapI (small63 (by omega)))) ?_
      repeat (refine JL.flat ?_)
      refine JL.nil (At.then_normal ?_)
      refine At.again (X := {i : Nat // i ≤ 2}) (x := ⟨i, hi⟩) ⟨i + 1, by omega⟩ (by show 2 - (i + 1) < 2 - i; omega) (Sub.look ?_) ?_
      ·
        repeat (first | exact Sub.nil | refine Sub.cons rfl ?_)
      · exact (Gives.sound (by repeat (first | exact Gives.nil | (apply Gives.cons; · repeat (first | exact Pick.here | apply Pick.there)))))
  · obtain rfl : i = 2 := by omega
    refine JL.set 11 (.bool false) rfl rfl ?_
    repeat (refine JL.flat ?_)
    refine JL.ifF rfl ?_
    try refine JL.skip ?_
    repeat (refine JL.flat ?_)
    refine JL.exit ?_
    repeat (first | refine At.then_exit ?_ | refine At.block_pass rfl ?_)
    refine At.block_exit (At.then_normal (JL.at ?_))
    repeat (refine JL.flat ?_)
    refine JL.go 200 ?_
    repeat (refine JL.flat ?_)
    refine JL.ret ?_
    repeat (first | refine At.then_ret ?_ | refine At.block_ret ?_)
    refine At.done2 rfl (()) rfl rfl rfl ?_
    exact (Gives.sound (by repeat (first | exact Gives.nil | (apply Gives.cons; · repeat (first | exact Pick.here | apply Pick.there)))))
/-- a store. -/
def Sto (s d l t gen : Nat) : Assn := pt s (.cells [ptrV d, ptrV l, ptrV t, .int .u32 (gen : Int), .bool false].toArray 242 (0, 0))
def firstN (k gen : Nat) : Nat := 2 + gen % 2 * ((k - 2) / 2)
def sizeN (k : Nat) : Nat := (k - 2) / 2
theorem first_fits {k gen : Nat} (h : 4 ≤ k) : firstN k gen + sizeN k ≤ k := by
  unfold firstN sizeN
  have hg2 : gen % 2 < 2 := Nat.mod_lt _ (by omega)
  have := Nat.mul_le_mul_right ((k - 2) / 2) (show gen % 2 ≤ 1 by omega)
  omega
/-- a store and all that is its own. -/
def SwpA (s d k : Nat) (L : Int → List UInt8) (m gen used : Nat) (tag : List UInt8) (f : Tf) (r : Nat × Nat) : List Assn := [Sto s d r.1 r.2 gen, Lg r.1 d (firstN k gen) (sizeN k) gen used tag, Dv d k L m, Tbl r.2 f]
def Swp (s d k : Nat) (L : Int → List UInt8) (m gen used : Nat) (tag : List UInt8) (f : Tf) : Assn := exA (SwpA s d k L m gen used tag f)
structure Batch (l : List Cc) : Prop where
  pos : 1 ≤ l.length
  le : l.length ≤ 600
  right : ∀ x ∈ l, x.right
  vals : ∀ x ∈ l, x.2.2 = false → 0 < x.2.1.length
def tabOf (bs : List (List Cc)) : Tf := bs.foldl applyT noT
theorem tabOf_take (bs : List (List Cc)) (i : Nat) (h : i < bs.length) : tabOf (bs.take (i + 1)) = applyT (tabOf (bs.take i)) bs[i] := by
  rw [List.take_succ_eq_append_getElem h]; unfold tabOf; rw [List.foldl_append]; rfl
set_option maxHeartbeats 1600000 in
theorem SwOpen_ok (d k : Nat) (L : Int → List UInt8) (m : Nat) (bs : List (List Cc)) (h : 4 ≤ k) (hk : k ≤ 16384) (hL : ∀ n, (L n).length = 64) (hb : ∀ b ∈ bs, Batch b) (hg0 : bestN L 2 ≠ 0)
    (hr : Recs L (firstN k (bestN L 2)) (sizeN k) (bestN L 2) (bs.map putB)) : Trip Tryz.prog 87 [ptrV d] Glob [Dv d k L m] (X := Nat)
    (fun s => .tuple #[ptrV s, .nilIface]) (fun s => [Swp s d k L m (bestN L 2) (uAt (bestN L 2) (bs.map putB)) (tAt (bestN L 2) (bs.map putB)) (tabOf bs)]) := by
  have hg := bestN_lt (L := L) 2
  have hcounts := counts_ok d k L m h hL
  generalize bestN L 2 = gen at hg0 hr hg hcounts ⊢
  refine Trip.start (n := 84) Tryz.func87 (by kernel_rfl) rfl rfl rfl ?_
  intro F w hD
  repeat (refine JL.flat ?_)
  refine JL.go 200 ?_
  repeat (refine JL.flat ?_)
  refine JL.go 200 ?_
  apply Seq.call (fits_ok d k L m h) rfl rfl rfl rfl rfl rfl
  · repeat (first | exact Picks.nil | (apply Picks.cons; · repeat (first | exact Pick.here | apply Pick.there)))
  · exact Tells.none
  intro _
  refine Seq.on 200 ?_
  repeat (refine JL.flat ?_)
  refine JL.go 200 ?_
  repeat (refine JL.flat ?_)
  refine JL.ifF rfl ?_
  try refine JL.skip ?_
  repeat (refine JL.flat ?_)
  refine JL.go 200 ?_
  apply Seq.call (hcounts) rfl rfl rfl rfl rfl rfl
  ·
    repeat (first | exact Picks.nil | (apply Picks.cons; · repeat (first | exact Pick.here | apply Pick.there)))
  · exact Tells.frame (by repeat (first | exact Pick.here | apply Pick.there)) (fun _ _ => Glob.mono) hD
  intro _
  refine Seq.on 200 ?_
  repeat (refine JL.flat ?_)
  refine JL.block ?_
  repeat (refine JL.flat ?_)
  refine JL.go 200 ?_
  repeat (refine JL.flat ?_)
  refine JL.ifF rfl ?_
  try refine JL.skip ?_
  repeat (refine JL.flat ?_)
  refine JL.go 200 ?_
  refine JL.set 31 (.bool false) rfl (congrArg Value.bool (by
    show ((gen : Int) == ((0 : Nat) : Int)) = false
    rw [int_beq]; exact beq_eq_false_iff_ne.2 hg0)) ?_
  repeat (refine JL.flat ?_)
  refine JL.ifF rfl ?_
  try refine JL.skip ?_
  repeat (refine JL.flat ?_)
  refine JL.nil (At.block_normal (At.then_normal (JL.at ?_)))
  repeat (refine JL.flat ?_)
  refine JL.go 200 ?_
  apply Seq.call (place_ok d k L m gen h hk) rfl rfl rfl rfl rfl rfl
  · repeat (first | exact Picks.nil | (apply Picks.cons; · repeat (first | exact Pick.here | apply Pick.there)))
  · exact Tells.none
  intro _
  refine Seq.on 200 ?_
  repeat (refine JL.flat ?_)
  refine JL.go 200 ?_
  have hN : (bs.map putB).length = bs.length := by simp
  have hop := Open_ok d k L m (firstN k gen) (sizeN k) gen (bs.map putB) (by unfold sizeN; omega) (first_fits h) hg0 hk hg hr
  apply Seq.call (hop) rfl rfl rfl rfl rfl rfl
  ·
    repeat (first | exact Picks.nil | (apply Picks.cons; · repeat (first | exact Pick.here | apply Pick.there)))
  · exact Tells.frame (by repeat (first | exact Pick.here | apply Pick.there)) (fun _ _ => Glob.mono) hD
  rintro ⟨pl, q, ⟨ps, hps⟩⟩
  have hpl : ps.length = bs.length := by
    have := congrArg List.length hps
    simpa using this
  dsimp only
  rw [hN]
  refine Seq.on 200 ?_
  repeat (refine JL.flat ?_)
  refine JL.go 200 ?_
  repeat (refine JL.flat ?_)
  refine JL.ifF rfl ?_
  try refine JL.skip ?_
  repeat (refine JL.flat ?_)
  refine JL.go 200 ?_
  apply Seq.call (New_tbl) rfl rfl rfl rfl rfl rfl
  · repeat (first | exact Picks.nil | (apply Picks.cons; · repeat (first | exact Pick.here | apply Pick.there)))
  · exact Tells.none
  intro t
  refine Seq.on 200 ?_
  refine Seq.yield rfl rfl (Yl.build rfl rfl rfl rfl rfl) ?_
  refine Seq.eff rfl rfl (Ef.box rfl rfl) ?_
  intro s
  refine Seq.on 200 ?_
  repeat (refine JL.flat ?_)
  refine JL.go 200 ?_
  repeat (refine JL.flat ?_)
  refine JL.block ?_
  have hbl : bs.length ≤ 100000 := by
    have := hr.fits
    have aux : ∀ i, i ≤ (bs.map putB).length → i ≤ uAt gen ((bs.map putB).take i) := by
      intro i
      induction i with
      | zero => intro _; exact Nat.zero_le _
      | succ i ih =>
        intro hi
        have := ih (by omega)
        rw [(uAt_take gen (bs.map putB) i hi).1]
        have : 1 ≤ sectorsN (bs.map putB)[i].length := by unfold sectorsN; omega
        omega
    have := aux _ (Nat.le_refl _)
    rw [List.take_length] at this
    have : (endR gen (0, List.replicate 16 0) (bs.map putB)).1 ≤ sizeN k := hr.fits
    unfold sizeN at this
    simp only [List.length_map] at *
    unfold uAt at *
    omega
  refine JL.loop (X := {i : Nat // i ≤ bs.length}) ⟨0, by omega⟩ (fun i => [(11, ptrV s), (59, .slice q.1 bs.length q.2), (60, .int .i64 (bs.length : Int)), (61, .int .i64 (i.1 : Int))])
    (fun i => [Tbl t (tabOf (bs.take i.1)), Sto s d pl t gen, SlOwn 177 1 q.1 bs.length q.2 (ps.map pieceV), PiecesB ps, Lg pl d (firstN k gen) (sizeN k) gen (uAt gen (bs.map putB)) (tAt gen (bs.map putB)), Dv d k L m, F]) (fun i => bs.length - i.1) ?_ ?_ ?_
  ·
    repeat (first | exact Sub.nil | refine Sub.cons rfl ?_)
  · exact (Gives.sound (by repeat (first | exact Gives.nil | (apply Gives.cons; · repeat (first | exact Pick.here | apply Pick.there)))))
  rintro ⟨i, hi⟩
  dsimp only
  repeat (refine JL.flat ?_)
  refine JL.go 200 ?_
  rcases Nat.lt_or_ge i bs.length with hlt | hge
  · refine JL.set 62 (.bool true) rfl (congrArg Value.bool (by simp; omega)) ?_
    repeat (refine JL.flat ?_)
    refine JL.ifT rfl ?_
    try refine JL.skip ?_
    repeat (refine JL.flat ?_)
    refine JL.block ?_
    have hltp : i < ps.length := by omega
    have hbi := hb bs[i] (List.getElem_mem hlt)
    have hpi : ps[i].2.2 = putB bs[i] := by
      have e := congrArg (fun l => l[i]?) hps
      simp only [List.getElem?_map, hlt, hltp, List.getElem?_eq_getElem, Option.map_some, Option.some.injEq] at e
      exact e
    have htk := tabOf_take bs i hlt
    generalize tabOf (bs.take i) = f0 at htk ⊢
    repeat (refine JL.flat ?_)
    refine JL.go 200 ?_
    refine Seq.idx (xs := ps.map pieceV) i rfl rfl rfl rfl rfl rfl rfl (Tells.own (by repeat (first | exact Pick.here | apply Pick.there))) hlt ?_
    intro bb off hc
    refine Seq.load (v := .slice ps[i].1 (putB bs[i]).length ps[i].2.1) rfl rfl rfl rfl rfl hc (by show (Ent.sub (ps.map pieceV) (i * 1) 1).length = 1; rw [sub_pieces hltp]; rfl) (by show valOf false (Ent.sub (ps.map pieceV) (i * 1) 1) = _; rw [sub_pieces hltp, ← hpi]; rfl) ?_
    refine Seq.on 200 ?_
    repeat (refine JL.flat ?_)
    refine JL.go 200 ?_
    have hTp : ∀ {G G' : List Assn}, Pick (PiecesB ps) G G' → Tells G (BIn ps[i].1 (putB bs[i])) := fun pk => Tells.pick pk (fun _ _ => BIn.mono) (fun h hx => by rw [← hpi]; exact hx _ (List.getElem_mem hltp))
    apply Seq.call (Parse_ok ps[i].1 bs[i] ps[i].2.1 hbi.pos hbi.le hbi.right hbi.vals) rfl rfl rfl rfl rfl rfl
    ·
      repeat (first | exact Picks.nil | (apply Picks.cons; · repeat (first | exact Pick.here | apply Pick.there)))
    · exact hTp (by repeat (first | exact Pick.here | apply Pick.there))
    rintro ⟨q2, ⟨chs, hch⟩⟩
    have hcl : chs.length = bs[i].length := by
      have := congrArg List.length hch
      simpa using this
    dsimp only
    refine Seq.on 200 ?_
    repeat (refine JL.flat ?_)
    refine JL.go 200 ?_
    repeat (refine JL.flat ?_)
    refine JL.ifF rfl ?_
    try refine JL.skip ?_
    repeat (refine JL.flat ?_)
    refine JL.go 200 ?_
    apply Seq.loadLit rfl rfl rfl rfl rfl
    · repeat (first | exact Pick.here | apply Pick.there)
    · rfl
    · rfl
    refine Seq.on 200 ?_
    have happ := Apply_ok t f0 q2.1 chs q2.2 (by have := hbi.pos; omega) (by have := hbi.le; omega) (fun x hx => hbi.right _ (by rw [← hch]; exact List.mem_map.2 ⟨x, hx, rfl⟩))
    rw [hcl, hch] at happ
    apply Seq.call (happ) rfl rfl rfl rfl rfl rfl
    ·
      repeat (first | exact Picks.nil | (apply Picks.cons; · repeat (first | exact Pick.here | apply Pick.there)))
    · intro h hs
      refine ⟨?_, Tells.pick (A := ChsB chs) (by repeat (first | exact Pick.here | apply Pick.there)) (fun _ _ => ChsB.mono) (fun _ h => h) h hs⟩
      have := Tells.own (e := 179) (k := 3) (a := q2.1) (m := bs[i].length) (cap := q2.2) (xs := chs.flatMap chL) (by repeat (first | exact Pick.here | apply Pick.there)) h hs
      rw [hcl]
      exact this
    intro _
    rw [← htk]
    refine Seq.on 200 ?_
    repeat (refine JL.flat ?_)
    refine JL.go 200 ?_
    repeat (refine JL.flat ?_)
    refine JL.ifF rfl ?_
    try refine JL.skip ?_
    repeat (refine JL.flat ?_)
    refine JL.nil (At.block_normal (At.then_normal (JL.at ?_)))
    repeat (refine JL.flat ?_)
    refine JL.go 200 ?_
    refine JL.set 61 (.int .i64 ((i + 1 : Nat) : Int)) rfl (congrArg (Value.int .i64) (by rw [show (i : Int) + 1 = ((i + 1 : Nat) : Int) by omega]; exact wrapI (small63 (by omega)))) ?_
    repeat (refine JL.flat ?_)
    refine JL.nil (At.then_normal ?_)
    refine At.again (X := {i : Nat // i ≤ bs.length}) (x := ⟨i, hi⟩) ⟨i + 1, by omega⟩ (by show bs.length - (i + 1) < bs.length - i; omega) (Sub.look ?_) ?_
    ·
      repeat (first | exact Sub.nil | refine Sub.cons rfl ?_)
    · exact (Gives.sound (by repeat (first | exact Gives.nil | (apply Gives.cons; · repeat (first | exact Pick.here | apply Pick.there)))))
  · obtain rfl : i = bs.length := by omega
    refine JL.set 62 (.bool false) rfl (congrArg Value.bool (by simp)) ?_
    rw [List.take_length]
    repeat (refine JL.flat ?_)
    refine JL.ifF rfl ?_
    try refine JL.skip ?_
    repeat (refine JL.flat ?_)
    refine JL.exit ?_
    repeat (first | refine At.then_exit ?_ | refine At.block_pass rfl ?_)
    refine At.block_exit (At.then_normal (JL.at ?_))
    repeat (refine JL.flat ?_)
    refine JL.go 200 ?_
    repeat (refine JL.flat ?_)
    refine JL.ret ?_
    repeat (first | refine At.then_ret ?_ | refine At.block_ret ?_)
    refine At.done2 rfl (s) rfl rfl rfl ?_
    exact Gives.sound (Gives.ex (pl, t) (by repeat (first | exact Gives.nil | (apply Gives.cons; · repeat (first | exact Pick.here | apply Pick.there)))))
end Go.Ent
namespace Go.Ent
open Go Go.Proofs
theorem Is_nil (n : Int) : Trip Tryz.prog 220 [.nilIface, errV n] none_ [] (X := Unit) (fun _ => .bool false) (fun _ => []) := by
  refine Trip.start (n := 22) Tryz.func220 (by kernel_rfl) rfl rfl rfl ?_
  intro F w hD
  unfold errV
  repeat (refine JL.flat ?_)
  refine JL.go 200 ?_
  repeat (refine JL.flat ?_)
  refine JL.go 200 ?_
  repeat (refine JL.flat ?_)
  refine JL.ifT rfl ?_
  try refine JL.skip ?_
  repeat (refine JL.flat ?_)
  refine JL.go 200 ?_
  repeat (refine JL.flat ?_)
  refine JL.ret ?_
  repeat (first | refine At.then_ret ?_ | refine At.block_ret ?_)
  refine At.done1 rfl (()) rfl ?_
  exact (Gives.sound (by repeat (first | exact Gives.nil | (apply Gives.cons; · repeat (first | exact Pick.here | apply Pick.there)))))
theorem append_ok (s d l t k : Nat) (L : Int → List UInt8) (m gen used : Nat) (tag : List UInt8) (a : Option Addr) (b : List UInt8) (c : Nat) (hb1 : 1 ≤ b.length) (hb2 : b.length ≤ 65536) (h4 : 4 ≤ k) (hk : k ≤ 16384) (hg : gen < 4294967296) (ht : tag.length = 16) (hr : used + sectorsN b.length ≤ sizeN k) (hm : m ≤ 1000) :
    Trip Tryz.prog 145 [ptrV s, .slice a b.length c] (fun h => Glob h ∧ BIn a b h) [Sto s d l t gen, Lg l d (firstN k gen) (sizeN k) gen used tag, Dv d k L m] (X := Unit)
    (fun _ => .nilIface) (fun _ => [Sto s d l t gen, Lg l d (firstN k gen) (sizeN k) gen (used + sectorsN b.length) (tagB tag gen b), Dv d k (wrL L (firstN k gen) used gen (frameB tag gen b) (sectorsN b.length)) (m + sectorsN b.length)]) := by
  refine Trip.start (n := 29) Tryz.func145 (by kernel_rfl) rfl rfl rfl ?_
  intro F w hD
  repeat (refine JL.flat ?_)
  refine JL.go 200 ?_
  repeat (refine JL.flat ?_)
  refine JL.go 200 ?_
  apply Seq.loadLit rfl rfl rfl rfl rfl
  · repeat (first | exact Pick.here | apply Pick.there)
  · rfl
  · rfl
  refine Seq.on 200 ?_
  apply Seq.call (Append_ok l d k L m (firstN k gen) (sizeN k) gen used tag a b c hb1 hb2 (first_fits h4) hk hg ht hr hm) rfl rfl rfl rfl rfl rfl
  ·
    repeat (first | exact Picks.nil | (apply Picks.cons; · repeat (first | exact Pick.here | apply Pick.there)))
  · exact Tells.frame (by repeat (first | exact Pick.here | apply Pick.there)) (fun _ _ hk x => ⟨x.1.mono hk, BIn.mono hk x.2⟩) hD
  intro _
  refine Seq.on 200 ?_
  repeat (refine JL.flat ?_)
  refine JL.go 200 ?_
  apply Seq.call (Is_nil 8) rfl rfl rfl rfl rfl rfl
  · repeat (first | exact Picks.nil | (apply Picks.cons; · repeat (first | exact Pick.here | apply Pick.there)))
  · exact Tells.none
  intro _
  refine Seq.on 200 ?_
  repeat (refine JL.flat ?_)
  refine JL.ifT rfl ?_
  try refine JL.skip ?_
  repeat (refine JL.flat ?_)
  refine JL.go 200 ?_
  repeat (refine JL.flat ?_)
  refine JL.ret ?_
  repeat (first | refine At.then_ret ?_ | refine At.block_ret ?_)
  refine At.done1 rfl (()) rfl ?_
  exact (Gives.sound (by repeat (first | exact Gives.nil | (apply Gives.cons; · repeat (first | exact Pick.here | apply Pick.there)))))
set_option maxHeartbeats 800000 in
theorem Commit_ok (s d k : Nat) (L : Int → List UInt8) (m gen used : Nat) (tag : List UInt8) (f : Tf) (a : Option Addr) (l : List Ch) (c : Nat) (h1 : 1 ≤ l.length) (h2 : l.length ≤ 600) (hr : ∀ x ∈ l, x.cc.right) (hb2 : (putB (l.map Ch.cc)).length ≤ 65536) (h4 : 4 ≤ k) (hk : k ≤ 16384) (hg : gen < 4294967296) (ht : tag.length = 16)
    (hroom : used + sectorsN (putB (l.map Ch.cc)).length ≤ sizeN k) (hm : m ≤ 1000) :
    Trip Tryz.prog 80 [ptrV s, .slice a l.length c] (fun h => Glob h ∧ Chs a l h) [Swp s d k L m gen used tag f] (X := Unit)
    (fun _ => .nilIface) (fun _ => [Swp s d k (wrL L (firstN k gen) used gen (frameB tag gen (putB (l.map Ch.cc))) (sectorsN (putB (l.map Ch.cc)).length)) 0 gen (used + sectorsN (putB (l.map Ch.cc)).length) (tagB tag gen (putB (l.map Ch.cc))) (applyT f (l.map Ch.cc))]) := by
  have hb1 : 1 ≤ (putB (l.map Ch.cc)).length := by simp [putB, beB_length]; omega
  refine Trip.start (n := 56) Tryz.func80 (by kernel_rfl) rfl rfl rfl ?_
  intro F w hD
  have hDc : ∀ {G G' : List Assn}, Pick F G G' → Tells G (Chs a l) := fun pk => Tells.frame pk (fun _ _ => Chs.mono) (fun h hF => (hD h hF).2)
  have hDg : ∀ {G G' : List Assn}, Pick F G G' → Tells G Glob := fun pk => Tells.frame pk (fun _ _ => Glob.mono) (fun h hF => (hD h hF).1)
  refine JL.open ?_
  rintro ⟨lg, t⟩
  repeat (refine JL.flat ?_)
  refine JL.go 200 ?_
  repeat (refine JL.flat ?_)
  refine JL.go 200 ?_
  repeat (refine JL.flat ?_)
  refine JL.ifF rfl ?_
  try refine JL.skip ?_
  repeat (refine JL.flat ?_)
  refine JL.go 200 ?_
  have hput := Put_ok a l c h1 h2 hr
  have happ := Apply_ok t f a l c h1 h2 hr
  generalize putB (l.map Ch.cc) = PB at hb1 hb2 hroom hput ⊢
  apply Seq.call (hput) rfl rfl rfl rfl rfl rfl
  ·
    repeat (first | exact Picks.nil | (apply Picks.cons; · repeat (first | exact Pick.here | apply Pick.there)))
  · exact hDc (by repeat (first | exact Pick.here | apply Pick.there))
  intro r
  refine Seq.on 200 ?_
  repeat (refine JL.flat ?_)
  refine JL.block ?_
  repeat (refine JL.flat ?_)
  refine JL.go 200 ?_
  repeat (refine JL.flat ?_)
  refine JL.ifF rfl ?_
  try refine JL.skip ?_
  repeat (refine JL.flat ?_)
  refine JL.go 200 ?_
  apply Seq.loadLit rfl rfl rfl rfl rfl
  · repeat (first | exact Pick.here | apply Pick.there)
  · rfl
  · rfl
  refine Seq.on 200 ?_
  repeat (refine JL.flat ?_)
  refine JL.ifF rfl ?_
  try refine JL.skip ?_
  repeat (refine JL.flat ?_)
  refine JL.go 200 ?_
  refine JL.set 27 (.bool false) rfl (congrArg Value.bool (by simp; omega)) ?_
  repeat (refine JL.flat ?_)
  refine JL.ifF rfl ?_
  try refine JL.skip ?_
  repeat (refine JL.flat ?_)
  refine JL.nil (At.block_normal (At.then_normal (JL.at ?_)))
  repeat (refine JL.flat ?_)
  refine JL.go 200 ?_
  apply Seq.call (append_ok s d lg t k L m gen used tag r.1 PB r.2 hb1 hb2 h4 hk hg ht hroom hm) rfl rfl rfl rfl rfl rfl
  ·
    repeat (first | exact Picks.nil | (apply Picks.cons; · repeat (first | exact Pick.here | apply Pick.there)))
  · exact fun h hs => ⟨hDg (by repeat (first | exact Pick.here | apply Pick.there)) h hs, Tells.own (by repeat (first | exact Pick.here | apply Pick.there)) h hs⟩
  intro _
  refine Seq.on 200 ?_
  repeat (refine JL.flat ?_)
  refine JL.go 200 ?_
  repeat (refine JL.flat ?_)
  refine JL.ifF rfl ?_
  try refine JL.skip ?_
  repeat (refine JL.flat ?_)
  refine JL.go 200 ?_
  apply Seq.loadLit rfl rfl rfl rfl rfl
  · repeat (first | exact Pick.here | apply Pick.there)
  · rfl
  · rfl
  refine Seq.on 200 ?_
  apply Seq.call (SyncV d k (wrL L (firstN k gen) used gen (frameB tag gen PB) (sectorsN PB.length)) (m + sectorsN PB.length)) rfl rfl rfl rfl rfl rfl
  · repeat (first | exact Picks.nil | (apply Picks.cons; · repeat (first | exact Pick.here | apply Pick.there)))
  · exact Tells.none
  intro _
  refine Seq.on 200 ?_
  repeat (refine JL.flat ?_)
  refine JL.go 200 ?_
  repeat (refine JL.flat ?_)
  refine JL.ifF rfl ?_
  try refine JL.skip ?_
  repeat (refine JL.flat ?_)
  refine JL.go 200 ?_
  apply Seq.loadLit rfl rfl rfl rfl rfl
  · repeat (first | exact Pick.here | apply Pick.there)
  · rfl
  · rfl
  refine Seq.on 200 ?_
  apply Seq.call (happ) rfl rfl rfl rfl rfl rfl
  ·
    repeat (first | exact Picks.nil | (apply Picks.cons; · repeat (first | exact Pick.here | apply Pick.there)))
  · exact hDc (by repeat (first | exact Pick.here | apply Pick.there))
  intro _
  refine Seq.on 200 ?_
  repeat (refine JL.flat ?_)
  refine JL.ret ?_
  repeat (first | refine At.then_ret ?_ | refine At.block_ret ?_)
  refine At.done1 rfl (()) rfl ?_
  exact Gives.sound (Gives.ex (lg, t) (by repeat (first | exact Gives.nil | (apply Gives.cons; · repeat (first | exact Pick.here | apply Pick.there)))))
theorem SwGet_ok (s d k : Nat) (L : Int → List UInt8) (m gen used : Nat) (tag : List UInt8) (f : Tf) (a : Option Addr) (q : List UInt8) (c : Nat) : Trip Tryz.prog 88 [ptrV s, .slice a q.length c] (BIn a q) [Swp s d k L m gen used tag f] (X := Option Addr × Nat)
    (fun r => .tuple #[.slice r.1 ((f q).getD []).length r.2, .bool (f q).isSome]) (fun r => [BOwn r ((f q).getD []), Swp s d k L m gen used tag f]) := by
  refine Trip.start (n := 16) Tryz.func88 (by kernel_rfl) rfl rfl rfl ?_
  intro F w hD
  refine JL.open ?_
  rintro ⟨lg, t⟩
  repeat (refine JL.flat ?_)
  refine JL.go 200 ?_
  repeat (refine JL.flat ?_)
  refine JL.go 200 ?_
  repeat (refine JL.flat ?_)
  refine JL.ifF rfl ?_
  try refine JL.skip ?_
  repeat (refine JL.flat ?_)
  refine JL.go 200 ?_
  apply Seq.loadLit rfl rfl rfl rfl rfl
  · repeat (first | exact Pick.here | apply Pick.there)
  · rfl
  · rfl
  refine Seq.on 200 ?_
  apply Seq.call (Get_ok t f a q c) rfl rfl rfl rfl rfl rfl
  ·
    repeat (first | exact Picks.nil | (apply Picks.cons; · repeat (first | exact Pick.here | apply Pick.there)))
  · exact Tells.frame (by repeat (first | exact Pick.here | apply Pick.there)) (fun _ _ => BIn.mono) hD
  intro r
  refine Seq.on 200 ?_
  repeat (refine JL.flat ?_)
  refine JL.ret ?_
  repeat (first | refine At.then_ret ?_ | refine At.block_ret ?_)
  refine At.done2 rfl (r) rfl rfl rfl ?_
  exact Gives.sound (by apply Gives.cons; (repeat (first | exact Pick.here | apply Pick.there)); exact Gives.ex (lg, t) (by repeat (first | exact Gives.nil | (apply Gives.cons; · repeat (first | exact Pick.here | apply Pick.there)))))
/-- a table and its copy: they share their values. -/
def Tbl2A (t u : Nat) (f : Tf) (r : Nat × Nat × (List UInt8 → Option Value)) : List Assn := [pt t (.cells [Value.map (some r.1)].toArray 323 (0, 0)), MapOf mkS r.1 r.2.2, pt u (.cells [Value.map (some r.2.1)].toArray 323 (0, 0)), MapOf mkS r.2.1 r.2.2, Vals r.2.2 f]
def Tbl2 (t u : Nat) (f : Tf) : Assn := exA (Tbl2A t u f)
theorem mclone_ok (b : Nat) (g : List UInt8 → Option Value) : Trip Tryz.prog 247 [.map (some b)] none_ [MapOf mkS b g] (X := Nat) (fun r => .map (some r)) (fun r => [MapOf mkS r g, MapOf mkS b g]) := by
  refine Trip.start (n := 9) Tryz.func247 (by kernel_rfl) rfl rfl rfl ?_
  intro F w hD
  repeat (refine JL.flat ?_)
  refine JL.go 200 ?_
  repeat (refine JL.flat ?_)
  refine JL.go 200 ?_
  repeat (refine JL.flat ?_)
  refine JL.ifF rfl ?_
  try refine JL.skip ?_
  repeat (refine JL.flat ?_)
  refine JL.go 200 ?_
  refine Seq.eff rfl rfl (Ef.mapsClone (mk := mkS) (g := g) rfl rfl rfl Tryz.func230 (by kernel_rfl) rfl (by kernel_rfl) (by kernel_rfl) (Tells.map (by repeat (first | exact Pick.here | apply Pick.there)))) ?_
  intro r
  refine Seq.yield rfl rfl (fun a w ha _ => run_assertT rfl rfl (tab_ok.map rfl) rfl a w ha) ?_
  refine Seq.on 200 ?_
  repeat (refine JL.flat ?_)
  refine JL.ret ?_
  repeat (first | refine At.then_ret ?_ | refine At.block_ret ?_)
  refine At.done1 rfl (r) rfl ?_
  exact (Gives.sound (by repeat (first | exact Gives.nil | (apply Gives.cons; · repeat (first | exact Pick.here | apply Pick.there)))))
theorem Copy_tbl (t : Nat) (f : Tf) : Trip Tryz.prog 175 [ptrV t] none_ [Tbl t f] (X := Nat) (fun u => ptrV u) (fun u => [Tbl2 t u f]) := by
  refine Trip.start (n := 12) Tryz.func175 (by kernel_rfl) rfl rfl rfl ?_
  intro F w hD
  refine JL.open ?_
  rintro ⟨b, g⟩
  repeat (refine JL.flat ?_)
  refine JL.go 200 ?_
  repeat (refine JL.flat ?_)
  refine JL.go 200 ?_
  repeat (refine JL.flat ?_)
  refine JL.ifF rfl ?_
  try refine JL.skip ?_
  repeat (refine JL.flat ?_)
  refine JL.go 200 ?_
  apply Seq.loadLit rfl rfl rfl rfl rfl
  · repeat (first | exact Pick.here | apply Pick.there)
  · rfl
  · rfl
  refine Seq.on 200 ?_
  apply Seq.call (mclone_ok b g) rfl rfl rfl rfl rfl rfl
  · repeat (first | exact Picks.nil | (apply Picks.cons; · repeat (first | exact Pick.here | apply Pick.there)))
  · exact Tells.none
  intro b2
  refine Seq.yield rfl rfl (Yl.build rfl rfl rfl rfl rfl) ?_
  refine Seq.eff rfl rfl (Ef.box rfl rfl) ?_
  intro u
  refine Seq.on 200 ?_
  repeat (refine JL.flat ?_)
  refine JL.ret ?_
  repeat (first | refine At.then_ret ?_ | refine At.block_ret ?_)
  refine At.done1 rfl (u) rfl ?_
  exact Gives.sound (Gives.ex (b, b2, g) (by repeat (first | exact Gives.nil | (apply Gives.cons; · repeat (first | exact Pick.here | apply Pick.there)))))
theorem Table_ok (s d k : Nat) (L : Int → List UInt8) (m gen used : Nat) (tag : List UInt8) (f : Tf) : Trip Tryz.prog 93 [ptrV s] none_ [Swp s d k L m gen used tag f] (X := Nat × Nat × Nat) (fun u => ptrV u.1)
    (fun u => [Tbl2 u.2.2 u.1 f, Sto s d u.2.1 u.2.2 gen, Lg u.2.1 d (firstN k gen) (sizeN k) gen used tag, Dv d k L m]) := by
  refine Trip.start (n := 10) Tryz.func93 (by kernel_rfl) rfl rfl rfl ?_
  intro F w hD
  refine JL.open ?_
  rintro ⟨lg, t⟩
  repeat (refine JL.flat ?_)
  refine JL.go 200 ?_
  repeat (refine JL.flat ?_)
  refine JL.go 200 ?_
  repeat (refine JL.flat ?_)
  refine JL.ifF rfl ?_
  try refine JL.skip ?_
  repeat (refine JL.flat ?_)
  refine JL.go 200 ?_
  apply Seq.loadLit rfl rfl rfl rfl rfl
  · repeat (first | exact Pick.here | apply Pick.there)
  · rfl
  · rfl
  refine Seq.on 200 ?_
  apply Seq.call (Copy_tbl t f) rfl rfl rfl rfl rfl rfl
  · repeat (first | exact Picks.nil | (apply Picks.cons; · repeat (first | exact Pick.here | apply Pick.there)))
  · exact Tells.none
  intro u
  refine Seq.on 200 ?_
  repeat (refine JL.flat ?_)
  refine JL.ret ?_
  repeat (first | refine At.then_ret ?_ | refine At.block_ret ?_)
  refine At.done1 rfl ((u, lg, t)) rfl ?_
  exact (Gives.sound (by repeat (first | exact Gives.nil | (apply Gives.cons; · repeat (first | exact Pick.here | apply Pick.there)))))
end Go.Ent
namespace Go.Ent
open Go Go.Proofs
theorem Trip.ofCalls {P : Program} {f : FuncId} {args : List Value} {v : Value} (ok : Callable P f) (h : ∀ w, Calls P f args.toArray w fun e w' => e = .returned v ∧ w' = w) : Trip P f args none_ [] (X := Unit) (fun _ => v) (fun _ => []) :=
  ⟨ok, fun F w _ hs => (h w).mono fun e w' he => by
    obtain ⟨rfl, rfl⟩ := he
    exact ⟨(), rfl, hs, Same.refl _⟩⟩
theorem Len64_ok (x : Nat) (h : x < 18446744073709551616) : Trip Tryz.prog 99 [.int .u64 (x : Int)] none_ [] (X := Unit) (fun _ => .int .i64 (Lib.bitLen x : Int)) (fun _ => []) :=
  Trip.ofCalls ⟨_, Tryz.func99, by kernel_rfl, rfl⟩ fun w => by
    have := Tryz.bits_Len64 (x : Int) w (by omega) (by omega)
    simpa using this
theorem At.doneMT {n : Nat} {w0 : World} {E : Env} {G : List Assn} {fn : Func} {q : Nat} {t : Tmp} {X : Type} {r : X → Value} {B : X → List Assn} {F : Assn} {G' : List Assn} (hr : fn.results = #[.tmp t]) (x : X) (pk : Pick (pt q (.deferred (some []))) G G')
    (hv : look E t = some (r x)) (hG : ∀ h, sep (pt q (.deferred none) :: G') h → sep (B x ++ [F]) h) :
    At n ⟨[{ target := .collected q, args := #[] }], none⟩ w0 E G (bodyPostM (fen fz0) 0 Tryz.prog fn (fun e w' => ∃ x, e = .returned (r x) ∧ St w0 (B x ++ [F]) w') .ret) := At.doneM x pk (fun a w ha hw => by
  rw [results_tmp hr]
  simp [ha.get t _ hv]) hG
theorem At.doneMT' {n : Nat} {w0 : World} {E : Env} {G : List Assn} {fn : Func} {q : Nat} {t : Tmp} {X : Type} {r : X → Value} {B : X → List Assn} {F : Assn} {G' : List Assn} (hr : fn.results = #[.tmp t]) (x : X) (pk : Pick (pt q (.deferred (some []))) G G')
    (hv : look E t = some (r x)) (hG : ∀ h, sep (pt q (.deferred none) :: G') h → sep (B x ++ [F]) h) :
    At n ⟨[{ target := .collected q, args := #[] }], none⟩ w0 E G (bodyPostM (fen fz0) 0 Tryz.prog fn (fun e w' => ∃ x, e = .returned (r x) ∧ St w0 (B x ++ [F]) w') .normal) := ⟨(At.doneMT hr x pk hv hG).run⟩
set_option maxHeartbeats 800000 in
theorem Keys_iter (b1 b : Nat) (g : List UInt8 → Option Value) (k : List UInt8) (hk : ∀ q, (∃ v, g q = some v) ↔ q = k) :
    IterC Tryz.prog 303 [ptrV b1] [pt b1 (.cells #[.map (some b)] 321 (0, 0)), MapOf mkS b g] 1 (Y := Unit) (fun _ _ => [mkS k]) (fun _ _ => [])
      [pt b1 (.cells #[.map (some b)] 321 (0, 0)), MapOf mkS b g] := ⟨fun lp I X hY => by
  refine Trip.start (n := 14) Tryz.func303 (by kernel_rfl) rfl rfl rfl ?_
  intro F w hD
  refine JL.to [pt b1 (.cells #[.map (some b)] 321 (0, 0)), MapOf mkS b g, sep (I 0), F] (fun h hs => sep_pack (I := I 0) (A := [pt b1 (.cells #[.map (some b)] 321 (0, 0)), MapOf mkS b g]) (B := [F]) hs) ?_
  repeat (refine JL.flat ?_)
  refine JL.go 200 ?_
  apply Seq.loadLit rfl rfl rfl rfl rfl
  · repeat (first | exact Pick.here | apply Pick.there)
  · rfl
  · rfl
  refine Seq.on 200 ?_
  refine Seq.eff rfl rfl (Ef.range mkS_inj rfl rfl rfl (by repeat (first | exact Pick.here | apply Pick.there))) ?_
  rintro ⟨⟨r, left⟩, hnd, hin⟩
  have hleft : left = [k] := by
    have hnd' : left.Nodup := hnd
    have hin' : ∀ q, q ∈ left ↔ ∃ v, g q = some v := hin
    match left, hnd', hin' with
    | [], _, hin' => exact ((hin' k).2 ((hk k).2 rfl) |> fun h => by cases h)
    | [x], _, hin' =>
      have := (hk x).1 ((hin' x).1 (by simp))
      rw [this]
    | x :: y :: l, hnd', hin' =>
      have h1 := (hk x).1 ((hin' x).1 (by simp))
      have h2 := (hk y).1 ((hin' y).1 (by simp))
      subst h1
      subst h2
      simp at hnd'
  subst hleft
  obtain ⟨v0, hv0⟩ := (hk k).2 rfl
  refine Seq.on 200 ?_
  repeat (refine JL.flat ?_)
  refine JL.block ?_
  refine JL.loop (X := {i : Nat // i ≤ 1}) ⟨0, by omega⟩ (fun i => [(0, .func (.yield lp) #[] #[]), (5, ptrV r)]) (fun i => [Iter mkS r b g (if i.1 = 0 then [k] else []), pt b1 (.cells #[.map (some b)] 321 (0, 0)), sep (I i.1), F]) (fun i => 1 - i.1) ?_ ?_ ?_
  ·
    repeat (first | exact Sub.nil | refine Sub.cons rfl ?_)
  · exact (Gives.sound (by repeat (first | exact Gives.nil | (apply Gives.cons; · repeat (first | exact Pick.here | apply Pick.there)))))
  rintro ⟨i, hi⟩
  dsimp only
  repeat (refine JL.flat ?_)
  refine JL.go 0 ?_
  refine Seq.eff rfl rfl (Ef.next mkS_inj rfl rfl (by repeat (first | exact Pick.here | apply Pick.there))) ?_
  rintro ⟨q, hq⟩
  cases q with
  | none =>
    have hi1 : i = 1 := by
      rcases Nat.eq_zero_or_pos i with h0 | h0
      · subst h0
        have hq' : (if 0 = 0 then [k] else []) = [] := hq
        simp at hq'
      · omega
    subst hi1
    refine Seq.on 200 ?_
    repeat (refine JL.flat ?_)
    refine JL.ifF rfl ?_
    try refine JL.skip ?_
    repeat (refine JL.flat ?_)
    refine JL.exit ?_
    repeat (first | refine At.then_exit ?_ | refine At.block_pass rfl ?_)
    refine At.block_exit (At.then_normal (JL.at ?_))
    repeat (refine JL.flat ?_)
    refine JL.nil ?_
    refine At.done0 rfl true rfl (fun h hs => ?_)
    have hs1 := (Gives.sound (L := [pt b1 (.cells #[.map (some b)] 321 (0, 0)), Iter mkS r b g [], sep (I 1), F]) (by repeat (first | exact Gives.nil | (apply Gives.cons; · repeat (first | exact Pick.here | apply Pick.there))))) h hs
    have hs2 : sep [pt b1 (.cells #[.map (some b)] 321 (0, 0)), MapOf mkS b g, sep (I 1), F] h := star_mono (fun _ h => h) (fun _ h => star_mono (fun _ h => Iter.map _ h) (fun _ h => h) h) hs1
    exact sep_unpack (I := I 1) (A := [pt b1 (.cells #[.map (some b)] 321 (0, 0)), MapOf mkS b g]) (B := [F]) hs2
  | some k' =>
    have hi0 : i = 0 ∧ k' = k := by
      have h1 : k' ∈ (if i = 0 then [k] else []) := hq.1
      split at h1
      · rename_i h0; simp at h1; exact ⟨h0, h1⟩
      · cases h1
    obtain ⟨rfl, rfl⟩ := hi0
    simp only [if_true, hv0, Option.getD_some, List.erase_cons_head]
    refine Seq.on 200 ?_
    repeat (refine JL.flat ?_)
    refine JL.ifT rfl ?_
    try refine JL.skip ?_
    repeat (refine JL.flat ?_)
    refine JL.block ?_
    repeat (refine JL.flat ?_)
    refine JL.go 200 ?_
    refine Seq.yield rfl rfl (Yl.entry rfl rfl (by repeat (first | exact Pick.here | apply Pick.there)) hv0) ?_
    refine Seq.on 200 ?_
    repeat (refine JL.flat ?_)
    refine JL.go 200 ?_
    refine Seq.eff rfl rfl (Ef.yield (G' := [IterAt mkS r b g [] k', pt b1 (.cells #[.map (some b)] 321 (0, 0)), F]) rfl rfl rfl (hY 0 (by omega) ()) (fun h hs => ?_)) ?_
    · have h1 := sep_unpack (I := I 0) (A := [IterAt mkS r b g [] k', pt b1 (.cells #[.map (some b)] 321 (0, 0))]) (B := [F]) hs
      have h2 : star (sep (I 0)) (sep ([IterAt mkS r b g [] k', pt b1 (.cells #[.map (some b)] 321 (0, 0))] ++ [F])) h := by
        rw [List.append_assoc] at h1
        exact sep_append h1
      rw [List.append_nil]
      exact append_sep h2
    intro bb
    cases bb with
    | false =>
      refine Seq.on 200 ?_
      repeat (refine JL.flat ?_)
      refine JL.ifT rfl ?_
      try refine JL.skip ?_
      repeat (refine JL.flat ?_)
      refine JL.ret ?_
      repeat (first | refine At.then_ret ?_ | refine At.block_ret ?_)
      exact ⟨(At.done0 rfl false rfl (fun h hs => by
        have h2 := sep_append hs
        exact append_sep (star_mono (fun _ h => h) (fun h hs => (Gives.sound (L := [F]) (by repeat (first | exact Gives.nil | (apply Gives.cons; · repeat (first | exact Pick.here | apply Pick.there))))) h hs) h2))).run⟩
    | true =>
      refine Seq.to [IterAt mkS r b g [] k', pt b1 (.cells #[.map (some b)] 321 (0, 0)), sep (I (0 + 1)), F] (fun h hs => ?_) ?_
      · exact sep_pack (I := I (0 + 1)) (A := [IterAt mkS r b g [] k', pt b1 (.cells #[.map (some b)] 321 (0, 0))]) (B := [F]) (by rw [List.append_assoc]; exact hs)
      refine Seq.on 200 ?_
      repeat (refine JL.flat ?_)
      refine JL.ifF rfl ?_
      try refine JL.skip ?_
      repeat (refine JL.flat ?_)
      refine JL.nil (At.block_normal (At.then_normal (JL.at ?_)))
      repeat (refine JL.flat ?_)
      refine JL.nil (At.then_normal ?_)
      refine At.again (X := {i : Nat // i ≤ 1}) (x := ⟨0, hi⟩) ⟨0 + 1, by omega⟩ (by show 1 - (0 + 1) < 1 - 0; omega) (Sub.look ?_) ?_
      ·
        repeat (first | exact Sub.nil | refine Sub.cons rfl ?_)
      · intro h hs
        have hs1 := (Gives.sound (L := [IterAt mkS r b g [] k', pt b1 (.cells #[.map (some b)] 321 (0, 0)), sep (I (0 + 1)), F]) (by repeat (first | exact Gives.nil | (apply Gives.cons; · repeat (first | exact Pick.here | apply Pick.there))))) h hs
        exact star_mono (fun _ h => IterAt.iter _ h) (fun _ h => h) hs1⟩
theorem AppendSeq_ok (b1 b : Nat) (g : List UInt8 → Option Value) (k : List UInt8) (hk : ∀ q, (∃ v, g q = some v) ↔ q = k) : Trip Tryz.prog 327 [.slice none 0 0, .func (.func 303) #[] #[ptrV b1]] none_
    [pt b1 (.cells #[.map (some b)] 321 (0, 0)), MapOf mkS b g] (X := Option Addr × Nat) (fun r => .slice r.1 1 r.2) (fun r => [SlOwn 9 1 r.1 1 r.2 [mkS k], pt b1 (.cells #[.map (some b)] 321 (0, 0)), MapOf mkS b g]) := by
  refine Trip.startM (n := 13) Tryz.func327 (by kernel_rfl) rfl rfl rfl ?_
  intro F w hD
  repeat (refine JL.flat ?_)
  refine JL.go 0 ?_
  refine Seq.eff rfl rfl (Ef.box rfl rfl) ?_
  intro b2
  refine Seq.on 200 ?_
  repeat (refine JL.flat ?_)
  refine JL.go 200 ?_
  repeat (refine JL.flat ?_)
  refine JL.block ?_
  refine JL.of (J.rangeFunc (cap := [ptrV b1]) rfl rfl (Keys_iter b1 b g k hk) rfl (fun _ _ => rfl)
    (fun i => [exA (fun q : Option Addr × Nat => [pt b2 (.cells [Value.slice q.1 i q.2].toArray 319 (0, 0)), SlOwn 9 1 q.1 i q.2 (List.replicate i (mkS k))]), F]) [fun _ => False] none (fun _ h s => ?_) ?_
    (fun i y => [(2, ptrV b2), (5, mkS k)]) ?_ ?_ ?_ ?_)
  · obtain ⟨_, _, _, _, _, h, _⟩ := s
    exact h
  · intro h hs
    have hs1 := (Gives.sound (L := [pt b2 (.cells #[.slice none 0 0] 319 (0, 0)), F, pt b1 (.cells #[.map (some b)] 321 (0, 0)), MapOf mkS b g]) (by repeat (first | exact Gives.nil | (apply Gives.cons; · repeat (first | exact Pick.here | apply Pick.there))))) h hs
    exact exA_in (A := fun q : Option Addr × Nat => [pt b2 (.cells [Value.slice q.1 0 q.2].toArray 319 (0, 0)), SlOwn 9 1 q.1 0 q.2 (List.replicate 0 (mkS k))]) (none, 0) (star_mono (fun _ h => h) (fun h hs => sep_pure (SlOwn.nil _ _) hs) hs1)
  · intro i y l' G' w1
    refine JL.start ?_
    repeat (refine JL.flat ?_)
    refine JL.go 200 ?_
    refine JL.nil (At.then_normal ⟨fun a w ha hw => ⟨ha.weaken (Sub.look ?_), hw⟩⟩)
    repeat (first | exact Sub.nil | refine Sub.cons rfl ?_)
  · intro i hi y l' r' F' w1
    refine JL.start ?_
    refine JL.open ?_
    rintro ⟨a, cap⟩
    repeat (refine JL.flat ?_)
    refine JL.block ?_
    repeat (refine JL.flat ?_)
    refine JL.go 200 ?_
    apply Seq.loadLit rfl rfl rfl rfl rfl
    · repeat (first | exact Pick.here | apply Pick.there)
    · rfl
    · rfl
    refine Seq.on 200 ?_
    refine Seq.bslice (out := [mkS k]) rfl rfl rfl rfl rfl rfl rfl rfl (by rfl) rfl (by rfl) ?_
    intro bx
    refine Seq.append rfl rfl rfl rfl rfl rfl rfl rfl rfl (by repeat (first | exact Pick.here | apply Pick.there)) (Tells.own (by repeat (first | exact Pick.here | apply Pick.there))) (fun u hu => by simp at hu; subst hu; rfl) (by unfold maxLen; omega) (by omega) ?_
    intro a' cap'
    apply Seq.storeLit rfl rfl rfl rfl rfl rfl
    · repeat (first | exact Pick.here | apply Pick.there)
    · rfl
    · rfl
    · rfl
    refine Seq.on 200 ?_
    refine JL.nil (At.block_normal (At.then_normal ⟨fun a w ha hw => ⟨?_, hw.same⟩⟩))
    have hs1 := (Gives.sound (L := [pt b2 _, SlOwn 9 1 a' (i + 1) cap' (List.replicate i (mkS k) ++ [mkS k]), F, pt l' (.loop r'), F']) (by repeat (first | exact Gives.nil | (apply Gives.cons; · repeat (first | exact Pick.here | apply Pick.there))))) _ hw.sep
    rw [← List.replicate_succ'] at hs1
    exact exA_in (A := fun q : Option Addr × Nat => [pt b2 (.cells [Value.slice q.1 (i + 1) q.2].toArray 319 (0, 0)), SlOwn 9 1 q.1 (i + 1) q.2 (List.replicate (i + 1) (mkS k))]) (a', cap') hs1
  · intro q l' k'
    refine At.then_normal (At.block_normal (At.then_normal (JL.at' rfl ?_)))
    refine JL.open ?_
    rintro ⟨a, cap⟩
    repeat (refine JL.flat ?_)
    refine JL.go 200 ?_
    apply Seq.loadLit rfl rfl rfl rfl rfl
    · repeat (first | exact Pick.here | apply Pick.there)
    · rfl
    · rfl
    refine Seq.on 200 ?_
    refine JL.ret ?_
    refine At.doneMT rfl (a, cap) (by repeat (first | exact Pick.here | apply Pick.there)) rfl ?_
    exact (Gives.sound (by repeat (first | exact Gives.nil | (apply Gives.cons; · repeat (first | exact Pick.here | apply Pick.there)))))
  · intro r' l' k' c' hc'
    cases hc'
theorem Collect_ok (b1 b : Nat) (g : List UInt8 → Option Value) (k : List UInt8) (hk : ∀ q, (∃ v, g q = some v) ↔ q = k) : Trip Tryz.prog 301 [.func (.func 303) #[] #[ptrV b1]] none_
    [pt b1 (.cells #[.map (some b)] 321 (0, 0)), MapOf mkS b g] (X := Option Addr × Nat) (fun r => .slice r.1 1 r.2) (fun r => [SlOwn 9 1 r.1 1 r.2 [mkS k], pt b1 (.cells #[.map (some b)] 321 (0, 0)), MapOf mkS b g]) := by
  refine Trip.start (n := 5) Tryz.func301 (by kernel_rfl) rfl rfl rfl ?_
  intro F w hD
  repeat (refine JL.flat ?_)
  refine JL.go 200 ?_
  repeat (refine JL.flat ?_)
  refine JL.go 200 ?_
  apply Seq.call (AppendSeq_ok b1 b g k hk) rfl rfl rfl rfl rfl rfl
  · repeat (first | exact Picks.nil | (apply Picks.cons; · repeat (first | exact Pick.here | apply Pick.there)))
  · exact Tells.none
  intro r
  refine Seq.on 200 ?_
  repeat (refine JL.flat ?_)
  refine JL.ret ?_
  repeat (first | refine At.then_ret ?_ | refine At.block_ret ?_)
  refine At.done1 rfl (r) rfl ?_
  exact (Gives.sound (by repeat (first | exact Gives.nil | (apply Gives.cons; · repeat (first | exact Pick.here | apply Pick.there)))))
theorem ins1_ok (a : Option Addr) (c : Nat) : Trip Tryz.prog 332 [.slice a 1 c, .int .i64 0, .int .i64 1] none_ [] (X := Unit) (fun _ => .tuple #[]) (fun _ => []) := by
  refine Trip.start (n := 49) Tryz.func332 (by kernel_rfl) rfl rfl rfl ?_
  intro F w hD
  repeat (refine JL.flat ?_)
  refine JL.go 200 ?_
  repeat (refine JL.flat ?_)
  refine JL.block ?_
  refine JL.loop (X := Unit) () (fun _ => [(6, .int .i64 1), (2, .int .i64 1)]) (fun _ => [F]) (fun _ => 0) ?_ ?_ ?_
  ·
    repeat (first | exact Sub.nil | refine Sub.cons rfl ?_)
  · exact (Gives.sound (by repeat (first | exact Gives.nil | (apply Gives.cons; · repeat (first | exact Pick.here | apply Pick.there)))))
  intro _
  repeat (refine JL.flat ?_)
  refine JL.go 200 ?_
  repeat (refine JL.flat ?_)
  refine JL.ifF rfl ?_
  try refine JL.skip ?_
  repeat (refine JL.flat ?_)
  refine JL.exit ?_
  repeat (first | refine At.then_exit ?_ | refine At.block_pass rfl ?_)
  refine At.block_exit (At.then_normal (JL.at ?_))
  repeat (refine JL.flat ?_)
  first | refine JL.ret ?_ | refine JL.nil ?_
  repeat (first | refine At.then_ret ?_ | refine At.block_ret ?_)
  refine At.done0 rfl (()) rfl ?_
  exact (Gives.sound (by repeat (first | exact Gives.nil | (apply Gives.cons; · repeat (first | exact Pick.here | apply Pick.there)))))
theorem pdq1_ok (a : Option Addr) (c : Nat) (lim : Int) : Trip Tryz.prog 328 [.slice a 1 c, .int .i64 0, .int .i64 1, .int .i64 lim] none_ [] (X := Unit) (fun _ => .tuple #[]) (fun _ => []) := by
  refine Trip.start (n := 134) Tryz.func328 (by kernel_rfl) rfl rfl rfl ?_
  intro F w hD
  repeat (refine JL.flat ?_)
  refine JL.go 200 ?_
  repeat (refine JL.flat ?_)
  refine JL.go 200 ?_
  repeat (refine JL.flat ?_)
  refine JL.block ?_
  refine JL.loop (X := Unit) () (fun _ => [(0, .slice a 1 c), (1, .int .i64 0), (2, .int .i64 1)]) (fun _ => [F]) (fun _ => 0) ?_ ?_ ?_
  ·
    repeat (first | exact Sub.nil | refine Sub.cons rfl ?_)
  · exact (Gives.sound (by repeat (first | exact Gives.nil | (apply Gives.cons; · repeat (first | exact Pick.here | apply Pick.there)))))
  intro _
  repeat (refine JL.flat ?_)
  refine JL.block ?_
  repeat (refine JL.flat ?_)
  refine JL.go 200 ?_
  repeat (refine JL.flat ?_)
  refine JL.go 200 ?_
  repeat (refine JL.flat ?_)
  refine JL.ifT rfl ?_
  try refine JL.skip ?_
  repeat (refine JL.flat ?_)
  refine JL.go 200 ?_
  apply Seq.call (ins1_ok a c) rfl rfl rfl rfl rfl rfl
  · repeat (first | exact Picks.nil | (apply Picks.cons; · repeat (first | exact Pick.here | apply Pick.there)))
  · exact Tells.none
  intro _
  refine Seq.on 200 ?_
  repeat (refine JL.flat ?_)
  first | refine JL.ret ?_ | refine JL.nil ?_
  repeat (first | refine At.then_ret ?_ | refine At.block_ret ?_)
  refine At.done0 rfl (()) rfl ?_
  exact (Gives.sound (by repeat (first | exact Gives.nil | (apply Gives.cons; · repeat (first | exact Pick.here | apply Pick.there)))))
theorem Len_ok64 (x : Nat) (h : x < 18446744073709551616) : Trip Tryz.prog 229 [.int .u64 (x : Int)] none_ [] (X := Unit) (fun _ => .int .i64 (Lib.bitLen x : Int)) (fun _ => []) := by
  refine Trip.start (n := 8) Tryz.func229 (by kernel_rfl) rfl rfl rfl ?_
  intro F w hD
  repeat (refine JL.flat ?_)
  refine JL.go 200 ?_
  repeat (refine JL.flat ?_)
  refine JL.ifF rfl ?_
  try refine JL.skip ?_
  repeat (refine JL.flat ?_)
  refine JL.go 200 ?_
  apply Seq.call (Len64_ok x h) rfl rfl rfl rfl rfl rfl
  · repeat (first | exact Picks.nil | (apply Picks.cons; · repeat (first | exact Pick.here | apply Pick.there)))
  · exact Tells.none
  intro _
  refine Seq.on 200 ?_
  repeat (refine JL.flat ?_)
  refine JL.ret ?_
  repeat (first | refine At.then_ret ?_ | refine At.block_ret ?_)
  refine At.done1 rfl (()) rfl ?_
  exact (Gives.sound (by repeat (first | exact Gives.nil | (apply Gives.cons; · repeat (first | exact Pick.here | apply Pick.there)))))
theorem Sort1_ok (a : Option Addr) (c : Nat) : Trip Tryz.prog 302 [.slice a 1 c] none_ [] (X := Unit) (fun _ => .tuple #[]) (fun _ => []) := by
  refine Trip.start (n := 11) Tryz.func302 (by kernel_rfl) rfl rfl rfl ?_
  intro F w hD
  repeat (refine JL.flat ?_)
  refine JL.go 200 ?_
  repeat (refine JL.flat ?_)
  refine JL.go 200 ?_
  apply Seq.call (Len_ok64 1 (by omega)) rfl rfl rfl rfl rfl rfl
  · repeat (first | exact Picks.nil | (apply Picks.cons; · repeat (first | exact Pick.here | apply Pick.there)))
  · exact Tells.none
  intro _
  refine Seq.on 200 ?_
  apply Seq.call (pdq1_ok a c (Lib.bitLen 1 : Int)) rfl rfl rfl rfl rfl rfl
  · repeat (first | exact Picks.nil | (apply Picks.cons; · repeat (first | exact Pick.here | apply Pick.there)))
  · exact Tells.none
  intro _
  refine Seq.on 200 ?_
  repeat (refine JL.flat ?_)
  first | refine JL.ret ?_ | refine JL.nil ?_
  repeat (first | refine At.then_ret ?_ | refine At.block_ret ?_)
  refine At.done0 rfl (()) rfl ?_
  exact (Gives.sound (by repeat (first | exact Gives.nil | (apply Gives.cons; · repeat (first | exact Pick.here | apply Pick.there)))))
theorem Sorted_ok (b1 b : Nat) (g : List UInt8 → Option Value) (k : List UInt8) (hk : ∀ q, (∃ v, g q = some v) ↔ q = k) : Trip Tryz.prog 248 [.func (.func 303) #[] #[ptrV b1]] none_
    [pt b1 (.cells #[.map (some b)] 321 (0, 0)), MapOf mkS b g] (X := Option Addr × Nat) (fun r => .slice r.1 1 r.2) (fun r => [SlOwn 9 1 r.1 1 r.2 [mkS k], pt b1 (.cells #[.map (some b)] 321 (0, 0)), MapOf mkS b g]) := by
  refine Trip.start (n := 9) Tryz.func248 (by kernel_rfl) rfl rfl rfl ?_
  intro F w hD
  repeat (refine JL.flat ?_)
  refine JL.go 200 ?_
  repeat (refine JL.flat ?_)
  refine JL.go 200 ?_
  apply Seq.call (Collect_ok b1 b g k hk) rfl rfl rfl rfl rfl rfl
  · repeat (first | exact Picks.nil | (apply Picks.cons; · repeat (first | exact Pick.here | apply Pick.there)))
  · exact Tells.none
  intro r
  refine Seq.on 200 ?_
  repeat (refine JL.flat ?_)
  refine JL.go 200 ?_
  apply Seq.call (Sort1_ok r.1 r.2) rfl rfl rfl rfl rfl rfl
  · repeat (first | exact Picks.nil | (apply Picks.cons; · repeat (first | exact Pick.here | apply Pick.there)))
  · exact Tells.none
  intro _
  refine Seq.on 200 ?_
  repeat (refine JL.flat ?_)
  refine JL.go 200 ?_
  repeat (refine JL.flat ?_)
  refine JL.ret ?_
  repeat (first | refine At.then_ret ?_ | refine At.block_ret ?_)
  refine At.done1 rfl (r) rfl ?_
  exact (Gives.sound (by repeat (first | exact Gives.nil | (apply Gives.cons; · repeat (first | exact Pick.here | apply Pick.there)))))
theorem MKeys_ok (b : Nat) : Trip Tryz.prog 249 [.map (some b)] none_ [] (X := Nat) (fun b1 => .func (.func 303) #[] #[ptrV b1]) (fun b1 => [pt b1 (.cells #[.map (some b)] 321 (0, 0))]) := by
  refine Trip.start (n := 4) Tryz.func249 (by kernel_rfl) rfl rfl rfl ?_
  intro F w hD
  repeat (refine JL.flat ?_)
  refine JL.go 0 ?_
  refine Seq.eff rfl rfl (Ef.box rfl rfl) ?_
  intro b1
  refine Seq.on 200 ?_
  repeat (refine JL.flat ?_)
  refine JL.go 200 ?_
  repeat (refine JL.flat ?_)
  refine JL.ret ?_
  repeat (first | refine At.then_ret ?_ | refine At.block_ret ?_)
  refine At.done1 rfl (b1) rfl ?_
  exact (Gives.sound (by repeat (first | exact Gives.nil | (apply Gives.cons; · repeat (first | exact Pick.here | apply Pick.there)))))
theorem keys1_ok (u b : Nat) (g : List UInt8 → Option Value) (k : List UInt8) (hk : ∀ q, (∃ v, g q = some v) ↔ q = k) : Trip Tryz.prog 177 [ptrV u] none_ [pt u (.cells [Value.map (some b)].toArray 323 (0, 0)), MapOf mkS b g] (X := Option Addr × Nat)
    (fun r => .slice r.1 1 r.2) (fun r => [SlOwn 9 1 r.1 1 r.2 [mkS k], pt u (.cells [Value.map (some b)].toArray 323 (0, 0)), MapOf mkS b g]) := by
  refine Trip.start (n := 11) Tryz.func177 (by kernel_rfl) rfl rfl rfl ?_
  intro F w hD
  repeat (refine JL.flat ?_)
  refine JL.go 200 ?_
  repeat (refine JL.flat ?_)
  refine JL.go 200 ?_
  repeat (refine JL.flat ?_)
  refine JL.ifF rfl ?_
  try refine JL.skip ?_
  repeat (refine JL.flat ?_)
  refine JL.go 200 ?_
  apply Seq.loadLit rfl rfl rfl rfl rfl
  · repeat (first | exact Pick.here | apply Pick.there)
  · rfl
  · rfl
  refine Seq.on 200 ?_
  apply Seq.call (MKeys_ok b) rfl rfl rfl rfl rfl rfl
  · repeat (first | exact Picks.nil | (apply Picks.cons; · repeat (first | exact Pick.here | apply Pick.there)))
  · exact Tells.none
  intro b1
  refine Seq.on 200 ?_
  apply Seq.call (Sorted_ok b1 b g k hk) rfl rfl rfl rfl rfl rfl
  · repeat (first | exact Picks.nil | (apply Picks.cons; · repeat (first | exact Pick.here | apply Pick.there)))
  · exact Tells.none
  intro r
  refine Seq.on 200 ?_
  repeat (refine JL.flat ?_)
  refine JL.ret ?_
  repeat (first | refine At.then_ret ?_ | refine At.block_ret ?_)
  refine At.done1 rfl (r) rfl ?_
  exact (Gives.sound (by repeat (first | exact Gives.nil | (apply Gives.cons; · repeat (first | exact Pick.here | apply Pick.there)))))
end Go.Ent
