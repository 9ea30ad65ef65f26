/-
  a part of the proof: contracts of functions, and the engine by which they are walked.
-/
import Derived.WalkKit
import Derived.OrdersIn
import Derived.TacticsIn
import Derived.RangeFuncLeaves
import Derived.RangeFuncRecord
set_option linter.unusedVariables false
set_option linter.unusedSimpArgs false
namespace Go.Ent
open Go

/-! ### partial heaps -/
abbrev Part := Nat → Option Obj
def Part.le (h k : Part) : Prop := ∀ b o, h b = some o → k b = some o
def Part.dj (h k : Part) : Prop := ∀ b o o', h b = some o → k b = some o' → False
abbrev Assn := Part → Prop
def hpart (w : World) : Part := fun b => w.heap[b]?

theorem Part.le_refl (h : Part) : Part.le h h := fun _ _ e => e
theorem Part.le_trans {h k l : Part} (a : Part.le h k) (b : Part.le k l) : Part.le h l := fun _ _ e => b _ _ (a _ _ e)
theorem Part.dj_symm {h k : Part} (a : Part.dj h k) : Part.dj k h := fun b o o' e e' => a b o' o e' e
theorem Part.dj_mono {h h' k k' : Part} (a : Part.dj h k) (x : Part.le h' h) (y : Part.le k' k) : Part.dj h' k' := fun b o o' e e' => a b o o' (x _ _ e) (y _ _ e')

def star (A B : Assn) : Assn := fun h => ∃ h1 h2, Part.dj h1 h2 ∧ Part.le h1 h ∧ Part.le h2 h ∧ A h1 ∧ B h2
def emp : Assn := fun _ => True
def sep : List Assn → Assn
  | [] => emp
  | A :: L => star A (sep L)

theorem star_mono_part {A B : Assn} {h k : Part} (hk : Part.le h k) (s : star A B h) : star A B k := by
  obtain ⟨h1, h2, d, l1, l2, a, b⟩ := s
  exact ⟨h1, h2, d, Part.le_trans l1 hk, Part.le_trans l2 hk, a, b⟩
theorem star_mono {A A' B B' : Assn} {h : Part} (ha : ∀ h, A h → A' h) (hb : ∀ h, B h → B' h) (s : star A B h) : star A' B' h := by
  obtain ⟨h1, h2, d, l1, l2, a, b⟩ := s
  exact ⟨h1, h2, d, l1, l2, ha _ a, hb _ b⟩
theorem star_comm {A B : Assn} {h : Part} (s : star A B h) : star B A h := by
  obtain ⟨h1, h2, d, l1, l2, a, b⟩ := s
  exact ⟨h2, h1, Part.dj_symm d, l2, l1, b, a⟩
def Part.join (h k : Part) : Part := fun b => match h b with | some o => some o | none => k b
theorem Part.le_join_left (h k : Part) : Part.le h (Part.join h k) := fun b o e => by simp [Part.join, e]
theorem Part.le_join_right {h k : Part} (d : Part.dj h k) : Part.le k (Part.join h k) := fun b o e => by
  unfold Part.join
  cases eh : h b with
  | none => exact e
  | some o' => exact (d b o' o eh e).elim
theorem Part.join_le {h k l : Part} (a : Part.le h l) (b : Part.le k l) : Part.le (Part.join h k) l := fun x o e => by
  unfold Part.join at e
  cases eh : h x with
  | none => rw [eh] at e; exact b _ _ e
  | some o' => rw [eh] at e; cases e; exact a _ _ eh
theorem Part.join_some {h k : Part} {b : Nat} {o : Obj} (e : Part.join h k b = some o) : h b = some o ∨ k b = some o := by
  unfold Part.join at e
  cases eh : h b with
  | none => rw [eh] at e; exact .inr e
  | some o' => rw [eh] at e; cases e; exact .inl rfl
theorem Part.dj_join {h k l : Part} (a : Part.dj h l) (b : Part.dj k l) : Part.dj (Part.join h k) l := fun x o o' e e' => by
  rcases Part.join_some e with e | e
  · exact a _ _ _ e e'
  · exact b _ _ _ e e'
theorem star_assoc {A B C : Assn} {h : Part} (s : star (star A B) C h) : star A (star B C) h := by
  obtain ⟨h12, h3, d, l12, l3, ⟨h1, h2, d', m1, m2, a, b⟩, c⟩ := s
  have d13 : Part.dj h1 h3 := Part.dj_mono d m1 (Part.le_refl _)
  have d23 : Part.dj h2 h3 := Part.dj_mono d m2 (Part.le_refl _)
  exact ⟨h1, Part.join h2 h3, Part.dj_symm (Part.dj_join (Part.dj_symm d') (Part.dj_symm d13)), Part.le_trans m1 l12, Part.join_le (Part.le_trans m2 l12) l3, a,
    h2, h3, d23, Part.le_join_left _ _, Part.le_join_right d23, b, c⟩
theorem star_assoc' {A B C : Assn} {h : Part} (s : star A (star B C) h) : star (star A B) C h :=
  star_comm (star_assoc (star_comm (star_assoc (star_comm s))))
theorem star_left {A B C : Assn} {h : Part} (s : star A (star B C) h) : star B (star A C) h :=
  star_assoc (star_mono (fun _ h => star_comm h) (fun _ h => h) (star_assoc' s))

theorem sep_mono_part : ∀ {L : List Assn} {h k : Part}, Part.le h k → sep L h → sep L k
  | [], _, _, _, s => s
  | _ :: _, _, _, hk, s => star_mono_part hk s

theorem sep_append {L M : List Assn} {h : Part} : sep (L ++ M) h → star (sep L) (sep M) h := by
  induction L generalizing h with
  | nil => intro s; exact ⟨fun _ => none, h, fun _ _ _ e => by simp at e, fun _ _ e => by simp at e, Part.le_refl _, trivial, s⟩
  | cons A L ih => intro s; exact star_assoc' (star_mono (fun _ h => h) (fun _ h => ih h) s)
theorem append_sep {L M : List Assn} {h : Part} (s : star (sep L) (sep M) h) : sep (L ++ M) h := by
  induction L generalizing h with
  | nil => obtain ⟨_, h2, _, _, l2, _, b⟩ := s; exact sep_mono_part l2 b
  | cons A L ih => exact star_mono (fun _ h => h) (fun _ h => ih h) (star_assoc s)

/-- A is one of the list, and this is the rest. -/
inductive Pick (A : Assn) : List Assn → List Assn → Prop
  | here {G : List Assn} : Pick A (A :: G) G
  | there {B : Assn} {G G' : List Assn} : Pick A G G' → Pick A (B :: G) (B :: G')
theorem Pick.out {A : Assn} {G G' : List Assn} (p : Pick A G G') {h : Part} (s : sep G h) : star A (sep G') h := by
  induction p generalizing h with
  | here => exact s
  | there _ ih => exact star_left (star_mono (fun _ h => h) (fun _ h => ih h) s)
theorem Pick.back {A : Assn} {G G' : List Assn} (p : Pick A G G') {h : Part} (s : star A (sep G') h) : sep G h := by
  induction p generalizing h with
  | here => exact s
  | there _ ih => exact star_mono (fun _ h => h) (fun _ h => ih h) (star_left s)
/-- All of a list, one by one, and this is the rest. -/
inductive Picks : List Assn → List Assn → List Assn → Prop
  | nil {G : List Assn} : Picks [] G G
  | cons {A : Assn} {L G G' G'' : List Assn} : Pick A G G' → Picks L G' G'' → Picks (A :: L) G G''
theorem Picks.out {L G G' : List Assn} (p : Picks L G G') {h : Part} (s : sep G h) : sep (L ++ G') h := by
  induction p generalizing h with
  | nil => exact s
  | cons a _ ih => exact star_mono (fun _ h => h) (fun _ h => ih h) (a.out s)

/-- points to -/
def pt (b : Nat) (o : Obj) : Assn := fun h => h b = some o
theorem pt_mono {b : Nat} {o : Obj} {h k : Part} (hk : Part.le h k) (p : pt b o h) : pt b o k := hk _ _ p

/-! ### the world -/
structure Same (w w' : World) : Prop where
  os : w'.os = w.os
  output : w'.output = w.output
  tape : w'.tape = w.tape
  size : w.heap.size ≤ w'.heap.size
theorem Same.refl (w : World) : Same w w := ⟨rfl, rfl, rfl, Nat.le_refl _⟩
theorem Same.trans {a b c : World} (x : Same a b) (y : Same b c) : Same a c :=
  ⟨y.os.trans x.os, y.output.trans x.output, y.tape.trans x.tape, Nat.le_trans x.size y.size⟩
structure St (w0 : World) (G : List Assn) (w : World) : Prop where
  sep : sep G (hpart w)
  same : Same w0 w

/-! ### what a frame is known to hold -/
abbrev Env := List (Nat × Value)
def look : Env → Nat → Option Value
  | [], _ => none
  | (i, v) :: l, j => bif Nat.beq i j then some v else look l j
/-- what else a frame has: its deferred calls; whether it is a round's (of which loop). -/
structure Fz where
  ds : List Deferred
  ro : Option Nat
def fz0 : Fz := ⟨[], none⟩
/-- all functions are let in, at any depth. -/
def fen (d : Fz) : Fence := { Fence.wide with round := d.ro }
structure Agree (n : Nat) (ds : Fz) (E : Env) (a : Act) : Prop where
  size : a.tmps.size = n
  defers : a.defers = ds.ds
  get : ∀ j v, look E j = some v → a.tmps[j]? = some v
def put (E : Env) (d : Option Tmp) (v : Value) : Env :=
  match d with
  | some d => (d, v) :: E
  | none => E
def fits (n : Nat) : Option Tmp → Bool
  | some d => Nat.blt d n
  | none => true
theorem Agree.put {n : Nat} {ds : Fz} {E : Env} {a : Act} (h : Agree n ds E a) {d : Option Tmp} (hd : fits n d = true) (v : Value) :
    Agree n ds (put E d v) (a.put d v) := by
  cases d with
  | none => exact h
  | some d =>
    have hd' : d < n := by simpa [fits, Nat.blt_eq] using hd
    refine ⟨by simp [Act.put, h.size], h.defers, fun j u hj => ?_⟩
    simp only [Ent.put, look] at hj
    by_cases e : d = j
    · subst e
      simp at hj
      subst hj
      simp [Act.put, h.size, hd']
    · have : Nat.beq d j = false := by cases hb : Nat.beq d j with | false => rfl | true => exact (e (Nat.eq_of_beq_eq_true hb)).elim
      rw [this] at hj
      simp only [cond_false] at hj
      simpa [Act.put, Array.getElem?_setIfInBounds_ne e] using h.get j u hj
/-- what is known is known by the other list, too. -/
theorem Agree.weaken {n : Nat} {ds : Fz} {E E' : Env} {a : Act} (h : Agree n ds E a) (hE : ∀ j v, look E' j = some v → look E j = some v) :
    Agree n ds E' a := ⟨h.size, h.defers, fun j v hj => h.get j v (hE j v hj)⟩
def ev (E : Env) : Operand → Option Value
  | .tmp t => look E t
  | .const v => some v
  | .global g => some (.pointer (some ⟨g, 0, none⟩))
  | .func f => some (.func (.func f) #[] #[])
theorem Agree.eval {n : Nat} {ds : Fz} {E : Env} {a : Act} (h : Agree n ds E a) {x : Operand} {v : Value} (hx : ev E x = some v) : a.eval x = v := by
  cases x with
  | tmp t => simp only [ev] at hx; simp [Act.eval, h.get t v hx]
  | const u => simp only [ev, Option.some.injEq] at hx; exact hx
  | «global» g => simp only [ev, Option.some.injEq] at hx; exact hx
  | func f => simp only [ev, Option.some.injEq] at hx; exact hx
end Go.Ent
namespace Go.Ent
open Go

section
variable (P : Program) (n : Nat) (ds : Fz) (w0 : World)
/-- the code, from any state that is known so. -/
structure J (E : Env) (G : List Assn) (Q : Exit → Act → World → Prop) (c : Code) : Prop where
  run : ∀ a w, Agree n ds E a → St w0 G w → c.wpIn (fen ds) 0 P Q a w
/-- a condition, at any state that is known so. -/
structure At (E : Env) (G : List Assn) (K : Act → World → Prop) : Prop where
  run : ∀ a w, Agree n ds E a → St w0 G w → K a w
/-- a list of operations in the text's order. -/
structure Seq (ops : Array Oper) (E : Env) (G : List Assn) (Q : Exit → Act → World → Prop) (l : List Oper) : Prop where
  run : ∀ a w, Agree n ds E a → St w0 G w → wpListIn (fen ds) 0 P ops Q l a w
end

section
variable {P : Program} {n : Nat} {ds : Fz} {w0 : World} {E : Env} {G : List Assn} {Q : Exit → Act → World → Prop}

theorem At.weaken {K : Act → World → Prop} {E' : Env} {G' : List Assn} (h : At n ds w0 E' G' K) (hE : ∀ j v, look E' j = some v → look E j = some v)
    (hG : ∀ h, sep G h → sep G' h) : At n ds w0 E G K := ⟨fun a w ha hw => h.run a w (ha.weaken hE) ⟨hG _ hw.sep, hw.same⟩⟩
theorem J.weaken {c : Code} {E' : Env} {G' : List Assn} (h : J P n ds w0 E' G' Q c) (hE : ∀ j v, look E' j = some v → look E j = some v)
    (hG : ∀ h, sep G h → sep G' h) : J P n ds w0 E G Q c := ⟨fun a w ha hw => h.run a w (ha.weaken hE) ⟨hG _ hw.sep, hw.same⟩⟩
theorem J.seq {x y : Code} (h : J P n ds w0 E G (Exit.then (y.wpIn (fen ds) 0 P Q) Q) x) : J P n ds w0 E G Q (.seq x y) := ⟨fun a w ha hw => wpIn_seq (h.run a w ha hw)⟩
theorem J.skip (h : At n ds w0 E G (Q .normal)) : J P n ds w0 E G Q .skip := ⟨fun a w ha hw => wpIn_skip (h.run a w ha hw)⟩
theorem J.exit {id : Nat} (h : At n ds w0 E G (Q (.exit id))) : J P n ds w0 E G Q (.exit id) := ⟨fun a w ha hw => wpIn_exit (h.run a w ha hw)⟩
theorem J.ret (h : At n ds w0 E G (Q .ret)) : J P n ds w0 E G Q .ret := ⟨fun a w ha hw => wpIn_ret (h.run a w ha hw)⟩
theorem J.block {id : Nat} {c : Code} (h : J P n ds w0 E G (Exit.inBlock id Q) c) : J P n ds w0 E G Q (.block id c) := ⟨fun a w ha hw => wpIn_block (h.run a w ha hw)⟩
theorem J.cond {c : Operand} {x y : Code} {t : Bool} (hc : ev E c = some (.bool t)) (hx : t = true → J P n ds w0 E G Q x) (hy : t = false → J P n ds w0 E G Q y) :
    J P n ds w0 E G Q (.cond c x y) := ⟨fun a w ha hw => wpIn_cond_split (ha.eval hc) (fun e => (hx e).run a w ha hw) (fun e => (hy e).run a w ha hw)⟩
theorem J.cond_true {c : Operand} {x y : Code} (hc : ev E c = some (.bool true)) (hx : J P n ds w0 E G Q x) : J P n ds w0 E G Q (.cond c x y) :=
  J.cond hc (fun _ => hx) (fun e => by cases e)
theorem J.cond_false {c : Operand} {x y : Code} (hc : ev E c = some (.bool false)) (hy : J P n ds w0 E G Q y) : J P n ds w0 E G Q (.cond c x y) :=
  J.cond hc (fun e => by cases e) (fun _ => hy)
theorem J.at {c : Code} (h : J P n ds w0 E G Q c) : At n ds w0 E G (c.wpIn (fen ds) 0 P Q) := ⟨h.run⟩
/-- an existential fact is opened. -/
theorem At.then_normal {K : Act → World → Prop} (h : At n ds w0 E G K) : At n ds w0 E G (Exit.then K Q .normal) := ⟨h.run⟩
theorem At.then_exit {K : Act → World → Prop} {id : Nat} (h : At n ds w0 E G (Q (.exit id))) : At n ds w0 E G (Exit.then K Q (.exit id)) := ⟨h.run⟩
theorem At.then_ret {K : Act → World → Prop} (h : At n ds w0 E G (Q .ret)) : At n ds w0 E G (Exit.then K Q .ret) := ⟨h.run⟩
theorem At.block_normal {id : Nat} (h : At n ds w0 E G (Q .normal)) : At n ds w0 E G (Exit.inBlock id Q .normal) := ⟨h.run⟩
theorem At.block_ret {id : Nat} (h : At n ds w0 E G (Q .ret)) : At n ds w0 E G (Exit.inBlock id Q .ret) := ⟨h.run⟩
theorem At.block_exit {id : Nat} (h : At n ds w0 E G (Q .normal)) : At n ds w0 E G (Exit.inBlock id Q (.exit id)) := ⟨fun a w ha hw => by
  simp only [Exit.inBlock, if_true]; exact h.run a w ha hw⟩
theorem At.block_pass {id id' : Nat} (hne : Nat.beq id' id = false) (h : At n ds w0 E G (Q (.exit id'))) : At n ds w0 E G (Exit.inBlock id Q (.exit id')) := ⟨fun a w ha hw => by
  have : ¬ id' = id := fun e => by subst e; simp at hne
  simp only [Exit.inBlock, this, if_false]; exact h.run a w ha hw⟩

theorem least (p : Nat → Prop) (h : ∃ m, p m) : ∃ m, p m ∧ ∀ k, p k → m ≤ k := by
  obtain ⟨m, hm⟩ := h
  induction m using Nat.strongRecOn with
  | _ m ih =>
    by_cases hk : ∃ k, k < m ∧ p k
    · obtain ⟨k, hkm, hp⟩ := hk; exact ih k hkm hp
    · exact ⟨m, hm, fun k hp => Nat.le_of_not_lt fun hl => hk ⟨k, hl, hp⟩⟩
/-- A loop, by what holds at each round's head, and what every round lowers. -/
theorem J.loop {c : Code} {X : Type} (x0 : X) (EI : X → Env) (GI : X → List Assn) (μ : X → Nat)
    (hE : ∀ j v, look (EI x0) j = some v → look E j = some v) (hG : ∀ h, sep G h → sep (GI x0) h)
    (round : ∀ x, J P n ds w0 (EI x) (GI x) (Exit.then (fun a w => ∃ x', μ x' < μ x ∧ Agree n ds (EI x') a ∧ St w0 (GI x') w) Q) c) :
    J P n ds w0 E G Q (.loop c) := by
  constructor
  intro a w ha hw
  let R : Nat → Act → World → Prop := fun m a w => ∃ x, μ x = m ∧ Agree n ds (EI x) a ∧ St w0 (GI x) w
  let I : Act → World → Prop := fun a w => ∃ m, R m a w
  open Classical in
  let M : Act → World → Nat := fun a w => if h : ∃ m, R m a w then Classical.choose (least _ h) else 0
  refine wpIn_loop I M ⟨_, x0, rfl, ha.weaken hE, ⟨hG _ hw.sep, hw.same⟩⟩ fun a w hI => ?_
  open Classical in
  have hM : R (M a w) a w := by
    have hI' : ∃ m, R m a w := hI
    have := (Classical.choose_spec (least _ hI')).1
    simp only [M, dif_pos hI']
    exact this
  obtain ⟨x, hx, hxa, hxw⟩ := hM
  refine wpIn_mono ((round x).run a w hxa hxw) ?_
  intro e a' w' he
  cases e with
  | normal =>
    obtain ⟨x', hlt, ha', hw'⟩ := he
    refine ⟨⟨_, x', rfl, ha', hw'⟩, ?_⟩
    have hex : ∃ m, R m a' w' := ⟨_, x', rfl, ha', hw'⟩
    open Classical in
    have : M a' w' ≤ μ x' := by
      simp only [M, dif_pos hex]
      exact (Classical.choose_spec (least _ hex)).2 _ ⟨x', rfl, ha', hw'⟩
    omega
  | _ => exact he
/-- The round's end: back to the head. -/
theorem At.again {X : Type} {x : X} (x' : X) {EI : X → Env} {GI : X → List Assn} {μ : X → Nat} (hμ : μ x' < μ x)
    (hE : ∀ j v, look (EI x') j = some v → look E j = some v) (hG : ∀ h, sep G h → sep (GI x') h) :
    At n ds w0 E G (fun a w => ∃ x', μ x' < μ x ∧ Agree n ds (EI x') a ∧ St w0 (GI x') w) :=
  ⟨fun _ _ ha hw => ⟨x', hμ, ha.weaken hE, ⟨hG _ hw.sep, hw.same⟩⟩⟩

/-! ### one operation -/
def gv (ops : Array Oper) (E : Env) (o : Oper) : Option Bool :=
  match o.guard with
  | none => some true
  | some (j, want) => match (ops[j]?).bind (·.dst) with
    | none => some false
    | some t => match look E t with
      | some (.bool b) => some (b == want)
      | some _ => some false
      | none => none
theorem gv_sound {ops : Array Oper} {o : Oper} {b : Bool} {a : Act} (ha : Agree n ds E a) (h : gv ops E o = some b) : Region.wanted o (yielded ops a.tmps) = b := by
  unfold gv at h
  unfold Region.wanted
  cases hg : o.guard with
  | none => simpa [hg] using h
  | some jw =>
    obtain ⟨j, want⟩ := jw
    simp only [hg] at h ⊢
    unfold yielded
    cases hj : (ops[j]?).bind (·.dst) with
    | none => simp only [hj, Option.some.injEq] at h ⊢; subst h; rfl
    | some t =>
      simp only [hj] at h
      cases hl : look E t with
      | none => simp [hl] at h
      | some v =>
        have hv := ha.get t v hl
        simp only [hl] at h
        simp only [Option.bind_some, hv]
        cases v <;> simp at h ⊢ <;> first | exact h | exact h.symm ▸ rfl
theorem semAt_run {ρ : Operand → Value} {o : Oper} {w w' : World} {x : Next} (h : (execOp ρ o).run P w = .ok x w') (hx : ∀ d, x ≠ .defer d) (ro : Option Nat) : (o.semAt ro ρ).run P w = .ok x w' := by
  by_cases hd : ∃ c, o.op = .defer c
  · obtain ⟨c, hc⟩ := hd
    exfalso
    simp only [execOp, hc, Sem.run_bind] at h
    cases hr : (resolve ρ c o.type).run P w with
    | ok d w1 => rw [hr] at h; simp at h; exact hx d h.1.symm
    | halt y w1 => rw [hr] at h; simp at h
  · rw [Oper.semAt_eq ro ρ o (fun c hc => hd ⟨c, hc⟩)]; exact h
theorem wpIn_of {o : Oper} {a : Act} {w w' : World} {x : Next} {K : Act → World → Prop} (h : (execOp a.eval o).run P w = .ok x w') (hx : ∀ d, x ≠ .defer d) (hu : o.uponIn (fen ds) 0 P a K Q (.ok x w')) : o.wpIn (fen ds) 0 P a w K Q := by
  refine ⟨fun _ _ => trivial, ?_⟩
  rw [semAt_run h hx]
  exact hu
variable (P n ds w0) in
/-- the operation leaves v in its slot, and nothing else. -/
def Yl (E : Env) (G : List Assn) (o : Oper) (v : Value) : Prop := ∀ a w, Agree n ds E a → St w0 G w → (execOp a.eval o).run P w = .ok (.value v) w
variable (P n ds w0) in
/-- the operation leaves one of the values v x in its slot (none, if it has none), and in memory what G' x says. -/
def Ef (E : Env) (G : List Assn) (o : Oper) {X : Type} (v : X → Value) (G' : X → List Assn) : Prop :=
  ∀ a w, Agree n ds E a → St w0 G w → ∀ (K : Act → World → Prop) (Q : Exit → Act → World → Prop), (∀ x w', St w0 (G' x) w' → K (a.put o.dst (v x)) w') → o.wpIn (fen ds) 0 P a w K Q
theorem Yl.ef {o : Oper} {v : Value} (h : Yl P n ds w0 E G o v) : Ef P n ds w0 E G o (X := Unit) (fun _ => v) (fun _ => G) := fun a w ha hw K Q hK => by
  refine wpIn_of (h a w ha hw) (fun _ e => by cases e) ?_
  exact hK () w hw

/-! ### in the text's order -/
section
variable {ops : Array Oper} {o : Oper} {rest : List Oper}
theorem J.region {id : Nat} {l : List Oper} (h : Seq P n ds w0 l.toArray E G Q l) : J P n ds w0 E G Q (.region id l.toArray false) := ⟨fun a w ha hw => wpIn_region_lit (h.run a w ha hw)⟩
theorem Seq.nil (h : At n ds w0 E G (Q .normal)) : Seq P n ds w0 ops E G Q [] := ⟨h.run⟩
theorem Seq.eff {X : Type} {v : X → Value} {G' : X → List Assn} (hg : gv ops E o = some true) (hd : fits n o.dst = true) (he : Ef P n ds w0 E G o v G')
    (h : ∀ x, Seq P n ds w0 ops (put E o.dst (v x)) (G' x) Q rest) : Seq P n ds w0 ops E G Q (o :: rest) := ⟨fun a w ha hw => by
  unfold wpListIn
  rw [if_pos (gv_sound ha hg)]
  exact he a w ha hw _ _ fun x w' hw' => (h x).run _ _ (ha.put hd _) hw'⟩
theorem Seq.yield {v : Value} (hg : gv ops E o = some true) (hd : fits n o.dst = true) (hy : Yl P n ds w0 E G o v)
    (h : Seq P n ds w0 ops (put E o.dst v) G Q rest) : Seq P n ds w0 ops E G Q (o :: rest) := Seq.eff hg hd hy.ef fun _ => h
theorem Seq.skip (hg : gv ops E o = some false) (hd : fits n o.dst = true) (h : Seq P n ds w0 ops (put E o.dst undef) G Q rest) : Seq P n ds w0 ops E G Q (o :: rest) := ⟨fun a w ha hw => by
  unfold wpListIn
  rw [if_neg (by rw [gv_sound ha hg]; simp)]
  exact ⟨fun _ _ => trivial, h.run _ _ (ha.put hd _) hw⟩⟩
end

/-! ### in any order -/
/-- A: a number for each operation, whose bits are those that it waits for, near and far. -/
def aft (A : Array Nat) (k p : Nat) : Bool := (A.getD k 0).testBit p
def aftOr (A : Array Nat) (l : List Edge) : Nat := l.foldr (fun e s => if Region.binds .any e then s ||| (2 ^ e.on ||| A.getD e.on 0) else s) 0
def aftB (ops : Array Oper) (A : Array Nat) : Bool := ops.toList.zipIdx.all fun (o, j) => A.getD j 0 == aftOr A o.after.toList
theorem aftOr_spec {A : Array Nat} {p : Nat} : ∀ {l : List Edge}, (aftOr A l).testBit p = true → ∃ e ∈ l, Region.binds .any e = true ∧ (e.on = p ∨ aft A e.on p = true)
  | [], h => by simp [aftOr] at h
  | e :: l, h => by
    simp only [aftOr, List.foldr_cons] at h
    split at h
    · rename_i hb
      rw [Nat.testBit_or, Nat.testBit_or, Bool.or_eq_true, Bool.or_eq_true] at h
      rcases h with h | h | h
      · obtain ⟨e', he, r⟩ := aftOr_spec (l := l) h; exact ⟨e', List.mem_cons_of_mem _ he, r⟩
      · refine ⟨e, List.mem_cons_self .., hb, .inl ?_⟩
        rw [Nat.testBit_two_pow] at h
        simpa using h
      · exact ⟨e, List.mem_cons_self .., hb, .inr h⟩
    · obtain ⟨e', he, r⟩ := aftOr_spec (l := l) h; exact ⟨e', List.mem_cons_of_mem _ he, r⟩
theorem aftB_spec {ops : Array Oper} {A : Array Nat} (h : aftB ops A = true) {j : Nat} {oj : Oper} (hj : ops[j]? = some oj) {p : Nat} (hp : aft A j p = true) :
    ∃ e ∈ oj.after, Region.binds .any e = true ∧ (e.on = p ∨ aft A e.on p = true) := by
  unfold aftB at h
  rw [List.all_eq_true] at h
  have hm : (oj, j) ∈ ops.toList.zipIdx := by
    rw [List.mk_mem_zipIdx_iff_getElem?]
    simpa using hj
  have := h _ hm
  simp only [beq_iff_eq] at this
  unfold aft at hp
  rw [this] at hp
  obtain ⟨e, he, r⟩ := aftOr_spec hp
  exact ⟨e, by simpa using he, r⟩
/-- whoever has come up, all that he waits for has come up. -/
def Closed (A : Array Nat) (listed : Array Bool) : Prop := ∀ k, listed.getD k false = true → ∀ p, aft A k p = true → listed.getD p false = true
theorem Closed.add {ops : Array Oper} {A : Array Nat} {listed : Array Bool} (hA : aftB ops A = true) (hc : Closed A listed) {j : Nat} (hj : j ∈ Region.ready .any ops listed) :
    Closed A (listed.setIfInBounds j true) := by
  obtain ⟨_, oj, hoj, hall⟩ := mem_ready.1 hj
  intro k hk p hp
  by_cases hjk : j = k
  · subst hjk
    obtain ⟨e, he, hb, r⟩ := aftB_spec hA hoj hp
    have h1 := hall e he hb
    rcases r with rfl | r
    · exact getD_set_true h1
    · exact getD_set_true (hc _ h1 p r)
  · rw [getD_set_ne false hjk] at hk
    exact getD_set_true (hc k hk p hp)
/-- the facts that were read early hold as long as nobody who acts and waits for them has come up. -/
def Held (A : Array Nat) (eff : Nat → Bool) (F : List (Nat × (World → Prop))) (listed : Array Bool) (w : World) : Prop :=
  ∀ p ∈ F, (∀ k, listed.getD k false = true → eff k = true → aft A k p.1 = false) → p.2 w
/-- in state a, in every world that meets S, the operation leaves v in its slot and does nothing else. -/
def YiF (P : Program) (ops : Array Oper) (S : World → Prop) (o : Oper) (v : Value) (a : Act) : Prop :=
  (Region.wanted o (yielded ops a.tmps) = true ∧ ∀ w, S w → (execOp a.eval o).run P w = .ok (.value v) w) ∨
  (Region.wanted o (yielded ops a.tmps) = false ∧ v = undef)
theorem YiF.wpOp {ops : Array Oper} {S : World → Prop} {i : Nat} {o : Oper} {v : Value} {a : Act} (hi : ops[i]? = some o) (hy : YiF P ops S o v a)
    {K : Act → World → Prop} {w : World} (hS : S w) (h : K (a.put o.dst v) w) : wpOpIn (fen ds) 0 P ops Q i K a w := by
  unfold wpOpIn
  simp only [hi]
  rcases hy with ⟨hw, hv⟩ | ⟨hw, rfl⟩
  · simp only [hw, if_true]; exact wpIn_of (hv w hS) (fun _ e => by cases e) h
  · simp only [hw, Bool.false_eq_true, if_false]; exact ⟨fun _ _ => trivial, h⟩
theorem YiF.of_same {ops : Array Oper} {S : World → Prop} {o : Oper} {v : Value} {a a' : Act} (hy : YiF P ops S o v a) (he : execOp a'.eval o = execOp a.eval o)
    (hw : Region.wanted o (yielded ops a'.tmps) = Region.wanted o (yielded ops a.tmps)) : YiF P ops S o v a' := by
  unfold YiF at *
  rw [he, hw]
  exact hy
theorem semAt_put {ops : Array Oper} (ro : Option Nat) (o : Oper) (hs : ∀ cs b, o.op ≠ .select cs b) (a : Act) (dst : Option Tmp) (v : Value) (h : ∀ d, dst = some d → d ∉ o.looksAt ops) :
    o.semAt ro (a.put dst v).eval = o.semAt ro a.eval := by
  have he := execOp_put o hs a dst v h
  by_cases hd : ∃ c, o.op = .defer c
  · obtain ⟨c, hc⟩ := hd
    cases ro with
    | none => exact he
    | some l =>
      unfold Oper.semAt
      simp only [hc]
      have : resolve (a.put dst v).eval c o.type = resolve a.eval c o.type := resolve_congr c o.type fun x hx => Act.eval_put fun d hd hxd => h d hd (by
        subst hxd
        exact List.mem_append_left _ (List.mem_filterMap.2 ⟨.tmp d, by simpa [hc, Op.operands] using hx, rfl⟩))
      rw [this]
  · rw [Oper.semAt_eq ro _ o (fun c hc => hd ⟨c, hc⟩), Oper.semAt_eq ro _ o (fun c hc => hd ⟨c, hc⟩)]; exact he
theorem wpOpIn_putF {ops : Array Oper} {S : World → Prop} {j : Nat} {oi oj : Oper} {v : Value} (hj : ops[j]? = some oj) (hap : oi.apart ops oj = true)
    (hsi : ∀ cs b, oi.op ≠ .select cs b) (hsj : ∀ cs b, oj.op ≠ .select cs b)
    (hQ : ∀ c a w, Q (.panic c) (a.put oi.dst v) w → Q (.panic c) a w) {K : Act → World → Prop} {a : Act} {w : World}
    (hy : YiF P ops S oi v a) (h : wpOpIn (fen ds) 0 P ops Q j K (a.put oi.dst v) w) :
    wpOpIn (fen ds) 0 P ops Q j (fun a' w' => YiF P ops S oi v a' ∧ K (a'.put oi.dst v) w') a w := by
  obtain ⟨h1, h2, h3⟩ := Oper.apart_spec hap
  have keep : ∀ (a : Act), YiF P ops S oi v a → ∀ u, YiF P ops S oi v (a.put oj.dst u) := fun a hy u =>
    hy.of_same (execOp_put oi hsi a oj.dst u h3) (wanted_put oi a oj.dst u h3)
  have keepD : ∀ d, YiF P ops S oi v { a with defers := d :: a.defers } := fun d => hy.of_same rfl rfl
  unfold wpOpIn at *
  simp only [hj] at *
  rw [wanted_put oj a oi.dst v h1] at h
  split
  · rename_i hw
    simp only [hw, if_true] at h
    refine ⟨fun _ _ => trivial, ?_⟩
    have h := h.2
    rw [semAt_put _ oj hsj a oi.dst v h1] at h
    generalize (oj.semAt (fen ds).round a.eval).run P w = r at *
    cases r with
    | ok x w' =>
      cases x <;> simp only [Oper.uponIn] at h ⊢
      case value u => exact ⟨keep a hy u, by rw [← Act.put_comm a v u h2]; exact h⟩
      case skip => exact ⟨keep a hy _, by rw [← Act.put_comm a v undef h2]; exact h⟩
      case defer d =>
        refine ⟨keep _ (keepD d) _, ?_⟩
        rw [← Act.put_comm _ v undef h2, ← Act.put_defers]
        exact h
      case enter f args =>
        refine ⟨h.1, CallsIn.mono h.2 fun e w'' he => ?_⟩
        cases e with
        | returned u => exact ⟨keep a hy u, by rw [← Act.put_comm a v u h2]; exact he⟩
        | panicked c => exact hQ _ _ _ he
        | outgrown => exact he
      case row row args => exact ⟨h.1, RowsIn.mono h.2 fun u w'' he => ⟨keep a hy u, by rw [← Act.put_comm a v u h2]; exact he⟩⟩
      case round l f tmps assign body =>
        refine ⟨h.1, RoundIn.mono h.2 fun e w'' he => ?_⟩
        cases e with
        | returned u => exact ⟨keep a hy u, by rw [← Act.put_comm a v u h2]; exact he⟩
        | panicked c => exact hQ _ _ _ he
        | outgrown => exact he
    | halt x w' =>
      cases x <;> simp only [Oper.uponIn] at h ⊢
      case panic u => exact hQ _ _ _ h
  · rename_i hw
    simp only [hw] at h
    exact ⟨fun _ _ => trivial, keep a hy _, by rw [← Act.put_comm a v undef h2]; exact h.2⟩
def wpAnyF (ds : Fz) (P : Program) (ops : Array Oper) (A : Array Nat) (eff : Nat → Bool) (Q : Exit → Act → World → Prop) (F : List (Nat × (World → Prop))) : Nat → Array Bool → Act → World → Prop
  | 0, listed, a, w => Region.ready .any ops listed = [] ∧ Q .normal a w
  | fuel + 1, listed, a, w =>
    (Region.ready .any ops listed = [] → Q .normal a w) ∧
    ∀ i ∈ Region.ready .any ops listed, wpOpIn (fen ds) 0 P ops Q i (fun a' w' => Held A eff F (listed.setIfInBounds i true) w' ∧ wpAnyF ds P ops A eff Q F fuel (listed.setIfInBounds i true) a' w') a w
variable {A : Array Nat} {eff : Nat → Bool} {ops : Array Oper} {F : List (Nat × (World → Prop))}
theorem wpAny_of_F : ∀ (fuel : Nat) (listed : Array Bool) (a : Act) (w : World), wpAnyF ds P ops A eff Q F fuel listed a w → wpAnyIn (fen ds) 0 P .any ops Q fuel listed a w
  | 0, _, _, _, h => h
  | fuel + 1, _, _, _, h => ⟨h.1, fun i hi => wpOpIn_mono (fun a' w' h' => wpAny_of_F fuel _ a' w' h'.2) (h.2 i hi)⟩
theorem wpAnyF_tail {x : Nat × (World → Prop)} : ∀ (fuel : Nat) (listed : Array Bool) (a : Act) (w : World), wpAnyF ds P ops A eff Q (x :: F) fuel listed a w → wpAnyF ds P ops A eff Q F fuel listed a w
  | 0, _, _, _, h => h
  | fuel + 1, _, _, _, h => ⟨h.1, fun i hi => wpOpIn_mono (fun a' w' h' => ⟨fun p hp => h'.1 p (List.mem_cons_of_mem _ hp), wpAnyF_tail fuel _ a' w' h'.2⟩) (h.2 i hi)⟩
theorem wpAnyF_first (hA : aftB ops A = true) {S : World → Prop} {i : Nat} {oi : Oper} {v : Value} (hi : ops[i]? = some oi) (hei : eff i = false) (hsel : ∀ (j : Nat) (o : Oper) cs b, ops[j]? = some o → o.op ≠ .select cs b)
    (hQ : ∀ c a w, Q (.panic c) (a.put oi.dst v) w → Q (.panic c) a w) :
    ∀ (fuel : Nat) (listed : Array Bool) (a : Act) (w : World), Closed A listed →
      (∀ j oj, ops[j]? = some oj → j ≠ i → listed.getD j true = false → (∀ e ∈ oj.after, Region.binds .any e = true → e.on ≠ i) → oi.apart ops oj = true) →
      i ∈ Region.ready .any ops listed → YiF P ops S oi v a → S w →
      wpAnyF ds P ops A eff Q ((i, S) :: F) fuel (listed.setIfInBounds i true) (a.put oi.dst v) w → Held A eff F (listed.setIfInBounds i true) w → wpAnyF ds P ops A eff Q F (fuel + 1) listed a w := by
  intro fuel
  induction fuel with
  | zero =>
    intro listed a w _ _ hr hy hS H hH
    refine ⟨fun h => (by rw [h] at hr; cases hr), fun j hj => ?_⟩
    by_cases hji : j = i
    · subst hji; exact YiF.wpOp hi hy hS ⟨hH, H⟩
    · have := ready_mono hj hji
      rw [H.1] at this
      cases this
  | succ fuel ih =>
    intro listed a w hc hfree hr hy hS H hH
    refine ⟨fun h => (by rw [h] at hr; cases hr), fun j hj => ?_⟩
    by_cases hji : j = i
    · subst hji
      exact YiF.wpOp hi hy hS ⟨hH, wpAnyF_tail _ _ _ _ H⟩
    · have h1 := H.2 j (ready_mono hj hji)
      obtain ⟨hjun, oj, hoj, hall⟩ := mem_ready.1 hj
      have hiun : listed.getD i false = false := by
        have h0 := (mem_ready.1 hr).1
        rcases Nat.lt_or_ge i listed.size with h' | h'
        · simpa [h'] using h0
        · simp [Array.getElem?_eq_none h'] at h0
      have hnot : ∀ e ∈ oj.after, Region.binds .any e = true → e.on ≠ i := fun e he hb heq => by
        have h1 := hall e he hb
        rw [heq, hiun] at h1
        cases h1
      have h2 := wpOpIn_putF hoj (hfree j oj hoj hji hjun hnot) (fun cs b => hsel i oi cs b hi) (fun cs b => hsel j oj cs b hoj) hQ hy h1
      have hfree' : ∀ k ok, ops[k]? = some ok → k ≠ i → (listed.setIfInBounds j true).getD k true = false →
          (∀ e ∈ ok.after, Region.binds .any e = true → e.on ≠ i) → oi.apart ops ok = true := fun k ok hk hki hun hno => by
        refine hfree k ok hk hki ?_ hno
        by_cases hjk : j = k
        · subst hjk; exact hjun
        · rw [getD_set_ne true hjk] at hun; exact hun
      have hcj : Closed A (listed.setIfInBounds j true) := hc.add hA hj
      have hiunj : (listed.setIfInBounds j true).getD i false = false := by rw [getD_set_ne false hji]; exact hiun
      have hcomm : (listed.setIfInBounds i true).setIfInBounds j true = (listed.setIfInBounds j true).setIfInBounds i true := Array.setIfInBounds_comm _ _ (Ne.symm hji)
      refine wpOpIn_mono (fun a' w' h3 => ?_) h2
      obtain ⟨hy3, hh3, hw3⟩ := h3
      rw [hcomm] at hh3 hw3
      have hS3 : S w' := hh3 (i, S) (List.mem_cons_self ..) fun k hk hek => by
        by_cases hik : i = k
        · subst hik; rw [hei] at hek; cases hek
        · rw [getD_set_ne false hik] at hk
          cases hb : aft A k i with
          | false => rfl
          | true => have := hcj k hk i hb; rw [hiunj] at this; cases this
      have hH3 : Held A eff F ((listed.setIfInBounds j true).setIfInBounds i true) w' := fun p hp => hh3 p (List.mem_cons_of_mem _ hp)
      refine ⟨?_, ih (listed.setIfInBounds j true) a' w' hcj hfree' (ready_mono hr (Ne.symm hji)) hy3 hS3 hw3 hH3⟩
      intro p hp hno
      refine hH3 p hp fun k hk hek => ?_
      by_cases hik : i = k
      · subst hik; rw [hei] at hek; cases hek
      · rw [getD_set_ne false hik] at hk; exact hno k hk hek
end
end Go.Ent
namespace Go.Ent
open Go

def nth {α : Type} : List α → Nat → Option α
  | [], _ => none
  | x :: l, k => match k with
    | 0 => some x
    | k + 1 => nth l k
theorem nth_eq {α : Type} : ∀ (l : List α) (k : Nat), nth l k = l[k]?
  | [], k => by simp [nth]
  | x :: l, 0 => rfl
  | x :: l, k + 1 => by simp [nth, nth_eq l k]
/-- does it act upon memory, or look at what others may change by acting? (A look is no act: it may be taken early.) -/
def acts : Op → Bool
  | .move _ | .assign _ | .pick .. | .nilCheck _ | .binOp .. | .unOp .. | .convert .. | .makeInterface .. | .extract .. | .fieldAddr .. | .field ..
  | .build .. | .index .. | .indexAddr .. | .slice .. | .load .. | .lookup .. | .makeFunc .. | .typeAssert .. | .sliceToArrayPointer .. => false
  | .call { callee := .builtin .len, .. } => false
  | .call { callee := .builtin .min, .. } => false
  | .call { callee := .builtin .max, .. } => false
  | _ => true
def effOf (l : List Oper) (k : Nat) : Bool := match nth l k with | some o => acts o.op | none => true
/-- these have come up. -/
def listOf (n : Nat) (l : List Nat) : Array Bool := l.foldl (fun a i => a.setIfInBounds i true) (Array.replicate n false)
/-- may the region be walked in this order, standing for every other? A number beyond the region's: here it forks; behind it stand those that have come up. -/
def chkOrd (ops : Array Oper) (eff : Nat → Bool) : Array Bool → List Nat → Bool
  | listed, [] => (Region.ready .any ops listed).isEmpty
  | listed, i :: rest => match ops[i]? with
    | some _ => (if eff i then (Region.ready .any ops listed) == [i] else (Region.ready .any ops listed).contains i && Region.free .any ops listed i) &&
      chkOrd ops eff (listed.setIfInBounds i true) rest
    | none => listed == listOf ops.size rest
def fuelOf (ops : Array Oper) : List Nat → Nat
  | [] => 0
  | i :: rest => match ops[i]? with
    | some _ => fuelOf ops rest + 1
    | none => ops.size - rest.length
theorem fuelOf_cons {ops : Array Oper} {i : Nat} {o : Oper} {rest : List Nat} (h : ops[i]? = some o) : fuelOf ops (i :: rest) = fuelOf ops rest + 1 := by simp only [fuelOf, h]

section
variable {P : Program} {n : Nat} {ds : Fz} {w0 : World} {E : Env} {G : List Assn} {Q : Exit → Act → World → Prop}
/-- a panic's condition does not ask for slots. -/
def NP (Q : Exit → Act → World → Prop) : Prop := ∀ c a d v w, Q (.panic c) (Act.put a d v) w → Q (.panic c) a w
theorem NP.then {K : Act → World → Prop} (h : NP Q) : NP (Exit.then K Q) := h
theorem NP.block {id : Nat} (h : NP Q) : NP (Exit.inBlock id Q) := h
theorem NP.body {fn : Func} {R : Ending → World → Prop} : NP (bodyPost P fn R) := fun c a d v w h => by
  cases d <;> exact h
/-- what was looked at early: the operation's number, itself, what was known then, what it gave. -/
structure Early where
  i : Nat
  o : Oper
  E : Env
  v : Value
variable (P n ds) in
def Early.holds (x : Early) (w : World) : Prop := ∀ a, Agree n ds x.E a → (execOp a.eval x.o).run P w = .ok (.value x.v) w
variable (P n ds w0) in
structure Ord (l : List Oper) (A : Array Nat) (F : List Early) (E : Env) (G : List Assn) (Q : Exit → Act → World → Prop) (ord : List Nat) : Prop where
  run : ∀ listed a w, chkOrd l.toArray (effOf l) listed ord = true → Closed A listed → Agree n ds E a → St w0 G w →
    Held A (effOf l) (F.map fun x => (x.i, x.holds P n ds)) listed w →
    wpAnyF ds P l.toArray A (effOf l) Q (F.map fun x => (x.i, x.holds P n ds)) (fuelOf l.toArray ord) listed a w
theorem St.drawn {w : World} (h : St w0 G w) (k : Nat) : St w0 G { w with drawn := k } := ⟨h.sep, ⟨h.same.os, h.same.output, h.same.tape, h.same.size⟩⟩
/-- the closed facts on a region and the order in which it is walked. -/
structure Right (l : List Oper) (A : Array Nat) (ord : List Nat) : Prop where
  aft : aftB l.toArray A = true
  sel : Region.noSelect l.toArray = true
  chk : chkOrd l.toArray (effOf l) (Array.replicate l.toArray.size false) ord = true
  len : fuelOf l.toArray ord = l.toArray.size
def rightB (l : List Oper) (A : Array Nat) (ord : List Nat) : Bool :=
  aftB l.toArray A && Region.noSelect l.toArray && chkOrd l.toArray (effOf l) (Array.replicate l.toArray.size false) ord && Nat.beq (fuelOf l.toArray ord) l.toArray.size
theorem Right.of {l : List Oper} {A : Array Nat} {ord : List Nat} (h : rightB l A ord = true) : Right l A ord := by
  simp only [rightB, Bool.and_eq_true] at h
  obtain ⟨⟨⟨a, b⟩, c⟩, d⟩ := h
  exact ⟨a, b, c, Nat.eq_of_beq_eq_true d⟩
theorem J.region_any {id : Nat} {l : List Oper} (hm : P.follows .mixedOrders = true) {A : Array Nat} {ord : List Nat} (hr : Right l A ord)
    (h : Ord P n ds w0 l A [] E G Q ord) : J P n ds w0 E G Q (.region id l.toArray true) := ⟨fun a w ha hw => by
  refine wpIn_region_any hm (wpAny_of_F (A := A) (eff := effOf l) (F := []) _ _ _ _ ?_)
  rw [← hr.len]
  refine h.run _ a _ (by rw [hr.len]; exact hr.chk) ?_ ha (hw.drawn _) (fun p hp => by simp at hp)
  intro k hk
  rw [hr.len] at hk
  simp only [Array.getD_eq_getD_getElem?, Array.getElem?_replicate] at hk
  split at hk <;> simp at hk⟩
theorem Ord.nil {l : List Oper} {A : Array Nat} {F : List Early} (h : At n ds w0 E G (Q .normal)) : Ord P n ds w0 l A F E G Q [] := ⟨fun listed a w hc _ ha hw _ => by
  simp only [chkOrd, List.isEmpty_iff] at hc
  exact ⟨hc, h.run a w ha hw⟩⟩
section
variable {l : List Oper} {A : Array Nat} {F : List Early} {i : Nat} {o : Oper} {rest : List Nat}
theorem wpAnyF_true {ops : Array Oper} {A : Array Nat} {eff : Nat → Bool} {F : List (Nat × (World → Prop))} {i : Nat} : ∀ (fuel : Nat) (listed : Array Bool) (a : Act) (w : World),
    wpAnyF ds P ops A eff Q F fuel listed a w → wpAnyF ds P ops A eff Q ((i, fun _ => True) :: F) fuel listed a w
  | 0, _, _, _, h => h
  | fuel + 1, _, _, _, h => ⟨h.1, fun j hj => wpOpIn_mono (fun a' w' h' => ⟨fun p hp hno => by
      rcases List.mem_cons.1 hp with rfl | hp
      · trivial
      · exact h'.1 p hp hno, wpAnyF_true fuel _ a' w' h'.2⟩) (h.2 j hj)⟩
theorem Held.quiet {A : Array Nat} {eff : Nat → Bool} {F : List (Nat × (World → Prop))} {listed : Array Bool} {w : World} (h : Held A eff F listed w) (hk : eff i = false) :
    Held A eff F (listed.setIfInBounds i true) w := fun p hp hno => h p hp fun k hl he => by
  by_cases hik : i = k
  · subst hik; rw [hk] at he; cases he
  · exact hno k (by rw [getD_set_ne false hik]; exact hl) he
/-- a look. -/
theorem Ord.look {ord : List Nat} {v : Value} (hR : Right l A ord) (hQ : NP Q) (ho : nth l i = some o) (hk : acts o.op = false) (hg : gv l.toArray E o = some true) (hd : fits n o.dst = true)
    (hy : Yl P n ds w0 E G o v) (h : Ord P n ds w0 l A (⟨i, o, E, v⟩ :: F) (put E o.dst v) G Q rest) : Ord P n ds w0 l A F E G Q (i :: rest) := ⟨fun listed a w hc hcl ha hw hH => by
  have ho' : l.toArray[i]? = some o := by rw [nth_eq] at ho; simpa using ho
  have hk : effOf l i = false := by simp only [effOf, ho]; exact hk
  simp only [chkOrd, ho', hk, Bool.false_eq_true, if_false, Bool.and_eq_true] at hc
  rw [fuelOf_cons ho']
  obtain ⟨⟨hr, hf⟩, hrest⟩ := hc
  have hready : i ∈ Region.ready .any l.toArray listed := by simpa using hr
  have hcl' := hcl.add hR.aft hready
  have hnow : (Early.mk i o E v).holds P n ds w := fun a' ha' => hy a' w ha' hw
  refine wpAnyF_first hR.aft (S := (Early.mk i o E v).holds P n ds) ho' hk (Region.noSelect_spec hR.sel) (fun c a w => hQ c a _ _ w) (fuelOf l.toArray rest) listed a w hcl
    (Region.free_spec ho' hf) hready (.inl ⟨gv_sound ha hg, fun w' hS => hS a ha⟩) hnow ?_ (hH.quiet hk)
  refine h.run _ _ _ hrest hcl' (ha.put hd v) hw ?_
  intro p hp hno
  rcases List.mem_cons.1 hp with rfl | hp
  · exact hnow
  · exact hH.quiet hk p hp hno⟩
/-- a reckoning: no look at memory: nothing to keep. -/
theorem Ord.pure {ord : List Nat} {v : Value} (hR : Right l A ord) (hQ : NP Q) (ho : nth l i = some o) (hk : acts o.op = false) (hg : gv l.toArray E o = some true) (hd : fits n o.dst = true)
    (hy : ∀ a w, Agree n ds E a → (execOp a.eval o).run P w = .ok (.value v) w) (h : Ord P n ds w0 l A F (put E o.dst v) G Q rest) : Ord P n ds w0 l A F E G Q (i :: rest) := ⟨fun listed a w hc hcl ha hw hH => by
  have ho' : l.toArray[i]? = some o := by rw [nth_eq] at ho; simpa using ho
  have hk : effOf l i = false := by simp only [effOf, ho]; exact hk
  simp only [chkOrd, ho', hk, Bool.false_eq_true, if_false, Bool.and_eq_true] at hc
  rw [fuelOf_cons ho']
  obtain ⟨⟨hr, hf⟩, hrest⟩ := hc
  have hready : i ∈ Region.ready .any l.toArray listed := by simpa using hr
  have hcl' := hcl.add hR.aft hready
  exact wpAnyF_first hR.aft (S := fun _ => True) ho' hk (Region.noSelect_spec hR.sel) (fun c a w => hQ c a _ _ w) (fuelOf l.toArray rest) listed a w hcl
    (Region.free_spec ho' hf) hready (.inl ⟨gv_sound ha hg, fun w' _ => hy a w' ha⟩) trivial (wpAnyF_true _ _ _ _ (h.run _ _ _ hrest hcl' (ha.put hd v) hw (hH.quiet hk))) (hH.quiet hk)⟩
/-- an operation whose guard says no. -/
theorem Ord.skip {ord : List Nat} (hR : Right l A ord) (hQ : NP Q) (ho : nth l i = some o) (hk : acts o.op = false) (hg : gv l.toArray E o = some false) (hd : fits n o.dst = true)
    (h : Ord P n ds w0 l A F (put E o.dst undef) G Q rest) : Ord P n ds w0 l A F E G Q (i :: rest) := ⟨fun listed a w hc hcl ha hw hH => by
  have ho' : l.toArray[i]? = some o := by rw [nth_eq] at ho; simpa using ho
  have hk : effOf l i = false := by simp only [effOf, ho]; exact hk
  simp only [chkOrd, ho', hk, Bool.false_eq_true, if_false, Bool.and_eq_true] at hc
  rw [fuelOf_cons ho']
  obtain ⟨⟨hr, hf⟩, hrest⟩ := hc
  have hready : i ∈ Region.ready .any l.toArray listed := by simpa using hr
  have hcl' := hcl.add hR.aft hready
  exact wpAnyF_first hR.aft (S := fun _ => True) ho' hk (Region.noSelect_spec hR.sel) (fun c a w => hQ c a _ _ w) (fuelOf l.toArray rest) listed a w hcl
    (Region.free_spec ho' hf) hready (.inr ⟨gv_sound ha hg, rfl⟩) trivial (wpAnyF_true _ _ _ _ (h.run _ _ _ hrest hcl' (ha.put hd undef) hw (hH.quiet hk))) (hH.quiet hk)⟩
variable (P n ds w0) in
/-- what was looked at early and may come up later still gives the same. -/
inductive Keep (A : Array Nat) (k : Nat) (G : List Assn) : List Early → Prop
  | nil : Keep A k G []
  | waits {x : Early} {F : List Early} (h : aft A k x.i = true) (t : Keep A k G F) : Keep A k G (x :: F)
  | again {x : Early} {F : List Early} (h : Yl P n ds w0 x.E G x.o x.v) (t : Keep A k G F) : Keep A k G (x :: F)
theorem Keep.mem {A : Array Nat} {k : Nat} {F : List Early} (h : Keep P n ds w0 A k G F) : ∀ x ∈ F, aft A k x.i = true ∨ Yl P n ds w0 x.E G x.o x.v := by
  induction h with
  | nil => intro x hx; cases hx
  | waits h _ ih => intro x hx; rcases List.mem_cons.1 hx with rfl | hx; exact .inl h; exact ih x hx
  | again h _ ih => intro x hx; rcases List.mem_cons.1 hx with rfl | hx; exact .inr h; exact ih x hx
theorem Held.act {k : Nat} {listed : Array Bool} {w : World} (hlt : k < listed.size) (hk : effOf l k = true) (hw : St w0 G w) (h : Keep P n ds w0 A k G F) :
    Held A (effOf l) (F.map fun x => (x.i, x.holds P n ds)) (listed.setIfInBounds k true) w := by
  intro p hp hno
  obtain ⟨x, hx, rfl⟩ := List.mem_map.1 hp
  rcases h.mem x hx with h | h
  · have := hno k (by simp [hlt]) hk
    simp only at this
    rw [h] at this; cases this
  · exact fun a ha => h a w ha hw
/-- an act: all others that have not come up wait for it. -/
theorem Ord.eff {ord : List Nat} {X : Type} {v : X → Value} {G' : X → List Assn} (hR : Right l A ord) (ho : nth l i = some o) (hk : acts o.op = true) (hg : gv l.toArray E o = some true) (hd : fits n o.dst = true)
    (he : Ef P n ds w0 E G o v G') (hF : ∀ x, Keep P n ds w0 A i (G' x) F) (h : ∀ x, Ord P n ds w0 l A F (put E o.dst (v x)) (G' x) Q rest) : Ord P n ds w0 l A F E G Q (i :: rest) := ⟨fun listed a w hc hcl ha hw hH => by
  have ho' : l.toArray[i]? = some o := by rw [nth_eq] at ho; simpa using ho
  have hk : effOf l i = true := by simp only [effOf, ho]; exact hk
  simp only [chkOrd, ho', hk, if_true, Bool.and_eq_true, beq_iff_eq] at hc
  rw [fuelOf_cons ho']
  obtain ⟨hr, hrest⟩ := hc
  have hready : i ∈ Region.ready .any l.toArray listed := by rw [hr]; simp
  have hcl' := hcl.add hR.aft hready
  have hlt : i < listed.size := by
    have h0 := (mem_ready.1 hready).1
    rcases Nat.lt_or_ge i listed.size with h' | h'
    · exact h'
    · simp [Array.getElem?_eq_none h'] at h0
  refine ⟨fun h0 => (by rw [h0] at hready; cases hready), fun j hj => ?_⟩
  rw [hr] at hj
  obtain rfl : j = i := by simpa using hj
  unfold wpOpIn
  simp only [ho', gv_sound ha hg, if_true]
  refine (he a w ha hw _ _ fun x w' hw' => ⟨Held.act hlt hk hw' (hF x), (h x).run _ _ _ hrest hcl' (ha.put hd _) hw' (Held.act hlt hk hw' (hF x))⟩)⟩
theorem ready_lt {ops : Array Oper} {listed : Array Bool} {j : Nat} (hr : j ∈ Region.ready .any ops listed) : j < listed.size := by
  have h0 := (mem_ready.1 hr).1
  rcases Nat.lt_or_ge j listed.size with h' | h'
  · exact h'
  · simp [Array.getElem?_eq_none h'] at h0
variable (P n ds w0) in
/-- each of those that may come up next is walked. -/
inductive Forks (l : List Oper) (A : Array Nat) (F : List Early) (E : Env) (G : List Assn) (Q : Exit → Act → World → Prop) (idx : List Nat) (k : Nat) : List Nat → Prop
  | nil : Forks l A F E G Q idx k []
  | act {i : Nat} {o : Oper} {L ord : List Nat} {X : Type} {v : X → Value} {G' : X → List Assn} (ho : nth l i = some o) (hk : acts o.op = true) (hg : gv l.toArray E o = some true) (hd : fits n o.dst = true)
      (he : Ef P n ds w0 E G o v G') (hF : ∀ x, Keep P n ds w0 A i (G' x) F) (hc : chkOrd l.toArray (effOf l) ((listOf l.toArray.size idx).setIfInBounds i true) ord = true) (hf : fuelOf l.toArray ord = k)
      (h : ∀ x, Ord P n ds w0 l A F (put E o.dst (v x)) (G' x) Q ord) (t : Forks l A F E G Q idx k L) : Forks l A F E G Q idx k (i :: L)
theorem Forks.mem {idx L : List Nat} {k : Nat} (f : Forks P n ds w0 l A F E G Q idx k L) {j : Nat} (hj : j ∈ L) (hR : aftB l.toArray A = true) {a : Act} {w : World} (hcl : Closed A (listOf l.toArray.size idx)) (hr : j ∈ Region.ready .any l.toArray (listOf l.toArray.size idx))
    (ha : Agree n ds E a) (hw : St w0 G w) : wpOpIn (fen ds) 0 P l.toArray Q j (fun a' w' => Held A (effOf l) (F.map fun x => (x.i, x.holds P n ds)) ((listOf l.toArray.size idx).setIfInBounds j true) w' ∧
      wpAnyF ds P l.toArray A (effOf l) Q (F.map fun x => (x.i, x.holds P n ds)) k ((listOf l.toArray.size idx).setIfInBounds j true) a' w') a w := by
  induction f with
  | nil => cases hj
  | @act i o L ord X v G' ho hk hg hd he hF hc hf h t ih =>
    rcases List.mem_cons.1 hj with rfl | hj
    · have ho' : l.toArray[j]? = some o := by rw [nth_eq] at ho; simpa using ho
      have hk : effOf l j = true := by simp only [effOf, ho]; exact hk
      have hcl' := hcl.add hR hr
      have hlt : j < (listOf l.toArray.size idx).size := ready_lt hr
      unfold wpOpIn
      simp only [ho', gv_sound ha hg, if_true]
      refine he a w ha hw _ _ fun x w' hw' => ⟨Held.act hlt hk hw' (hF x), ?_⟩
      rw [← hf]
      exact (h x).run _ _ _ hc hcl' (ha.put hd _) hw' (Held.act hlt hk hw' (hF x))
    · exact ih hj
/-- here more than one act may come up next. -/
theorem Ord.fork {ord idx L : List Nat} {m k : Nat} (hR : Right l A ord) (hm : nth l m = none) (hr : Region.ready .any l.toArray (listOf l.toArray.size idx) = L) (hL : L.isEmpty = false) (hk : l.toArray.size - idx.length = k + 1)
    (hf : Forks P n ds w0 l A F E G Q idx k L) : Ord P n ds w0 l A F E G Q (m :: idx) := ⟨fun listed a w hc hcl ha hw hH => by
  have hm' : l.toArray[m]? = none := by rw [nth_eq] at hm; simpa using hm
  simp only [chkOrd, hm', beq_iff_eq] at hc
  subst hc
  rw [show fuelOf l.toArray (m :: idx) = k + 1 by simp only [fuelOf, hm', hk]]
  refine ⟨fun h0 => ?_, fun j hj => ?_⟩
  · rw [hr] at h0; subst h0; cases hL
  · exact hf.mem (by rw [← hr]; exact hj) hR.aft hcl hj ha hw⟩
/-- an act whose guard says no. -/
theorem Ord.skip_eff {ord : List Nat} (hR : Right l A ord) (ho : nth l i = some o) (hk : acts o.op = true) (hg : gv l.toArray E o = some false) (hd : fits n o.dst = true)
    (hF : Keep P n ds w0 A i G F) (h : Ord P n ds w0 l A F (put E o.dst undef) G Q rest) : Ord P n ds w0 l A F E G Q (i :: rest) := ⟨fun listed a w hc hcl ha hw hH => by
  have ho' : l.toArray[i]? = some o := by rw [nth_eq] at ho; simpa using ho
  have hk : effOf l i = true := by simp only [effOf, ho]; exact hk
  simp only [chkOrd, ho', hk, if_true, Bool.and_eq_true, beq_iff_eq] at hc
  rw [fuelOf_cons ho']
  obtain ⟨hr, hrest⟩ := hc
  have hready : i ∈ Region.ready .any l.toArray listed := by rw [hr]; simp
  have hcl' := hcl.add hR.aft hready
  have hlt : i < listed.size := by
    have h0 := (mem_ready.1 hready).1
    rcases Nat.lt_or_ge i listed.size with h' | h'
    · exact h'
    · simp [Array.getElem?_eq_none h'] at h0
  refine ⟨fun h0 => (by rw [h0] at hready; cases hready), fun j hj => ?_⟩
  rw [hr] at hj
  obtain rfl : j = i := by simpa using hj
  unfold wpOpIn
  simp only [ho', gv_sound ha hg, Bool.false_eq_true, if_false]
  exact ⟨fun _ _ => trivial, Held.act hlt hk hw hF, h.run _ _ _ hrest hcl' (ha.put hd _) hw (Held.act hlt hk hw hF)⟩⟩
end
end

/-! ### contracts -/
section
variable {P : Program} {n : Nat} {ds : Fz} {w0 : World} {E : Env} {G : List Assn} {Q : Exit → Act → World → Prop}
def Callable (P : Program) (f : FuncId) : Prop := ∃ fn, P.funcs[f]? = some fn ∧ (fn.name == "runtime.NumGoroutine") = false ∧ fn.body.isNone = false
/-- called with args where memory holds A (its own, to be changed) and D can be read elsewhere: it returns r x, and memory holds B x. -/
structure Trip (P : Program) (f : FuncId) (args : List Value) (D : Assn) (A : List Assn) {X : Type} (r : X → Value) (B : X → List Assn) : Prop where
  ok : Callable P f
  run : ∀ (F : Assn) (w : World), (∀ h, F h → D h) → sep (A ++ [F]) (hpart w) → Calls P f args.toArray w fun e w' => ∃ x, e = .returned (r x) ∧ St w (B x ++ [F]) w'
def envOf : Nat → List Value → Env
  | _, [] => []
  | k, v :: l => (k, v) :: envOf (k + 1) l
theorem look_envOf : ∀ (l : List Value) (k j : Nat) (v : Value), look (envOf k l) j = some v → k ≤ j ∧ l[j - k]? = some v
  | [], k, j, v, h => by simp [envOf, look] at h
  | u :: l, k, j, v, h => by
    simp only [envOf, look] at h
    cases hb : Nat.beq k j with
    | true =>
      rw [hb] at h
      have := Nat.eq_of_beq_eq_true hb
      subst this
      simpa using h
    | false =>
      rw [hb] at h
      have hne : k ≠ j := fun e => by subst e; simp at hb
      obtain ⟨h1, h2⟩ := look_envOf l (k + 1) j v h
      refine ⟨by omega, ?_⟩
      have : j - k = (j - (k + 1)) + 1 := by omega
      rw [this]
      simpa using h2
theorem Trip.intro {f : FuncId} {fn : Func} {c : Code} {args : List Value} {D : Assn} {A : List Assn} {X : Type} {r : X → Value} {B : X → List Assn}
    (hf : P.funcs[f]? = some fn) (hn : (fn.name == "runtime.NumGoroutine") = false) (hb : fn.body = some c) (hk : fn.ntmps = n) (hle : Nat.ble args.length n = true)
    (h : ∀ (F : Assn) (w : World), (∀ h, F h → D h) → J P n fz0 w (envOf 0 args) (A ++ [F]) (bodyPost P fn fun e w' => ∃ x, e = .returned (r x) ∧ St w (B x ++ [F]) w') c) :
    Trip P f args D A r B := by
  refine ⟨⟨fn, hf, hn, by simp [hb]⟩, fun F w hD hs => callsIn_wide.1 (callsIn_of_wp (n := 0) hf hb trivial ((h F w hD).run _ w ⟨?_, rfl, ?_⟩ ⟨hs, Same.refl w⟩))⟩
  · have := Nat.le_of_ble_eq_true hle
    simp [hk]; omega
  · intro j v hj
    obtain ⟨_, h2⟩ := look_envOf args 0 j v hj
    have hlt : j < args.length := (List.getElem?_eq_some_iff.1 (by simpa using h2)).1
    simp only [Nat.sub_zero] at h2
    simp only [List.size_toArray, hlt, Array.getElem?_append_left]
    simpa using h2
/-- the end of the function: its results, each in a slot. -/
theorem At.done1 {fn : Func} {t : Tmp} {X : Type} {r : X → Value} {B : X → List Assn} {F : Assn} (hr : fn.results = #[.tmp t]) (x : X) (hv : look E t = some (r x)) (hG : ∀ h, sep G h → sep (B x ++ [F]) h) :
    At n fz0 w0 E G (bodyPost P fn (fun e w' => ∃ x, e = .returned (r x) ∧ St w0 (B x ++ [F]) w') .ret) := ⟨fun a w ha hw => by
  refine ⟨ha.defers, r x, ?_, x, rfl, hG _ hw.sep, hw.same⟩
  rw [results_tmp hr]
  simp [ha.get t _ hv]⟩
theorem At.done1' {fn : Func} {t : Tmp} {X : Type} {r : X → Value} {B : X → List Assn} {F : Assn} (hr : fn.results = #[.tmp t]) (x : X) (hv : look E t = some (r x)) (hG : ∀ h, sep G h → sep (B x ++ [F]) h) :
    At n fz0 w0 E G (bodyPost P fn (fun e w' => ∃ x, e = .returned (r x) ∧ St w0 (B x ++ [F]) w') .normal) := ⟨(At.done1 (P := P) hr x hv hG).run⟩
theorem At.done2 {fn : Func} {t u : Tmp} {X : Type} {r : X → Value} {B : X → List Assn} {F : Assn} (hr : fn.results = #[.tmp t, .tmp u]) (x : X) {v1 v2 : Value} (h1 : look E t = some v1) (h2 : look E u = some v2)
    (hv : Value.tuple #[v1, v2] = r x) (hG : ∀ h, sep G h → sep (B x ++ [F]) h) :
    At n fz0 w0 E G (bodyPost P fn (fun e w' => ∃ x, e = .returned (r x) ∧ St w0 (B x ++ [F]) w') .ret) := ⟨fun a w ha hw => by
  refine ⟨ha.defers, r x, ?_, x, rfl, hG _ hw.sep, hw.same⟩
  rw [results_tmp2 hr]
  simp [ha.get t _ h1, ha.get u _ h2, hv]⟩
theorem At.done3 {fn : Func} {t u s : Tmp} {X : Type} {r : X → Value} {B : X → List Assn} {F : Assn} (hr : fn.results = #[.tmp t, .tmp u, .tmp s]) (x : X) {v1 v2 v3 : Value} (h1 : look E t = some v1) (h2 : look E u = some v2) (h3 : look E s = some v3)
    (hv : Value.tuple #[v1, v2, v3] = r x) (hG : ∀ h, sep G h → sep (B x ++ [F]) h) :
    At n fz0 w0 E G (bodyPost P fn (fun e w' => ∃ x, e = .returned (r x) ∧ St w0 (B x ++ [F]) w') .ret) := ⟨fun a w ha hw => by
  refine ⟨ha.defers, r x, ?_, x, rfl, hG _ hw.sep, hw.same⟩
  simp [results, hr, ha.get t _ h1, ha.get u _ h2, ha.get s _ h3, hv]⟩
theorem At.done0 {fn : Func} {X : Type} {r : X → Value} {B : X → List Assn} {F : Assn} (hr : fn.results = #[]) (x : X) (hv : Value.tuple #[] = r x) (hG : ∀ h, sep G h → sep (B x ++ [F]) h) :
    At n fz0 w0 E G (bodyPost P fn (fun e w' => ∃ x, e = .returned (r x) ∧ St w0 (B x ++ [F]) w') .normal) := ⟨fun a w ha hw => by
  refine ⟨ha.defers, r x, ?_, x, rfl, hG _ hw.sep, hw.same⟩
  rw [results_none hr, hv]⟩

/-! ### a call -/
def evs (E : Env) : List Operand → Option (List Value)
  | [] => some []
  | x :: l => match ev E x with
    | some v => match evs E l with
      | some vs => some (v :: vs)
      | none => none
    | none => none
theorem evs_sound {a : Act} (ha : Agree n ds E a) : ∀ {l : List Operand} {vs : List Value}, evs E l = some vs → l.map a.eval = vs
  | [], vs, h => by simpa [evs] using h
  | x :: l, vs, h => by
    simp only [evs] at h
    split at h
    · rename_i v hv
      split at h
      · rename_i us hu
        simp only [Option.some.injEq] at h
        subst h
        simp [ha.eval hv, evs_sound ha hu]
      · cases h
    · cases h
/-- what a function value calls, with which arguments. -/
def target : Value → List Value → Option (FuncId × List Value)
  | .func (.func f) first captured, args => some (f, first.toList ++ args ++ captured.toList)
  | _, _ => none
theorem Calls.same {f : FuncId} {args : Array Value} {w : World} {R R' : Ending → World → Prop} (h : Calls P f args w R) (hr : ∀ e w', R e w' → R' e w') : Calls P f args w R' := h.mono hr
theorem Ef.call {o : Oper} {fo : Operand} {ops : List Operand} {ats : Array TypeId} {fv : Value} {vs vs' : List Value} {f : FuncId} {D : Assn} {A G' : List Assn} {X : Type} {r : X → Value} {B : X → List Assn}
    (ho : o.op = .call { callee := .value fo, args := ops.toArray, argTypes := ats }) (hfv : ev E fo = some fv) (hvs : evs E ops = some vs) (ht : target fv vs = some (f, vs'))
    (hT : Trip P f vs' D A r B) (hp : Picks A G G') (hD : ∀ h, sep G' h → D h) : Ef P n ds w0 E G o r (fun x => B x ++ G') := fun a w ha hw K Q hK => by
  obtain ⟨fn, hfn, hname, hbody⟩ := hT.ok
  have hfv' := ha.eval hfv
  have hvs' := evs_sound ha hvs
  have hrun : (execOp a.eval o).run P w = .ok (.enter f vs'.toArray) w := by
    cases fv <;> simp only [target] at ht <;> try (cases ht; done)
    rename_i fnn first captured
    cases fnn <;> simp only [Option.some.injEq, Prod.mk.injEq, reduceCtorEq] at ht
    obtain ⟨rfl, rfl⟩ := ht
    have e1 : (List.map a.eval ops).toArray = vs.toArray := by rw [hvs']
    have hname' : ¬ fn.name = "runtime.NumGoroutine" := by simpa using hname
    have hbody' : ¬ fn.body = none := fun e => by simp [e] at hbody
    have e2 : (first.toList ++ (vs ++ captured.toList)).toArray = first ++ (vs.toArray ++ captured) := by simp
    simp only [execOp, ho, resolve, hfv', Deferred.ofValue, invoke, callFunc]
    simp [program, Sem.run, hfn, hname', hbody', hvs', e2]
  refine wpIn_of hrun (fun _ e => by cases e) ?_
  rw [Oper.uponIn_enter]
  refine ⟨fun e => (by simp [fen, Fence.wide] at e), ?_⟩
  have hs := Picks.out hp hw.sep
  have := hT.run (sep G') w hD (append_sep (star_mono (fun _ h => h) (fun k h => ⟨k, fun _ => none, fun _ _ _ _ e => by simp at e, Part.le_refl _, fun _ _ e => by simp at e, h, trivial⟩) (sep_append hs)))
  have h2 : CallsIn (fen ds) 0 P f vs'.toArray w _ := callsIn_wide.2 this
  refine CallsIn.mono h2 fun e w' he => ?_
  obtain ⟨x, rfl, hx⟩ := he
  refine hK x w' ⟨?_, hw.same.trans hx.same⟩
  have h1 := sep_append hx.sep
  exact append_sep (star_mono (fun _ h => h) (fun k h => by obtain ⟨h1, _, _, l1, _, b, _⟩ := h; exact sep_mono_part l1 b) h1)
end
end Go.Ent
namespace Go.Ent
open Go

/-! ### a table of types -/
inductive TK where
  | bool | int (k : IntKind) | float (k : FloatKind) | string | ptr (e : TypeId) | slice (e : TypeId) | arr (n : Nat) (e : TypeId) | map (k e : TypeId)
  | str (fs : List (Nat × TypeId × Nat)) | iface | func | other
structure TI where
  k : TK
  size : Nat
  bytes : Nat
abbrev Tab := TypeId → Option TI
def TK.fits (P : Program) : TK → TypeDesc → Bool
  | .bool, .bool => true
  | .int k, .int k' => k == k'
  | .float k, .float k' => k == k'
  | .string, .string => true
  | .ptr e, .pointer e' => e == e'
  | .slice e, .slice e' => e == e'
  | .arr n e, .array n' e' => n == n' && e == e'
  | .map k e, .map k' e' => k == k' && e == e'
  | .str fs, .struct gs => fs.length == gs.size && (fs.zip gs.toList).all fun (f, g) => f.1 == g.offset && f.2.1 == g.type && P.cellsOf g.type == f.2.2 && (P.info? g.type).isSome
  | .iface, .interface _ => true
  | .func, .func .. => true
  | _, _ => false
def TI.ok (P : Program) (t : TypeId) (i : TI) : Bool :=
  match P.underlying t, P.info? t with
  | some d, some j => i.k.fits P d && j.size == i.size && j.bytes == i.bytes
  | _, _ => false
def TabOk (P : Program) (T : Tab) : Prop := ∀ t i, T t = some i → i.ok P t = true
theorem TI.ok_und {P : Program} {t : TypeId} {i : TI} (h : i.ok P t = true) : ∃ d j, P.underlying t = some d ∧ P.info? t = some j ∧ i.k.fits P d = true ∧ j.size = i.size ∧ j.bytes = i.bytes := by
  unfold TI.ok at h
  cases hu : P.underlying t with
  | none => simp [hu] at h
  | some d =>
    cases hi : P.info? t with
    | none => simp [hu, hi] at h
    | some j =>
      simp only [hu, hi, Bool.and_eq_true, beq_iff_eq] at h
      exact ⟨d, j, rfl, rfl, h.1.1, h.1.2, h.2⟩
section
variable {P : Program} {T : Tab} (hT : TabOk P T) {t : TypeId} {s b : Nat}
include hT
theorem TabOk.und {i : TI} (h : T t = some i) : ∃ d j, P.underlying t = some d ∧ P.info? t = some j ∧ i.k.fits P d = true ∧ j.size = i.size ∧ j.bytes = i.bytes := TI.ok_und (hT _ _ h)
theorem TabOk.int {k : IntKind} (h : T t = some ⟨.int k, s, b⟩) : P.underlying t = some (.int k) := by
  obtain ⟨d, j, hu, _, hf, _⟩ := hT.und h
  cases d <;> simp [TK.fits] at hf
  rw [hu, hf]
theorem TabOk.bool (h : T t = some ⟨.bool, s, b⟩) : P.underlying t = some .bool := by
  obtain ⟨d, j, hu, _, hf, _⟩ := hT.und h
  cases d <;> simp [TK.fits] at hf
  exact hu
theorem TabOk.string (h : T t = some ⟨.string, s, b⟩) : P.underlying t = some .string := by
  obtain ⟨d, j, hu, _, hf, _⟩ := hT.und h
  cases d <;> simp [TK.fits] at hf
  exact hu
theorem TabOk.ptr {e : TypeId} (h : T t = some ⟨.ptr e, s, b⟩) : P.underlying t = some (.pointer e) := by
  obtain ⟨d, j, hu, _, hf, _⟩ := hT.und h
  cases d <;> simp [TK.fits] at hf
  rw [hu, hf]
theorem TabOk.slice {e : TypeId} (h : T t = some ⟨.slice e, s, b⟩) : P.underlying t = some (.slice e) := by
  obtain ⟨d, j, hu, _, hf, _⟩ := hT.und h
  cases d <;> simp [TK.fits] at hf
  rw [hu, hf]
theorem TabOk.arr {m : Nat} {e : TypeId} (h : T t = some ⟨.arr m e, s, b⟩) : P.underlying t = some (.array m e) := by
  obtain ⟨d, j, hu, _, hf, _⟩ := hT.und h
  cases d <;> simp [TK.fits] at hf
  rw [hu, hf.1, hf.2]
theorem TabOk.map {k e : TypeId} (h : T t = some ⟨.map k e, s, b⟩) : P.underlying t = some (.map k e) := by
  obtain ⟨d, j, hu, _, hf, _⟩ := hT.und h
  cases d <;> simp [TK.fits] at hf
  rw [hu, hf.1, hf.2]
theorem TabOk.iface (h : T t = some ⟨.iface, s, b⟩) : ∃ ms, P.underlying t = some (.interface ms) := by
  obtain ⟨d, j, hu, _, hf, _⟩ := hT.und h
  cases d <;> simp [TK.fits] at hf
  exact ⟨_, hu⟩
theorem TabOk.func (h : T t = some ⟨.func, s, b⟩) : ∃ ps rs v, P.underlying t = some (.func ps rs v) := by
  obtain ⟨d, j, hu, _, hf, _⟩ := hT.und h
  cases d <;> simp [TK.fits] at hf
  exact ⟨_, _, _, hu⟩
theorem TabOk.str {fs : List (Nat × TypeId × Nat)} (h : T t = some ⟨.str fs, s, b⟩) : ∃ gs : Array Field, P.underlying t = some (.struct gs) ∧ gs.size = fs.length ∧
    ∀ k f, nth fs k = some f → ∃ g j, gs[k]? = some g ∧ g.offset = f.1 ∧ g.type = f.2.1 ∧ P.info? g.type = some j ∧ j.size = f.2.2 := by
  obtain ⟨d, j, hu, _, hf, _⟩ := hT.und h
  cases d <;> simp only [TK.fits, Bool.false_eq_true, Bool.and_eq_true, beq_iff_eq] at hf
  rename_i gs
  refine ⟨gs, hu, hf.1.symm, fun k f hk => ?_⟩
  rw [nth_eq] at hk
  have hlt : k < fs.length := (List.getElem?_eq_some_iff.1 hk).1
  have hg : k < gs.toList.length := by simp; omega
  have hm : (f, gs.toList[k]) ∈ fs.zip gs.toList := by
    have : (fs.zip gs.toList)[k]? = some (f, gs.toList[k]) := by
      rw [List.getElem?_zip_eq_some]
      exact ⟨hk, by simp⟩
    exact List.mem_of_getElem? this
  have := List.all_eq_true.1 hf.2 _ hm
  simp only [Bool.and_eq_true, beq_iff_eq] at this
  obtain ⟨⟨⟨h1, h2⟩, h3⟩, h4⟩ := this
  obtain ⟨j', hj'⟩ := Option.isSome_iff_exists.1 h4
  refine ⟨gs.toList[k], j', by simp at hg; simp [hg], h1.symm, h2.symm, hj', ?_⟩
  simp only [Program.cellsOf, hj', Option.map_some, Option.getD_some] at h3
  exact h3
end

/-! ### what two operands give -/
def ibits (op : BinOp) (k : IntKind) (x y : Int) : Int :=
  let a := BitVec.ofInt k.bits x
  let b := BitVec.ofInt k.bits y
  match op with
  | .and => k.wrap (a &&& b).toNat
  | .or => k.wrap (a ||| b).toNat
  | .xor => k.wrap (a ^^^ b).toNat
  | _ => k.wrap (a &&& ~~~b).toNat
def shl (k : IntKind) (x : Int) (y : Nat) : Int := k.wrap (x * 2 ^ (Nat.min y k.bits))
def shr (k : IntKind) (x : Int) (y : Nat) : Int := x.fdiv (2 ^ (Nat.min y k.bits))
def isConst : Operand → Bool
  | .const _ => true
  | _ => false
/-- the values' own part. -/
def bv : BinOp → Value → Value → Option Value
  | .add, .int k a, .int k' b => bif k == k' then some (.int k (k.wrap (a + b))) else none
  | .sub, .int k a, .int k' b => bif k == k' then some (.int k (k.wrap (a - b))) else none
  | .mul, .int k a, .int k' b => bif k == k' then some (.int k (k.wrap (a * b))) else none
  | .and, .int k a, .int k' b => bif k == k' then some (.int k (ibits .and k a b)) else none
  | .or, .int k a, .int k' b => bif k == k' then some (.int k (ibits .or k a b)) else none
  | .xor, .int k a, .int k' b => bif k == k' then some (.int k (ibits .xor k a b)) else none
  | .andNot, .int k a, .int k' b => bif k == k' then some (.int k (ibits .andNot k a b)) else none
  | .eql, .int k a, .int k' b => bif k == k' then some (.bool (a == b)) else none
  | .neq, .int k a, .int k' b => bif k == k' then some (.bool (a != b)) else none
  | .lss, .int k a, .int k' b => bif k == k' then some (.bool (decide (a < b))) else none
  | .leq, .int k a, .int k' b => bif k == k' then some (.bool (decide (a ≤ b))) else none
  | .gtr, .int k a, .int k' b => bif k == k' then some (.bool (decide (a > b))) else none
  | .geq, .int k a, .int k' b => bif k == k' then some (.bool (decide (a ≥ b))) else none
  | .quo, .int k a, .int k' (.ofNat (m + 1)) => bif k == k' then some (.int k (k.wrap (a.tdiv (.ofNat (m + 1))))) else none
  | .rem, .int k a, .int k' (.ofNat (m + 1)) => bif k == k' then some (.int k (a.tmod (.ofNat (m + 1)))) else none
  | .shl, .int k a, .int _ (.ofNat m) => some (.int k (shl k a m))
  | .shr, .int k a, .int _ (.ofNat m) => some (.int k (shr k a m))
  | .add, .string _, .string _ => none
  | .eql, .string a, .string b => some (.bool (a.toList == b.toList))
  | .neq, .string a, .string b => some (.bool !(a.toList == b.toList))
  | .lss, .string a, .string b => some (.bool (Op.bytesLess a.toList b.toList))
  | .leq, .string a, .string b => some (.bool (Op.bytesLess a.toList b.toList || a.toList == b.toList))
  | .gtr, .string a, .string b => some (.bool !(Op.bytesLess a.toList b.toList || a.toList == b.toList))
  | .geq, .string a, .string b => some (.bool !(Op.bytesLess a.toList b.toList))
  | _, _, _ => none
theorem bv_sound {P : Program} {op : BinOp} {t : TypeId} {x y v : Value} (h : bv op x y = some v) (w : World) : (binOp op t x y).run P w = .ok v w := by
  unfold bv at h
  split at h <;> first
    | (cases h; done)
    | (simp only [Option.some.injEq] at h; subst h; simp [binOp, Op.stringOp]; done)
    | (rename_i k a k' b
       cases hk : k == k'
       · simp [hk] at h
       · simp only [hk, cond_true, Option.some.injEq] at h
         have hk' : k = k' := by simpa using hk
         subst hk'
         subst h
         simp [binOp, Op.intArith, Op.intBits, Op.intCmp, ibits]
         done)
    | (rename_i k a k' m
       by_cases hk' : k = k'
       · subst hk'
         simp only [beq_self_eq_true, cond_true, Option.some.injEq] at h
         subst h
         have hne : ¬ (Int.ofNat m.succ = 0) := fun e => by cases e
         simp only [binOp, ne_eq, not_true_eq_false, if_false, Op.intDiv, hne]
         rfl
       · have : (k == k') = false := by simpa using hk'
         simp [this] at h)
    | (rename_i k a k' m
       simp only [Option.some.injEq] at h
       subst h
       have hne : ¬ (Int.ofNat m < 0) := by simp
       simp only [binOp, Op.shift, hne, if_false, shl, shr]
       simp
       done)
/-- equality, where the values' own part does not do. -/
def eqv (T : Tab) (t : TypeId) (a b : Value) : Option Bool :=
  match a, b with
  | .bool a, .bool b => match T t with | some ⟨.bool, _, _⟩ => some (a == b) | _ => none
  | .pointer none, .pointer none => match T t with | some ⟨.ptr _, _, _⟩ => some true | _ => none
  | .pointer none, .pointer (some _) => match T t with | some ⟨.ptr _, _, _⟩ => some false | _ => none
  | .pointer (some _), .pointer none => match T t with | some ⟨.ptr _, _, _⟩ => some false | _ => none
  | .nilIface, .nilIface => match T t with | some ⟨.iface, _, _⟩ => some true | _ => none
  | .iface _ _, .nilIface => match T t with | some ⟨.iface, _, _⟩ => some false | _ => none
  | .nilIface, .iface _ _ => match T t with | some ⟨.iface, _, _⟩ => some false | _ => none
  | .nilFunc, .nilFunc => match T t with | some ⟨.func, _, _⟩ => some true | _ => none
  | .func _ _ _, .nilFunc => match T t with | some ⟨.func, _, _⟩ => some false | _ => none
  | .slice none _ _, .slice none _ _ => match T t with | some ⟨.slice _, _, _⟩ => some true | _ => none
  | .slice (some _) _ _, .slice none _ _ => match T t with | some ⟨.slice _, _, _⟩ => some false | _ => none
  | .map none, .map none => match T t with | some ⟨.map _ _, _, _⟩ => some true | _ => none
  | .map (some _), .map none => match T t with | some ⟨.map _ _, _, _⟩ => some false | _ => none
  | _, _ => none
theorem eqv_sound {P : Program} {T : Tab} (hT : TabOk P T) {t : TypeId} {a b : Value} {r : Bool} (h : eqv T t a b = some r) (w : World) (d : Nat) :
    (Op.equalIn (d + 1) t a b).run P w = .ok r w := by
  unfold eqv at h
  split at h <;> (try (cases h; done)) <;> (split at h <;> (try (cases h; done))) <;> rename_i hTt <;> simp only [Option.some.injEq] at h <;> subst h
  · simp [Op.equalIn, run_underlying (hT.bool hTt)]
  · simp [Op.equalIn, run_underlying (hT.ptr hTt)]
  · simp [Op.equalIn, run_underlying (hT.ptr hTt)]
  · simp [Op.equalIn, run_underlying (hT.ptr hTt)]
  · obtain ⟨ms, hu⟩ := hT.iface hTt; simp [Op.equalIn, run_underlying hu]
  · obtain ⟨ms, hu⟩ := hT.iface hTt; simp [Op.equalIn, run_underlying hu]
  · obtain ⟨ms, hu⟩ := hT.iface hTt; simp [Op.equalIn, run_underlying hu]
  · obtain ⟨_, _, _, hu⟩ := hT.func hTt; simp [Op.equalIn, run_underlying hu]
  · obtain ⟨_, _, _, hu⟩ := hT.func hTt; simp [Op.equalIn, run_underlying hu]
  · simp [Op.equalIn, run_underlying (hT.slice hTt)]
  · simp [Op.equalIn, run_underlying (hT.slice hTt)]
  · simp [Op.equalIn, run_underlying (hT.map hTt)]
  · simp [Op.equalIn, run_underlying (hT.map hTt)]
def guarded (x y : Operand) (a b : Value) : Bool :=
  match a, b with
  | .nilIface, .nilIface => isConst x || isConst y
  | .agg _, .agg _ => false
  | _, _ => true
def bvT (T : Tab) (op : BinOp) (t : TypeId) (x y : Operand) (a b : Value) : Option Value :=
  match bv op a b with
  | some v => some v
  | none => bif guarded x y a b then
      match op with
      | .eql => match eqv T t a b with | some r => some (.bool r) | none => none
      | .neq => match eqv T t a b with | some true => some (.bool false) | some false => some (.bool true) | none => none
      | _ => none
    else none
theorem eqGuard_run {P : Program} {op : BinOp} {t : TypeId} {x y : Operand} {a b : Value} (h : guarded x y a b = true) (w : World) : (eqGuard op t x y a b).run P w = .ok () w := by
  cases a <;> cases b <;> first
    | (simp [guarded] at h; done)
    | (cases op <;> simp [eqGuard]; done)
    | (cases x <;> cases y <;> simp [isConst, guarded] at h <;> cases op <;> simp [eqGuard]; done)
theorem bv_guarded {op : BinOp} {a b v : Value} (h : bv op a b = some v) (x y : Operand) : guarded x y a b = true := by
  unfold bv at h
  split at h <;> first | (cases h; done) | rfl
theorem bvT_sound {P : Program} {T : Tab} (hT : TabOk P T) {op : BinOp} {t : TypeId} {x y : Operand} {a b v : Value} (h : bvT T op t x y a b = some v) (w : World) :
    (do eqGuard op t x y a b; binOp op t a b : Sem Value).run P w = .ok v w := by
  unfold bvT at h
  split at h
  · rename_i u hu
    cases h
    simp only [Sem.run_bind, eqGuard_run (bv_guarded hu x y), Result.andThen_ok, bv_sound hu]
  · rename_i hn
    cases hg : guarded x y a b with
    | false => simp [hg] at h
    | true =>
      simp only [hg, cond_true] at h
      simp only [Sem.run_bind, eqGuard_run hg, Result.andThen_ok]
      split at h
      · split at h
        · rename_i r hr
          cases h
          have he := eqv_sound hT hr w 9999
          unfold eqv at hr
          split at hr <;> (try (cases hr; done)) <;> simp [binOp, Op.equal, Op.maxDepth, he]
        · cases h
      · split at h
        · rename_i hr
          cases h
          have he := eqv_sound hT hr w 9999
          unfold eqv at hr
          split at hr <;> (try (cases hr; done)) <;> simp [binOp, Op.equal, Op.maxDepth, he]
        · rename_i hr
          cases h
          have he := eqv_sound hT hr w 9999
          unfold eqv at hr
          split at hr <;> (try (cases hr; done)) <;> simp [binOp, Op.equal, Op.maxDepth, he]
        · cases h
      · cases h

end Go.Ent
namespace Go.Ent
open Go

/-! ### what an operation that only reckons gives -/
def uv : UnOp → Value → Option Value
  | .neg, .int k n => some (.int k (k.wrap (0 - n)))
  | .xor, .int k n => some (.int k (ibits .xor k (if k.signed then -1 else k.max) n))
  | .not, .bool true => some (.bool false)
  | .not, .bool false => some (.bool true)
  | _, _ => none
/-- part of an aggregate's cells. -/
def sub (cs : List Value) (off : Nat) (k : Nat) : List Value := (cs.drop off).take k
def fieldOf (T : Tab) (fs : List (Nat × TypeId × Nat)) (f : Nat) (cs : List Value) : Option Value :=
  match nth fs f with
  | some (off, t, sz) => match T t with
    | some ⟨.str _, _, _⟩ => some (.agg (sub cs off sz).toArray)
    | some ⟨.arr _ _, _, _⟩ => some (.agg (sub cs off sz).toArray)
    | some _ => nth cs off
    | none => none
  | none => none
def pv (T : Tab) (E : Env) : Op → Option Value
  | .move x => ev E x
  | .assign x => ev E x
  | .pick c a b => match ev E c with
    | some (.bool true) => ev E a
    | some (.bool false) => ev E b
    | _ => none
  | .nilCheck x => match ev E x with
    | some (.pointer (some a)) => some (.pointer (some a))
    | some (.func (.func f) fs cs) => some (.func (.func f) fs cs)
    | _ => none
  | .binOp op t x y _ => match ev E x with
    | some a => match ev E y with
      | some b => bvT T op t x y a b
      | none => none
    | none => none
  | .unOp op _ x => match ev E x with
    | some a => uv op a
    | none => none
  | .convert s d x => match ev E x with
    | some (.int _ n) => match T s with
      | some ⟨.int _, _, _⟩ => match T d with
        | some ⟨.int k, _, _⟩ => some (.int k (k.wrap n))
        | _ => none
      | _ => none
    | _ => none
  | .makeInterface t x => match T t with
    | some ⟨.iface, _, _⟩ => none
    | some _ => match ev E x with
      | some v => some (.iface t v)
      | none => none
    | none => none
  | .makeFunc (.func f) first captured => match evs E first.toList with
    | some fs => match evs E captured.toList with
      | some cs => some (.func (.func f) fs.toArray cs.toArray)
      | none => none
    | none => none
  | .extract t i => match ev E t with
    | some (.tuple vs) => nth vs.toList i
    | _ => none
  | .fieldAddr s x f => match ev E x with
    | some (.pointer (some ⟨b, off, none⟩)) => match T s with
      | some ⟨.str fs, _, _⟩ => match nth fs f with
        | some (o, _, _ + 1) => some (.pointer (some ⟨b, off + o, none⟩))
        | _ => none
      | _ => none
    | _ => none
  | .field s x f => match ev E x with
    | some (.agg cs) => match T s with
      | some ⟨.str fs, _, _⟩ => fieldOf T fs f cs.toList
      | _ => none
    | _ => none
  | .call { callee := .builtin .len, args, argTypes } => match args.toList with
    | [x] => match argTypes.toList with
      | [t] => match T t with
        | some ⟨.slice _, _, _⟩ => match ev E x with
          | some (.slice _ m _) => some (.int .i64 m)
          | _ => none
        | some ⟨.string, _, _⟩ => match ev E x with
          | some (.string s) => some (.int .i64 s.size)
          | _ => none
        | some ⟨.arr m _, _, _⟩ => match ev E x with
          | some _ => some (.int .i64 m)
          | none => none
        | _ => none
      | _ => none
    | _ => none
  | _ => none
def isAggD : TypeDesc → Bool
  | .struct _ => true
  | .array _ _ => true
  | _ => false
def aggK : TK → Bool
  | .str _ => true
  | .arr _ _ => true
  | _ => false
theorem run_isAgg_of {P : Program} {t : TypeId} {d : TypeDesc} (h : P.underlying t = some d) (w : World) : (isAgg t).run P w = .ok (isAggD d) w := by
  unfold isAgg
  simp only [Sem.run_bind, run_underlying h, Result.andThen_ok]
  cases d <;> rfl
theorem run_isAgg_tab {P : Program} {T : Tab} (hT : TabOk P T) {t : TypeId} {i : TI} (h : T t = some i) (w : World) : (isAgg t).run P w = .ok (aggK i.k) w := by
  obtain ⟨d, j, hu, _, hf, _⟩ := hT.und h
  rw [run_isAgg_of hu]
  obtain ⟨k, _, _⟩ := i
  cases d <;> cases k <;> simp [TK.fits] at hf <;> rfl
theorem fieldOf_sound {P : Program} {T : Tab} (hT : TabOk P T) {s : TypeId} {z b : Nat} {fs : List (Nat × TypeId × Nat)} (hs : T s = some ⟨.str fs, z, b⟩) {f : Nat} {cs : Array Value} {v : Value}
    (h : fieldOf T fs f cs.toList = some v) (w : World) : (Instr.field s (.agg cs) f).run P w = .ok v w := by
  obtain ⟨gs, hu, _, hg⟩ := hT.str hs
  unfold fieldOf at h
  split at h
  · rename_i off t sz hn
    obtain ⟨g, j, hgs, h1, h2, h3, h4⟩ := hg _ _ hn
    simp only at h1 h2 h4
    subst h1 h2
    have hpart : (part g.type cs g.offset).run P w = .ok v w := by
      split at h
      · rename_i hTt
        cases h
        have e : cs.extract g.offset (g.offset + sz) = (sub cs.toList g.offset sz).toArray := by
          apply Array.ext'
          simp [sub]
        simp [Go.part, run_isAgg_tab hT hTt, aggK, sizeOf, typeInfo, h3, h4, e]
      · rename_i hTt
        cases h
        have e : cs.extract g.offset (g.offset + sz) = (sub cs.toList g.offset sz).toArray := by
          apply Array.ext'
          simp [sub]
        simp [Go.part, run_isAgg_tab hT hTt, aggK, sizeOf, typeInfo, h3, h4, e]
      · rename_i i hns hna hTt
        have hagg : (isAgg g.type).run P w = .ok false w := by
          rw [run_isAgg_tab hT hTt]
          obtain ⟨k, _, _⟩ := i
          cases k <;> first | rfl | exact (hns _ _ _ rfl).elim | exact (hna _ _ _ _ rfl).elim
        rw [nth_eq] at h
        have hc : cs[g.offset]? = some v := by simpa using h
        simp [Go.part, hagg, hc]
      · cases h
    simp [Instr.field, run_underlying hu, hgs, asAgg, hpart]
  · cases h

theorem sizeOf_pos {P : Program} {t : TypeId} {j : TypeInfo} (h : P.info? t = some j) (w : World) : (sizeOf t).run P w = .ok j.size w := by simp [sizeOf, typeInfo, h]
theorem Addr.add_plain (b off k : Nat) : (⟨b, off, none⟩ : Addr).add k = ⟨b, off + k, none⟩ := by
  unfold Addr.add
  split
  · simp_all
  · rfl
section
variable {P : Program} {n : Nat} {ds : Fz} {E : Env}
theorem evs_sound' {a : Act} (ha : Agree n ds E a) {l : Array Operand} {vs : List Value} (h : evs E l.toList = some vs) : l.map a.eval = vs.toArray := by
  have := evs_sound ha h
  apply Array.ext'
  simpa using this
theorem pv_sound {T : Tab} (hT : TabOk P T) {o : Oper} {v : Value} (h : pv T E o.op = some v) (a : Act) (w : World) (ha : Agree n ds E a) : (execOp a.eval o).run P w = .ok (.value v) w := by
  unfold pv at h
  split at h
  · rename_i x ho
    simp only [execOp, ho, ha.eval h]; rfl
  · rename_i x ho
    simp only [execOp, ho, ha.eval h]; rfl
  · rename_i c x y ho
    split at h
    · rename_i hc; simp only [execOp, ho, ha.eval hc, ha.eval h]; rfl
    · rename_i hc; simp only [execOp, ho, ha.eval hc, ha.eval h]; rfl
    · cases h
  · rename_i x ho
    split at h
    · rename_i hx; cases h; simp only [execOp, ho, ha.eval hx]; rfl
    · rename_i hx; cases h; simp only [execOp, ho, ha.eval hx]; rfl
    · cases h
  · rename_i op t x y _ ho
    split at h
    · rename_i u hx
      split at h
      · rename_i u' hy
        have := bvT_sound hT h w
        simp only [execOp, ho, ha.eval hx, ha.eval hy, Sem.run_bind] at this ⊢
        rw [this]; rfl
      · cases h
    · cases h
  · rename_i op t x ho
    split at h
    · rename_i u hx
      unfold uv at h
      split at h <;> first
        | (cases h; done)
        | (cases h; simp only [execOp, ho, ha.eval hx]; rfl)
    · cases h
  · rename_i s d x ho
    split at h
    · rename_i k0 m hx
      split at h
      · rename_i hs
        split at h
        · rename_i k _ _ hd
          cases h
          simp [execOp, ho, ha.eval hx, convert, run_underlying (hT.int hs), run_underlying (hT.int hd), Conv.intToInt]
        · cases h
      · cases h
    · cases h
  · rename_i t x ho
    split at h
    · cases h
    · rename_i i hni hTt
      split at h
      · rename_i u hx
        cases h
        obtain ⟨d, j, hu, _, hf, _⟩ := hT.und hTt
        simp only [execOp, ho, ha.eval hx, Instr.makeInterface, Sem.run_bind, run_underlying hu, Result.andThen_ok]
        obtain ⟨k, _, _⟩ := i
        cases d <;> first
          | rfl
          | (cases k <;> simp [TK.fits] at hf; exact (hni _ _ rfl).elim)
      · cases h
    · cases h
  · rename_i f first captured ho
    split at h
    · rename_i fs hfs
      split at h
      · rename_i cs hcs
        cases h
        simp only [execOp, ho, Instr.makeFunc, evs_sound' ha hfs, evs_sound' ha hcs]; rfl
      · cases h
    · cases h
  · rename_i t i ho
    split at h
    · rename_i vs hx
      rw [nth_eq] at h
      have h' : vs[i]? = some v := by simpa using h
      simp [execOp, ho, ha.eval hx, Instr.extract, h']
    · cases h
  · rename_i s x f ho
    split at h
    · rename_i b off hx
      split at h
      · rename_i fs _ _ hs
        split at h
        · rename_i of ft sz hn
          cases h
          obtain ⟨gs, hu, _, hg⟩ := hT.str hs
          obtain ⟨g, j, hgs, h1, h2, h3, h4⟩ := hg _ _ hn
          simp only at h1 h2 h4
          simp [execOp, ho, ha.eval hx, Instr.fieldAt, run_underlying hu, hgs, Instr.sureAddr, fieldPlace, sizeOf, typeInfo, h3, h4, Addr.add_plain, h1]
        · cases h
      · cases h
    · cases h
  · rename_i s x f ho
    split at h
    · rename_i cs hx
      split at h
      · rename_i fs _ _ hs
        have := fieldOf_sound hT hs h w
        simp only [execOp, ho, ha.eval hx, Sem.run_bind, this]; rfl
      · cases h
    · cases h
  · rename_i args argTypes ho
    split at h
    · rename_i x hargs
      split at h
      · rename_i t hts
        have ea : args = #[x] := by apply Array.ext'; simpa using hargs
        have et : argTypes = #[t] := by apply Array.ext'; simpa using hts
        subst ea et
        split at h
        · rename_i hTt
          split at h
          · rename_i hx; cases h
            simp [execOp, ho, resolve, invoke, builtin, Builtin.len_, ha.eval hx, run_underlying (hT.slice hTt), goInt]
          · cases h
        · rename_i hTt
          split at h
          · rename_i hx; cases h
            simp [execOp, ho, resolve, invoke, builtin, Builtin.len_, ha.eval hx, run_underlying (hT.string hTt), goInt]
          · cases h
        · rename_i hTt
          split at h
          · rename_i u hx; cases h
            simp [execOp, ho, resolve, invoke, builtin, Builtin.len_, ha.eval hx, run_underlying (hT.arr hTt), goInt]
          · cases h
        · cases h
      · cases h
    · cases h
  · cases h
end
end Go.Ent
namespace Go.Ent
open Go

/-- cells of a block, side by side, as they lie in a partial heap. -/
def CellsAt (b off : Nat) (cs : List Value) : Assn := fun h => ∃ c T fr, h b = some (.cells c T fr) ∧ ∀ j v, cs[j]? = some v → c[off + j]? = some v
theorem CellsAt.mono {b off : Nat} {cs : List Value} {h k : Part} (hk : Part.le h k) (x : CellsAt b off cs h) : CellsAt b off cs k := by
  obtain ⟨c, T, fr, e, hc⟩ := x; exact ⟨c, T, fr, hk _ _ e, hc⟩
theorem CellsAt.of_pt {b off : Nat} {c : Array Value} {T : TypeId} {fr : Nat × Nat} {cs : List Value} (hc : ∀ j v, cs[j]? = some v → c[off + j]? = some v) (h : Part) (x : pt b (.cells c T fr) h) : CellsAt b off cs h :=
  ⟨c, T, fr, x, hc⟩
/-- what a list of assertions tells, whatever else there is. -/
def Tells (G : List Assn) (D : Assn) : Prop := ∀ h, sep G h → D h
theorem Tells.pick {A D : Assn} {G G' : List Assn} (p : Pick A G G') (hm : ∀ h k, Part.le h k → D h → D k) (hA : ∀ h, A h → D h) : Tells G D := fun h s => by
  obtain ⟨h1, _, _, l1, _, a, _⟩ := p.out s
  exact hm _ _ l1 (hA _ a)
theorem Tells.cells {b off : Nat} {c : Array Value} {T : TypeId} {fr : Nat × Nat} {cs : List Value} {G G' : List Assn} (p : Pick (pt b (.cells c T fr)) G G') (hc : ∀ j v, cs[j]? = some v → c[off + j]? = some v) :
    Tells G (CellsAt b off cs) := Tells.pick p (fun _ _ => CellsAt.mono) (CellsAt.of_pt hc)
theorem cell_of_CellsAt {b off : Nat} {cs : List Value} {w : World} (x : CellsAt b off cs (hpart w)) {j : Nat} {v : Value} (hj : cs[j]? = some v) : w.cell? ⟨b, off + j, none⟩ = some v := by
  obtain ⟨c, T, fr, e, hc⟩ := x
  have e' : w.heap[b]? = some (.cells c T fr) := e
  simp only [World.cell?, e']
  simpa using hc j v hj

section
variable {P : Program} {n : Nat} {ds : Fz} {w0 : World} {E : Env} {G : List Assn} {T : Tab}
theorem run_sizeOf_tab (hT : TabOk P T) {t : TypeId} {i : TI} (h : T t = some i) (w : World) : (sizeOf t).run P w = .ok i.size w := by
  obtain ⟨d, j, _, hi, _, hs, _⟩ := hT.und h
  rw [sizeOf_pos hi, hs]
/-- the value that cells make. -/
def valOf (agg : Bool) (cs : List Value) : Option Value :=
  match agg with
  | true => some (.agg cs.toArray)
  | false => match cs with
    | [v] => some v
    | _ => none
theorem run_loadVar_cells (hT : TabOk P T) {t : TypeId} {i : TI} (h : T t = some i) {b off : Nat} {cs : List Value} {w : World} (x : CellsAt b off cs (hpart w)) (hl : cs.length = i.size)
    {v : Value} (hv : valOf (aggK i.k) cs = some v) : (loadVar t ⟨b, off, none⟩).run P w = .ok v w := by
  unfold loadVar
  simp only [Sem.run_bind, run_isAgg_tab hT h, Result.andThen_ok]
  cases ha : aggK i.k with
  | true =>
    rw [ha] at hv
    simp only [valOf, Option.some.injEq] at hv
    subst hv
    have hc : ∀ j u, cs[j]? = some u → w.cell? ((⟨b, off, none⟩ : Addr).add j) = some u := fun j u hj => by rw [Addr.add_plain]; exact cell_of_CellsAt x hj
    have := run_loadCells_list (P := P) w ⟨b, off, none⟩ cs hc
    simp only [if_true, Sem.run_bind, run_sizeOf_tab hT h, Result.andThen_ok, ← hl, this]
    rfl
  | false =>
    rw [ha] at hv
    simp only [valOf] at hv
    split at hv
    · rename_i u
      cases hv
      have := cell_of_CellsAt x (j := 0) (v := v) rfl
      simp only [Nat.add_zero] at this
      simp [load, Sem.run, this]
    · cases hv
theorem Yl.load (hT : TabOk P T) {o : Oper} {t : TypeId} {i : TI} {x : Operand} {b off : Nat} {cs : List Value} {v : Value} (ho : o.op = .load t x) (hx : ev E x = some (.pointer (some ⟨b, off, none⟩)))
    (ht : T t = some i) (hG : Tells G (CellsAt b off cs)) (hl : cs.length = i.size) (hv : valOf (aggK i.k) cs = some v) : Yl P n ds w0 E G o v := fun a w ha hw => by
  simp only [execOp, ho, Instr.loadAt, ha.eval hx, Instr.sureAddr]
  have := run_loadVar_cells hT ht (hG _ hw.sep) hl hv
  simp [this]
/-- new cells laid over old ones. -/
def over (c : List Value) (off : Nat) (vs : List Value) : List Value := c.take off ++ vs ++ c.drop (off + vs.length)
theorem sep_set {b : Nat} {o o' : Obj} {G G' : List Assn} {w w' : World} (p : Pick (pt b o) G G') (hw : sep G (hpart w))
    (hb : w'.heap[b]? = some o') (hother : ∀ k, k ≠ b → w'.heap[k]? = w.heap[k]?) : sep (pt b o' :: G') (hpart w') := by
  obtain ⟨h1, h2, d, l1, l2, a, s⟩ := p.out hw
  refine ⟨fun k => if k = b then some o' else none, h2, ?_, ?_, ?_, by simp [pt], s⟩
  · intro k u u' e e'
    simp only at e
    split at e
    · rename_i hk; subst hk; exact d k _ _ a e'
    · cases e
  · intro k u e
    simp only at e
    split at e
    · rename_i hk; subst hk; cases e; exact hb
    · cases e
  · intro k u e
    have hk : k ≠ b := fun hk => by subst hk; exact d k _ _ a e
    have := l2 _ _ e
    show w'.heap[k]? = some u
    rw [hother k hk]; exact this
theorem sep_new {o : Obj} {G : List Assn} {w : World} (hw : sep G (hpart w)) : sep (pt w.heap.size o :: G) (hpart (w.alloc o)) := by
  refine ⟨fun k => if k = w.heap.size then some o else none, hpart w, ?_, ?_, ?_, by simp [pt], hw⟩
  · intro k u u' e e'
    simp only at e
    split at e
    · rename_i hk; subst hk
      have : w.heap[w.heap.size]? = some u' := e'
      simp at this
    · cases e
  · intro k u e
    simp only at e
    split at e
    · rename_i hk; subst hk; cases e; exact heap_alloc_new w o
    · cases e
  · intro k u e
    have e' : w.heap[k]? = some u := e
    have hk : k < w.heap.size := (Array.getElem?_eq_some_iff.1 e').1
    show (w.alloc o).heap[k]? = some u
    rw [heap_alloc_old w o hk]; exact e'
theorem Same.alloc (w : World) (o : Obj) : Same w (w.alloc o) := ⟨rfl, rfl, rfl, by simp⟩
theorem oneCell_cells {v : Value} : (∀ u ∈ v.cells.toList, u.oneCell' = true) → True := fun _ => trivial
def oneCells (vs : List Value) : Bool := vs.all fun v => v.oneCell'
theorem setRow_size (w : World) (g : Nat) (c : Array Value) : (w.setRow g c).heap.size = w.heap.size := by simp [World.setRow]
theorem Ef.store (hT : TabOk P T) {o : Oper} {t : TypeId} {i : TI} {x y : Operand} {b off : Nat} {c : List Value} {ty : TypeId} {v : Value} {G' : List Assn} (ho : o.op = .store t x y)
    (hx : ev E x = some (.pointer (some ⟨b, off, none⟩))) (hy : ev E y = some v) (ht : T t = some i) (p : Pick (pt b (.cells c.toArray ty (0, 0))) G G')
    (hsz : v.cells.size = i.size) (hone : ∀ u ∈ v.cells.toList, u.oneCell' = true) (hfit : off + i.size ≤ c.length) :
    Ef P n ds w0 E G o (X := Unit) (fun _ => undef) (fun _ => pt b (.cells (over c off v.cells.toList).toArray ty (0, 0)) :: G') := fun a w ha hw K Q hK => by
  obtain ⟨h1, _, _, l1, _, hp, _⟩ := p.out hw.sep
  have hb : w.heap[b]? = some (.cells c.toArray ty (0, 0)) := l1 _ _ hp
  have hst := run_storeCells_at P b off ty v.cells.toList 0 c.toArray w hb (by simp [hsz]; omega) hone
  simp only [Nat.add_zero] at hst
  have hrun : (execOp a.eval o).run P w = .ok .skip (w.setRow b (over c off v.cells.toList).toArray) := by
    simp only [execOp, ho, Instr.storeAt, ha.eval hx, ha.eval hy, Instr.sureAddr, storeVar, Sem.run_bind, Sem.run_pure, Result.andThen_ok, run_sizeOf_tab hT ht, hsz]
    have hst' : (storeCells ⟨b, off, none⟩ v.cells.toList).run P w = .ok () (w.setRow b (over c off v.cells.toList).toArray) := by
      rw [hst]; simp [over]
    simp [hst']
  refine wpIn_of hrun (fun _ e => by cases e) ?_
  refine hK () _ ⟨sep_set p hw.sep (setRow_heap w b c.toArray _ ty (0, 0) hb) (fun k hk => setRow_other w b k _ hk), hw.same.trans ⟨rfl, rfl, rfl, ?_⟩⟩
  rw [setRow_size]; exact Nat.le_refl _
end
end Go.Ent
namespace Go.Ent
open Go

/-! ### zero values -/
def zeroOf (T : Tab) : Nat → TypeId → Option (List Value)
  | 0, _ => none
  | f + 1, t => match T t with
    | some ⟨.bool, _, _⟩ => some [.bool false]
    | some ⟨.int k, _, _⟩ => some [.int k 0]
    | some ⟨.float k, _, _⟩ => some [.float k 0]
    | some ⟨.string, _, _⟩ => some [.string ByteArray.empty]
    | some ⟨.ptr _, _, _⟩ => some [.pointer none]
    | some ⟨.slice _, _, _⟩ => some [.slice none 0 0]
    | some ⟨.map _ _, _, _⟩ => some [.map none]
    | some ⟨.iface, _, _⟩ => some [.nilIface]
    | some ⟨.func, _, _⟩ => some [.nilFunc]
    | some ⟨.arr m e, _, _⟩ => match zeroOf T f e with
      | some [v] => some (List.replicate m v)
      | some z => some (List.replicate m z).flatten
      | none => none
    | some ⟨.str fs, _, _⟩ => fs.foldr (fun x acc => match zeroOf T f x.2.1 with
      | some z => match acc with
        | some l => some (z ++ l)
        | none => none
      | none => none) (some [])
    | _ => none
def seq1 : Value → Value → Bool
  | .bool a, .bool b => a == b
  | .int k a, .int k' b => k == k' && a == b
  | .float k a, .float k' b => k == k' && a == b
  | .string a, .string b => a.size == 0 && b.size == 0
  | .pointer none, .pointer none => true
  | .slice none 0 0, .slice none 0 0 => true
  | .map none, .map none => true
  | .nilIface, .nilIface => true
  | .nilFunc, .nilFunc => true
  | _, _ => false
theorem ByteArray_empty_of_size {a : ByteArray} (h : a.size = 0) : a = ByteArray.empty := by
  obtain ⟨⟨l⟩⟩ := a
  cases l with
  | nil => rfl
  | cons x l => simp [ByteArray.size] at h
theorem seq1_sound {a b : Value} (h : seq1 a b = true) : a = b := by
  unfold seq1 at h
  split at h <;> simp at h <;> first
    | rfl
    | (subst h; rfl)
    | (obtain ⟨rfl, rfl⟩ := h; rfl)
    | (rw [ByteArray_empty_of_size h.1, ByteArray_empty_of_size h.2])
def seqs : List Value → List Value → Bool
  | [], [] => true
  | a :: l, b :: m => seq1 a b && seqs l m
  | _, _ => false
theorem seqs_sound : ∀ {l m : List Value}, seqs l m = true → l = m
  | [], [], _ => rfl
  | [], _ :: _, h => by simp [seqs] at h
  | _ :: _, [], h => by simp [seqs] at h
  | a :: l, b :: m, h => by
    simp only [seqs, Bool.and_eq_true] at h
    rw [seq1_sound h.1, seqs_sound h.2]
def zeroB (P : Program) (T : Tab) (t : TypeId) : Bool :=
  match zeroOf T 8 t with
  | none => true
  | some z => match P.info? t with
    | some j => match j.zero with
      | some v => seqs z v.cells.toList && (match T t with
        | some i => match v with
          | .agg _ => aggK i.k
          | _ => !aggK i.k
        | none => false)
      | none => false
    | none => false
def ZeroOk (P : Program) (T : Tab) : Prop := ∀ t z, zeroOf T 8 t = some z → ∃ v, (∀ w, (zeroValue t).run P w = .ok v w) ∧ v.cells = z.toArray ∧ ∃ i, T t = some i ∧ valOf (aggK i.k) z = some v
theorem zeroB_sound {P : Program} {T : Tab} {t : TypeId} {z : List Value} (h : zeroB P T t = true) (hz : zeroOf T 8 t = some z) :
    ∃ v, (∀ w, (zeroValue t).run P w = .ok v w) ∧ v.cells = z.toArray ∧ ∃ i, T t = some i ∧ valOf (aggK i.k) z = some v := by
  unfold zeroB at h
  rw [hz] at h
  simp only at h
  split at h
  · rename_i j hj
    split at h
    · rename_i v hv
      simp only [Bool.and_eq_true] at h
      have hs := seqs_sound h.1
      have hc : v.cells = z.toArray := by rw [hs]
      refine ⟨v, fun w => by simp [zeroValue, typeInfo, hj, hv], hc, ?_⟩
      have h2 := h.2
      split at h2
      · rename_i i hi
        refine ⟨i, hi, ?_⟩
        split at h2
        · rename_i cs
          simp only [Value.cells] at hc
          subst hc
          rw [h2]; rfl
        · rename_i hna
          have ha : aggK i.k = false := by simpa using h2
          have : v.cells = #[v] := by cases v <;> first | rfl | exact (hna _ rfl).elim
          rw [this] at hs
          rw [hs, ha]; rfl
      · cases h2
    · cases h
  · cases h

/-! ### new blocks -/
section
variable {P : Program} {n : Nat} {ds : Fz} {w0 : World} {E : Env} {G : List Assn} {T : Tab}
theorem Ef.new {o : Oper} {obj : Obj} {v : Nat → Value} (h : ∀ a w, Agree n ds E a → (execOp a.eval o).run P w = .ok (.value (v w.heap.size)) (w.alloc obj)) :
    Ef P n ds w0 E G o v (fun b => pt b obj :: G) := fun a w ha hw K Q hK => by
  refine wpIn_of (h a w ha) (fun _ e => by cases e) ?_
  exact hK _ _ ⟨sep_new hw.sep, hw.same.trans (Same.alloc w obj)⟩
def ptrTo (b : Nat) : Value := .pointer (some ⟨b, 0, none⟩)
theorem Ef.alloc (hZ : ZeroOk P T) {o : Oper} {t : TypeId} {z : List Value} (ho : o.op = .alloc t) (hz : zeroOf T 8 t = some z) :
    Ef P n ds w0 E G o (fun b => .pointer (some ⟨b, 0, none⟩)) (fun b => pt b (.cells z.toArray t (0, 0)) :: G) := Ef.new fun a w ha => by
  obtain ⟨v, hv, hc, _⟩ := hZ t z hz
  simp [execOp, ho, Instr.alloc, hv, newVar, newRow, newObj, hc, Sem.run]
theorem Ef.box {o : Oper} {t : TypeId} {x : Operand} {v : Value} (ho : o.op = .box t x) (hx : ev E x = some v) :
    Ef P n ds w0 E G o (fun b => .pointer (some ⟨b, 0, none⟩)) (fun b => pt b (.cells v.cells t (0, 0)) :: G) := Ef.new fun a w ha => by
  simp [execOp, ho, Instr.box, ha.eval hx, newVar, newRow, newObj, Sem.run]
theorem Ef.makeMap {o : Oper} {t : TypeId} (ho : o.op = .makeMap t none) :
    Ef P n ds w0 E G o (fun b => .map (some b)) (fun b => pt b (.map #[] 0) :: G) := Ef.new fun a w ha => by
  simp [execOp, ho, Instr.makeMap, newObj, Sem.run]

/-! ### aggregates that are built -/
def fillL (place : Nat → Option (Nat × Nat)) (cells : List Value) : List (Nat × Value) → Option (List Value)
  | [] => some cells
  | (i, v) :: rest => match place i with
    | none => none
    | some (off, size) => bif v.cells.size != size || Nat.blt cells.length (off + v.cells.size) then none else fillL place (over cells off v.cells.toList) rest
theorem over_length {c : List Value} {off : Nat} {vs : List Value} (h : off + vs.length ≤ c.length) : (over c off vs).length = c.length := by
  simp [over]; omega
theorem over_get {c : List Value} {off : Nat} {vs : List Value} (h : off + vs.length ≤ c.length) (k : Nat) : (over c off vs)[k]? = if off ≤ k ∧ k < off + vs.length then vs[k - off]? else c[k]? := by
  unfold over
  simp only [List.getElem?_append, List.length_append, List.length_take]
  by_cases h1 : k < off
  · have : k < min off c.length := by omega
    simp [this, show k < min off c.length + vs.length by omega, show ¬ off ≤ k by omega]
  · by_cases h2 : k < off + vs.length
    · have e : min off c.length = off := by omega
      simp [e, h1, h2, show off ≤ k by omega]
    · have e : min off c.length = off := by omega
      simp [e, h2, List.getElem?_drop]
      congr 1; omega
theorem foldl_set (vs : List Value) : ∀ (cs : Array Value) (off s : Nat), off + s + vs.length ≤ cs.size →
    (vs.zipIdx s).foldl (fun cs (x : Value × Nat) => cs.setIfInBounds (off + x.2) x.1) cs = (over cs.toList (off + s) vs).toArray := by
  induction vs with
  | nil => intro cs off s _; simp [over]
  | cons v vs ih =>
    intro cs off s h
    simp only [List.zipIdx_cons, List.foldl_cons]
    rw [ih _ off (s + 1) (by simp at h ⊢; omega)]
    apply congrArg
    simp only [List.length_cons] at h
    apply List.ext_getElem?
    intro k
    rw [over_get (by simp; omega), over_get (by simp; omega)]
    simp only [Array.toList_setIfInBounds, List.length_cons]
    by_cases h1 : off + (s + 1) ≤ k ∧ k < off + (s + 1) + vs.length
    · have e : k - (off + s) = (k - (off + (s + 1))) + 1 := by omega
      rw [if_pos h1, if_pos (by omega), e]; rfl
    · rw [if_neg h1]
      by_cases h2 : k = off + s
      · subst h2
        rw [if_pos (by omega)]
        simp
        have : off + s < cs.size := by omega
        simp [this]
      · rw [if_neg (by omega), List.getElem?_set_ne (Ne.symm h2)]
theorem fill_eq (place : Nat → Option (Nat × Nat)) : ∀ (parts : List (Nat × Value)) (cells out : List Value), fillL place cells parts = some out → Instr.fill place cells.toArray parts = some out.toArray
  | [], cells, out, h => by simp only [fillL, Option.some.injEq] at h; subst h; rfl
  | (i, v) :: rest, cells, out, h => by
    simp only [fillL] at h
    unfold Instr.fill
    cases hp : place i with
    | none => simp [hp] at h
    | some os =>
      obtain ⟨off, size⟩ := os
      simp only [hp] at h ⊢
      cases hb : (v.cells.size != size || Nat.blt cells.length (off + v.cells.size)) with
      | true => simp [hb] at h
      | false =>
        simp only [hb, cond_false] at h
        simp only [Bool.or_eq_false_iff, bne_eq_false_iff_eq] at hb
        have h2 : off + v.cells.size ≤ cells.length := by
          have := hb.2
          rcases Nat.lt_or_ge cells.length (off + v.cells.size) with hl | hl
          · rw [show Nat.blt cells.length (off + v.cells.size) = true by simpa [Nat.blt_eq] using hl] at this; cases this
          · exact hl
        have h3 : ¬ (v.cells.size ≠ size || off + v.cells.size > cells.toArray.size) = true := by simp [hb.1]; omega
        rw [if_neg h3]
        have hf := foldl_set v.cells.toList cells.toArray off 0 (by simp; omega)
        simp only [Nat.add_zero] at hf
        have e : (Array.foldl (fun cs (x : Value × Nat) => cs.setIfInBounds (off + x.2) x.1) cells.toArray v.cells.zipIdx) = (over cells off v.cells.toList).toArray := by
          rw [← Array.foldl_toList]; simpa using hf
        have := fill_eq place rest _ _ h
        rw [← e] at this
        exact this
def evps (E : Env) : List (Nat × Operand) → Option (List (Nat × Value))
  | [] => some []
  | (i, x) :: l => match ev E x with
    | some v => match evps E l with
      | some vs => some ((i, v) :: vs)
      | none => none
    | none => none
theorem evps_sound {a : Act} (ha : Agree n ds E a) : ∀ {l : List (Nat × Operand)} {vs : List (Nat × Value)}, evps E l = some vs → l.map (fun (i, x) => (i, a.eval x)) = vs
  | [], vs, h => by simpa [evps] using h
  | (i, x) :: l, vs, h => by
    simp only [evps] at h
    split at h
    · rename_i v hv
      split at h
      · rename_i us hu
        simp only [Option.some.injEq] at h
        subst h
        simp [ha.eval hv]
        exact evps_sound ha hu
      · cases h
    · cases h
def placesOf (fs : List (Nat × TypeId × Nat)) (k : Nat) : Option (Nat × Nat) := match nth fs k with
  | some (off, _, sz) => some (off, sz)
  | none => none
theorem mapM_fields (P : Program) : ∀ (fs : List (Nat × TypeId × Nat)) (gs : List Field), fs.length = gs.length →
    ((fs.zip gs).all fun (f, g) => f.1 == g.offset && f.2.1 == g.type && P.cellsOf g.type == f.2.2 && (P.info? g.type).isSome) = true →
    gs.mapM (fun f => (P.info? f.type).map fun i => (f.offset, i.size)) = some (fs.map fun f => (f.1, f.2.2))
  | [], [], _, _ => rfl
  | f :: fs, g :: gs, hl, h => by
    simp only [List.zip_cons_cons, List.all_cons, Bool.and_eq_true, beq_iff_eq] at h
    obtain ⟨⟨⟨⟨h1, h2⟩, h3⟩, h4⟩, h5⟩ := h
    obtain ⟨j, hj⟩ := Option.isSome_iff_exists.1 h4
    have ih := mapM_fields P fs gs (by simpa using hl) h5
    simp only [Program.cellsOf, hj, Option.map_some, Option.getD_some] at h3
    simp [List.mapM_cons, hj, ih, h1, h3]
  | [], _ :: _, hl, _ => by simp at hl
  | _ :: _, [], hl, _ => by simp at hl
theorem Yp.build_str (hT : TabOk P T) (hZ : ZeroOk P T) {o : Oper} {t : TypeId} {parts : List (Nat × Operand)} {vs : List (Nat × Value)} {fs : List (Nat × TypeId × Nat)} {s b : Nat} {z out : List Value}
    (ho : o.op = .build t parts.toArray) (hv : evps E parts = some vs) (ht : T t = some ⟨.str fs, s, b⟩) (hz : zeroOf T 8 t = some z) (hf : fillL (placesOf fs) z vs = some out)
    (a : Act) (w : World) (ha : Agree n ds E a) : (execOp a.eval o).run P w = .ok (.value (.agg out.toArray)) w := by
  obtain ⟨d, j, hu, hj, hfit, _⟩ := hT.und ht
  obtain ⟨v, hzv, hc, _⟩ := hZ t z hz
  cases d <;> simp only [TK.fits, Bool.false_eq_true, Bool.and_eq_true, beq_iff_eq] at hfit
  rename_i gs
  have hm := mapM_fields P fs gs.toList (by simpa using hfit.1) hfit.2
  have hzr := hzv w
  simp only [zeroValue, typeInfo, Sem.run_bind] at hzr
  have hjz : j.zero = some v := by
    simp [hj] at hzr
    cases hjz : j.zero with
    | none => simp [hjz, unsupported] at hzr
    | some u => simp [hjz] at hzr; rw [hzr]
  have hb : P.built t vs = some out.toArray := by
    unfold Program.built
    have hplace : (fun x => ((fs.map fun f => (f.1, f.2.2)).toArray)[x]?) = placesOf fs := by
      funext k
      simp only [List.getElem?_toArray, List.getElem?_map, placesOf, nth_eq]
      cases fs[k]? with
      | none => rfl
      | some x => rfl
    simp only [hj, hu, hjz, hm, hplace]
    have := fill_eq _ _ _ _ hf
    rw [← hc] at this
    exact this
  have hvs := evps_sound ha hv
  have e : (parts.toArray.map fun (x : Nat × Operand) => (x.1, a.eval x.2)) = vs.toArray := by
    apply Array.ext'; simpa using hvs
  have hrun := run_build (P := P) w t vs.toArray out.toArray (by simpa using hb)
  simp only [execOp, ho, Sem.run_bind]
  rw [show (parts.toArray.map fun (i, x) => (i, a.eval x)) = vs.toArray from e, hrun]
  rfl
end
end Go.Ent
namespace Go.Ent
open Go

/-- a slice of our own: m elements of k cells each, in a block of its own (or nil). -/
def SlOwn (e : TypeId) (k : Nat) (a : Option Addr) (m cap : Nat) (xs : List Value) : Assn := fun h =>
  xs.length = m * k ∧ m ≤ cap ∧ cap ≤ maxLen ∧ ((a = none ∧ cap = 0) ∨ ∃ b c, a = some ⟨b, 0, none⟩ ∧ h b = some (.cells c e (0, 0)) ∧ c.size = cap * k ∧ c.toList.take (m * k) = xs)
/-- a slice that can be read. -/
def SlIn (k : Nat) (a : Option Addr) (m : Nat) (xs : List Value) : Assn := fun h =>
  xs.length = m * k ∧ (m = 0 ∨ ∃ b off, a = some ⟨b, off, none⟩ ∧ CellsAt b off xs h)
theorem SlIn.mono {k : Nat} {a : Option Addr} {m : Nat} {xs : List Value} {h h' : Part} (hk : Part.le h h') (x : SlIn k a m xs h) : SlIn k a m xs h' :=
  ⟨x.1, x.2.imp id fun ⟨b, off, e, c⟩ => ⟨b, off, e, c.mono hk⟩⟩
theorem SlOwn.mono {e k : Nat} {a : Option Addr} {m cap : Nat} {xs : List Value} {h h' : Part} (hk : Part.le h h') (x : SlOwn e k a m cap xs h) : SlOwn e k a m cap xs h' :=
  ⟨x.1, x.2.1, x.2.2.1, x.2.2.2.imp id fun ⟨b, c, e1, e2, r⟩ => ⟨b, c, e1, hk _ _ e2, r⟩⟩
theorem SlOwn.read {e k : Nat} {a : Option Addr} {m cap : Nat} {xs : List Value} (h : Part) (x : SlOwn e k a m cap xs h) : SlIn k a m xs h := by
  obtain ⟨h1, h2, _, h4⟩ := x
  refine ⟨h1, ?_⟩
  rcases h4 with ⟨_, rfl⟩ | ⟨b, c, rfl, hb, hs, ht⟩
  · exact .inl (by omega)
  · refine .inr ⟨b, 0, rfl, c, e, (0, 0), hb, fun j v hj => ?_⟩
    rw [← ht, List.getElem?_take] at hj
    split at hj
    · simpa using hj
    · cases hj
theorem SlOwn.nil (e k : Nat) (h : Part) : SlOwn e k none 0 0 [] h := ⟨by simp, Nat.le_refl _, by unfold maxLen; omega, .inl ⟨rfl, rfl⟩⟩
theorem Tells.own {e k : Nat} {a : Option Addr} {m cap : Nat} {xs : List Value} {G G' : List Assn} (p : Pick (SlOwn e k a m cap xs) G G') : Tells G (SlIn k a m xs) :=
  Tells.pick p (fun _ _ => SlIn.mono) SlOwn.read
theorem Tells.read {k : Nat} {a : Option Addr} {m : Nat} {xs : List Value} {G G' : List Assn} (p : Pick (SlIn k a m xs) G G') : Tells G (SlIn k a m xs) :=
  Tells.pick p (fun _ _ => SlIn.mono) (fun _ h => h)
/-- out of a frame of which it is known. -/
theorem Tells.frame {F D : Assn} {G G' : List Assn} (p : Pick F G G') (hm : ∀ h k, Part.le h k → D h → D k) (hF : ∀ h, F h → D h) : Tells G D := Tells.pick p hm hF
theorem SlIn.cells {k : Nat} {a : Option Addr} {m : Nat} {xs : List Value} {h : Part} (x : SlIn k a m xs h) (hm : 0 < m) : ∃ b off, a = some ⟨b, off, none⟩ ∧ CellsAt b off xs h := by
  rcases x.2 with h0 | h1
  · omega
  · exact h1
theorem CellsAt.sub {b off : Nat} {xs : List Value} {h : Part} (x : CellsAt b off xs h) (i k : Nat) : CellsAt b (off + i) (Ent.sub xs i k) h := by
  obtain ⟨c, T, fr, e, hc⟩ := x
  refine ⟨c, T, fr, e, fun j v hj => ?_⟩
  unfold Ent.sub at hj
  rw [List.getElem?_take] at hj
  split at hj
  · rw [List.getElem?_drop] at hj
    have := hc _ _ hj
    rw [show off + i + j = off + (i + j) by omega]; exact this
  · cases hj
/-- all cells hold plain values. -/
def Ones (xs : List Value) : Prop := ∀ u ∈ xs, u.oneCell' = true
section
variable {P : Program} {n : Nat} {ds : Fz} {w0 : World} {E : Env} {G : List Assn} {T : Tab}
theorem zero_of (hT : TabOk P T) (hZ : ZeroOk P T) {e : TypeId} {i : TI} {z : List Value} (he : T e = some i) (hz : zeroOf T 8 e = some z) : ∃ j v, P.info? e = some j ∧ j.zero = some v ∧ v.cells = z.toArray ∧ j.size = i.size ∧ j.bytes = i.bytes := by
  obtain ⟨d, j, _, hj, _, hs, hb⟩ := hT.und he
  obtain ⟨v, hzv, hc, _⟩ := hZ e z hz
  refine ⟨j, v, hj, ?_, hc, hs, hb⟩
  have hzr := hzv default
  simp only [zeroValue, typeInfo, Sem.run_bind] at hzr
  simp [hj] at hzr
  cases hjz : j.zero with
  | none => simp [hjz, unsupported] at hzr
  | some u => simp [hjz] at hzr; rw [hzr]
theorem sep_grow {A : Assn} {G : List Assn} {w w' : World} {b : Nat} {o' : Obj} {B : Assn} (hw : sep (A :: G) (hpart w)) (hold : ∀ k, k < w.heap.size → w'.heap[k]? = w.heap[k]?)
    (hb : w.heap.size ≤ b) (hnew : w'.heap[b]? = some o') (hB : B (fun k => if k = b then some o' else none)) : sep (B :: G) (hpart w') := by
  obtain ⟨h1, h2, _, _, l2, _, s⟩ := hw
  refine ⟨fun k => if k = b then some o' else none, h2, ?_, ?_, ?_, hB, s⟩
  · intro k u u' e e'
    simp only at e
    split at e
    · rename_i hk; subst hk
      have := l2 _ _ e'
      have hlt : k < w.heap.size := (Array.getElem?_eq_some_iff.1 (show w.heap[k]? = some u' from this)).1
      omega
    · cases e
  · intro k u e
    simp only at e
    split at e
    · rename_i hk; subst hk; cases e; exact hnew
    · cases e
  · intro k u e
    have h3 : w.heap[k]? = some u := l2 _ _ e
    have hlt : k < w.heap.size := (Array.getElem?_eq_some_iff.1 h3).1
    show w'.heap[k]? = some u
    rw [hold k hlt]; exact h3
theorem sep_write {A B : Assn} {G : List Assn} {w w' : World} {b : Nat} {o o' : Obj} (hw : sep (A :: G) (hpart w)) (hA : ∀ h, A h → h b = some o) (hother : ∀ k, k ≠ b → w'.heap[k]? = w.heap[k]?)
    (hnew : w'.heap[b]? = some o') (hB : B (fun k => if k = b then some o' else none)) : sep (B :: G) (hpart w') := by
  obtain ⟨h1, h2, d, _, l2, a, s⟩ := hw
  have h1b := hA _ a
  refine ⟨fun k => if k = b then some o' else none, h2, ?_, ?_, ?_, hB, s⟩
  · intro k u u' e e'
    simp only at e
    split at e
    · rename_i hk; subst hk; exact d k _ _ h1b e'
    · cases e
  · intro k u e
    simp only at e
    split at e
    · rename_i hk; subst hk; cases e; exact hnew
    · cases e
  · intro k u e
    have hk : k ≠ b := fun hk => by subst hk; exact d k _ _ h1b e
    have h3 : w.heap[k]? = some u := l2 _ _ e
    show w'.heap[k]? = some u
    rw [hother k hk]; exact h3
theorem Ef.append (hT : TabOk P T) (hZ : ZeroOk P T) {o : Oper} {s x : Operand} {t e : TypeId} {ts tb k bytes : Nat} {tk : TK} {z : List Value} {a a2 : Option Addr} {m cap m2 c2 : Nat} {xs ys : List Value} {G' : List Assn}
    (ho : o.op = .call { callee := .builtin .append, args := #[s, x], argTypes := #[t, t] }) (hs : ev E s = some (.slice a m cap)) (hx : ev E x = some (.slice a2 m2 c2))
    (ht : T t = some ⟨.slice e, ts, tb⟩) (he : T e = some ⟨tk, k + 1, bytes⟩) (hz : zeroOf T 8 e = some z) (hzk : z.length = k + 1)
    (p : Pick (SlOwn e (k + 1) a m cap xs) G G') (hy : Tells G (SlIn (k + 1) a2 m2 ys)) (h1 : Ones ys)
    (h63 : m + m2 ≤ maxLen) (hbytes : (m + m2) * bytes ≤ 140737488355328) :
    Ef P n ds w0 E G o (X := Option Addr × Nat) (fun r => .slice r.1 (m + m2) r.2) (fun r => SlOwn e (k + 1) r.1 (m + m2) r.2 (xs ++ ys) :: G') := fun act w ha hw K Q hK => by
  obtain ⟨j, zv, hj, hjz, hzc, hjs, hjb⟩ := zero_of hT hZ he hz
  have hout := p.out hw.sep
  obtain ⟨h1p, h2p, hd, l1, l2, hown, hrest⟩ := hout
  have hyw := hy _ hw.sep
  obtain ⟨hxl, hmc, hcm, hcase⟩ := hown
  have hu := hT.slice ht
  simp only at hjs hjb
  have hzl : zv.cells.size = k + 1 := by rw [hzc]; simpa using hzk
  have goal : ∃ a' cap' w', (Builtin.append_ #[t, t] o.type #[.slice a m cap, .slice a2 m2 c2]).run P w = .ok (.slice a' (m + m2) cap') w' ∧
      sep (SlOwn e (k + 1) a' (m + m2) cap' (xs ++ ys) :: G') (hpart w') ∧ Same w w' := by
    have hsmall : m + m2 ≤ 9223372036854775807 := by simp only [maxLen] at h63; omega
    have hlen : (xs ++ ys).length = (m + m2) * (k + 1) := by rw [List.length_append, hxl, hyw.1, Nat.add_mul]
    rcases Nat.eq_zero_or_pos m2 with rfl | hm2
    · have hy0 : ys = [] := List.eq_nil_of_length_eq_zero (by simpa using hyw.1)
      subst hy0
      refine ⟨a, cap, w, ?_, ?_, Same.refl w⟩
      · cases a <;> cases a2 <;> simp [Builtin.append_, run_underlying hu, sizeOf, typeInfo, hj, Builtin.lenOf, hmc, Builtin.firstCells, loadCells, loadCellsFrom, storeCells]
      · simp only [List.append_nil, Nat.add_zero]
        exact ⟨h1p, h2p, hd, l1, l2, ⟨hxl, hmc, hcm, hcase⟩, hrest⟩
    · obtain ⟨b2, off2, rfl, hcells⟩ := hyw.cells hm2
      have hnews : ∀ q u, ys[q]? = some u → w.cell? ((⟨b2, off2, none⟩ : Addr).add q) = some u := fun q u hq => by rw [Addr.add_plain]; exact cell_of_CellsAt hcells hq
      have hyl : ys.length = m2 * j.size := by rw [hjs]; exact hyw.1
      have grown : ∀ old, old < m + m2 → ∃ w', w' = w.drew.alloc (.cells (xs.toArray ++ ys.toArray ++ Builtin.zeroCells zv.cells (grownCap w (m + m2) old e - (m + m2))) e) ∧
          sep (SlOwn e (k + 1) (some ⟨w.heap.size, 0, none⟩) (m + m2) (grownCap w (m + m2) old e) (xs ++ ys) :: G') (hpart w') ∧ Same w w' := by
        intro old _
        refine ⟨_, rfl, ?_, ⟨rfl, rfl, rfl, by simp⟩⟩
        refine sep_grow (A := SlOwn e (k + 1) a m cap xs) (b := w.heap.size) ⟨h1p, h2p, hd, l1, l2, ⟨hxl, hmc, hcm, hcase⟩, hrest⟩ (fun q hq => heap_alloc_old w.drew _ hq) (Nat.le_refl _) (heap_alloc_new w.drew _) ?_
        refine ⟨hlen, grownCap_ge w _ old e, grownCap_le_maxLen w _ old e h63, .inr ⟨w.heap.size, _, rfl, if_pos rfl, ?_, ?_⟩⟩
        · have hge := grownCap_ge w (m + m2) old e
          simp only [Array.size_append, List.size_toArray, size_zeroCells, hzl, hxl, hyw.1, ← Nat.add_mul]
          congr 1
          omega
        · simp only [Array.toList_append, List.append_assoc]
          rw [← List.append_assoc, ← hlen]
          exact List.take_left
      have hbytes' : (m + m2) * j.bytes ≤ 140737488355328 := by rw [hjb]; exact hbytes
      rcases hcase with ⟨rfl, rfl⟩ | ⟨b, c, rfl, hb, hcs, htake⟩
      · have hm0 : m = 0 := by omega
        subst hm0
        have hx0 : xs = [] := List.eq_nil_of_length_eq_zero (by simpa using hxl)
        subst hx0
        obtain ⟨w', hw', hsep, hsame⟩ := grown 0 (by omega)
        have hr := run_append_nil (P := P) w t o.type e j zv hu hj hjz ⟨b2, off2, none⟩ m2 c2 ys hyl hnews hm2 (by omega) (by have hb := hbytes'; simp only [Nat.zero_add] at hb; omega)
        simp only [Nat.zero_add, Array.empty_append] at hw' hr ⊢
        subst hw'
        simp only [Nat.zero_add] at hsep
        exact ⟨_, _, _, hr, hsep, hsame⟩
      · have hbw : w.heap[b]? = some (.cells c e (0, 0)) := l1 _ _ hb
        by_cases hroom : m + m2 ≤ cap
        · have hfit : m * j.size + ys.length ≤ c.size := by rw [hyl, hcs, hjs, ← Nat.add_mul]; exact Nat.mul_le_mul_right _ hroom
          have hr := run_append_room (P := P) w t o.type e j hu hj b m cap c hbw ⟨b2, off2, none⟩ m2 c2 ys hyl hnews h1 hroom hfit
          refine ⟨_, _, _, hr, ?_, ⟨rfl, rfl, rfl, by simp⟩⟩
          refine sep_write (A := fun h => h b = some (.cells c e (0, 0))) ⟨h1p, h2p, hd, l1, l2, hb, hrest⟩ (fun _ h => h) (fun q hq => setRow_other w b q _ hq) (setRow_heap w b c _ e _ hbw) ?_
          refine ⟨hlen, hroom, hcm, .inr ⟨b, _, rfl, if_pos rfl, ?_, ?_⟩⟩
          · simp only [List.size_toArray, List.length_append, List.length_take, List.length_drop, Array.length_toList]
            omega
          · simp only []
            rw [hjs, htake, ← hlen]
            exact List.take_left
        · have holds : ∀ q u, xs[q]? = some u → w.cell? ((⟨b, 0, none⟩ : Addr).add q) = some u := fun q u hq => by
            rw [Addr.add_plain]
            have hq' := hq
            rw [← htake, List.getElem?_take] at hq'
            split at hq'
            · simp only [Nat.zero_add, World.cell?, hbw]; simpa using hq'
            · cases hq'
          have hxl' : xs.length = m * j.size := by rw [hjs]; exact hxl
          have hr := run_append_grow (P := P) w t o.type e j zv hu hj hjz ⟨b, 0, none⟩ m cap xs hxl' holds ⟨b2, off2, none⟩ m2 c2 ys hyl hnews (by omega) (by omega) (growslice_fits (by omega) hbytes')
          obtain ⟨w', hw', hsep, hsame⟩ := grown cap (by omega)
          subst hw'
          exact ⟨_, _, _, hr, hsep, hsame⟩
  obtain ⟨a', cap', w', hrun, hsep, hsame⟩ := goal
  have e1 := ha.eval hs
  have e2 := ha.eval hx
  have hr2 : (execOp act.eval o).run P w = .ok (.value (.slice a' (m + m2) cap')) w' := by
    simp only [execOp, ho, resolve, invoke, builtin, Sem.run_bind, Sem.run_pure, Result.andThen_ok, List.map_toArray, List.map_cons, List.map_nil, e1, e2, hrun]
  refine wpIn_of hr2 (fun _ e => by cases e) ?_
  exact hK (a', cap') w' ⟨hsep, hw.same.trans hsame⟩
end
end Go.Ent
namespace Go.Ent
open Go
def catParts (k : Nat) : Nat → List (Nat × Value) → Option (List Value)
  | _, [] => some []
  | i, (j, v) :: l => bif Nat.beq i j && Nat.beq v.cells.size k then (match catParts k (i + 1) l with
    | some r => some (v.cells.toList ++ r)
    | none => none) else none
theorem fillL_cat (k : Nat) : ∀ (parts : List (Nat × Value)) (i : Nat) (done zs out : List Value), done.length = i * k → zs.length = parts.length * k → catParts k i parts = some out →
    fillL (fun i => some (i * k, k)) (done ++ zs) parts = some (done ++ out)
  | [], i, done, zs, out, hd, hz, h => by
    simp only [catParts, Option.some.injEq] at h
    subst h
    have : zs = [] := List.eq_nil_of_length_eq_zero (by simpa using hz)
    simp [fillL, this]
  | (j, v) :: l, i, done, zs, out, hd, hz, h => by
    simp only [catParts] at h
    cases hb : (Nat.beq i j && Nat.beq v.cells.size k) with
    | false => simp [hb] at h
    | true =>
      simp only [hb, cond_true] at h
      simp only [Bool.and_eq_true] at hb
      have hij := Nat.eq_of_beq_eq_true hb.1
      have hvk := Nat.eq_of_beq_eq_true hb.2
      subst hij
      split at h
      · rename_i r hr
        cases h
        simp only [List.length_cons] at hz
        rw [Nat.succ_mul] at hz
        have hov : over (done ++ zs) (i * k) v.cells.toList = (done ++ v.cells.toList) ++ zs.drop k := by
          unfold over
          rw [← hd, List.take_left]
          simp [hvk]
        simp only [fillL]
        have h1 : (v.cells.size != k) = false := by simp [hvk]
        have h2 : Nat.blt (done ++ zs).length (i * k + v.cells.size) = false := by
          cases hbl : Nat.blt (done ++ zs).length (i * k + v.cells.size) with
          | false => rfl
          | true =>
            rw [Nat.blt_eq] at hbl
            simp only [List.length_append] at hbl
            omega
        simp only [h1, h2, Bool.or_false, cond_false, hov]
        have := fillL_cat k l (i + 1) (done ++ v.cells.toList) (zs.drop k) r (by simp [hd, hvk, Nat.succ_mul]) (by simp; omega) hr
        rw [this, List.append_assoc]
      · cases h
section
variable {P : Program} {n : Nat} {ds : Fz} {w0 : World} {E : Env} {G : List Assn} {T : Tab}
theorem Ef.buildSlice (hT : TabOk P T) (hZ : ZeroOk P T) {o : Oper} {t e : TypeId} {ts tb k bytes m : Nat} {tk : TK} {z : List Value} {parts : List (Nat × Operand)} {vs : List (Nat × Value)} {out : List Value}
    (ho : o.op = .buildSlice t m parts.toArray) (hv : evps E parts = some vs) (ht : T t = some ⟨.slice e, ts, tb⟩) (he : T e = some ⟨tk, k + 1, bytes⟩) (hz : zeroOf T 8 e = some z) (hzk : z.length = k + 1)
    (hc : catParts (k + 1) 0 vs = some out) (hm : parts.length = m) (hsmall : m * (k + 1) ≤ 16777216) :
    Ef P n ds w0 E G o (fun b => .slice (some ⟨b, 0, none⟩) m m) (fun b => SlOwn e (k + 1) (some ⟨b, 0, none⟩) m m out :: G) := fun a w ha hw K Q hK => by
  obtain ⟨j, zv, hj, hjz, hzc, hjs, hjb⟩ := zero_of hT hZ he hz
  simp only at hjs
  have hvs := evps_sound ha hv
  have hl : vs.length = m := by rw [← hvs, List.length_map, hm]
  have e1 : (parts.toArray.map fun (i, x) => (i, a.eval x)) = vs.toArray := by apply Array.ext'; simpa using hvs
  have hout : out.length = m * (k + 1) := by
    have : ∀ (l : List (Nat × Value)) (i : Nat) (r : List Value), catParts (k + 1) i l = some r → r.length = l.length * (k + 1) := by
      intro l
      induction l with
      | nil => intro i r h; simp [catParts] at h; simp [← h]
      | cons x l ih =>
        obtain ⟨q, v⟩ := x
        intro i r h
        simp only [catParts] at h
        cases hb : (Nat.beq i q && Nat.beq v.cells.size (k + 1)) with
        | false => simp [hb] at h
        | true =>
          simp only [hb, cond_true] at h
          simp only [Bool.and_eq_true] at hb
          have hvk := Nat.eq_of_beq_eq_true hb.2
          split at h
          · rename_i r' hr'
            cases h
            simp [hvk, ih _ _ hr', Nat.succ_mul]; omega
          · cases h
    rw [this vs 0 out hc, hl]
  have hrun : (execOp a.eval o).run P w = .ok (.value (.slice (some ⟨w.heap.size, 0, none⟩) m m)) (w.alloc (.cells out.toArray e)) := by
    have hzs : zv.cells.size = k + 1 := by rw [hzc]; simpa using hzk
    have hfill : ∀ zs : Array Value, zs.size = m * (k + 1) → Instr.fill (fun i => some (i * (k + 1), k + 1)) zs vs = some out.toArray := fun zs hzs => by
      have := fillL_cat (k + 1) vs 0 [] zs.toList out (by simp) (by simp [hzs, hl]) hc
      simpa using fill_eq _ _ _ _ this
    have hbig : ¬ (m * (k + 1) > 2 ^ 24) := by omega
    have hzr : (zeroValue e).run P w = .ok zv w := by simp [zeroValue, typeInfo, hj, hjz]
    simp only [execOp, ho, Instr.buildSlice, e1, Sem.run_bind, run_underlying (hT.slice ht), Result.andThen_ok, sizeOf_pos hj, hjs, if_neg hbig]
    by_cases h0 : m * (k + 1) = 0
    · simp only [h0, if_true]
      have h00 := hfill (Array.map (fun x => (default : Value)) (Array.range 0)) (by simp [h0])
      simp [h00, newRow, newObj, Sem.run]
    · simp only [if_neg h0, Sem.run_bind, hzr, Result.andThen_ok]
      have := hfill ((Array.range (m * (k + 1))).map (zv.cells[· % zv.cells.size]!)) (by simp)
      simp [this, newRow, newObj, Sem.run]
  refine wpIn_of hrun (fun _ e => by cases e) ?_
  refine hK w.heap.size _ ⟨?_, hw.same.trans (Same.alloc w _)⟩
  have hs := sep_new (o := .cells out.toArray e) hw.sep
  refine star_mono (fun h hp => ?_) (fun _ h => h) hs
  have hmm : m ≤ m * (k + 1) := Nat.le_mul_of_pos_right m (by omega)
  exact ⟨hout, Nat.le_refl _, by unfold maxLen; omega, .inr ⟨_, _, rfl, hp, by simpa using hout, by simp [← hout]⟩⟩
theorem Yl.indexAddr (hT : TabOk P T) {o : Oper} {x i : Operand} {t e : TypeId} {ts tb : Nat} {ei : TI} {b off m cap : Nat} {ik : IntKind} {q : Int} (ho : o.op = .indexAddr t x i)
    (hx : ev E x = some (.slice (some ⟨b, off, none⟩) m cap)) (hi : ev E i = some (.int ik q)) (ht : T t = some ⟨.slice e, ts, tb⟩) (he : T e = some ei) (h0 : 0 ≤ q) (h1 : q < m) :
    Yl P n ds w0 E G o (.pointer (some ⟨b, off + q.toNat * ei.size, none⟩)) := fun a w ha hw => by
  simp [execOp, ho, Instr.indexAt, ha.eval hx, ha.eval hi, asIntOf, run_underlying (hT.slice ht), h0, h1, run_sizeOf_tab hT he, Addr.add_plain]
theorem Yl.indexArr (hT : TabOk P T) {o : Oper} {x i : Operand} {t e : TypeId} {ts tb m : Nat} {ei : TI} {b off : Nat} {ik : IntKind} {q : Int} (ho : o.op = .indexAddr t x i)
    (hx : ev E x = some (.pointer (some ⟨b, off, none⟩))) (hi : ev E i = some (.int ik q)) (ht : T t = some ⟨.arr m e, ts, tb⟩) (he : T e = some ei) (h0 : 0 ≤ q) (h1 : q < m) :
    Yl P n ds w0 E G o (.pointer (some ⟨b, off + q.toNat * ei.size, none⟩)) := fun a w ha hw => by
  simp [execOp, ho, Instr.indexAt, ha.eval hx, ha.eval hi, asIntOf, run_underlying (hT.arr ht), h0, h1, run_sizeOf_tab hT he, Addr.add_plain, Instr.sureAddr]
/-- a slice's address behind l elements. -/
def slAddr (a : Option Addr) (cap l k : Nat) : Option Addr := if cap = l then a else a.map (·.add (l * k))
def evo (E : Env) : Option Operand → Option (Option Value)
  | none => some none
  | some x => match ev E x with
    | some v => some (some v)
    | none => none
theorem evo_sound {a : Act} (ha : Agree n ds E a) {x : Option Operand} {v : Option Value} (h : evo E x = some v) : x.map a.eval = v := by
  cases x with
  | none => simpa [evo] using h
  | some x =>
    simp only [evo] at h
    split at h
    · rename_i u hu; cases h; simp [ha.eval hu]
    · cases h
def loOf : Option Value → Option Int
  | none => some 0
  | some (.int _ q) => some q
  | _ => none
def hiOf (m : Nat) : Option Value → Option Int
  | none => some m
  | some (.int _ q) => some q
  | _ => none
theorem Yl.slice (hT : TabOk P T) {o : Oper} {x : Operand} {lo hi : Option Operand} {t e : TypeId} {ts tb : Nat} {ei : TI} {ad : Option Addr} {m cap : Nat} {vl vh : Option Value} {l h : Int} (ho : o.op = .slice t x lo hi none)
    (hx : ev E x = some (.slice ad m cap)) (hlo : evo E lo = some vl) (hhi : evo E hi = some vh) (ht : T t = some ⟨.slice e, ts, tb⟩) (he : T e = some ei) (hl : loOf vl = some l) (hh : hiOf m vh = some h)
    (h0 : 0 ≤ l) (h1 : l ≤ h) (h2 : h ≤ cap) (hmc : m ≤ cap) :
    Yl P n ds w0 E G o (.slice (slAddr ad cap l.toNat ei.size) (h.toNat - l.toNat) (cap - l.toNat)) := fun a w ha hw => by
  have el := evo_sound ha hlo
  have eh := evo_sound ha hhi
  have hr : (Instr.sliceBounds true m cap vl vh none).run P w = .ok (l.toNat, h.toNat, cap) w := by
    unfold hiOf at hh
    unfold loOf at hl
    split at hh <;> split at hl <;> simp at hh hl <;> subst hh <;> subst hl <;> simp [Instr.sliceBounds, Instr.sliceBound, asIntOf] <;> first
      | done
      | (rw [if_pos (by omega)]; simp; done)
      | (rw [if_pos (by omega)]; simp; rw [if_pos (by omega)]; simp; done)
      | (rw [if_pos (by omega)]; simp; omega)
      | omega
  simp [execOp, ho, Instr.sliceAt, Instr.slice, ha.eval hx, el, eh, run_underlying (hT.slice ht), hr, run_sizeOf_tab hT he, slAddr]
end
end Go.Ent
namespace Go.Ent
open Go

/-- what a call of the yield function of loop l does: it answers b, and memory holds B b. -/
structure YTrip (P : Program) (l : Nat) (args : List Value) (A : List Assn) (B : Bool → List Assn) : Prop where
  run : ∀ (F : Assn) (w : World), sep (A ++ [F]) (hpart w) → ∃ fn tmps assign body, (Instr.yield l args.toArray).run P w = .ok (.round l fn tmps assign body) w ∧
    RoundIn (fen fz0) 0 P l fn tmps assign body w fun e w' => ∃ x : Bool, e = .returned (.bool x) ∧ St w (B x ++ [F]) w'
/-- an iterator: called with the yield function of whatever loop, it yields N times (or until a round answers no). -/
structure IterC (P : Program) (f : FuncId) (cap : List Value) (A : List Assn) (N : Nat) {Y : Type} (ya : Nat → Y → List Value) (Ya : Nat → Y → List Assn) (Z : List Assn) : Prop where
  run : ∀ (l : Nat) (I : Nat → List Assn) (X : List Assn), (∀ i, i < N → ∀ y, YTrip P l (ya i y) (I i ++ Ya i y) fun b => if b then I (i + 1) else X) →
    Trip P f (.func (.yield l) #[] #[] :: cap) (fun _ => True) (I 0 ++ A) (X := Bool) (fun _ => .tuple #[]) fun b => if b then I N ++ Z else X

theorem sep_frame {A : List Assn} {F : Assn} {G : List Assn} {h : Part} (hF : ∀ h, sep G h → F h) (s : sep (A ++ G) h) : sep (A ++ [F]) h :=
  append_sep (star_mono (fun _ h => h) (fun k h => ⟨k, fun _ => Option.none, fun _ _ _ _ e => by simp at e, Part.le_refl _, fun _ _ e => by simp at e, hF _ h, trivial⟩) (sep_append s))
theorem sep_unframe {A G : List Assn} {h : Part} (s : sep (A ++ [sep G]) h) : sep (A ++ G) h :=
  append_sep (star_mono (fun _ h => h) (fun k h => by obtain ⟨h1, _, _, l1, _, b, _⟩ := h; exact sep_mono_part l1 b) (sep_append s))
theorem sep_comm {A B : List Assn} {h : Part} (s : sep (A ++ B) h) : sep (B ++ A) h := append_sep (star_comm (sep_append s))
section
variable {P : Program} {n : Nat} {ds : Fz} {w0 : World} {E : Env} {G : List Assn} {Q : Exit → Act → World → Prop}
theorem Ef.yield {o : Oper} {fo : Operand} {ops : List Operand} {ats : Array TypeId} {l : Nat} {vs : List Value} {A G' : List Assn} {B : Bool → List Assn}
    (ho : o.op = .call { callee := .value fo, args := ops.toArray, argTypes := ats }) (hfv : ev E fo = some (.func (.yield l) #[] #[])) (hvs : evs E ops = some vs)
    (hT : YTrip P l vs A B) (hp : ∀ h, sep G h → sep (A ++ G') h) : Ef P n ds w0 E G o (fun b : Bool => .bool b) (fun b => B b ++ G') := fun a w ha hw K Q hK => by
  have hfv' := ha.eval hfv
  have hvs' := evs_sound ha hvs
  obtain ⟨fn, tmps, assign, body, hy, hR⟩ := hT.run (sep G') w (sep_frame (fun _ h => h) (hp _ hw.sep))
  have hrun : (execOp a.eval o).run P w = .ok (.round l fn tmps assign body) w := by
    have e1 : (List.map a.eval ops).toArray = vs.toArray := by rw [hvs']
    simp only [execOp, ho, resolve, hfv', Deferred.ofValue, invoke]
    simp [e1, hy]
  refine wpIn_of hrun (fun _ e => by cases e) ?_
  rw [Oper.uponIn_round]
  refine ⟨fun e => (by simp [fen, Fence.wide] at e), ?_⟩
  have h2 : RoundIn (fen ds) 0 P l fn tmps assign body w _ := hR
  refine RoundIn.mono h2 fun e w' he => ?_
  obtain ⟨x, rfl, hx⟩ := he
  exact hK x w' ⟨sep_unframe hx.sep, hw.same.trans hx.same⟩

/-- the slots that take what is yielded. -/
def putAll (E : Env) : List Tmp → List Value → Env
  | t :: ts, v :: vs => putAll ((t, v) :: E) ts vs
  | _, _ => E
theorem Agree.putAll {n : Nat} {ds : Fz} : ∀ (ts : List Tmp) (vs : List Value) {E : Env} {a : Act}, (∀ t ∈ ts, t < n) → Agree n ds E a →
    Agree n ds (putAll E ts vs) { a with tmps := (ts.zip vs).foldl (fun tmps x => tmps.setIfInBounds x.1 x.2) a.tmps }
  | [], vs, E, a, _, h => by simpa [Ent.putAll] using h
  | t :: ts, [], E, a, _, h => by simpa [Ent.putAll] using h
  | t :: ts, v :: vs, E, a, hb, h => by
    have h1 := h.put (d := some t) (by simpa [fits, Nat.blt_eq] using hb t (by simp)) v
    have := Agree.putAll ts vs (fun t ht => hb t (by simp [ht])) h1
    simpa [Ent.putAll, Ent.put, Act.put] using this
/-- how a round's body is left. -/
def RQ (l : Nat) (r : Loop) (w0 : World) (F : Assn) (I X : List Assn) (c : Option Code) : Exit → Act → World → Prop
  | .normal, _, w => St w0 (I ++ [pt l (.loop r), F]) w
  | .ret, _, w => c = some .ret ∧ St w0 (X ++ [pt l (.loop r), F]) w
  | .exit id, _, w => c = some (.exit id) ∧ St w0 (X ++ [pt l (.loop r), F]) w
  | _, _, _ => False
theorem sep_loop {l : Nat} {r r' : Loop} {I : List Assn} {F : Assn} {w : World} (s : sep (I ++ [pt l (.loop r), F]) (hpart w)) :
    w.heap[l]? = some (.loop r) ∧ sep ((I ++ [pt l (.loop r')]) ++ [F]) (hpart (w.putObj l (.loop r'))) := by
  have s2 : sep (pt l (.loop r) :: (F :: I)) (hpart w) := sep_comm (A := I) (B := [pt l (.loop r), F]) s
  obtain ⟨h1, h2, d, l1, l2, hp, hr⟩ := s2
  have hl : w.heap[l]? = some (.loop r) := l1 _ _ hp
  have hlt : l < w.heap.size := (Array.getElem?_eq_some_iff.1 hl).1
  refine ⟨hl, ?_⟩
  have s3 := sep_set (Pick.here (A := pt l (.loop r)) (G := F :: I)) ⟨h1, h2, d, l1, l2, hp, hr⟩ (o' := .loop r') (w' := w.putObj l (.loop r')) (World.putObj_heap_same hlt) (fun k hk => World.putObj_heap_other hk)
  have s4 := sep_comm (A := [pt l (.loop r'), F]) (B := I) s3
  rw [List.append_assoc]
  exact s4
theorem sep_loop' {l : Nat} {r r' : Loop} {I : List Assn} {F : Assn} {w : World} (s : sep ((I ++ [pt l (.loop r)]) ++ [F]) (hpart w)) :
    w.heap[l]? = some (.loop r) ∧ sep (I ++ [pt l (.loop r'), F]) (hpart (w.putObj l (.loop r'))) := by
  rw [List.append_assoc] at s
  have := sep_loop (r' := r') s
  rw [List.append_assoc] at this
  exact this
theorem Same.putObj (w : World) (l : Nat) (o : Obj) : Same w (w.putObj l o) := ⟨rfl, rfl, rfl, by simp⟩
/-- 'for .. range f { .. }' at the outermost. -/
theorem J.rangeFunc {g : Operand} {ps : List Tmp} {assign body : Code} {f : FuncId} {cap : List Value} {A : List Assn} {N : Nat} {Y : Type} {ya : Nat → Y → List Value} {Ya : Nat → Y → List Assn} {Za : List Assn}
    (hro : ds.ro = none) (hg : ev E g = some (.func (.func f) #[] cap.toArray)) (hit : IterC P f cap A N ya Ya Za) (hps : ps.all (fun t => Nat.blt t n) = true) (hya : ∀ i y, (ya i y).length = ps.length)
    (I : Nat → List Assn) (X : List Assn) (c : Option Code) (hX : c = none → ∀ h, sep X h → False) (h0 : ∀ h, sep G h → sep (I 0 ++ A) h)
    (EA : Nat → Y → Env)
    (hassign : ∀ i y l G w1, J P n ⟨[], some l⟩ w1 (putAll E ps (ya i y)) G (Exit.then (fun a w => Agree n ⟨[], some l⟩ (EA i y) a ∧ St w1 G w) (fun _ _ _ => False)) assign)
    (hbody : ∀ i, i < N → ∀ y l r F w1, J P n ⟨[], some l⟩ w1 (EA i y) (I i ++ Ya i y ++ [pt l (.loop r), F]) (RQ l r w1 F (I (i + 1)) X c) body)
    (hnext : ∀ r l k, At n ⟨[{ target := .collected r, args := #[] }] ++ ds.ds, none⟩ w0 E (I N ++ Za ++ [pt l k, pt r (.deferred (some []))]) (Q .normal))
    (hjump : ∀ r l k c', c = some c' → J P n ⟨[{ target := .collected r, args := #[] }] ++ ds.ds, none⟩ w0 E (X ++ [pt l k, pt r (.deferred (some []))]) Q c') :
    J P n ds w0 E G Q (.rangeFunc g ps.toArray assign body) := ⟨fun a w ha hw => by
  refine wpIn_rangeFunc fun fn _ => ?_
  let r := w.heap.size
  let l := w.heap.size + 1
  let rec0 : Loop := { state := .ready, pending := none, fn, tmps := a.tmps, params := ps.toArray, assign, body, defers := r }
  let w1 := (w.alloc (.deferred (some []))).alloc (.loop rec0)
  have henter : (Instr.enterLoop fn a.tmps ps.toArray assign body (fen ds).round).run P w = .ok (l, [{ target := .collected r, args := #[] }]) w1 := by
    have : (fen ds).round = none := hro
    rw [this]
    exact run_enterLoop_outer fn a.tmps ps.toArray assign body
  have hs1 : sep (pt l (.loop rec0) :: pt r (.deferred (some [])) :: G) (hpart w1) := by
    have s1 := sep_new (o := .deferred (some [])) hw.sep
    have s2 := sep_new (o := .loop rec0) s1
    have e : (w.alloc (.deferred (some []))).heap.size = l := by simp [l]
    rw [e] at s2
    exact s2
  let rdy : Loop → Prop := fun q => q = rec0
  let IL : Nat → List Assn := fun i => I i ++ [pt l (.loop rec0)]
  let XL : List Assn := X ++ [pt l (.loop { rec0 with state := .done, pending := c })]
  have hy : ∀ i, i < N → ∀ y, YTrip P l (ya i y) (IL i ++ Ya i y) fun b => if b then IL (i + 1) else XL := by
    intro i hi y
    refine ⟨fun F wy hsy => ?_⟩
    have hsy1 : sep (((I i ++ Ya i y) ++ [pt l (.loop rec0)]) ++ [F]) (hpart wy) := by
      have := sep_append hsy
      refine append_sep (star_mono (fun h s => ?_) (fun _ h => h) this)
      have s1 := sep_append s
      have s2 := star_mono (fun _ h => sep_append h) (fun _ h => h) s1
      have s3 := star_assoc s2
      have s4 := star_mono (fun _ h => h) (fun _ h => star_comm h) s3
      have s5 := star_assoc' s4
      exact append_sep (star_mono (fun _ h => append_sep h) (fun _ h => h) s5)
    have hl0 := (sep_loop' (r' := rec0) hsy1).1
    have hsz : (ya i y).toArray.size = rec0.params.size := by simp [rec0, hya]
    refine ⟨_, _, _, _, run_yield hl0 hsz, ?_⟩
    refine roundIn_of_wpIn trivial ?_
    have hfold : ((rec0.params.zip (ya i y).toArray).foldl (fun tmps (t, a) => tmps.setIfInBounds t a) rec0.tmps) = (ps.zip (ya i y)).foldl (fun tmps x => tmps.setIfInBounds x.1 x.2) a.tmps := by
      rw [← Array.foldl_toList]
      simp [rec0]
    rw [hfold]
    have hb : ∀ t ∈ ps, t < n := fun t ht => by
      have := List.all_eq_true.1 hps t ht
      simpa [Nat.blt_eq] using this
    have hag : Agree n ⟨[], some l⟩ (putAll E ps (ya i y)) { tmps := (ps.zip (ya i y)).foldl (fun tmps x => tmps.setIfInBounds x.1 x.2) a.tmps, defers := [] } := by
      have h1 : Agree n ⟨[], some l⟩ E { tmps := a.tmps, defers := [] } := ⟨ha.size, rfl, ha.get⟩
      exact Agree.putAll ps (ya i y) hb h1
    have hasg := (hassign i y l (((I i ++ Ya i y) ++ [pt l (.loop rec0)]) ++ [F]) wy).run _ wy hag ⟨hsy1, Same.refl wy⟩
    refine wpIn_mono hasg fun e a1 w2 he => ?_
    cases e <;> first | exact he.elim | skip
    obtain ⟨ha1, hw2⟩ := he
    obtain ⟨hl2, hs2⟩ := sep_loop' (r' := { rec0 with state := .busy }) hw2.sep
    refine ⟨_, run_beginRound hl2 rfl, ?_⟩
    have hb2 := (hbody i hi y l { rec0 with state := .busy } F wy).run a1 _ ha1 ⟨hs2, hw2.same.trans (Same.putObj _ _ _)⟩
    refine wpIn_mono hb2 fun e a3 w3 he => ?_
    cases e with
    | normal =>
      obtain ⟨hl3, hs3⟩ := sep_loop (r' := rec0) he.sep
      refine ⟨_, _, run_endRound none hl3, true, rfl, ⟨?_, he.same.trans (Same.putObj _ _ _)⟩⟩
      simpa [IL, rec0] using hs3
    | ret =>
      obtain ⟨hc, he⟩ := he
      obtain ⟨hl3, hs3⟩ := sep_loop (r' := { rec0 with state := .done, pending := c }) he.sep
      refine ⟨_, _, run_endRound (some .ret) hl3, false, rfl, ⟨?_, he.same.trans (Same.putObj _ _ _)⟩⟩
      simpa [XL, rec0, hc] using hs3
    | exit id =>
      obtain ⟨hc, he⟩ := he
      obtain ⟨hl3, hs3⟩ := sep_loop (r' := { rec0 with state := .done, pending := c }) he.sep
      refine ⟨_, _, run_endRound (some (.exit id)) hl3, false, rfl, ⟨?_, he.same.trans (Same.putObj _ _ _)⟩⟩
      simpa [XL, rec0, hc] using hs3
    | goto t => exact he.elim
    | panic ch => exact he.elim
    | outgrown => exact he.elim
  have hT := hit.run l IL XL hy
  obtain ⟨fnn, hfn, hname, hbody'⟩ := hT.ok
  refine ⟨l, _, w1, { target := .fn (.func f) cap.toArray, args := #[] ++ #[.func (.yield l) #[] #[]] }, w1, f, (.func (.yield l) #[] #[] :: cap).toArray, w1, henter, ?_, fun _ _ => trivial, ?_, fun e => (by simp [fen, Fence.wide] at e), ?_⟩
  · have := ha.eval hg
    have e2 : a.eval (.const (.func (.yield l) #[] #[])) = .func (.yield l) #[] #[] := rfl
    simp [resolve, this, e2, Deferred.ofValue]
  · have hname' : ¬ fnn.name = "runtime.NumGoroutine" := by simpa using hname
    have hb' : ¬ fnn.body = none := fun e => by simp [e] at hbody'
    simp [invoke, callFunc, program, Sem.run, hfn, hname', hb']
  have hsT : sep ((IL 0 ++ A) ++ [pt r (.deferred (some []))]) (hpart w1) := by
    have s1 : sep ([pt l (.loop rec0), pt r (.deferred (some []))] ++ G) (hpart w1) := hs1
    have s2 := star_mono (fun _ h => h) (fun h s => sep_append (h0 h s)) (sep_append s1)
    have s3 := star_comm s2
    refine append_sep ?_
    have s4 : star (star (sep (I 0)) (sep A)) (star (pt l (.loop rec0)) (sep [pt r (.deferred (some []))])) (hpart w1) := s3
    have s5 := star_assoc' s4
    refine star_mono (fun h s => ?_) (fun _ h => h) s5
    have t1 := star_assoc s
    have t2 := star_mono (fun _ h => h) (fun _ h => star_comm h) t1
    have t3 := star_assoc' t2
    refine append_sep (star_mono (fun h s => append_sep (star_mono (fun _ h => h) (fun k h => ⟨k, fun _ => none, fun _ _ _ _ e => by simp at e, Part.le_refl _, fun _ _ e => by simp at e, h, trivial⟩) s)) (fun _ h => h) t3)
  have hcall := hT.run (sep [pt r (.deferred (some []))]) w1 (fun _ _ => trivial) (sep_frame (fun _ h => h) hsT)
  have hcall2 : CallsIn (fen ds) 0 P f (.func (.yield l) #[] #[] :: cap).toArray w1 _ := callsIn_wide.2 hcall
  refine CallsIn.mono hcall2 fun e w3 he => ?_
  obtain ⟨x, rfl, hx⟩ := he
  have hsame3 : Same w0 w3 := (hw.same.trans ((Same.alloc w _).trans (Same.alloc _ _))).trans hx.same
  have ha' : Agree n ⟨[{ target := .collected r, args := #[] }] ++ ds.ds, none⟩ E { a with defers := [{ target := .collected r, args := #[] }] ++ a.defers } := ⟨ha.size, by simp [ha.defers], ha.get⟩
  cases x with
  | true =>
    have s1 : sep ((I N ++ [pt l (.loop rec0)] ++ Za) ++ [pt r (.deferred (some []))]) (hpart w3) := sep_unframe (by simpa [IL] using hx.sep)
    have s2 : sep ((I N ++ Za ++ [pt l (.loop rec0)]) ++ [pt r (.deferred (some []))]) (hpart w3) := by
      refine append_sep (star_mono (fun h s => ?_) (fun _ h => h) (sep_append s1))
      have t1 := star_mono (fun _ h => sep_append h) (fun _ h => h) (sep_append s)
      have t2 := star_assoc t1
      have t3 := star_mono (fun _ h => h) (fun _ h => star_comm h) t2
      have t4 := star_assoc' t3
      exact append_sep (star_mono (fun _ h => append_sep h) (fun _ h => h) t4)
    obtain ⟨hl3, s3⟩ := sep_loop' (r' := { rec0 with state := .exhausted }) s2
    refine ⟨none, _, run_endLoop hl3 (by simp [rec0]), ?_⟩
    exact (hnext r l _).run _ _ ha' ⟨s3, hsame3.trans (Same.putObj _ _ _)⟩
  | false =>
    have s1 : sep ((X ++ [pt l (.loop { rec0 with state := .done, pending := c })]) ++ [pt r (.deferred (some []))]) (hpart w3) := sep_unframe (by simpa [XL] using hx.sep)
    obtain ⟨hl3, s3⟩ := sep_loop' (r' := { rec0 with state := .exhausted, pending := c }) s1
    refine ⟨c, _, run_endLoop hl3 (by simp), ?_⟩
    cases hc : c with
    | none =>
      have s5 := star_mono (fun _ h => sep_append h) (fun _ h => h) (sep_append s1)
      obtain ⟨_, _, _, _, _, ⟨_, _, _, _, _, sx, _⟩, _⟩ := s5
      exact (hX hc _ sx).elim
    | some c' =>
      subst hc
      have hj := (hjump r l _ c' rfl).run _ _ ha' ⟨s3, hsame3.trans (Same.putObj _ _ _)⟩
      have hf : fen ⟨[{ target := .collected r, args := #[] }] ++ ds.ds, none⟩ = fen ds := by simp [fen, hro]
      rw [hf] at hj
      exact hj⟩
/-- a function in which such a loop stands: its end. -/
theorem Trip.introM {f : FuncId} {fn : Func} {c : Code} {args : List Value} {D : Assn} {A : List Assn} {X : Type} {r : X → Value} {B : X → List Assn}
    (hf : P.funcs[f]? = some fn) (hn : (fn.name == "runtime.NumGoroutine") = false) (hb : fn.body = some c) (hk : fn.ntmps = n) (hle : Nat.ble args.length n = true)
    (h : ∀ (F : Assn) (w : World), (∀ h, F h → D h) → J P n fz0 w (envOf 0 args) (A ++ [F]) (bodyPostM (fen fz0) 0 P fn fun e w' => ∃ x, e = .returned (r x) ∧ St w (B x ++ [F]) w') c) :
    Trip P f args D A r B := by
  refine ⟨⟨fn, hf, hn, by simp [hb]⟩, fun F w hD hs => callsIn_wide.1 (callsIn_of_wp_marks (n := 0) hf hb trivial ((h F w hD).run _ w ⟨?_, rfl, ?_⟩ ⟨hs, Same.refl w⟩))⟩
  · have := Nat.le_of_ble_eq_true hle
    simp [hk]; omega
  · intro j v hj
    obtain ⟨_, h2⟩ := look_envOf args 0 j v hj
    have hlt : j < args.length := (List.getElem?_eq_some_iff.1 (by simpa using h2)).1
    simp only [Nat.sub_zero] at h2
    simp only [List.size_toArray, hlt, Array.getElem?_append_left]
    simpa using h2
/-- the end behind one such loop: the mark is taken up; then the results are read. -/
theorem At.doneM {fn : Func} {q : Nat} {X : Type} {r : X → Value} {B : X → List Assn} {F : Assn} {G' : List Assn} (x : X) (p : Pick (pt q (.deferred (some []))) G G')
    (hres : ∀ a w, Agree n ⟨[{ target := .collected q, args := #[] }], none⟩ E a → St w0 (pt q (.deferred none) :: G') w → (results fn a.tmps).run P w = .ok (r x) w)
    (hG : ∀ h, sep (pt q (.deferred none) :: G') h → sep (B x ++ [F]) h) :
    At n ⟨[{ target := .collected q, args := #[] }], none⟩ w0 E G (bodyPostM (fen fz0) 0 P fn (fun e w' => ∃ x, e = .returned (r x) ∧ St w0 (B x ++ [F]) w') .ret) := ⟨fun a w ha hw => by
  obtain ⟨h1, _, _, l1, _, hp, _⟩ := p.out hw.sep
  have hq : w.heap[q]? = some (.deferred (some [])) := l1 _ _ hp
  have hlt : q < w.heap.size := (Array.getElem?_eq_some_iff.1 hq).1
  have hs := sep_set p hw.sep (o' := .deferred none) (w' := w.putObj q (.deferred none)) (World.putObj_heap_same hlt) (fun k hk => World.putObj_heap_other hk)
  have hst : St w0 (pt q (.deferred none) :: G') (w.putObj q (.deferred none)) := ⟨hs, hw.same.trans (Same.putObj _ _ _)⟩
  show LeavesInM _ _ _ _ _ _ a.defers _ w
  rw [ha.defers]
  refine ⟨by simp, .inl ⟨q, _, rfl, run_takeDeferred hq, ?_⟩⟩
  exact ⟨r x, hres a _ ha hst, x, rfl, hG _ hst.sep, hst.same⟩⟩
end
end Go.Ent
