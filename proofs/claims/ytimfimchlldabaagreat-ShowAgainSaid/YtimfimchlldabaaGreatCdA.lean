/- Texts of one proof, joined by a program of this claim's: a semantic evaluator for the walks; the contracts of the functions; the plain laws. -/
import Derived.Tactics
import Derived.Orders
import Derived.Scope
import Derived.Below
import Derived.Laws.Entries
import Derived.Laws.BytesArg
import Derived.Maps.AppendAt
import Derived.RangeFuncRecord
set_option linter.all false
namespace Go.Dm
inductive D where
  | bot
  | v (x : Value)
  | agg (cs : List D)
  | tup (cs : List D)
  | list (s : Nat) (xs : List (List D))
  | ptr (cs : List D)
  | ref (id off : Nat)
  | sl (id s n : Nat)
  | row (id n : Nat)
  | fn (f : Fn) (caps : List D)
  | iface (t : TypeId) (d : D)
  | rp (id n s j off : Nat)
  | mp (id : Nat)
structure Env where
  im : Nat → Nat → Option Value
  blk : Nat → Option Nat
  hdr : Nat → Nat → Option Value
def hdrBlk : Option Value → Option Nat
  | some (.slice (some a) _ _) => some a.block
  | _ => none
def Env.pure (E : Env) : Env := ⟨E.im, fun _ => none, fun _ _ => none⟩
mutual
def rel : D → Env → Value → Prop
  | .bot, _, _ => True
  | .v x, _, y => y = x
  | .agg cs, E, y => ∃ vs : List Value, y = .agg vs.toArray ∧ rels cs E vs
  | .tup cs, E, y => ∃ vs : List Value, y = .tuple vs.toArray ∧ rels cs E vs
  | .list s xs, E, y => ∃ a cap, y = .slice a xs.length cap ∧ xs.length ≤ cap ∧ (xs ≠ [] → ∃ b o, a = some ⟨b, o, none⟩ ∧ relRow xs E.pure s b o)
  | .ptr cs, E, y => ∃ b o, y = .pointer (some ⟨b, o, none⟩) ∧ relCells cs E.pure b o
  | .ref id off, E, y => ∃ b, E.blk id = some b ∧ y = .pointer (some ⟨b, off, none⟩)
  | .sl id _ n, E, y => ∃ b, E.blk id = some b ∧ y = .slice (some ⟨b, 0, none⟩) n n
  | .row id n, E, y => E.hdr id n = some y ∧ y.oneCell' = true
  | .fn f caps, E, y => ∃ vs : List Value, y = .func f #[] vs.toArray ∧ rels caps E vs
  | .iface t d, E, y => ∃ x, y = .iface t x ∧ rel d E x
  | .rp id n s j off, E, y => ∃ b, hdrBlk (E.hdr id n) = some b ∧ y = .pointer (some ⟨b, j * s + off, none⟩)
  | .mp id, E, y => ∃ b, E.blk id = some b ∧ y = .map (some b)
def rels : List D → Env → List Value → Prop
  | [], _, vs => vs = []
  | d :: ds, E, vs => ∃ v ws, vs = v :: ws ∧ rel d E v ∧ rels ds E ws
def relCells : List D → Env → Nat → Nat → Prop
  | [], _, _, _ => True
  | c :: cs, E, b, o => (∃ v, E.im b o = some v ∧ rel c E v) ∧ relCells cs E b (o + 1)
def relRow : List (List D) → Env → Nat → Nat → Nat → Prop
  | [], _, _, _, _ => True
  | x :: xs, E, s, b, o => (x.length = s ∧ relCells x E b o) ∧ relRow xs E s b (o + s)
end
structure Env.le (E E' : Env) : Prop where
  im : ∀ b o v, E.im b o = some v → E'.im b o = some v
  blk : ∀ id b, E.blk id = some b → E'.blk id = some b
  hdr : ∀ id n v, E.hdr id n = some v → E'.hdr id n = some v
theorem Env.le.refl (E : Env) : E.le E := ⟨fun _ _ _ h => h, fun _ _ h => h, fun _ _ _ h => h⟩
theorem Env.le.trans {A B C : Env} (h : A.le B) (k : B.le C) : A.le C :=
  ⟨fun _ _ _ x => k.im _ _ _ (h.im _ _ _ x), fun _ _ x => k.blk _ _ (h.blk _ _ x), fun _ _ _ x => k.hdr _ _ _ (h.hdr _ _ _ x)⟩
theorem Env.le.pure {E E' : Env} (h : E.le E') : E.pure.le E'.pure := ⟨h.im, fun _ _ x => x, fun _ _ _ x => x⟩
theorem hdrBlk_le {E E' : Env} (h : E.le E') {id n b : Nat} (hb : hdrBlk (E.hdr id n) = some b) : hdrBlk (E'.hdr id n) = some b := by
  cases hv : E.hdr id n with
  | none => rw [hv] at hb; cases hb
  | some v => rw [hv] at hb; rw [h.hdr _ _ _ hv]; exact hb
mutual
theorem rel_mono : ∀ (d : D) {E E' : Env} {y : Value}, E.le E' → rel d E y → rel d E' y
  | .bot, _, _, _, _, _ => trivial
  | .v _, _, _, _, _, h => h
  | .agg cs, _, _, _, hl, ⟨vs, h1, h2⟩ => ⟨vs, h1, rels_mono cs hl h2⟩
  | .tup cs, _, _, _, hl, ⟨vs, h1, h2⟩ => ⟨vs, h1, rels_mono cs hl h2⟩
  | .list _ xs, _, _, _, hl, ⟨a, cap, h1, h2, h3⟩ => ⟨a, cap, h1, h2, fun hn => let ⟨b, o, h4, h5⟩ := h3 hn; ⟨b, o, h4, relRow_mono xs hl.pure h5⟩⟩
  | .ptr cs, _, _, _, hl, ⟨b, o, h1, h2⟩ => ⟨b, o, h1, relCells_mono cs hl.pure h2⟩
  | .ref _ _, _, _, _, hl, ⟨b, h1, h2⟩ => ⟨b, hl.blk _ _ h1, h2⟩
  | .sl _ _ _, _, _, _, hl, ⟨b, h1, h2⟩ => ⟨b, hl.blk _ _ h1, h2⟩
  | .row _ _, _, _, _, hl, h => ⟨hl.hdr _ _ _ h.1, h.2⟩
  | .fn _ caps, _, _, _, hl, ⟨vs, h1, h2⟩ => ⟨vs, h1, rels_mono caps hl h2⟩
  | .iface _ d, _, _, _, hl, ⟨x, h1, h2⟩ => ⟨x, h1, rel_mono d hl h2⟩
  | .rp _ _ _ _ _, _, _, _, hl, ⟨b, h1, h2⟩ => ⟨b, hdrBlk_le hl h1, h2⟩
  | .mp _, _, _, _, hl, ⟨b, h1, h2⟩ => ⟨b, hl.blk _ _ h1, h2⟩
theorem rels_mono : ∀ (ds : List D) {E E' : Env} {vs : List Value}, E.le E' → rels ds E vs → rels ds E' vs
  | [], _, _, _, _, h => h
  | d :: ds, _, _, _, hl, ⟨v, ws, h1, h2, h3⟩ => ⟨v, ws, h1, rel_mono d hl h2, rels_mono ds hl h3⟩
theorem relCells_mono : ∀ (cs : List D) {E E' : Env} {b o : Nat}, E.le E' → relCells cs E b o → relCells cs E' b o
  | [], _, _, _, _, _, _ => trivial
  | c :: cs, _, _, _, _, hl, ⟨⟨v, h1, h2⟩, h3⟩ => ⟨⟨v, hl.im _ _ _ h1, rel_mono c hl h2⟩, relCells_mono cs hl h3⟩
theorem relRow_mono : ∀ (xs : List (List D)) {E E' : Env} {s b o : Nat}, E.le E' → relRow xs E s b o → relRow xs E' s b o
  | [], _, _, _, _, _, _, _ => trivial
  | x :: xs, _, _, _, _, _, hl, ⟨⟨h1, h2⟩, h3⟩ => ⟨⟨h1, relCells_mono x hl h2⟩, relRow_mono xs hl h3⟩
end
end Go.Dm
namespace Go.Dm
open Go.RowKit
inductive Ob where
  | cells (ds : List D)
  | row (e : TypeId) (s : Nat) (xs : List (List D))
  | dead
  | mrow (e : TypeId) (s ver : Nat) (xs : List (List D))
  | mp (l : List (Value × Value))
  | tc (T : TypeId) (ds : List D)
def obBlk (E : Env) (id : Nat) : Ob → Option Nat
  | .cells _ => E.blk id
  | .row _ _ xs => hdrBlk (E.hdr id xs.length)
  | .dead => none
  | .mrow _ _ ver _ => hdrBlk (E.hdr id ver)
  | .mp _ => E.blk id
  | .tc _ _ => E.blk id
def ObOK (E : Env) (id : Nat) (w : World) : Ob → Prop
  | .cells ds => ∃ b c T, E.blk id = some b ∧ w.heap[b]? = some (.cells c T (0, 0)) ∧ rels ds E c.toList ∧ ∀ o, E.im b o = none
  | .row e s xs => (∀ n v, E.hdr id n = some v → n ≤ xs.length ∧ rel (.list s (xs.take n)) E v) ∧
      ((E.hdr id xs.length = some (.slice none 0 0) ∧ xs = []) ∨
       ∃ b c cap, E.hdr id xs.length = some (.slice (some ⟨b, 0, none⟩) xs.length cap) ∧ w.heap[b]? = some (.cells c e (0, 0)) ∧ c.size = cap * s ∧ xs.length ≤ cap ∧ cap ≤ maxLen ∧
         ∀ o v, E.im b o = some v → o < xs.length * s)
  | .dead => True
  | .mrow e s ver xs => (∀ n v, E.hdr id n = some v → n ≤ ver) ∧
      ((E.hdr id ver = some (.slice none 0 0) ∧ xs = []) ∨
       ∃ b c cap, E.hdr id ver = some (.slice (some ⟨b, 0, none⟩) xs.length cap) ∧ w.heap[b]? = some (.cells c e (0, 0)) ∧ c.size = cap * s ∧ xs.length ≤ cap ∧ cap ≤ maxLen ∧
         (∀ r ∈ xs, r.length = s) ∧ rels xs.flatten E.pure (c.toList.take (xs.length * s)) ∧ ∀ o, E.im b o = none)
  | .mp l => ∃ b es clock, E.blk id = some b ∧ w.heap[b]? = some (.map es clock) ∧ es.toList.map (fun x => (x.key, x.val)) = l ∧ ∀ o, E.im b o = none
  | .tc T ds => ∃ b c, E.blk id = some b ∧ w.heap[b]? = some (.cells c T (0, 0)) ∧ rels ds E c.toList ∧ ∀ o, E.im b o = none
def maxLenG : Nat := 0
def GlOK (E : Env) : Prop := ∃ m : Int, E.im maxLenG 0 = some (.int .i64 m)
theorem GlOK.mono {E E' : Env} (h : GlOK E) (k : E.le E') : GlOK E' := let ⟨m, h⟩ := h; ⟨m, k.im _ _ _ h⟩
structure Inv (E : Env) (M : Nat → Option Ob) (w : World) : Prop where
  im : ∀ b o v, E.im b o = some v → w.cell? ⟨b, o, none⟩ = some v
  ob : ∀ id x, M id = some x → ObOK E id w x
  sep : ∀ i j x y b, M i = some x → M j = some y → obBlk E i x = some b → obBlk E j y = some b → i = j
  gl : GlOK E
structure Step (E E' : Env) (own : Nat → Prop) (w w' : World) : Prop where
  le : E.le E'
  size : w.heap.size ≤ w'.heap.size
  frame : ∀ b, b < w.heap.size → ¬ own b → w'.heap[b]? = w.heap[b]?
  new : ∀ b o v, E'.im b o = some v → E.im b o = some v ∨ w.heap.size ≤ b ∨ own b
  os : w'.os = w.os
  tape : w'.tape = w.tape
  output : w'.output = w.output
theorem Step.refl (E : Env) (own : Nat → Prop) (w : World) : Step E E own w w :=
  ⟨.refl E, Nat.le_refl _, fun _ _ _ => rfl, fun _ _ _ h => .inl h, rfl, rfl, rfl⟩
theorem Step.mono {E E' : Env} {own own' : Nat → Prop} {w w' : World} (h : Step E E' own w w') (k : ∀ b, own b → own' b) : Step E E' own' w w' :=
  ⟨h.le, h.size, fun b hb hn => h.frame b hb fun x => hn (k b x), fun b o v x => (h.new b o v x).imp id (·.imp id (k b)), h.os, h.tape, h.output⟩
theorem Step.trans {A B C : Env} {own own' : Nat → Prop} {u v w : World} (h : Step A B own u v) (k : Step B C own' v w) (ho : ∀ b, own' b → own b ∨ u.heap.size ≤ b) : Step A C own u w where
  le := h.le.trans k.le
  size := Nat.le_trans h.size k.size
  frame b hb hn := (k.frame b (Nat.lt_of_lt_of_le hb h.size) fun x => (ho b x).elim hn fun y => by omega).trans (h.frame b hb hn)
  new b o x hx := by
    rcases k.new b o x hx with h1 | h1 | h1
    · exact h.new b o x h1
    · exact .inr (.inl (Nat.le_trans h.size h1))
    · rcases ho b h1 with h2 | h2
      · exact .inr (.inr h2)
      · exact .inr (.inl h2)
  os := k.os.trans h.os
  tape := k.tape.trans h.tape
  output := k.output.trans h.output
def get {α : Type} : List (Nat × α) → Nat → Option α
  | [], _ => none
  | (k, a) :: r, t => match Nat.beq k t with
    | true => some a
    | false => get r t
def upds (N : Nat → Option Ob) : List (Nat × Ob) → Nat → Option Ob
  | [], t => N t
  | (k, a) :: r, t => match Nat.beq k t with
    | true => some a
    | false => upds N r t
theorem beq_same (k : Nat) : Nat.beq k k = true := by rw [Nat.beq_eq]
theorem beq_other {k t : Nat} (h : k ≠ t) : Nat.beq k t = false := by
  cases hb : Nat.beq k t with
  | false => rfl
  | true => exact absurd (by rwa [Nat.beq_eq] at hb) h
theorem get_cons {α : Type} (k t : Nat) (a : α) (r : List (Nat × α)) : get ((k, a) :: r) t = if k = t then some a else get r t := by
  by_cases h : k = t
  · subst h; simp [get, beq_same]
  · simp [get, beq_other h, h]
theorem upds_cons (N : Nat → Option Ob) (k t : Nat) (a : Ob) (r : List (Nat × Ob)) : upds N ((k, a) :: r) t = if k = t then some a else upds N r t := by
  by_cases h : k = t
  · subst h; simp [upds, beq_same]
  · simp [upds, beq_other h, h]
theorem upds_nil (N : Nat → Option Ob) : upds N [] = N := rfl
def ownOf (E : Env) (N : Nat → Option Ob) (post : List (Nat × Ob)) (b : Nat) : Prop := ∃ p ∈ post, ∃ x, N p.1 = some x ∧ obBlk E p.1 x = some b
theorem obBlk_le {E E' : Env} {w : World} {id : Nat} {x : Ob} (h : E.le E') (hx : ObOK E id w x) : obBlk E' id x = obBlk E id x := by
  cases x with
  | cells ds =>
    obtain ⟨b, c, T, h1, _⟩ := hx
    simp [obBlk, h1, h.blk _ _ h1]
  | row e s xs =>
    rcases hx.2 with ⟨h1, _⟩ | ⟨b, c, cap, h1, _⟩ <;> simp [obBlk, h1, h.hdr _ _ _ h1]
  | dead => rfl
  | mrow e s ver xs =>
    rcases hx.2 with ⟨h1, _⟩ | ⟨b, c, cap, h1, _⟩ <;> simp [obBlk, h1, h.hdr _ _ _ h1]
  | mp l =>
    obtain ⟨b, es, k, h1, _⟩ := hx
    simp [obBlk, h1, h.blk _ _ h1]
  | tc T ds =>
    obtain ⟨b, c, h1, _⟩ := hx
    simp [obBlk, h1, h.blk _ _ h1]
theorem obBlk_lt {E : Env} {w : World} {id b : Nat} {x : Ob} (hx : ObOK E id w x) (hb : obBlk E id x = some b) : b < w.heap.size := by
  cases x with
  | cells ds =>
    obtain ⟨b', c, T, h1, h2, _⟩ := hx
    simp [obBlk, h1] at hb
    subst hb
    exact (Array.getElem?_eq_some_iff.1 h2).1
  | row e s xs =>
    rcases hx.2 with ⟨h1, _⟩ | ⟨b', c, cap, h1, h2, _⟩
    · simp [obBlk, h1, hdrBlk] at hb
    · simp [obBlk, h1, hdrBlk] at hb
      subst hb
      exact (Array.getElem?_eq_some_iff.1 h2).1
  | dead => cases hb
  | mrow e s ver xs =>
    rcases hx.2 with ⟨h1, _⟩ | ⟨b', c, cap, h1, h2, _⟩
    · simp [obBlk, h1, hdrBlk] at hb
    · simp [obBlk, h1, hdrBlk] at hb
      subst hb
      exact (Array.getElem?_eq_some_iff.1 h2).1
  | mp l =>
    obtain ⟨b', es, k, h1, h2, _⟩ := hx
    simp [obBlk, h1] at hb
    subst hb
    exact (Array.getElem?_eq_some_iff.1 h2).1
  | tc T ds =>
    obtain ⟨b', c, h1, h2, _⟩ := hx
    simp [obBlk, h1] at hb
    subst hb
    exact (Array.getElem?_eq_some_iff.1 h2).1
end Go.Dm
namespace Go.Dm
def ImOK (E : Env) (w : World) : Prop := ∀ b o v, E.im b o = some v → w.cell? ⟨b, o, none⟩ = some v
theorem cell_same {w w' : World} {b o : Nat} (h : w'.heap[b]? = w.heap[b]?) : w'.cell? ⟨b, o, none⟩ = w.cell? ⟨b, o, none⟩ := by
  simp [World.cell?, h]
theorem cell_lt {w : World} {b o : Nat} {v : Value} (h : w.cell? ⟨b, o, none⟩ = some v) : b < w.heap.size := by
  rcases Nat.lt_or_ge b w.heap.size with h1 | h1
  · exact h1
  · simp [World.cell?, Array.getElem?_eq_none h1] at h
theorem ObOK.keep {E E' : Env} {own : Nat → Prop} {w w' : World} {id : Nat} {x : Ob} (hx : ObOK E id w x) (st : Step E E' own w w')
    (hn : ∀ b, obBlk E id x = some b → ¬ own b) (hh : ∀ n v, E'.hdr id n = some v → E.hdr id n = some v) : ObOK E' id w' x := by
  cases x with
  | cells ds =>
    obtain ⟨b, c, T, h1, h2, h3, h4⟩ := hx
    have hlt := (Array.getElem?_eq_some_iff.1 h2).1
    have hno := hn b (by simp [obBlk, h1])
    refine ⟨b, c, T, st.le.blk _ _ h1, by rw [st.frame b hlt hno]; exact h2, rels_mono ds st.le h3, fun o => ?_⟩
    cases ho : E'.im b o with
    | none => rfl
    | some v =>
      rcases st.new b o v ho with h | h | h
      · rw [h4] at h; cases h
      · omega
      · exact absurd h hno
  | row e s xs =>
    refine ⟨fun n v hv => ⟨(hx.1 n v (hh n v hv)).1, rel_mono _ st.le (hx.1 n v (hh n v hv)).2⟩, ?_⟩
    rcases hx.2 with ⟨h1, h2⟩ | ⟨b, c, cap, h1, h2, h3, h4, hm, h5⟩
    · exact .inl ⟨st.le.hdr _ _ _ h1, h2⟩
    · have hlt := (Array.getElem?_eq_some_iff.1 h2).1
      have hno := hn b (by simp [obBlk, h1, hdrBlk])
      refine .inr ⟨b, c, cap, st.le.hdr _ _ _ h1, by rw [st.frame b hlt hno]; exact h2, h3, h4, hm, fun o v ho => ?_⟩
      rcases st.new b o v ho with h | h | h
      · exact h5 o v h
      · omega
      · exact absurd h hno
  | dead => trivial
  | mrow e s ver xs =>
    refine ⟨fun n v hv => hx.1 n v (hh n v hv), ?_⟩
    rcases hx.2 with ⟨h1, h2⟩ | ⟨b, c, cap, h1, h2, h3, h4, hm, hr, h5, h6⟩
    · exact .inl ⟨st.le.hdr _ _ _ h1, h2⟩
    · have hlt := (Array.getElem?_eq_some_iff.1 h2).1
      have hno := hn b (by simp [obBlk, h1, hdrBlk])
      refine .inr ⟨b, c, cap, st.le.hdr _ _ _ h1, by rw [st.frame b hlt hno]; exact h2, h3, h4, hm, hr, rels_mono _ st.le.pure h5, fun o => ?_⟩
      cases ho : E'.im b o with
      | none => rfl
      | some v =>
        rcases st.new b o v ho with h | h | h
        · rw [h6] at h; cases h
        · omega
        · exact absurd h hno
  | mp l =>
    obtain ⟨b, es, k, h1, h2, h3, h4⟩ := hx
    have hlt := (Array.getElem?_eq_some_iff.1 h2).1
    have hno := hn b (by simp [obBlk, h1])
    refine ⟨b, es, k, st.le.blk _ _ h1, by rw [st.frame b hlt hno]; exact h2, h3, fun o => ?_⟩
    cases ho : E'.im b o with
    | none => rfl
    | some v =>
      rcases st.new b o v ho with h | h | h
      · rw [h4] at h; cases h
      · omega
      · exact absurd h hno
  | tc T ds =>
    obtain ⟨b, c, h1, h2, h3, h4⟩ := hx
    have hlt := (Array.getElem?_eq_some_iff.1 h2).1
    have hno := hn b (by simp [obBlk, h1])
    refine ⟨b, c, st.le.blk _ _ h1, by rw [st.frame b hlt hno]; exact h2, rels_mono ds st.le h3, fun o => ?_⟩
    cases ho : E'.im b o with
    | none => rfl
    | some v =>
      rcases st.new b o v ho with h | h | h
      · rw [h4] at h; cases h
      · omega
      · exact absurd h hno
theorem Inv.step1 {E E' : Env} {N : Nat → Option Ob} {w w' : World} {id : Nat} {x' : Ob} (h : Inv E N w) (st : Step E E' (ownOf E N [(id, x')]) w w')
    (him : ImOK E' w') (hx : ObOK E' id w' x') (hh : ∀ j, j ≠ id → E'.hdr j = E.hdr j) (hb : ∀ b, obBlk E' id x' = some b → (∃ x, N id = some x ∧ obBlk E id x = some b) ∨ w.heap.size ≤ b) :
    Inv E' (upds N [(id, x')]) w' := by
  have other : ∀ j y, j ≠ id → N j = some y → ∀ b, obBlk E j y = some b → ¬ ownOf E N [(id, x')] b := by
    rintro j y hj hy b hby ⟨p, hp, z, hz, hzb⟩
    simp only [List.mem_singleton] at hp
    subst hp
    exact hj (h.sep j id y z b hy hz hby hzb)
  have same : ∀ j y, j ≠ id → N j = some y → obBlk E' j y = obBlk E j y := fun j y hj hy => obBlk_le st.le (h.ob j y hy)
  refine ⟨him, fun j y hy => ?_, fun i j y z b hy hz hyb hzb => ?_, h.gl.mono st.le⟩
  · rw [upds_cons, upds_nil] at hy
    split at hy
    · rename_i e; subst e; injection hy with hy; subst hy; exact hx
    · rename_i e
      have e' : j ≠ id := fun x => e x.symm
      exact (h.ob j y hy).keep st (other j y e' hy) (fun n v hv => by rw [hh j e'] at hv; exact hv)
  · rw [upds_cons, upds_nil] at hy hz
    have key : ∀ k u, k ≠ id → N k = some u → obBlk E' k u = some b → obBlk E' id x' = some b → False := by
      intro k u hk hu hub hxb
      rw [same k u hk hu] at hub
      rcases hb b hxb with ⟨q, hq, hqb⟩ | hge
      · exact hk (h.sep k id u q b hu hq hub hqb)
      · have := obBlk_lt (h.ob k u hu) hub
        omega
    by_cases ei : id = i <;> by_cases ej : id = j
    · exact ei.symm.trans ej
    · rw [if_pos ei] at hy; rw [if_neg ej] at hz
      injection hy with hy; subst hy; subst ei
      exact (key j z (Ne.symm ej) hz hzb hyb).elim
    · rw [if_neg ei] at hy; rw [if_pos ej] at hz
      injection hz with hz; subst hz; subst ej
      exact (key i y (Ne.symm ei) hy hyb hzb).elim
    · rw [if_neg ei] at hy; rw [if_neg ej] at hz
      rw [same i y (Ne.symm ei) hy] at hyb
      rw [same j z (Ne.symm ej) hz] at hzb
      exact h.sep i j y z b hy hz hyb hzb
theorem Inv.step0 {E E' : Env} {N : Nat → Option Ob} {w w' : World} (h : Inv E N w) (st : Step E E' (fun _ => False) w w') (him : ImOK E' w') (hh : ∀ j, E'.hdr j = E.hdr j) : Inv E' N w' := by
  refine ⟨him, fun j y hy => (h.ob j y hy).keep st (fun _ _ => id) (fun n v hv => by rw [hh] at hv; exact hv), fun i j y z b hy hz hyb hzb => ?_, h.gl.mono st.le⟩
  rw [obBlk_le st.le (h.ob i y hy)] at hyb
  rw [obBlk_le st.le (h.ob j z hz)] at hzb
  exact h.sep i j y z b hy hz hyb hzb
inductive TK where
  | int (k : IntKind) | bool | str | cpx | flt
  | slice (e : TypeId) | ptr (e : TypeId) | struct (fs : List (Nat × TypeId)) | arr (n : Nat) (e : TypeId)
  | map (k e : TypeId) | func | iface | other
structure Ty where
  k : TK
  size : Nat
  bytes : Nat
  zero : List Value
def TK.agg : TK → Bool
  | .struct _ | .arr _ _ => true
  | _ => false
abbrev Fr := List (Nat × D)
def gd (fr : Fr) (t : Nat) : D := match get fr t with | some d => d | none => .bot
def cv : Value → D
  | .agg cs => .agg (cs.toList.map .v)
  | x => .v x
def ev (fr : Fr) : Operand → D
  | .tmp t => match Nat.blt t 99999 with
    | true => gd fr t
    | false => .bot
  | .const x => cv x
  | .func f => .fn (.func f) []
  | .global g => gd fr (100000 + g)
def dv (l : List Deferred) : Value := match l with
  | ⟨.fn f cap, _⟩ :: _ => .func f #[] cap
  | _ => .pointer none
def tv (a : Act) (t : Nat) : Value := if t = 99999 then dv a.defers else if 100000 ≤ t then .pointer (some ⟨t - 100000, 0, none⟩) else a.tmps.getD t undef
theorem ev_tmp (fr : Fr) (t : Nat) : (t < 99999 ∧ ev fr (.tmp t) = gd fr t) ∨ ev fr (.tmp t) = .bot := by
  cases h : Nat.blt t 99999 with
  | true => exact .inl ⟨by simpa using h, by simp only [ev, h]⟩
  | false => exact .inr (by simp only [ev, h])
theorem rels_map_v (E : Env) : ∀ (l : List Value), rels (l.map .v) E l
  | [] => rfl
  | x :: l => ⟨x, l, rfl, rfl, rels_map_v E l⟩
theorem rel_cv (E : Env) (x : Value) : rel (cv x) E x := by
  cases x <;> first | exact rfl | exact ⟨_, by simp, rels_map_v E _⟩
def opTmps (o : Oper) : List Tmp := (100000 + maxLenG) :: o.op.operands.toList.filterMap fun | .tmp t => some t | .global g => some (100000 + g) | _ => none
def RelO (fr : Fr) (E : Env) (a : Act) (o : Oper) : Prop := ∀ t ∈ opTmps o, rel (gd fr t) E (tv a t)
theorem rel_ev {fr : Fr} {E : Env} {a : Act} {o : Oper} (h : RelO fr E a o) {x : Operand} (hx : x ∈ o.op.operands) : rel (ev fr x) E (a.eval x) := by
  cases x with
  | tmp t =>
    have := h t (List.mem_cons_of_mem _ (List.mem_filterMap.2 ⟨.tmp t, by simpa using hx, rfl⟩))
    rcases ev_tmp fr t with ⟨hlt, e⟩ | e
    · rw [e]
      unfold tv at this
      rw [if_neg (by omega), if_neg (by omega)] at this
      exact this
    · rw [e]; trivial
  | const v => exact rel_cv E v
  | func f => exact ⟨[], by simp [Act.eval], rfl⟩
  | global g =>
    have := h (100000 + g) (List.mem_cons_of_mem _ (List.mem_filterMap.2 ⟨.global g, by simpa using hx, rfl⟩))
    unfold tv at this
    rw [if_neg (by omega), if_pos (by omega), Nat.add_sub_cancel_left] at this
    exact this
inductive Out where
  | ret (d : D) (post : List (Nat × Ob))
  | pan (d : D)
structure Done (E E' : Env) (N : Nat → Option Ob) (post : List (Nat × Ob)) (w w' : World) : Prop where
  st : Step E E' (ownOf E N post) w w'
  inv : Inv E' (upds N post) w'
  ids : ∀ j, j ∉ post.map (·.1) → E'.blk j = E.blk j ∧ E'.hdr j = E.hdr j
  bd : ∀ p ∈ post, ∀ b, obBlk E' p.1 p.2 = some b → ownOf E N post b ∨ w.heap.size ≤ b
theorem Done.nil {E : Env} {N : Nat → Option Ob} {w : World} (h : Inv E N w) : Done E E N [] w w :=
  ⟨Step.refl _ _ _, h, fun _ _ => ⟨rfl, rfl⟩, fun _ h => (by cases h)⟩
def isNew (pre : List (Nat × Ob)) (out : Out) (j : Nat) : Prop :=
  match out with
  | .ret _ post => get pre j = none ∧ j ∈ post.map (·.1)
  | .pan _ => False
def LAct (P : Program) (o : Oper) (fr : Fr) (pre : List (Nat × Ob)) (news : List Nat) (out : Out) : Prop :=
  ∀ (E : Env) (N : Nat → Option Ob) (w : World) (a : Act) (Q : Exit → Act → World → Prop), Inv E N w → (∀ p ∈ pre, N p.1 = some p.2) →
    (∀ j, isNew pre out j → N j = none ∧ E.blk j = none ∧ ∀ n, E.hdr j n = none) → RelO fr E a o →
    match out with
    | .ret d post => o.wp P a w (fun a' w' => ∃ v E', a' = a.put o.dst v ∧ Done E E' N post w w' ∧ rel d E' v) Q
    | .pan d => (∀ x E' w', Step E E' (ownOf E N pre) w w' → ImOK E' w' → rel d E' x → Q (.panic [⟨x, false, false⟩]) a w') → o.wp P a w (fun _ _ => False) Q
theorem lact_val {P : Program} {o : Oper} {fr : Fr} {pre : List (Nat × Ob)} {news : List Nat} {d : D}
    (h : ∀ (E : Env) (N : Nat → Option Ob) (w : World) (a : Act), Inv E N w → (∀ p ∈ pre, N p.1 = some p.2) → RelO fr E a o →
      ∃ v, (execOp a.eval o).run P w = .ok (.value v) w ∧ rel d E v) : LAct P o fr pre news (.ret d []) := by
  intro E N w a Q hi hp _ hr
  obtain ⟨v, h1, h2⟩ := h E N w a hi hp hr
  show o.wp P a w _ Q
  unfold Oper.wp
  rw [h1]
  exact ⟨v, E, rfl, .nil hi, h2⟩
end Go.Dm
namespace Go.Dm
def tkOf : TypeDesc → TK
  | .int k => .int k
  | .bool => .bool
  | .string => .str
  | .complex _ => .cpx
  | .float _ => .flt
  | .slice e => .slice e
  | .pointer e => .ptr e
  | .struct fs => .struct (fs.toList.map fun f => (f.offset, f.type))
  | .array n e => .arr n e
  | .map k e => .map k e
  | .func _ _ _ => .func
  | .interface _ => .iface
  | _ => .other
def nth {α : Type} : List α → Nat → Option α
  | [], _ => none
  | a :: _, 0 => some a
  | _ :: r, n + 1 => nth r n
def TyOK (P : Program) (L : List Ty) : Prop :=
  ∀ t x, nth L t = some x → ∃ d i, P.underlying t = some d ∧ P.info? t = some i ∧ tkOf d = x.k ∧ i.size = x.size ∧ i.bytes = x.bytes ∧
    (x.zero ≠ [] → i.zero = some (if x.k.agg then .agg x.zero.toArray else x.zero.headD undef) ∧ x.zero.length = x.size)
section
variable {P : Program} {L : List Ty} {t : TypeId} {x : Ty} {w : World}
theorem ty_run (h : TyOK P L) (ht : nth L t = some x) : ∃ d i, (underlying t).run P w = .ok d w ∧ (typeInfo t).run P w = .ok i w ∧ tkOf d = x.k ∧ i.size = x.size ∧ i.bytes = x.bytes ∧
    (x.zero ≠ [] → i.zero = some (if x.k.agg then .agg x.zero.toArray else x.zero.headD undef) ∧ x.zero.length = x.size) := by
  obtain ⟨d, i, h1, h2, h3⟩ := h t x ht
  exact ⟨d, i, by simp [underlying, h1], by simp [typeInfo, h2], h3⟩
theorem size_run (h : TyOK P L) (ht : nth L t = some x) : (sizeOf t).run P w = .ok x.size w := by
  obtain ⟨d, i, _, h2, _, h4, _⟩ := ty_run (w := w) h ht
  simp [sizeOf, h2, h4]
theorem agg_run (h : TyOK P L) (ht : nth L t = some x) : (isAgg t).run P w = .ok x.k.agg w := by
  obtain ⟨d, i, h1, _, h3, _⟩ := ty_run (w := w) h ht
  rw [← h3]
  unfold isAgg
  rw [Sem.run_bind, h1]
  cases d <;> rfl
theorem zero_run (h : TyOK P L) (ht : nth L t = some x) (hz : x.zero ≠ []) : (zeroValue t).run P w = .ok (if x.k.agg then .agg x.zero.toArray else x.zero.headD undef) w := by
  obtain ⟨d, i, _, h2, _, _, _, h5⟩ := ty_run (w := w) h ht
  unfold zeroValue
  rw [Sem.run_bind, h2]
  simp [(h5 hz).1]
theorem slice_run (h : TyOK P L) (ht : nth L t = some x) {e : TypeId} (hk : x.k = .slice e) : (underlying t).run P w = .ok (.slice e) w := by
  obtain ⟨d, i, h1, _, h3, _⟩ := ty_run (w := w) h ht
  rw [hk] at h3
  rw [h1]
  cases d <;> simp [tkOf] at h3
  subst h3; rfl
theorem str_run (h : TyOK P L) (ht : nth L t = some x) (hk : x.k = .str) : (underlying t).run P w = .ok .string w := by
  obtain ⟨d, i, h1, _, h3, _⟩ := ty_run (w := w) h ht
  rw [hk] at h3
  rw [h1]
  cases d <;> simp [tkOf] at h3
  rfl
theorem int_run (h : TyOK P L) (ht : nth L t = some x) {k : IntKind} (hk : x.k = .int k) : (underlying t).run P w = .ok (.int k) w := by
  obtain ⟨d, i, h1, _, h3, _⟩ := ty_run (w := w) h ht
  rw [hk] at h3
  rw [h1]
  cases d <;> simp [tkOf] at h3
  subst h3; rfl
theorem struct_run (h : TyOK P L) (ht : nth L t = some x) {fs : List (Nat × TypeId)} (hk : x.k = .struct fs) : ∃ gs, (underlying t).run P w = .ok (.struct gs) w ∧ gs.toList.map (fun f => (f.offset, f.type)) = fs := by
  obtain ⟨d, i, h1, _, h3, _⟩ := ty_run (w := w) h ht
  rw [hk] at h3
  cases d <;> simp [tkOf] at h3
  exact ⟨_, h1, h3⟩
theorem arr_run (h : TyOK P L) (ht : nth L t = some x) {n : Nat} {e : TypeId} (hk : x.k = .arr n e) : (underlying t).run P w = .ok (.array n e) w := by
  obtain ⟨d, i, h1, _, h3, _⟩ := ty_run (w := w) h ht
  rw [hk] at h3
  rw [h1]
  cases d <;> simp [tkOf] at h3
  obtain ⟨rfl, rfl⟩ := h3; rfl
end
theorem add_plain (b o n : Nat) : (⟨b, o, none⟩ : Addr).add n = ⟨b, o + n, none⟩ := by
  unfold Addr.add; split <;> simp_all
theorem run_loadCells {P : Program} {w : World} {b o : Nat} : ∀ (n i : Nat) (acc : Array Value) (vs : List Value), (∀ k, k < n → w.cell? ⟨b, o + (i + k), none⟩ = vs[k]?) → vs.length = n →
    (loadCellsFrom ⟨b, o, none⟩ i n acc).run P w = .ok (acc ++ vs.toArray) w
  | 0, i, acc, vs, _, hl => by
    obtain rfl : vs = [] := List.eq_nil_of_length_eq_zero hl
    simp [loadCellsFrom]
  | n + 1, i, acc, vs, h, hl => by
    cases vs with
    | nil => cases hl
    | cons x vs =>
      have h0 : w.cell? ⟨b, o + i, none⟩ = some x := by simpa using h 0 (by omega)
      unfold loadCellsFrom
      rw [Sem.run_bind, add_plain, run_load, h0]
      simp only [Result.andThen_ok]
      rw [run_loadCells n (i + 1) (acc.push x) vs (fun k hk => by have := h (k + 1) (by omega); simpa [Nat.add_assoc, Nat.add_comm 1 k] using this) (by simpa using hl)]
      simp
theorem relCells_get {E : Env} {b : Nat} : ∀ {cs : List D} {o : Nat}, relCells cs E b o → ∃ vs, vs.length = cs.length ∧ rels cs E vs ∧ ∀ k, k < cs.length → E.im b (o + k) = vs[k]?
  | [], _, _ => ⟨[], rfl, rfl, fun _ h => absurd h (by simp)⟩
  | c :: cs, o, ⟨⟨v, h1, h2⟩, h3⟩ => by
    obtain ⟨vs, h4, h5, h6⟩ := relCells_get h3
    refine ⟨v :: vs, by simp [h4], ⟨v, vs, rfl, h2, h5⟩, fun k hk => ?_⟩
    cases k with
    | zero => simpa using h1
    | succ k => have := h6 k (by simpa using hk); simpa [Nat.add_assoc, Nat.add_comm 1 k] using this
theorem rels_length {E : Env} : ∀ {ds : List D} {vs : List Value}, rels ds E vs → vs.length = ds.length
  | [], _, h => by cases h; rfl
  | _ :: _, _, ⟨v, ws, h1, _, h3⟩ => by subst h1; simp [rels_length h3]
theorem rels_get {E : Env} : ∀ {ds : List D} {vs : List Value} {k : Nat} {d : D}, rels ds E vs → ds[k]? = some d → ∃ v, vs[k]? = some v ∧ rel d E v
  | [], _, k, _, _, h => by simp at h
  | d :: ds, _, 0, _, ⟨v, ws, h1, h2, h3⟩, h => by subst h1; simp at h; subst h; exact ⟨v, by simp, h2⟩
  | d :: ds, _, k + 1, _, ⟨v, ws, h1, h2, h3⟩, h => by
    subst h1
    obtain ⟨u, h4, h5⟩ := rels_get h3 (by simpa using h)
    exact ⟨u, by simpa using h4, h5⟩
theorem rels_take {E : Env} : ∀ {ds : List D} {vs : List Value} (n : Nat), rels ds E vs → rels (ds.take n) E (vs.take n)
  | [], _, n, h => by cases h; simp [rels]
  | d :: ds, _, 0, ⟨v, ws, h1, h2, h3⟩ => by subst h1; simp [rels]
  | d :: ds, _, n + 1, ⟨v, ws, h1, h2, h3⟩ => by subst h1; exact ⟨v, ws.take n, by simp, h2, rels_take n h3⟩
theorem rels_drop {E : Env} : ∀ {ds : List D} {vs : List Value} (n : Nat), rels ds E vs → rels (ds.drop n) E (vs.drop n)
  | [], _, n, h => by cases h; simp [rels]
  | d :: ds, _, 0, h => h
  | d :: ds, _, n + 1, ⟨v, ws, h1, h2, h3⟩ => by subst h1; exact rels_drop n h3
theorem relCells_drop {E : Env} {b : Nat} : ∀ {cs : List D} {o : Nat} (n : Nat), relCells cs E b o → relCells (cs.drop n) E b (o + n)
  | [], _, n, _ => by simp [relCells]
  | c :: cs, o, 0, h => h
  | c :: cs, o, n + 1, h => by
    have := relCells_drop n h.2
    simpa [Nat.add_assoc, Nat.add_comm 1 n] using this
theorem relRow_get {E : Env} {s b : Nat} : ∀ {xs : List (List D)} {o k : Nat} {x : List D}, relRow xs E s b o → xs[k]? = some x → x.length = s ∧ relCells x E b (o + k * s)
  | [], _, k, _, _, h => by simp at h
  | y :: ys, o, 0, x, h, hk => by simp at hk; subst hk; simpa using h.1
  | y :: ys, o, k + 1, x, h, hk => by
    have := relRow_get h.2 (by simpa using hk)
    refine ⟨this.1, ?_⟩
    have e : o + s + k * s = o + (k + 1) * s := by rw [Nat.add_mul]; omega
    rw [← e]; exact this.2
theorem pure_le (E : Env) : E.pure.le E := ⟨fun _ _ _ h => h, fun _ _ h => (by cases h), fun _ _ _ h => (by cases h)⟩
theorem rel_pure {E : Env} {d : D} {y : Value} (h : rel d E.pure y) : rel d E y := rel_mono _ (pure_le E) h
theorem rels_pure {E : Env} {ds : List D} {vs : List Value} (h : rels ds E.pure vs) : rels ds E vs := rels_mono _ (pure_le E) h
end Go.Dm
namespace Go.Dm
abbrev Mem := List (Nat × Ob)
abbrev Kont := Out → List (Nat × Ob) → Prop
def Sound (P : Program) (fr : Fr) (M : Mem) (news : List Nat) (o : Oper) (K : Kont) : Prop :=
  ∃ out pre, LAct P o fr pre news out ∧ (∀ p ∈ pre, get M p.1 = some p.2) ∧ K out pre
theorem Sound.val {P : Program} {fr : Fr} {M : Mem} {news : List Nat} {o : Oper} {K : Kont} {d : D} (hK : K (.ret d []) [])
    (h : ∀ (E : Env) (N : Nat → Option Ob) (w : World) (a : Act), Inv E N w → RelO fr E a o → ∃ v, (execOp a.eval o).run P w = .ok (.value v) w ∧ rel d E v) : Sound P fr M news o K :=
  ⟨.ret d [], [], lact_val fun E N w a hi _ hr => h E N w a hi hr, fun _ h => (by cases h), hK⟩
theorem Sound.val1 {P : Program} {fr : Fr} {M : Mem} {news : List Nat} {o : Oper} {K : Kont} {d : D} {id : Nat} {x : Ob} (hM : get M id = some x) (hK : K (.ret d []) [(id, x)])
    (h : ∀ (E : Env) (N : Nat → Option Ob) (w : World) (a : Act), Inv E N w → N id = some x → RelO fr E a o → ∃ v, (execOp a.eval o).run P w = .ok (.value v) w ∧ rel d E v) : Sound P fr M news o K :=
  ⟨.ret d [], [(id, x)], lact_val fun E N w a hi hp hr => h E N w a hi (hp (id, x) (by simp)) hr, fun p h => (by simp at h; subst h; exact hM), hK⟩
def pickD (t : Bool) (a b : D) : D := match t with | true => a | false => b
def pickW (t : Bool) (a b : D) (K : Kont) : Prop :=
  match a, b with
  | .v (.bool x), .v (.bool y) => K (.ret (.v (.bool (bif t then x else y))) []) []
  | _, _ => K (.ret (pickD t a b) []) []
theorem pickW_ret {t : Bool} {a b : D} {K : Kont} (h : pickW t a b K) : ∃ d, K (.ret d []) [] ∧ ∀ E u v, rel a E u → rel b E v → rel d E (if t = true then u else v) := by
  unfold pickW at h
  split at h
  · refine ⟨_, h, fun E u v hu hv => ?_⟩
    obtain rfl : u = _ := hu
    obtain rfl : v = _ := hv
    cases t <;> rfl
  · exact ⟨_, h, fun E u v hu hv => by cases t <;> assumption⟩
section
variable {P : Program} {L : List Ty} {fr : Fr} {M : Mem} {news : List Nat} {K : Kont} {dst : Option Tmp} {ty : TypeId} {pos : String} {after : Array Edge} {guard : Option (Nat × Bool)}
theorem sound_move {x : Operand} (h : K (.ret (ev fr x) []) []) : Sound P fr M news ⟨dst, .move x, ty, pos, after, guard⟩ K :=
  .val h fun E N w a _ hr => ⟨a.eval x, rfl, rel_ev hr (by simp [Op.operands])⟩
theorem sound_assign {x : Operand} (h : K (.ret (ev fr x) []) []) : Sound P fr M news ⟨dst, .assign x, ty, pos, after, guard⟩ K :=
  .val h fun E N w a _ hr => ⟨a.eval x, rfl, rel_ev hr (by simp [Op.operands])⟩
def wPick (fr : Fr) (c a b : Operand) (K : Kont) : Prop :=
  match ev fr c with
  | .v (.bool t) => pickW t (ev fr a) (ev fr b) K
  | _ => False
theorem sound_pick {c x y : Operand} (h : wPick fr c x y K) : Sound P fr M news ⟨dst, .pick c x y, ty, pos, after, guard⟩ K := by
  unfold wPick at h
  split at h
  · rename_i t hc
    obtain ⟨d, hK, hd⟩ := pickW_ret h
    refine .val hK fun E N w a _ hr => ?_
    have h1 : rel (ev fr c) E (a.eval c) := rel_ev hr (by simp [Op.operands])
    rw [hc] at h1
    have h1' : a.eval c = .bool t := h1
    exact ⟨_, by simp [execOp, h1', asBool], hd E _ _ (rel_ev hr (by simp [Op.operands])) (rel_ev hr (by simp [Op.operands]))⟩
  · exact h.elim
def wNil (fr : Fr) (x : Operand) (K : Kont) : Prop :=
  match ev fr x with
  | .ptr cs => K (.ret (.ptr cs) []) []
  | .ref i o => K (.ret (.ref i o) []) []
  | .fn (.func f) caps => K (.ret (.fn (.func f) caps) []) []
  | .rp id n s j o => K (.ret (.rp id n s j o) []) []
  | _ => False
theorem sound_nil {x : Operand} (h : wNil fr x K) : Sound P fr M news ⟨dst, .nilCheck x, ty, pos, after, guard⟩ K := by
  unfold wNil at h
  split at h
  · rename_i cs hx
    refine .val h fun E N w a _ hr => ?_
    have h1 : rel (ev fr x) E (a.eval x) := rel_ev hr (by simp [Op.operands])
    rw [hx] at h1
    obtain ⟨b, o, h2, h3⟩ := h1
    exact ⟨a.eval x, by simp [execOp, h2], b, o, h2, h3⟩
  · rename_i i o hx
    refine .val h fun E N w a _ hr => ?_
    have h1 : rel (ev fr x) E (a.eval x) := rel_ev hr (by simp [Op.operands])
    rw [hx] at h1
    obtain ⟨b, h2, h3⟩ := h1
    exact ⟨a.eval x, by simp [execOp, h3], b, h2, h3⟩
  · rename_i f caps hx
    refine .val h fun E N w a _ hr => ?_
    have h1 : rel (ev fr x) E (a.eval x) := rel_ev hr (by simp [Op.operands])
    rw [hx] at h1
    obtain ⟨vs, h2, h3⟩ := h1
    exact ⟨a.eval x, by simp [execOp, h2], vs, h2, h3⟩
  · rename_i id n s j o hx
    refine .val h fun E N w a _ hr => ?_
    have h1 : rel (ev fr x) E (a.eval x) := rel_ev hr (by simp [Op.operands])
    rw [hx] at h1
    obtain ⟨b, h2, h3⟩ := h1
    exact ⟨a.eval x, by simp [execOp, h3], b, h2, h3⟩
  · exact h.elim
def bitsV (op : BinOp) (k : IntKind) (x y : Int) : Int :=
  let a := BitVec.ofInt k.bits x
  let b := BitVec.ofInt k.bits y
  match op with
  | .and => k.wrap (a &&& b).toNat
  | .or => k.wrap (a ||| b).toNat
  | .xor => k.wrap (a ^^^ b).toNat
  | _ => k.wrap (a &&& ~~~b).toNat
def strEq (a b : ByteArray) : Bool := a.toList == b.toList
def KV (K : Kont) (v : Value) : Prop := K (.ret (.v v) []) []
structure KI (K : Kont) (k : IntKind) (n : Int) : Prop where
  kv : KV K (.int k n)
theorem KI.to {K : Kont} {k : IntKind} {n : Int} (c : Int) (e : n = c) (h : KV K (.int k c)) : KI K k n := by subst e; exact ⟨h⟩
structure KS (K : Kont) (s : ByteArray) : Prop where
  kv : KV K (.string s)
theorem KS.to {K : Kont} {s : ByteArray} (c : ByteArray) (e : s = c) (h : KV K (.string c)) : KS K s := by subst e; exact ⟨h⟩
def ikN : IntKind → Nat
  | .i8 => 0 | .i16 => 1 | .i32 => 2 | .i64 => 3 | .u8 => 4 | .u16 => 5 | .u32 => 6 | .u64 => 7
theorem ikN_eq {a b : IntKind} (h : Nat.beq (ikN a) (ikN b) = true) : a = b := by cases a <;> cases b <;> first | rfl | (simp [ikN] at h)
def wInt (op : BinOp) (k : IntKind) (a b : Int) (K : Kont) : Prop :=
  match op with
  | .add => KI K k (k.wrap (a + b))
  | .sub => KI K k (k.wrap (a - b))
  | .mul => KI K k (k.wrap (a * b))
  | .quo => b ≠ 0 ∧ KI K k (k.wrap (a.tdiv b))
  | .rem => b ≠ 0 ∧ KI K k (a.tmod b)
  | .and => KI K k (bitsV .and k a b)
  | .or => KI K k (bitsV .or k a b)
  | .xor => KI K k (bitsV .xor k a b)
  | .andNot => KI K k (bitsV .andNot k a b)
  | .eql => KV K (.bool (decide (a = b)))
  | .neq => KV K (.bool (!decide (a = b)))
  | .lss => KV K (.bool (decide (a < b)))
  | .leq => KV K (.bool (decide (a ≤ b)))
  | .gtr => KV K (.bool (decide (a > b)))
  | .geq => KV K (.bool (decide (a ≥ b)))
  | _ => False
def wShift (op : BinOp) (k : IntKind) (a b : Int) (K : Kont) : Prop :=
  match op with
  | .shl => 0 ≤ b ∧ KI K k (k.wrap (a * 2 ^ (min b.toNat k.bits)))
  | .shr => 0 ≤ b ∧ KI K k (a.fdiv (2 ^ (min b.toNat k.bits)))
  | _ => False
structure KSCat (K : Kont) (a b : ByteArray) : Prop where
  size : a.size + b.size ≤ 9223372036854775807
  kv : KV K (.string (a ++ b))
def wStr (op : BinOp) (a b : ByteArray) (K : Kont) : Prop :=
  match op with
  | .add => KSCat K a b
  | .eql => KV K (.bool (strEq a b))
  | .neq => KV K (.bool (!strEq a b))
  | .lss => KV K (.bool (Op.bytesLess a.toList b.toList))
  | .geq => KV K (.bool (!Op.bytesLess a.toList b.toList))
  | .leq => KV K (.bool (Op.bytesLess a.toList b.toList || strEq a b))
  | .gtr => KV K (.bool (!(Op.bytesLess a.toList b.toList || strEq a b)))
  | _ => False
def isShift : BinOp → Bool
  | .shl | .shr => true
  | _ => false
def BinSem (P : Program) (op : BinOp) (t : TypeId) (x y : Operand) (dx dy : D) (r : D) : Prop :=
  ∀ (E : Env) (w : World) (u v : Value), rel dx E u → rel dy E v → (eqGuard op t x y u v).run P w = .ok () w ∧ ∃ z, (binOp op t u v).run P w = .ok z w ∧ rel r E z
structure BinG (P : Program) (op : BinOp) (t : TypeId) (x y : Operand) (dx dy : D) (K : Kont) : Prop where
  ex : ∃ r, BinSem P op t x y dx dy r ∧ K (.ret r []) []
theorem BinG.to {P : Program} {op : BinOp} {t : TypeId} {x y : Operand} {dx dy : D} {K : Kont} (r : D) (h : BinSem P op t x y dx dy r) (hK : K (.ret r []) []) : BinG P op t x y dx dy K := ⟨r, h, hK⟩
def wBin (P : Program) (L : List Ty) (fr : Fr) (op : BinOp) (t : TypeId) (x y : Operand) (K : Kont) : Prop :=
  match ev fr x, ev fr y with
  | .v (.int k a), .v (.int k' b) => match isShift op with
    | true => wShift op k a b K
    | false => match Nat.beq (ikN k) (ikN k') with
      | true => wInt op k a b K
      | false => False
  | .v (.string a), .v (.string b) => wStr op a b K
  | .v (.bool a), .v (.bool b) => match nth L t with
    | some ⟨.bool, _, _, _⟩ => match op with
      | .eql => KV K (.bool (a == b))
      | .neq => KV K (.bool (a != b))
      | _ => False
    | _ => False
  | dx, dy => BinG P op t x y dx dy K
theorem bool_under {P : Program} {L : List Ty} {t : TypeId} {x : Ty} (h : TyOK P L) (ht : nth L t = some x) (hk : x.k = .bool) : P.underlying t = some .bool := by
  obtain ⟨d, i, h1, _, h3, _⟩ := h t x ht
  rw [hk] at h3
  rw [h1]
  cases d <;> simp [tkOf] at h3
  rfl
theorem run_eqGuard_other {op : BinOp} {t : TypeId} {x y : Operand} {u v : Value} (P : Program) (w : World) (h1 : ¬ (u = .nilIface ∧ v = .nilIface)) (h2 : ∀ c d, ¬ (u = .agg c ∧ v = .agg d)) : (eqGuard op t x y u v).run P w = .ok () w := by
  unfold eqGuard
  cases op <;> first
    | rfl
    | (cases u <;> first
        | rfl
        | (cases v <;> first
            | rfl
            | exact absurd ⟨rfl, rfl⟩ h1
            | exact absurd ⟨rfl, rfl⟩ (h2 _ _)))
theorem run_equalIn_bool {P : Program} {w : World} {t : TypeId} (d : Nat) (h : P.underlying t = some .bool) (a b : Bool) : (Op.equalIn (d + 1) t (.bool a) (.bool b)).run P w = .ok (a == b) w := by
  simp [Op.equalIn, run_underlying h]
theorem run_eql_bool {P : Program} {w : World} {t : TypeId} (h : P.underlying t = some .bool) (a b : Bool) : (binOp .eql t (.bool a) (.bool b)).run P w = .ok (.bool (a == b)) w := by
  have e := run_equalIn_bool (P := P) (w := w) 9999 h a b
  show ((Op.equalIn (9999 + 1) t (.bool a) (.bool b)) >>= fun r => (pure (Value.bool r) : Sem Value)).run P w = _
  rw [Sem.run_bind, e]; rfl
theorem run_neq_bool {P : Program} {w : World} {t : TypeId} (h : P.underlying t = some .bool) (a b : Bool) : (binOp .neq t (.bool a) (.bool b)).run P w = .ok (.bool (a != b)) w := by
  have e := run_equalIn_bool (P := P) (w := w) 9999 h a b
  show ((Op.equalIn (9999 + 1) t (.bool a) (.bool b)) >>= fun r => (pure (Value.bool (!r)) : Sem Value)).run P w = _
  rw [Sem.run_bind, e]; rfl
theorem sound_bin {op : BinOp} {t yt : TypeId} {x y : Operand} (hL : TyOK P L) (h : wBin P L fr op t x y K) : Sound P fr M news ⟨dst, .binOp op t x y yt, ty, pos, after, guard⟩ K := by
  have hx : ∀ {E : Env} {a : Act}, RelO fr E a ⟨dst, .binOp op t x y yt, ty, pos, after, guard⟩ → rel (ev fr x) E (a.eval x) := fun hr => rel_ev hr (by simp [Op.operands])
  have hy : ∀ {E : Env} {a : Act}, RelO fr E a ⟨dst, .binOp op t x y yt, ty, pos, after, guard⟩ → rel (ev fr y) E (a.eval y) := fun hr => rel_ev hr (by simp [Op.operands])
  have fin : ∀ (u v r : Value), ev fr x = .v u → ev fr y = .v v → KV K r → (∀ w, (eqGuard op t x y u v).run P w = .ok () w) → (∀ w, (binOp op t u v).run P w = .ok r w) →
      Sound P fr M news ⟨dst, .binOp op t x y yt, ty, pos, after, guard⟩ K := by
    intro u v r eu ev' hK hg hb
    refine .val hK fun E N w a _ hr => ⟨r, ?_, rfl⟩
    have h1 := hx hr; rw [eu] at h1
    have h2 := hy hr; rw [ev'] at h2
    have h1' : a.eval x = u := h1
    have h2' : a.eval y = v := h2
    simp [execOp, h1', h2', hg, hb]
  unfold wBin at h
  split at h
  · rename_i k a k' b e1 e2
    have hg : ∀ w, (eqGuard op t x y (.int k a) (.int k' b)).run P w = .ok () w := fun w => run_eqGuard_other P w (by simp) (by simp)
    split at h
    · rename_i hs
      cases op <;> simp [isShift] at hs <;> simp only [wShift] at h
      all_goals
        have h0 : ¬ b < 0 := Int.not_lt.2 h.1
        exact fin _ _ _ e1 e2 h.2.kv hg (fun w => by simp [binOp, Op.shift, h0])
    · rename_i hs
      split at h
      · rename_i hk
        obtain rfl := ikN_eq hk
        cases op <;> simp [isShift] at hs <;> simp only [wInt] at h
        case quo => exact fin _ _ _ e1 e2 h.2.kv hg (fun w => by simp [binOp, Op.intDiv, h.1])
        case rem => exact fin _ _ _ e1 e2 h.2.kv hg (fun w => by simp [binOp, Op.intDiv, h.1])
        all_goals first
          | exact h.elim
          | (refine fin _ _ _ e1 e2 (KI.kv h) hg (fun w => ?_)
             first
               | (simp [binOp, Op.intArith]; done)
               | (simp [binOp, Op.intCmp]; done)
               | (simp [binOp]; rfl))
          | (refine fin _ _ _ e1 e2 h hg (fun w => ?_)
             first
               | (simp [binOp, Op.intArith]; done)
               | (simp [binOp, Op.intCmp]; done)
               | (simp [binOp, Op.intCmp]; rfl)
               | (simp [binOp]; rfl))
      · exact h.elim
  · rename_i a b e1 e2
    have hg : ∀ w, (eqGuard op t x y (.string a) (.string b)).run P w = .ok () w := fun w => run_eqGuard_other P w (by simp) (by simp)
    cases op <;> simp only [wStr] at h
    case add =>
      have h0 : ¬ (((a.size + b.size : Nat) : Int) > IntKind.i64.max) := by
        have e : IntKind.i64.max = 9223372036854775807 := by decide
        have := h.1
        rw [e]; omega
      exact fin _ _ _ e1 e2 h.kv hg (fun w => by simp only [binOp, Op.stringOp, if_neg h0]; rfl)
    all_goals first
      | exact h.elim
      | (refine fin _ _ _ e1 e2 h hg (fun w => ?_)
         simp [binOp, Op.stringOp, strEq])
  · rename_i a b e1 e2
    have hg : ∀ w, (eqGuard op t x y (.bool a) (.bool b)).run P w = .ok () w := fun w => run_eqGuard_other P w (by simp) (by simp)
    split at h
    · rename_i hn0
      have hn := bool_under hL hn0 rfl
      cases op <;> simp only at h
      case eql => exact fin _ _ _ e1 e2 h hg (fun w => run_eql_bool hn a b)
      case neq => exact fin _ _ _ e1 e2 h hg (fun w => run_neq_bool hn a b)
    · exact h.elim
  · rename_i dx dy _ _ _ 
    obtain ⟨r, hs, hK⟩ := h.ex
    refine .val hK fun E N w a _ hr => ?_
    obtain ⟨h1, z, h2, h3⟩ := hs E w _ _ (hx hr) (hy hr)
    exact ⟨z, by simp [execOp, h1, h2], h3⟩
end
end Go.Dm
namespace Go.Dm
section
variable {P : Program} {L : List Ty} {fr : Fr} {M : Mem} {news : List Nat} {K : Kont} {dst : Option Tmp} {ty : TypeId} {pos : String} {after : Array Edge} {guard : Option (Nat × Bool)}
def wUn (fr : Fr) (op : UnOp) (x : Operand) (K : Kont) : Prop :=
  match op, ev fr x with
  | .not, .v (.bool b) => KV K (.bool (!b))
  | .neg, .v (.int k n) => KI K k (k.wrap (0 - n))
  | .xor, .v (.int k n) => KI K k (bitsV .xor k (if k.signed then -1 else k.max) n)
  | _, _ => False
theorem sound_un {op : UnOp} {t : TypeId} {x : Operand} (h : wUn fr op x K) : Sound P fr M news ⟨dst, .unOp op t x, ty, pos, after, guard⟩ K := by
  have hx : ∀ {E : Env} {a : Act}, RelO fr E a ⟨dst, .unOp op t x, ty, pos, after, guard⟩ → rel (ev fr x) E (a.eval x) := fun hr => rel_ev hr (by simp [Op.operands])
  unfold wUn at h
  split at h
  · rename_i b e
    refine .val h fun E N w a _ hr => ⟨_, ?_, rfl⟩
    have h1 := hx hr; rw [e] at h1
    have h1' : a.eval x = .bool b := h1
    simp [execOp, h1', Op.unary]
  · rename_i k n e
    refine .val (KI.kv h) fun E N w a _ hr => ⟨_, ?_, rfl⟩
    have h1 := hx hr; rw [e] at h1
    have h1' : a.eval x = .int k n := h1
    simp [execOp, h1', Op.unary, Op.intArith]
  · rename_i k n e
    refine .val (KI.kv h) fun E N w a _ hr => ⟨_, ?_, rfl⟩
    have h1 := hx hr; rw [e] at h1
    have h1' : a.eval x = .int k n := h1
    simp only [execOp, h1', Op.unary]
    rfl
  · exact h.elim
def wFieldAddr (L : List Ty) (fr : Fr) (t : TypeId) (x : Operand) (f : Nat) (K : Kont) : Prop :=
  match nth L t with
  | some ⟨.struct fs, _, _, _⟩ => match nth fs f with
    | some (off, ft) => match nth L ft with
      | some ⟨_, n + 1, _, _⟩ => match ev fr x with
        | .ptr cs => K (.ret (.ptr (cs.drop off)) []) []
        | .ref i o => K (.ret (.ref i (o + off)) []) []
        | .rp id n s j o => K (.ret (.rp id n s j (o + off)) []) []
        | _ => False
      | _ => False
    | none => False
  | _ => False
theorem nth_get {α : Type} : ∀ (l : List α) (n : Nat), nth l n = l[n]?
  | [], _ => rfl
  | _ :: _, 0 => rfl
  | _ :: r, n + 1 => by simp [nth, nth_get r n]
theorem nth_map {α β : Type} (g : α → β) (l : List α) (n : Nat) : nth (l.map g) n = (nth l n).map g := by simp [nth_get]
theorem run_fieldPlace {b o : Nat} {f : Field} {x : Ty} {w : World} (hL : TyOK P L) (hf : nth L f.type = some x) (h0 : x.size ≠ 0) : (fieldPlace ⟨b, o, none⟩ f).run P w = .ok ⟨b, o + f.offset, none⟩ w := by
  unfold fieldPlace
  rw [Sem.run_bind, size_run hL hf]
  simp [h0, add_plain]
theorem run_fieldAt {b o off ft : Nat} {t : TypeId} {f : Nat} {x y : Ty} {fs : List (Nat × TypeId)} {w : World} (hL : TyOK P L) (ht : nth L t = some x) (hk : x.k = .struct fs) (hf : nth fs f = some (off, ft)) (hft : nth L ft = some y) (h0 : y.size ≠ 0) :
    (Instr.fieldAt t (.pointer (some ⟨b, o, none⟩)) f).run P w = .ok (.pointer (some ⟨b, o + off, none⟩)) w := by
  obtain ⟨gs, h1, h2⟩ := struct_run (w := w) hL ht hk
  rw [← h2, nth_map, nth_get] at hf
  cases hg : gs.toList[f]? with
  | none => rw [hg] at hf; cases hf
  | some g =>
    rw [hg] at hf
    simp at hf
    obtain ⟨rfl, rfl⟩ := hf
    have hg' : gs[f]? = some g := by rw [← Array.getElem?_toList]; exact hg
    unfold Instr.fieldAt
    rw [Sem.run_bind, h1]
    simp [hg', Instr.sureAddr, run_fieldPlace hL hft h0]
theorem sound_fieldAddr {t : TypeId} {x : Operand} {f : Nat} (hL : TyOK P L) (h : wFieldAddr L fr t x f K) : Sound P fr M news ⟨dst, .fieldAddr t x f, ty, pos, after, guard⟩ K := by
  have hx : ∀ {E : Env} {a : Act}, RelO fr E a ⟨dst, .fieldAddr t x f, ty, pos, after, guard⟩ → rel (ev fr x) E (a.eval x) := fun hr => rel_ev hr (by simp [Op.operands])
  unfold wFieldAddr at h
  split at h
  · rename_i fs _ _ _ ht
    split at h
    · rename_i off ft hf
      split at h
      · rename_i kk n _ _ hft
        split at h
        · rename_i cs e
          refine .val h fun E N w a _ hr => ?_
          have h1 := hx hr; rw [e] at h1
          obtain ⟨b, o, h2, h3⟩ := h1
          refine ⟨_, ?_, b, o + off, rfl, relCells_drop _ h3⟩
          simp [execOp, h2, run_fieldAt hL ht rfl hf hft (by simp)]
        · rename_i i o e
          refine .val h fun E N w a _ hr => ?_
          have h1 := hx hr; rw [e] at h1
          obtain ⟨b, h2, h3⟩ := h1
          refine ⟨_, ?_, b, h2, rfl⟩
          simp [execOp, h3, run_fieldAt hL ht rfl hf hft (by simp)]
        · rename_i id m s j o e
          refine .val h fun E N w a _ hr => ?_
          have h1 := hx hr; rw [e] at h1
          obtain ⟨b, h2, h3⟩ := h1
          refine ⟨_, ?_, b, h2, rfl⟩
          simp [execOp, h3, run_fieldAt hL ht rfl hf hft (by simp), Nat.add_assoc]
        · exact h.elim
      · exact h.elim
    · exact h.elim
  · exact h.elim
def rowOf (M : Mem) (s : Nat) : D → Option (List (List D) × List (Nat × Ob))
  | .list s' xs => match Nat.beq s s' with
    | true => some (xs, [])
    | false => none
  | .row id n => match get M id with
    | some (.row e s' xs) => match Nat.beq s s' with
      | true => some (xs.take n, [(id, .row e s' xs)])
      | false => none
    | _ => none
  | .v (.slice none 0 0) => some ([], [])
  | _ => none
theorem beq_eq {a b : Nat} (h : Nat.beq a b = true) : a = b := by rwa [Nat.beq_eq] at h
theorem rowOf_rel {d : D} {s : Nat} {xs : List (List D)} {pre : List (Nat × Ob)} (h : rowOf M s d = some (xs, pre)) :
    (∀ p ∈ pre, get M p.1 = some p.2) ∧ ∀ (E : Env) (N : Nat → Option Ob) (w : World) (v : Value), Inv E N w → (∀ p ∈ pre, N p.1 = some p.2) → rel d E v → rel (.list s xs) E v := by
  cases d with
  | list s' xs' =>
    simp only [rowOf] at h
    split at h
    · rename_i e
      have := beq_eq e; subst this
      simp at h
      obtain ⟨rfl, rfl⟩ := h
      exact ⟨fun _ h => (by cases h), fun E N w v _ _ h => h⟩
    · cases h
  | row id n =>
    simp only [rowOf] at h
    split at h
    · rename_i et s' xs' hg
      split at h
      · rename_i e
        have := beq_eq e; subst this
        simp at h
        obtain ⟨rfl, rfl⟩ := h
        refine ⟨fun p hp => (by simp at hp; subst hp; exact hg), fun E N w v hi hp hr => ?_⟩
        have ho := hi.ob id (.row et s xs') (hp (id, .row et s xs') (by simp))
        exact (ho.1 n v hr.1).2
      · cases h
    · cases h
  | v x =>
    cases x with
    | slice a l c =>
      cases a with
      | none =>
        cases l with
        | zero =>
          cases c with
          | zero =>
            simp [rowOf] at h
            obtain ⟨rfl, rfl⟩ := h
            refine ⟨fun _ h => (by cases h), fun E N w v _ _ hr => ?_⟩
            obtain rfl : v = _ := hr
            exact ⟨none, 0, rfl, Nat.le_refl _, fun h => absurd rfl h⟩
          | succ c => simp [rowOf] at h
        | succ l => simp [rowOf] at h
      | some a => simp [rowOf] at h
    | _ => simp [rowOf] at h
  | _ => simp [rowOf] at h
theorem run_loadVar {t : TypeId} {x : Ty} {b o : Nat} {w : World} {vs : List Value} (hL : TyOK P L) (ht : nth L t = some x) (hl : vs.length = x.size) (hc : ∀ k, k < x.size → w.cell? ⟨b, o + k, none⟩ = vs[k]?) (h0 : x.k.agg = false → x.size = 1) :
    (loadVar t ⟨b, o, none⟩).run P w = .ok (if x.k.agg then .agg vs.toArray else vs.headD undef) w := by
  unfold loadVar
  rw [Sem.run_bind, agg_run hL ht]
  simp only [Result.andThen_ok]
  cases hk : x.k.agg with
  | true =>
    simp only [if_true]
    rw [Sem.run_bind, size_run hL ht]
    simp only [Result.andThen_ok]
    rw [Sem.run_bind]
    unfold loadCells
    rw [run_loadCells x.size 0 #[] vs (fun k hk => by simpa using hc k hk) hl]
    simp
  | false =>
    have h1 := h0 hk
    cases vs with
    | nil => rw [h1] at hl; cases hl
    | cons u vs =>
      have h2 : w.cell? ⟨b, o, none⟩ = some u := by simpa using hc 0 (by omega)
      simp [run_load, h2]
def loadK (k : TK) (n : Nat) (cs : List D) (pre : List (Nat × Ob)) (K : Kont) : Prop :=
  match k.agg with
  | true => match Nat.ble n cs.length with
    | true => K (.ret (.agg (cs.take n)) []) pre
    | false => False
  | false => match cs, n with
    | c :: _, 1 => K (.ret c []) pre
    | _, _ => False
structure ElG (xs : List (List D)) (j : Nat) (C : List D → Prop) : Prop where
  ex : ∃ cs, xs[j]? = some cs ∧ C cs
theorem ElG.to {xs : List (List D)} {j : Nat} {C : List D → Prop} (cs : List D) (h1 : xs[j]? = some cs) (h : C cs) : ElG xs j C := ⟨cs, h1, h⟩
theorem flatten_el : ∀ {xs : List (List D)} {s j : Nat} {cs : List D}, (∀ r ∈ xs, r.length = s) → xs[j]? = some cs → (xs.flatten.drop (j * s)).take s = cs
  | x :: xs, s, 0, cs, hs, h => by
    simp at h; subst h
    have := hs x (by simp)
    simp [← this]
  | x :: xs, s, j + 1, cs, hs, h => by
    have h1 := hs x (by simp)
    rw [List.flatten_cons, Nat.succ_mul, Nat.add_comm, ← h1, ← List.drop_drop]
    simp only [List.drop_left]
    rw [h1]
    exact flatten_el (fun r hr => hs r (by simp [hr])) (by simpa using h)
  | [], _, _, _, _, h => by simp at h
theorem flatten_len : ∀ {xs : List (List D)} {s : Nat}, (∀ r ∈ xs, r.length = s) → xs.flatten.length = xs.length * s
  | [], _, _ => by simp
  | x :: xs, s, hs => by
    rw [List.flatten_cons, List.length_append, hs x (by simp), flatten_len (fun r hr => hs r (by simp [hr])), List.length_cons, Nat.succ_mul, Nat.add_comm]
theorem mrow_cells {E : Env} {w : World} {id : Nat} {e : TypeId} {s ver j : Nat} {xs : List (List D)} {cs : List D} (h : ObOK E id w (.mrow e s ver xs)) (hj : xs[j]? = some cs) {b : Nat} (hb : hdrBlk (E.hdr id ver) = some b) :
    ∃ c cap, E.hdr id ver = some (.slice (some ⟨b, 0, none⟩) xs.length cap) ∧ w.heap[b]? = some (.cells c e (0, 0)) ∧ c.size = cap * s ∧ xs.length ≤ cap ∧ cap ≤ maxLen ∧ (∀ r ∈ xs, r.length = s) ∧ rels xs.flatten E.pure (c.toList.take (xs.length * s)) ∧
      (∀ o, E.im b o = none) ∧ cs.length = s ∧ rels cs E.pure ((c.toList.drop (j * s)).take s) ∧ j * s + s ≤ c.size := by
  have hjl : j < xs.length := (List.getElem?_eq_some_iff.1 hj).1
  rcases h.2 with ⟨h1, h2⟩ | ⟨b', c, cap, h1, h2, h3, h4, h5, h6, h7, h8⟩
  · rw [h1] at hb; cases hb
  · rw [h1] at hb
    simp [hdrBlk] at hb
    subst hb
    have hm : (j + 1) * s ≤ xs.length * s := Nat.mul_le_mul_right _ hjl
    have hm2 : xs.length * s ≤ cap * s := Nat.mul_le_mul_right _ h4
    have hsl : j * s + s ≤ xs.length * s := by rw [Nat.succ_mul] at hm; exact hm
    refine ⟨c, cap, h1, h2, h3, h4, h5, h6, h7, h8, h6 cs (List.mem_of_getElem? hj), ?_, by omega⟩
    have h9 := rels_take s (rels_drop (j * s) h7)
    rw [flatten_el h6 hj] at h9
    have : ((c.toList.take (xs.length * s)).drop (j * s)).take s = (c.toList.drop (j * s)).take s := by
      rw [List.drop_take, List.take_take, Nat.min_eq_left (by omega)]
    rwa [this] at h9
def wLoad (L : List Ty) (fr : Fr) (M : Mem) (t : TypeId) (x : Operand) (K : Kont) : Prop :=
  match nth L t with
  | some ⟨k, n, _, _⟩ => match ev fr x with
    | .ptr cs => loadK k n cs [] K
    | .ref i o => match get M i with
      | some (.cells ds) => loadK k n (ds.drop o) [(i, .cells ds)] K
      | some (.tc T ds) => loadK k n (ds.drop o) [(i, .tc T ds)] K
      | _ => False
    | .rp id ver s j o => match get M id with
      | some (.mrow e s' ver' xs) => match Nat.beq s s' with
        | true => ver = ver' ∧ ElG xs j fun cs => loadK k n (cs.drop o) [(id, .mrow e s' ver' xs)] K
        | false => False
      | _ => False
    | _ => False
  | none => False
theorem loadK_ret {k : TK} {n : Nat} {cs : List D} {pre : List (Nat × Ob)} {K : Kont} (h : loadK k n cs pre K) :
    ∃ d, K (.ret d []) pre ∧ n ≤ cs.length ∧ (k.agg = false → n = 1) ∧ ∀ (E : Env) (vs : List Value), rels cs E vs → rel d E (if k.agg then .agg (vs.take n).toArray else (vs.take n).headD undef) := by
  unfold loadK at h
  split at h
  · rename_i hk
    split at h
    · rename_i hb
      refine ⟨_, h, by simpa using hb, fun h => (by rw [hk] at h; cases h), fun E vs hr => ?_⟩
      rw [hk]
      exact ⟨vs.take n, rfl, rels_take n hr⟩
    · exact h.elim
  · rename_i hk
    split at h
    · rename_i c cs
      refine ⟨_, h, by simp, fun _ => rfl, fun E vs hr => ?_⟩
      obtain ⟨u, ws, rfl, h1, _⟩ := hr
      rw [hk]
      simpa using h1
    · exact h.elim
theorem sound_load {t : TypeId} {x : Operand} (hL : TyOK P L) (h : wLoad L fr M t x K) : Sound P fr M news ⟨dst, .load t x, ty, pos, after, guard⟩ K := by
  have hx : ∀ {E : Env} {a : Act}, RelO fr E a ⟨dst, .load t x, ty, pos, after, guard⟩ → rel (ev fr x) E (a.eval x) := fun hr => rel_ev hr (by simp [Op.operands])
  unfold wLoad at h
  split at h
  · rename_i k n _ _ ht
    split at h
    · rename_i cs e
      obtain ⟨d, hK, hn, h1, hd⟩ := loadK_ret h
      refine .val hK fun E N w a hi hr => ?_
      have h2 := hx hr; rw [e] at h2
      obtain ⟨b, o, h3, h4⟩ := h2
      obtain ⟨vs, h5, h6, h7⟩ := relCells_get h4
      refine ⟨_, ?_, rel_pure (hd _ vs h6)⟩
      have := run_loadVar (w := w) (b := b) (o := o) (vs := vs.take n) hL ht (by simp; omega) (fun j hj => ?_) h1
      · simp [execOp, h3, Instr.loadAt, Instr.sureAddr, this]
      · have h8 := h7 j (by simp at hj; omega)
        have hj' : j < vs.length := by simp at hj; omega
        rw [List.getElem?_take_of_lt (by simpa using hj)]
        rw [List.getElem?_eq_getElem hj'] at h8 ⊢
        exact hi.im _ _ _ h8
    · rename_i i o e
      split at h
      · rename_i ds hg
        obtain ⟨d, hK, hn, h1, hd⟩ := loadK_ret h
        refine .val1 hg hK fun E N w a hi hN hr => ?_
        have h2 := hx hr; rw [e] at h2
        obtain ⟨b, h3, h4⟩ := h2
        obtain ⟨b', c, T, h5, h6, h7, h8⟩ := hi.ob i _ hN
        rw [h5] at h3
        injection h3 with h3; subst h3
        refine ⟨_, ?_, hd E _ (rels_drop o h7)⟩
        have hlen := rels_length h7
        have := run_loadVar (w := w) (b := b') (o := o) (vs := (c.toList.drop o).take n) hL ht (by simp at hn ⊢; simp at hlen; omega) (fun j hj => ?_) h1
        · simp [execOp, h4, Instr.loadAt, Instr.sureAddr, this]
        · rw [List.getElem?_take_of_lt (by simpa using hj), List.getElem?_drop]
          simp [World.cell?, h6]
      · rename_i TT ds hg
        obtain ⟨d, hK, hn, h1, hd⟩ := loadK_ret h
        refine .val1 hg hK fun E N w a hi hN hr => ?_
        have h2 := hx hr; rw [e] at h2
        obtain ⟨b, h3, h4⟩ := h2
        obtain ⟨b', c, h5, h6, h7, h8⟩ := hi.ob i _ hN
        rw [h5] at h3
        injection h3 with h3; subst h3
        refine ⟨_, ?_, hd E _ (rels_drop o h7)⟩
        have hlen := rels_length h7
        have := run_loadVar (w := w) (b := b') (o := o) (vs := (c.toList.drop o).take n) hL ht (by simp at hn ⊢; simp at hlen; omega) (fun j hj => ?_) h1
        · simp [execOp, h4, Instr.loadAt, Instr.sureAddr, this]
        · rw [List.getElem?_take_of_lt (by simpa using hj), List.getElem?_drop]
          simp [World.cell?, h6]
      · exact h.elim
    · rename_i id ver s j o e
      split at h
      · rename_i et s' ver' xs hg
        split at h
        · rename_i es
          obtain rfl := beq_eq es
          obtain ⟨rfl, h⟩ := h
          obtain ⟨cs, hj, hK⟩ := h.ex
          obtain ⟨d, hK, hn, h1, hd⟩ := loadK_ret hK
          refine .val1 hg hK fun E N w a hi hN hr => ?_
          have h2 := hx hr; rw [e] at h2
          obtain ⟨b, h3, h4⟩ := h2
          obtain ⟨c, cap, g1, g2, g3, g4, g5, g6, g7, g8, g9, g10, g11⟩ := mrow_cells (hi.ob id _ hN) hj h3
          refine ⟨_, ?_, hd E _ (rels_drop o (rels_pure g10))⟩
          rw [List.length_drop] at hn
          have := run_loadVar (w := w) (b := b) (o := j * s + o) (vs := (((c.toList.drop (j * s)).take s).drop o).take n) hL ht (by simp; omega) (fun q hq => ?_) h1
          · simp [execOp, h4, Instr.loadAt, Instr.sureAddr, this]
          · rw [List.getElem?_take_of_lt (by simpa using hq), List.getElem?_drop, List.getElem?_take_of_lt (by simp at hq; omega), List.getElem?_drop]
            simp [World.cell?, g2, Nat.add_assoc]
        · exact h.elim
      · exact h.elim
    · exact h.elim
  · exact h.elim
end
end Go.Dm
namespace Go.Dm
section
variable {P : Program} {L : List Ty} {fr : Fr} {M : Mem} {news : List Nat} {K : Kont} {dst : Option Tmp} {ty : TypeId} {pos : String} {after : Array Edge} {guard : Option (Nat × Bool)}
structure IdxG (n : Int) (xs : List (List D)) (C : List D → Prop) : Prop where
  ex : ∃ (j : Nat) (cs : List D), n = (j : Int) ∧ xs[j]? = some cs ∧ C cs
theorem IdxG.to {n : Int} {xs : List (List D)} {C : List D → Prop} (j : Nat) (cs : List D) (h1 : n = (j : Int)) (h2 : xs[j]? = some cs) (h : C cs) : IdxG n xs C := ⟨j, cs, h1, h2, h⟩
structure ArrG (n : Int) (m : Nat) (C : Nat → Prop) : Prop where
  ex : ∃ (j : Nat), n = (j : Int) ∧ j < m ∧ C j
theorem ArrG.to {n : Int} {m : Nat} {C : Nat → Prop} (j : Nat) (h1 : n = (j : Int)) (h2 : j < m) (h : C j) : ArrG n m C := ⟨j, h1, h2, h⟩
structure ChrG (n : Int) (s : ByteArray) (C : UInt8 → Prop) : Prop where
  ex : ∃ (j : Nat) (c : UInt8), n = (j : Int) ∧ s.data[j]? = some c ∧ C c
theorem ChrG.to {n : Int} {s : ByteArray} {C : UInt8 → Prop} (j : Nat) (c : UInt8) (h1 : n = (j : Int)) (h2 : s.data[j]? = some c) (h : C c) : ChrG n s C := ⟨j, c, h1, h2, h⟩
def mrowOf (M : Mem) (s : Nat) : D → Option (Nat × Nat × TypeId × Nat × List (List D))
  | .row id n => match get M id with
    | some (.mrow e s' ver xs) => match Nat.beq s s' with
      | true => some (id, n, e, ver, xs)
      | false => none
    | _ => none
  | _ => none
theorem mrowOf_spec {M : Mem} {s : Nat} {d : D} {id n : Nat} {e : TypeId} {ver : Nat} {xs : List (List D)} (h : mrowOf M s d = some (id, n, e, ver, xs)) : d = .row id n ∧ get M id = some (.mrow e s ver xs) := by
  cases d <;> simp only [mrowOf] at h <;> try cases h
  rename_i i n
  split at h
  · rename_i e' s' ver' xs' hg
    split at h
    · rename_i hs
      obtain rfl := beq_eq hs
      injection h with h
      injection h with h1 h
      injection h with h0 h
      injection h with h2 h
      injection h with h3 h4
      subst h1; subst h0; subst h2; subst h3; subst h4
      exact ⟨rfl, hg⟩
    · cases h
  · cases h
def wIndexAddr (L : List Ty) (fr : Fr) (M : Mem) (t : TypeId) (x i : Operand) (K : Kont) : Prop :=
  match ev fr i with
  | .v (.int k n) => match nth L t with
    | some ⟨.slice e, _, _, _⟩ => match nth L e with
      | some ⟨_, s, _, _⟩ => match mrowOf M s (ev fr x) with
        | some (id, vn, et, ver, xs) => vn = ver ∧ ArrG n xs.length fun j => K (.ret (.rp id ver s j 0) []) [(id, .mrow et s ver xs)]
        | none => match rowOf M s (ev fr x) with
          | some (xs, pre) => IdxG n xs fun cs => K (.ret (.ptr cs) []) pre
          | none => False
      | none => False
    | some ⟨.arr m e, _, _, _⟩ => match nth L e with
      | some ⟨_, s, _, _⟩ => match ev fr x with
        | .ptr cs => ArrG n m fun j => K (.ret (.ptr (cs.drop (j * s))) []) []
        | .ref id o => ArrG n m fun j => K (.ret (.ref id (o + j * s)) []) []
        | _ => False
      | none => False
    | _ => False
  | _ => False
theorem sound_indexAddr {t : TypeId} {x i : Operand} (hL : TyOK P L) (h : wIndexAddr L fr M t x i K) : Sound P fr M news ⟨dst, .indexAddr t x i, ty, pos, after, guard⟩ K := by
  have hx : ∀ {E : Env} {a : Act}, RelO fr E a ⟨dst, .indexAddr t x i, ty, pos, after, guard⟩ → rel (ev fr x) E (a.eval x) := fun hr => rel_ev hr (by simp [Op.operands])
  have hy : ∀ {E : Env} {a : Act}, RelO fr E a ⟨dst, .indexAddr t x i, ty, pos, after, guard⟩ → rel (ev fr i) E (a.eval i) := fun hr => rel_ev hr (by simp [Op.operands])
  unfold wIndexAddr at h
  split at h
  · rename_i k n ei
    split at h
    · rename_i e _ _ _ ht
      split at h
      · rename_i kk s _ _ he
        split at h
        · rename_i id vn et ver xs hm
          obtain ⟨hd, hg⟩ := mrowOf_spec hm
          obtain ⟨rfl, h⟩ := h
          obtain ⟨j, rfl, hj, hK⟩ := h.ex
          refine .val1 hg hK fun E N w a hi hN hr => ?_
          have h4 := hy hr; rw [ei] at h4
          have h4' : a.eval i = .int k j := h4
          have h2 := hx hr; rw [hd] at h2
          obtain ⟨cs, hcs⟩ : ∃ cs, xs[j]? = some cs := ⟨_, List.getElem?_eq_getElem hj⟩
          rcases (hi.ob id _ hN).2 with ⟨o1, o2⟩ | ⟨b, c, cap, o1, o2, o3, o4, _⟩
          · subst o2; simp at hj
          · have h1 : a.eval x = .slice (some ⟨b, 0, none⟩) xs.length cap := by have := h2.1; rw [o1] at this; injection this with this; exact this.symm
            refine ⟨_, ?_, b, by simp [o1, hdrBlk], rfl⟩
            have hs := size_run (w := w) hL he
            simp [execOp, Instr.indexAt, h1, h4', asIntOf, slice_run hL ht rfl, hj, hs, add_plain]
        split at h
        · rename_i xs pre hrow
          obtain ⟨j, cs, rfl, hj, hK⟩ := h.ex
          obtain ⟨hp, hrel⟩ := rowOf_rel hrow
          refine ⟨.ret (.ptr cs) [], pre, lact_val fun E N w a hi hN hr => ?_, hp, hK⟩
          obtain ⟨ad, cap, h1, h2, h3⟩ := hrel E N w _ hi hN (hx hr)
          have h4 := hy hr; rw [ei] at h4
          have h4' : a.eval i = .int k j := h4
          have hjl : j < xs.length := (List.getElem?_eq_some_iff.1 hj).1
          obtain ⟨b, o, rfl, h5⟩ := h3 (by intro h; subst h; simp at hjl)
          obtain ⟨h6, h7⟩ := relRow_get h5 hj
          refine ⟨_, ?_, b, o + j * s, rfl, h7⟩
          have hs := size_run (w := w) hL he
          simp [execOp, Instr.indexAt, h1, h4', asIntOf, slice_run hL ht rfl, hjl, hs, add_plain]
        · exact h.elim
      · exact h.elim
    · rename_i m e _ _ _ ht
      split at h
      · rename_i kk s _ _ he
        split at h
        · rename_i cs ex
          obtain ⟨j, rfl, hj, hK⟩ := h.ex
          refine .val hK fun E N w a hi hr => ?_
          have h4 := hy hr; rw [ei] at h4
          have h4' : a.eval i = .int k j := h4
          have h2 := hx hr; rw [ex] at h2
          obtain ⟨b, o, h3, h5⟩ := h2
          refine ⟨_, ?_, b, o + j * s, rfl, relCells_drop _ h5⟩
          have hs := size_run (w := w) hL he
          simp [execOp, Instr.indexAt, h3, h4', asIntOf, arr_run hL ht rfl, Instr.sureAddr, hj, hs, add_plain]
        · rename_i id o ex
          obtain ⟨j, rfl, hj, hK⟩ := h.ex
          refine .val hK fun E N w a hi hr => ?_
          have h4 := hy hr; rw [ei] at h4
          have h4' : a.eval i = .int k j := h4
          have h2 := hx hr; rw [ex] at h2
          obtain ⟨b, h3, h5⟩ := h2
          refine ⟨_, ?_, b, h3, rfl⟩
          have hs := size_run (w := w) hL he
          simp [execOp, Instr.indexAt, h5, h4', asIntOf, arr_run hL ht rfl, Instr.sureAddr, hj, hs, add_plain]
        · exact h.elim
      · exact h.elim
    · exact h.elim
  · exact h.elim
def wIndex (L : List Ty) (fr : Fr) (t : TypeId) (x i : Operand) (K : Kont) : Prop :=
  match ev fr i, ev fr x with
  | .v (.int k n), .v (.string s) => match nth L t with
    | some ⟨.str, _, _, _⟩ => ChrG n s fun c => KV K (.int .u8 c.toNat)
    | _ => False
  | _, _ => False
theorem sound_index {t : TypeId} {x i : Operand} (hL : TyOK P L) (h : wIndex L fr t x i K) : Sound P fr M news ⟨dst, .index t x i, ty, pos, after, guard⟩ K := by
  have hx : ∀ {E : Env} {a : Act}, RelO fr E a ⟨dst, .index t x i, ty, pos, after, guard⟩ → rel (ev fr x) E (a.eval x) := fun hr => rel_ev hr (by simp [Op.operands])
  have hy : ∀ {E : Env} {a : Act}, RelO fr E a ⟨dst, .index t x i, ty, pos, after, guard⟩ → rel (ev fr i) E (a.eval i) := fun hr => rel_ev hr (by simp [Op.operands])
  unfold wIndex at h
  split at h
  · rename_i k n s ei ex
    split at h
    case h_2 => exact h.elim
    rename_i ht
    obtain ⟨j, c, rfl, hj, hK⟩ := h.ex
    refine .val hK fun E N w a hi hr => ⟨_, ?_, rfl⟩
    have h4 := hy hr; rw [ei] at h4
    have h4' : a.eval i = .int k j := h4
    have h2 := hx hr; rw [ex] at h2
    have h2' : a.eval x = .string s := h2
    have hj' : s[j]? = some c := by
      have hl := (Array.getElem?_eq_some_iff.1 hj)
      obtain ⟨hl, he⟩ := hl
      have : j < s.size := hl
      rw [getElem?_pos s j this]
      exact congrArg some he
    simp [execOp, Instr.index, h4', h2', asIntOf, str_run hL ht rfl, hj']
  · exact h.elim
def wField (L : List Ty) (fr : Fr) (t : TypeId) (x : Operand) (f : Nat) (K : Kont) : Prop :=
  match nth L t, ev fr x with
  | some ⟨.struct fs, _, _, _⟩, .agg cs => match nth fs f with
    | some (off, ft) => match nth L ft with
      | some ⟨k, n, _, _⟩ => match k.agg with
        | true => K (.ret (.agg ((cs.drop off).take n)) []) []
        | false => match nth cs off with
          | some c => K (.ret c []) []
          | none => False
      | none => False
    | none => False
  | _, _ => False
theorem sound_field {t : TypeId} {x : Operand} {f : Nat} (hL : TyOK P L) (h : wField L fr t x f K) : Sound P fr M news ⟨dst, .field t x f, ty, pos, after, guard⟩ K := by
  have hx : ∀ {E : Env} {a : Act}, RelO fr E a ⟨dst, .field t x f, ty, pos, after, guard⟩ → rel (ev fr x) E (a.eval x) := fun hr => rel_ev hr (by simp [Op.operands])
  unfold wField at h
  split at h
  · rename_i fs _ _ _ cs ht ex
    split at h
    · rename_i off ft hf
      split at h
      · rename_i k n _ _ hft
        have key : ∀ (w : World) (vs : Array Value) (v : Value), (part ft vs off).run P w = .ok v w → (Instr.field t (.agg vs) f).run P w = .ok v w := by
          intro w vs v hv
          obtain ⟨gs, h1, h2⟩ := struct_run (w := w) hL ht rfl
          rw [← h2, nth_map, nth_get] at hf
          cases hg : gs.toList[f]? with
          | none => rw [hg] at hf; cases hf
          | some g =>
            rw [hg] at hf
            simp at hf
            obtain ⟨rfl, rfl⟩ := hf
            have hg' : gs[f]? = some g := by rw [← Array.getElem?_toList]; exact hg
            unfold Instr.field
            rw [Sem.run_bind, h1]
            simp [hg', asAgg, hv]
        split at h
        · rename_i hk
          refine .val h fun E N w a hi hr => ?_
          have h2 := hx hr; rw [ex] at h2
          obtain ⟨vs, h3, h4⟩ := h2
          refine ⟨.agg ((vs.drop off).take n).toArray, ?_, _, rfl, rels_take n (rels_drop off h4)⟩
          have := key w vs.toArray (.agg ((vs.drop off).take n).toArray) (by
            have ha := agg_run (w := w) hL hft
            have hs := size_run (w := w) hL hft
            have hk' : (Ty.mk k n ‹_› ‹_›).k.agg = true := hk
            simp only at ha hs
            rw [hk] at ha
            unfold part
            rw [Sem.run_bind, ha]
            simp only [Result.andThen_ok, if_true]
            rw [Sem.run_bind, hs]
            simp [List.extract_eq_take_drop, Nat.add_sub_cancel_left])
          simp [execOp, h3, this]
        · rename_i hk
          split at h
          · rename_i c hc
            refine .val h fun E N w a hi hr => ?_
            have h2 := hx hr; rw [ex] at h2
            obtain ⟨vs, h3, h4⟩ := h2
            rw [nth_get] at hc
            obtain ⟨u, h5, h6⟩ := rels_get h4 hc
            refine ⟨u, ?_, h6⟩
            have := key w vs.toArray u (by
              have ha := agg_run (w := w) hL hft
              simp only at ha
              rw [hk] at ha
              unfold part
              rw [Sem.run_bind, ha]
              simp [h5])
            simp [execOp, h3, this]
          · exact h.elim
      · exact h.elim
    · exact h.elim
  · exact h.elim
def wExtract (fr : Fr) (x : Operand) (i : Nat) (K : Kont) : Prop :=
  match ev fr x with
  | .tup cs => match nth cs i with
    | some c => K (.ret c []) []
    | none => False
  | _ => False
theorem sound_extract {x : Operand} {i : Nat} (h : wExtract fr x i K) : Sound P fr M news ⟨dst, .extract x i, ty, pos, after, guard⟩ K := by
  have hx : ∀ {E : Env} {a : Act}, RelO fr E a ⟨dst, .extract x i, ty, pos, after, guard⟩ → rel (ev fr x) E (a.eval x) := fun hr => rel_ev hr (by simp [Op.operands])
  unfold wExtract at h
  split at h
  · rename_i cs ex
    split at h
    · rename_i c hc
      refine .val h fun E N w a hi hr => ?_
      have h2 := hx hr; rw [ex] at h2
      obtain ⟨vs, h3, h4⟩ := h2
      rw [nth_get] at hc
      obtain ⟨u, h5, h6⟩ := rels_get h4 hc
      exact ⟨u, by simp [execOp, h3, Instr.extract, h5], h6⟩
    · exact h.elim
  · exact h.elim
def evs (fr : Fr) (xs : List Operand) : List D := xs.map (ev fr)
theorem rels_evs {E : Env} {a : Act} : ∀ (xs : List Operand), (∀ x ∈ xs, rel (ev fr x) E (a.eval x)) → rels (evs fr xs) E (xs.map a.eval)
  | [], _ => rfl
  | x :: xs, h => ⟨a.eval x, xs.map a.eval, rfl, h x (by simp), rels_evs xs fun y hy => h y (by simp [hy])⟩
def wMakeFunc (fr : Fr) (f : Fn) (first caps : Array Operand) (K : Kont) : Prop :=
  match first.toList with
  | [] => K (.ret (.fn f (evs fr caps.toList)) []) []
  | _ => False
theorem sound_makeFunc {f : Fn} {first caps : Array Operand} (h : wMakeFunc fr f first caps K) : Sound P fr M news ⟨dst, .makeFunc f first caps, ty, pos, after, guard⟩ K := by
  unfold wMakeFunc at h
  split at h
  · rename_i e
    have e' : first = #[] := by cases first; simp at e; subst e; rfl
    subst e'
    refine .val h fun E N w a hi hr => ⟨.func f #[] (caps.map a.eval), by simp [execOp, Instr.makeFunc], caps.toList.map a.eval, by cases caps; simp, ?_⟩
    exact rels_evs _ fun x hx => rel_ev hr (by simp [Op.operands]; exact by simpa using hx)
  · exact h.elim
def wMakeIface (L : List Ty) (fr : Fr) (t : TypeId) (x : Operand) (K : Kont) : Prop :=
  match nth L t with
  | some ⟨k, _, _, _⟩ => match k with
    | .iface => False
    | .other => False
    | _ => K (.ret (.iface t (ev fr x)) []) []
  | none => False
theorem sound_makeIface {t : TypeId} {x : Operand} (hL : TyOK P L) (h : wMakeIface L fr t x K) : Sound P fr M news ⟨dst, .makeInterface t x, ty, pos, after, guard⟩ K := by
  have hx : ∀ {E : Env} {a : Act}, RelO fr E a ⟨dst, .makeInterface t x, ty, pos, after, guard⟩ → rel (ev fr x) E (a.eval x) := fun hr => rel_ev hr (by simp [Op.operands])
  unfold wMakeIface at h
  split at h
  · rename_i k _ _ _ ht
    split at h
    · exact h.elim
    · exact h.elim
    · rename_i hn1 hn2
      refine .val h fun E N w a hi hr => ⟨.iface t (a.eval x), ?_, a.eval x, rfl, hx hr⟩
      obtain ⟨d, i, h1, _, h3, _⟩ := ty_run (w := w) hL ht
      simp only [execOp, Instr.makeInterface]
      simp only [Sem.run_bind, h1, Result.andThen_ok]
      cases d <;> first | rfl | (simp [tkOf] at h3; exact absurd h3.symm hn1)
  · exact h.elim
end
end Go.Dm
namespace Go.Dm
mutual
def purify (M : Mem) : D → Option (D × List (Nat × Ob))
  | .v x => some (.v x, [])
  | .list s xs => some (.list s xs, [])
  | .ptr cs => some (.ptr cs, [])
  | .row id n => match get M id with
    | some (.row e s xs) => some (.list s (xs.take n), [(id, .row e s xs)])
    | _ => none
  | .agg cs => match purifyL M cs with
    | some (ds, p) => some (.agg ds, p)
    | none => none
  | .tup cs => match purifyL M cs with
    | some (ds, p) => some (.tup ds, p)
    | none => none
  | .fn f cs => match purifyL M cs with
    | some (ds, p) => some (.fn f ds, p)
    | none => none
  | .iface t d => match purify M d with
    | some (e, p) => some (.iface t e, p)
    | none => none
  | .bot => none
  | .ref _ _ => none
  | .sl _ _ _ => none
  | .rp _ _ _ _ _ => none
  | .mp _ => none
def purifyL (M : Mem) : List D → Option (List D × List (Nat × Ob))
  | [] => some ([], [])
  | d :: ds => match purify M d with
    | some (e, p) => match purifyL M ds with
      | some (es, q) => some (e :: es, p ++ q)
      | none => none
    | none => none
end
def There (N : Nat → Option Ob) (pre : List (Nat × Ob)) : Prop := ∀ p ∈ pre, N p.1 = some p.2
theorem There.append {N : Nat → Option Ob} {p q : List (Nat × Ob)} (h : There N (p ++ q)) : There N p ∧ There N q :=
  ⟨fun x hx => h x (List.mem_append_left _ hx), fun x hx => h x (List.mem_append_right _ hx)⟩
theorem There.app {N : Nat → Option Ob} {p q : List (Nat × Ob)} (h : There N p) (k : There N q) : There N (p ++ q) :=
  fun x hx => (List.mem_append.1 hx).elim (h x) (k x)
mutual
theorem purify_rel {M : Mem} : ∀ (d : D) {e : D} {pre : List (Nat × Ob)}, purify M d = some (e, pre) → There (get M) pre ∧ ∀ (E : Env) (N : Nat → Option Ob) (w : World) (v : Value), Inv E N w → There N pre → rel d E v → rel e E.pure v
  | .v x, _, _, h => by simp [purify] at h; obtain ⟨rfl, rfl⟩ := h; exact ⟨fun _ h => (by cases h), fun E N w v _ _ hr => hr⟩
  | .list s xs, _, _, h => by simp [purify] at h; obtain ⟨rfl, rfl⟩ := h; exact ⟨fun _ h => (by cases h), fun E N w v _ _ hr => hr⟩
  | .ptr cs, _, _, h => by simp [purify] at h; obtain ⟨rfl, rfl⟩ := h; exact ⟨fun _ h => (by cases h), fun E N w v _ _ hr => hr⟩
  | .row id n, _, _, h => by
    simp only [purify] at h
    split at h
    · rename_i et s xs hg
      simp at h
      obtain ⟨rfl, rfl⟩ := h
      refine ⟨fun p hp => (by simp at hp; subst hp; exact hg), fun E N w v hi hN hr => ?_⟩
      exact ((hi.ob id (.row et s xs) (hN (id, .row et s xs) (by simp))).1 n v hr.1).2
    · cases h
  | .agg cs, _, _, h => by
    simp only [purify] at h
    split at h
    · rename_i ds p hg
      simp at h
      obtain ⟨rfl, rfl⟩ := h
      obtain ⟨h1, h2⟩ := purifyL_rel cs hg
      refine ⟨h1, fun E N w v hi hN hr => ?_⟩
      obtain ⟨vs, h3, h4⟩ := hr
      exact ⟨vs, h3, h2 E N w vs hi hN h4⟩
    · cases h
  | .tup cs, _, _, h => by
    simp only [purify] at h
    split at h
    · rename_i ds p hg
      simp at h
      obtain ⟨rfl, rfl⟩ := h
      obtain ⟨h1, h2⟩ := purifyL_rel cs hg
      refine ⟨h1, fun E N w v hi hN hr => ?_⟩
      obtain ⟨vs, h3, h4⟩ := hr
      exact ⟨vs, h3, h2 E N w vs hi hN h4⟩
    · cases h
  | .fn f cs, _, _, h => by
    simp only [purify] at h
    split at h
    · rename_i ds p hg
      simp at h
      obtain ⟨rfl, rfl⟩ := h
      obtain ⟨h1, h2⟩ := purifyL_rel cs hg
      refine ⟨h1, fun E N w v hi hN hr => ?_⟩
      obtain ⟨vs, h3, h4⟩ := hr
      exact ⟨vs, h3, h2 E N w vs hi hN h4⟩
    · cases h
  | .iface t d, _, _, h => by
    simp only [purify] at h
    split at h
    · rename_i e p hg
      simp at h
      obtain ⟨rfl, rfl⟩ := h
      obtain ⟨h1, h2⟩ := purify_rel d hg
      refine ⟨h1, fun E N w v hi hN hr => ?_⟩
      obtain ⟨x, h3, h4⟩ := hr
      exact ⟨x, h3, h2 E N w x hi hN h4⟩
    · cases h
  | .bot, _, _, h => by simp [purify] at h
  | .ref _ _, _, _, h => by simp [purify] at h
  | .sl _ _ _, _, _, h => by simp [purify] at h
  | .rp _ _ _ _ _, _, _, h => by simp [purify] at h
  | .mp _, _, _, h => by simp [purify] at h
theorem purifyL_rel {M : Mem} : ∀ (ds : List D) {es : List D} {pre : List (Nat × Ob)}, purifyL M ds = some (es, pre) → There (get M) pre ∧ ∀ (E : Env) (N : Nat → Option Ob) (w : World) (vs : List Value), Inv E N w → There N pre → rels ds E vs → rels es E.pure vs
  | [], _, _, h => by simp [purifyL] at h; obtain ⟨rfl, rfl⟩ := h; exact ⟨fun _ h => (by cases h), fun E N w v _ _ hr => hr⟩
  | d :: ds, _, _, h => by
    simp only [purifyL] at h
    split at h
    · rename_i e p h1
      split at h
      · rename_i es q h2
        simp at h
        obtain ⟨rfl, rfl⟩ := h
        obtain ⟨h3, h4⟩ := purify_rel d h1
        obtain ⟨h5, h6⟩ := purifyL_rel ds h2
        refine ⟨h3.app h5, fun E N w vs hi hN hr => ?_⟩
        obtain ⟨v, ws, rfl, h7, h8⟩ := hr
        exact ⟨v, ws, rfl, h4 E N w v hi hN.append.1 h7, h6 E N w ws hi hN.append.2 h8⟩
      · cases h
    · cases h
end
def Env.add (E : Env) (b : Nat) (vs : List Value) : Env := ⟨fun k o => if k = b then vs[o]? else E.im k o, E.blk, E.hdr⟩
theorem relCells_of {E : Env} {b : Nat} : ∀ {cs : List D} {vs : List Value} {o : Nat}, rels cs E vs → (∀ k, k < vs.length → E.im b (o + k) = vs[k]?) → relCells cs E b o
  | [], _, _, _, _ => trivial
  | c :: cs, _, o, ⟨v, ws, h1, h2, h3⟩, h => by
    subst h1
    refine ⟨⟨v, by simpa using h 0 (by simp), h2⟩, relCells_of h3 fun k hk => ?_⟩
    have := h (k + 1) (by simpa using hk)
    simpa [Nat.add_assoc, Nat.add_comm 1 k] using this
theorem heap_alloc_old {w : World} {o : Obj} {k : Nat} (h : k < w.heap.size) : (w.alloc o).heap[k]? = w.heap[k]? := RowKit.Below.heap_alloc w o k h
theorem heap_alloc_new (w : World) (o : Obj) : (w.alloc o).heap[w.heap.size]? = some o := by
  show (w.heap.push o)[w.heap.size]? = _
  simp
theorem new_im {E : Env} {N : Nat → Option Ob} {w : World} (hi : Inv E N w) (T : TypeId) (c : Array Value) (fz : Nat × Nat) (vs : List Value) (hc : ∀ k, k < vs.length → c[k]? = vs[k]?) :
    Step E (E.add w.heap.size vs) (fun _ => False) w (w.alloc (.cells c T fz)) ∧ Inv (E.add w.heap.size vs) N (w.alloc (.cells c T fz)) ∧
      ∀ cs, rels cs E.pure vs → relCells cs (E.add w.heap.size vs).pure w.heap.size 0 := by
  have hle : E.le (E.add w.heap.size vs) := by
    refine ⟨fun b o v h => ?_, fun _ _ h => h, fun _ _ _ h => h⟩
    have := cell_lt (hi.im b o v h)
    simp only [Env.add]
    rw [if_neg (by omega)]; exact h
  have st : Step E (E.add w.heap.size vs) (fun _ => False) w (w.alloc (.cells c T fz)) := by
    refine ⟨hle, by simp, fun b hb _ => heap_alloc_old hb, fun b o v h => ?_, rfl, rfl, rfl⟩
    simp only [Env.add] at h
    split at h
    · rename_i e; exact .inr (.inl (by omega))
    · exact .inl h
  refine ⟨st, hi.step0 st (fun b o v h => ?_) (fun _ => rfl), fun cs hr => ?_⟩
  · simp only [Env.add] at h
    split at h
    · rename_i e
      subst e
      have hl : o < vs.length := (List.getElem?_eq_some_iff.1 h).1
      have hn := heap_alloc_new w (.cells c T fz)
      unfold World.cell?
      rw [hn]
      simp [hc o hl, h]
    · have h1 := hi.im b o v h
      rw [cell_same (heap_alloc_old (cell_lt h1))]; exact h1
  · refine relCells_of (rels_mono cs hle.pure hr) fun k hk => ?_
    simp [Env.pure, Env.add]
theorem run_newRow {P : Program} (w : World) (T : TypeId) (c : Array Value) : (newRow T c).run P w = .ok ⟨w.heap.size, 0, none⟩ (w.alloc (.cells c T)) := rfl
section
variable {P : Program} {L : List Ty} {fr : Fr} {M : Mem} {news : List Nat} {K : Kont} {dst : Option Tmp} {ty : TypeId} {pos : String} {after : Array Edge} {guard : Option (Nat × Bool)}
theorem Sound.new {o : Oper} {d : D} {pre : List (Nat × Ob)} (hp : There (get M) pre) (hK : K (.ret d []) pre)
    (h : ∀ (E : Env) (N : Nat → Option Ob) (w : World) (a : Act), Inv E N w → There N pre → RelO fr E a o → ∃ v E' w', (execOp a.eval o).run P w = .ok (.value v) w' ∧ Step E E' (fun _ => False) w w' ∧ Inv E' N w' ∧ (∀ j, E'.blk j = E.blk j ∧ E'.hdr j = E.hdr j) ∧ rel d E' v) : Sound P fr M news o K := by
  refine ⟨.ret d [], pre, fun E N w a Q hi hN _ hr => ?_, hp, hK⟩
  obtain ⟨v, E', w', h1, h2, h3, h4, h5⟩ := h E N w a hi hN hr
  show o.wp P a w _ Q
  unfold Oper.wp
  rw [h1]
  exact ⟨v, E', rfl, ⟨h2.mono fun _ h => h.elim, h3, fun j _ => h4 j, fun _ h => (by cases h)⟩, h5⟩
def cellsOf : D → List D
  | .agg cs => cs
  | d => [d]
def isOne : D → Bool
  | .bot => false
  | .agg _ => false
  | .tup _ => false
  | .v x => x.oneCell'
  | _ => true
def allOne : List D → Bool
  | [] => true
  | d :: ds => match isOne d with | true => allOne ds | false => false
def aggOne : D → Bool
  | .agg cs => allOne cs
  | d => isOne d
theorem isOne_rel {d : D} {E : Env} {v : Value} (h : isOne d = true) (hr : rel d E v) : v.oneCell' = true := by
  cases d with
  | v x => obtain rfl : v = x := hr; exact h
  | list s xs => obtain ⟨a, cap, rfl, _⟩ := hr; rfl
  | ptr cs => obtain ⟨b, o, rfl, _⟩ := hr; rfl
  | ref i o => obtain ⟨b, _, rfl⟩ := hr; rfl
  | sl i s n => obtain ⟨b, _, rfl⟩ := hr; rfl
  | row i n => exact hr.2
  | fn f cs => obtain ⟨vs, rfl, _⟩ := hr; rfl
  | iface t d => obtain ⟨x, rfl, _⟩ := hr; rfl
  | rp id n s j o => obtain ⟨b, _, rfl⟩ := hr; rfl
  | mp id => obtain ⟨b, _, rfl⟩ := hr; rfl
  | _ => simp [isOne] at h
theorem cells_one {v : Value} (h : v.oneCell' = true) : v.cells = #[v] := by cases v <;> first | rfl | simp [Value.oneCell'] at h
theorem cellsOf_rel {d : D} {E : Env} {v : Value} (h : aggOne d = true) (hr : rel d E v) : rels (cellsOf d) E v.cells.toList ∧ (∀ u ∈ v.cells.toList, u.oneCell' = true) := by
  have one : isOne d = true → cellsOf d = [d] → rels (cellsOf d) E v.cells.toList ∧ (∀ u ∈ v.cells.toList, u.oneCell' = true) := by
    intro h1 h2
    have := isOne_rel h1 hr
    rw [h2, cells_one this]
    exact ⟨⟨v, [], rfl, hr, rfl⟩, fun u hu => by simp at hu; subst hu; exact this⟩
  cases d with
  | agg cs =>
    obtain ⟨vs, rfl, h2⟩ := hr
    refine ⟨by simpa [cellsOf, Value.cells] using h2, fun u hu => ?_⟩
    have key : ∀ (cs : List D) (vs : List Value), allOne cs = true → rels cs E vs → ∀ u ∈ vs, u.oneCell' = true := by
      intro cs
      induction cs with
      | nil => intro vs _ h; cases h; simp
      | cons c cs ih =>
        intro vs ha hr
        obtain ⟨x, ws, rfl, h3, h4⟩ := hr
        simp only [allOne] at ha
        split at ha
        · rename_i ho
          intro u hu
          simp at hu
          rcases hu with rfl | hu
          · exact isOne_rel ho h3
          · exact ih ws ha h4 u hu
        · cases ha
    exact key cs vs h h2 u (by simpa [Value.cells] using hu)
  | bot => simp [aggOne, isOne] at h
  | tup cs => simp [aggOne, isOne] at h
  | _ => exact one (by simpa [aggOne] using h) rfl
end
end Go.Dm
namespace Go.Dm
def splice {α : Type} (l : List α) (o : Nat) (vs : List α) : List α := l.take o ++ (vs ++ l.drop (o + vs.length))
theorem splice_length {α : Type} {l : List α} {o : Nat} {vs : List α} (h : o + vs.length ≤ l.length) : (splice l o vs).length = l.length := by
  simp [splice]; omega
theorem splice_get {α : Type} {l : List α} {o : Nat} {vs : List α} (h : o + vs.length ≤ l.length) (i : Nat) :
    (splice l o vs)[i]? = if o ≤ i ∧ i < o + vs.length then vs[i - o]? else l[i]? := by
  unfold splice
  have hto : (l.take o).length = o := by simp; omega
  by_cases h1 : i < o
  · rw [List.getElem?_append_left (by omega), if_neg (by omega), List.getElem?_take_of_lt h1]
  · rw [List.getElem?_append_right (by omega), hto]
    by_cases h2 : i < o + vs.length
    · rw [List.getElem?_append_left (by omega), if_pos (by omega)]
    · rw [List.getElem?_append_right (by omega), if_neg (by omega), List.getElem?_drop]
      congr 1; omega
theorem rels_append {E : Env} : ∀ {a b : List D} {u v : List Value}, rels a E u → rels b E v → rels (a ++ b) E (u ++ v)
  | [], _, _, _, h, k => by cases h; exact k
  | d :: a, _, _, _, ⟨x, ws, h1, h2, h3⟩, k => by subst h1; exact ⟨x, ws ++ _, rfl, h2, rels_append h3 k⟩
theorem rels_splice {E : Env} {ds cs : List D} {us vs : List Value} (h : rels ds E us) (k : rels cs E vs) (o : Nat) : rels (splice ds o cs) E (splice us o vs) := by
  unfold splice
  rw [rels_length k]
  exact rels_append (rels_take o h) (rels_append k (rels_drop _ h))
theorem run_storeCells {P : Program} {b o : Nat} {T : TypeId} : ∀ (vs : List Value) (i : Nat) (w : World) (c : Array Value), w.heap[b]? = some (.cells c T (0, 0)) → o + i + vs.length ≤ c.size → (∀ v ∈ vs, v.oneCell' = true) →
    ∃ w' c', (storeCells ⟨b, o, none⟩ vs i).run P w = .ok () w' ∧ w'.heap[b]? = some (.cells c' T (0, 0)) ∧ c'.toList = splice c.toList (o + i) vs ∧ w'.heap.size = w.heap.size ∧ (∀ k, k ≠ b → w'.heap[k]? = w.heap[k]?) ∧
      w'.os = w.os ∧ w'.tape = w.tape ∧ w'.output = w.output
  | [], i, w, c, h, _, _ => ⟨w, c, rfl, h, by simp [splice], rfl, fun _ _ => rfl, rfl, rfl, rfl⟩
  | v :: vs, i, w, c, h, hl, h1 => by
    have hv := h1 v (by simp)
    have hlt : o + i < c.size := by simp at hl; omega
    have hc : w.cell? ⟨b, o + i, none⟩ = some c[o + i] := by simp [World.cell?, h, hlt]
    have hf : w.frozen? ⟨b, o + i, none⟩ = false := by simp [World.frozen?, h]
    have hw : (w.setCell ⟨b, o + i, none⟩ v).heap[b]? = some (.cells (c.setIfInBounds (o + i) v) T (0, 0)) := by
      simp [World.setCell, Array.getElem?_modify, h]
    obtain ⟨w', c', e1, e2, e3, e4, e5, e6, e7, e8⟩ := run_storeCells (o := o) vs (i + 1) _ _ hw (by simp at hl ⊢; omega) fun u hu => h1 u (by simp [hu])
    refine ⟨w', c', ?_, e2, ?_, by rw [e4]; simp [World.setCell], fun k hk => ?_, e6, e7, e8⟩
    · unfold storeCells
      rw [Sem.run_bind, add_plain, run_store P w _ v .plain hv, hc, hf]
      simpa using e1
    · rw [e3]
      apply List.ext_getElem?
      intro j
      have hl1 : o + i + (v :: vs).length ≤ c.toList.length := by simpa using hl
      have hl2 : o + (i + 1) + vs.length ≤ (c.setIfInBounds (o + i) v).toList.length := by simp at hl ⊢; omega
      rw [splice_get hl1, splice_get hl2]
      simp only [List.length_cons]
      by_cases hj1 : j = o + i
      · subst hj1
        rw [if_neg (by omega), if_pos (by omega)]
        simp [hlt]
      · by_cases hj2 : o + i ≤ j ∧ j < o + i + (vs.length + 1)
        · rw [if_pos hj2, if_pos (by omega)]
          have : j - (o + i) = (j - (o + (i + 1))) + 1 := by omega
          rw [this, List.getElem?_cons_succ]
        · rw [if_neg hj2, if_neg (by omega)]
          simp [List.getElem?_set]
          intro h; omega
    · rw [e5 k hk]
      simp [World.setCell, Array.getElem?_modify]
      intro h; exact absurd h.symm hk
theorem foldl_set : ∀ (vs : List Value) (k off : Nat) (c : Array Value), off + k + vs.length ≤ c.size →
    ((vs.zipIdx k).foldl (fun cs (p : Value × Nat) => cs.setIfInBounds (off + p.2) p.1) c).toList = splice c.toList (off + k) vs
  | [], k, off, c, _ => by simp [splice]
  | v :: vs, k, off, c, hl => by
    simp only [List.zipIdx_cons, List.foldl_cons]
    rw [foldl_set vs (k + 1) off _ (by simp at hl ⊢; omega)]
    apply List.ext_getElem?
    intro j
    have hl1 : off + k + (v :: vs).length ≤ c.toList.length := by simpa using hl
    have hl2 : off + (k + 1) + vs.length ≤ (c.setIfInBounds (off + k) v).toList.length := by simp at hl ⊢; omega
    rw [splice_get hl1, splice_get hl2]
    simp only [List.length_cons]
    by_cases hj1 : j = off + k
    · subst hj1
      rw [if_neg (by omega), if_pos (by omega)]
      have : off + k < c.size := by simp at hl; omega
      simp [this]
    · by_cases hj2 : off + k ≤ j ∧ j < off + k + (vs.length + 1)
      · rw [if_pos hj2, if_pos (by omega)]
        have : j - (off + k) = (j - (off + (k + 1))) + 1 := by omega
        rw [this, List.getElem?_cons_succ]
      · rw [if_neg hj2, if_neg (by omega)]
        simp [List.getElem?_set]
        intro h; omega
theorem fill_one {place : Nat → Option (Nat × Nat)} {cells : Array Value} {i off size : Nat} {v : Value} {rest : List (Nat × Value)} (hp : place i = some (off, size)) (hs : v.cells.size = size) (hl : off + size ≤ cells.size) :
    ∃ c', Instr.fill place cells ((i, v) :: rest) = Instr.fill place c' rest ∧ c'.toList = splice cells.toList off v.cells.toList ∧ c'.size = cells.size := by
  refine ⟨v.cells.zipIdx.foldl (fun cs (c, j) => cs.setIfInBounds (off + j) c) cells, ?_, ?_, ?_⟩
  · simp only [Instr.fill, hp]
    rw [if_neg (by simp [hs]; omega)]
  · have := foldl_set v.cells.toList 0 off cells (by simp; omega)
    rw [← Array.foldl_toList]
    simpa [Array.toList_zipIdx] using this
  · have h := foldl_set v.cells.toList 0 off cells (by simp; omega)
    have h2 : (v.cells.zipIdx.foldl (fun cs (p : Value × Nat) => cs.setIfInBounds (off + p.2) p.1) cells).toList = splice cells.toList off v.cells.toList := by
      rw [← Array.foldl_toList]
      simpa [Array.toList_zipIdx] using h
    have h3 := congrArg List.length h2
    rw [splice_length (by simp; omega)] at h3
    simpa using h3
end Go.Dm
namespace Go.Dm
section
variable {P : Program} {L : List Ty} {fr : Fr} {M : Mem} {news : List Nat} {K : Kont} {dst : Option Tmp} {ty : TypeId} {pos : String} {after : Array Edge} {guard : Option (Nat × Bool)}
def wBox (M : Mem) (fr : Fr) (x : Operand) (K : Kont) : Prop :=
  match purify M (ev fr x) with
  | some (d, pre) => match aggOne d with
    | true => K (.ret (.ptr (cellsOf d)) []) pre
    | false => False
  | none => False
theorem sound_box {t : TypeId} {x : Operand} (h : wBox M fr x K) : Sound P fr M news ⟨dst, .box t x, ty, pos, after, guard⟩ K := by
  have hx : ∀ {E : Env} {a : Act}, RelO fr E a ⟨dst, .box t x, ty, pos, after, guard⟩ → rel (ev fr x) E (a.eval x) := fun hr => rel_ev hr (by simp [Op.operands])
  unfold wBox at h
  split at h
  · rename_i d pre hp
    split at h
    · rename_i ho
      obtain ⟨h1, h2⟩ := purify_rel _ hp
      refine .new h1 h fun E N w a hi hN hr => ?_
      have h3 := h2 E N w _ hi hN (hx hr)
      obtain ⟨h4, h5⟩ := cellsOf_rel ho h3
      obtain ⟨h6, h7, h8⟩ := new_im hi t (a.eval x).cells (0, 0) (a.eval x).cells.toList (fun k hk => by simp)
      exact ⟨_, _, _, rfl, h6, h7, fun j => ⟨rfl, rfl⟩, _, 0, rfl, h8 _ h4⟩
    · exact h.elim
  · exact h.elim
def litRows (M : Mem) (fr : Fr) (s : Nat) : Nat → List (Nat × Operand) → Option (List (List D) × List (Nat × Ob))
  | _, [] => some ([], [])
  | k, (i, x) :: r => match Nat.beq i k with
    | true => match purify M (ev fr x) with
      | some (d, p) => match aggOne d with
        | true => match Nat.beq (cellsOf d).length s with
          | true => match litRows M fr s (k + 1) r with
            | some (rs, q) => some (cellsOf d :: rs, p ++ q)
            | none => none
          | false => none
        | false => none
      | none => none
    | false => none
def wBuildSlice (L : List Ty) (M : Mem) (fr : Fr) (t : TypeId) (n : Nat) (parts : Array (Nat × Operand)) (K : Kont) : Prop :=
  match nth L t with
  | some ⟨.slice e, _, _, _⟩ => match nth L e with
    | some ⟨_, s, _, _ :: _⟩ => match litRows M fr s 0 parts.toList with
      | some (rs, pre) => match Nat.beq rs.length n with
        | true => n * s ≤ 16777216 ∧ K (.ret (.list s rs) []) pre
        | false => False
      | none => False
    | _ => False
  | _ => False
theorem relRow_of {E : Env} {s b : Nat} : ∀ {rs : List (List D)} {vs : List Value} {o : Nat}, (∀ r ∈ rs, r.length = s) → rels rs.flatten E vs → (∀ k, k < vs.length → E.im b (o + k) = vs[k]?) → relRow rs E s b o
  | [], _, _, _, _, _ => trivial
  | r :: rs, vs, o, hl, hr, h => by
    have hlen := rels_length hr
    have h1 := rels_take r.length hr
    have h2 := rels_drop r.length hr
    simp only [List.flatten_cons, List.take_left, List.drop_left] at h1 h2
    refine ⟨⟨hl r (by simp), relCells_of h1 fun k hk => ?_⟩, ?_⟩
    · rw [h k (by simp at hk; omega), List.getElem?_take_of_lt (by simp at hk; omega)]
    · rw [← hl r (by simp)]
      refine relRow_of (s := r.length) (fun x hx => ?_) h2 fun k hk => ?_
      · rw [hl x (by simp [hx]), hl r (by simp)]
      · rw [Nat.add_assoc, h _ (by simp at hk; omega), List.getElem?_drop]
theorem litRows_fill {s n : Nat} (hs : s ≠ 0) : ∀ (parts : List (Nat × Operand)) (k : Nat) {rs : List (List D)} {pre : List (Nat × Ob)}, litRows M fr s k parts = some (rs, pre) → There (get M) pre ∧ rs.length = parts.length ∧ (∀ r ∈ rs, r.length = s) ∧
    ∀ (E : Env) (N : Nat → Option Ob) (w : World) (a : Act) (c : Array Value), Inv E N w → There N pre → (∀ p ∈ parts, rel (ev fr p.2) E (a.eval p.2)) → c.size = n * s → k + parts.length = n →
      ∃ c' vs, Instr.fill (fun i => some (i * s, s)) c (parts.map fun p => (p.1, a.eval p.2)) = some c' ∧ rels rs.flatten E.pure vs ∧ c'.toList = c.toList.take (k * s) ++ vs ∧ c'.size = c.size
  | [], k, rs, pre, h => by
    simp [litRows] at h
    obtain ⟨rfl, rfl⟩ := h
    refine ⟨fun _ h => (by cases h), rfl, fun _ h => (by cases h), fun E N w a c _ _ _ hc hk => ⟨c, [], rfl, rfl, ?_, rfl⟩⟩
    simp only [List.append_nil]
    rw [List.take_of_length_le]
    simp at hk; subst hk; simp [hc]
  | (i, x) :: r, k, rs, pre, h => by
    simp only [litRows] at h
    split at h
    · rename_i hik
      have := beq_eq hik; subst this
      split at h
      · rename_i d p hp
        split at h
        · rename_i ho
          split at h
          · rename_i hds
            split at h
            · rename_i rs' q hq
              simp at h
              obtain ⟨rfl, rfl⟩ := h
              obtain ⟨h1, h2⟩ := purify_rel _ hp
              obtain ⟨h3, h4, h5, h6⟩ := litRows_fill (n := n) hs r (i + 1) hq
              have hlen := beq_eq hds
              refine ⟨h1.app h3, by simp [h4], fun r hr => (by simp at hr; rcases hr with rfl | hr; exact hlen; exact h5 _ hr), fun E N w a c hi hN hr hc hk => ?_⟩
              have h7 := h2 E N w _ hi hN.append.1 (hr (i, x) (by simp))
              obtain ⟨h8, h9⟩ := cellsOf_rel ho h7
              have hsz : (a.eval x).cells.size = s := by have := rels_length h8; simp at this; omega
              have hbound : i * s + s ≤ c.size := by
                rw [hc]
                simp at hk
                have : (i + 1) * s ≤ n * s := Nat.mul_le_mul_right _ (by omega)
                rw [Nat.add_mul] at this; omega
              obtain ⟨c1, e1, e2, e3⟩ := fill_one (place := fun i => some (i * s, s)) (cells := c) (i := i) (v := a.eval x) (rest := r.map fun p => (p.1, a.eval p.2)) rfl hsz hbound
              obtain ⟨c', vs, e4, e5, e6, e7⟩ := h6 E N w a c1 hi hN.append.2 (fun p hp => hr p (by simp [hp])) (by omega) (by simp at hk; omega)
              refine ⟨c', (a.eval x).cells.toList ++ vs, by simp only [List.map_cons]; rw [e1]; exact e4, ?_, ?_, by omega⟩
              · simp only [List.flatten_cons]; exact rels_append h8 e5
              · rw [e6, e2]
                have e9 : (i + 1) * s = i * s + s := by rw [Nat.add_mul]; omega
                rw [e9]
                unfold splice
                have hto : (c.toList.take (i * s)).length = i * s := by simp; omega
                rw [List.take_append, hto, List.take_of_length_le (by rw [hto]; omega), List.append_assoc]
                congr 1
                rw [show i * s + s - i * s = s from by omega, List.take_append, List.take_of_length_le (by simp; omega)]
                simp [hsz]
            · cases h
          · cases h
        · cases h
      · cases h
    · cases h
theorem sound_buildSlice {t : TypeId} {n : Nat} {parts : Array (Nat × Operand)} (hL : TyOK P L) (h : wBuildSlice L M fr t n parts K) : Sound P fr M news ⟨dst, .buildSlice t n parts, ty, pos, after, guard⟩ K := by
  unfold wBuildSlice at h
  split at h
  · rename_i e _ _ _ ht
    split at h
    · rename_i k s by' z0 zr he
      split at h
      · rename_i rs pre hrs
        split at h
        · rename_i hn
          have hn' := beq_eq hn
          obtain ⟨hb, hK⟩ := h
          have hzz : (Ty.mk k s by' (z0 :: zr)).zero ≠ [] := by simp
          obtain ⟨d0, i0, _, _, _, _, _, hz⟩ := hL e _ he
          have hs0 : s = zr.length + 1 := by have := (hz hzz).2; simp at this; omega
          obtain ⟨h1, h2, h3, h4⟩ := litRows_fill (n := n) (by omega) parts.toList 0 hrs
          refine .new h1 hK fun E N w a hi hN hr => ?_
          have hro : ∀ p ∈ parts.toList, rel (ev fr p.2) E (a.eval p.2) := fun p hp => rel_ev hr (by simp [Op.operands]; exact ⟨p.1, by simpa using hp⟩)
          have fin : ∀ z : Array Value, ∃ c' vs, Instr.fill (fun i => some (i * s, s)) ((Array.range (n * s)).map (z[· % z.size]!)) (parts.map fun (i, x) => (i, a.eval x)).toList = some c' ∧ rels rs.flatten E.pure vs ∧ c'.toList = vs := by
            intro z
            obtain ⟨c', vs, f1, f2, f3, f4⟩ := h4 E N w a ((Array.range (n * s)).map (z[· % z.size]!)) hi hN hro (by simp) (by simp [← h2, hn'])
            exact ⟨c', vs, by rw [Array.toList_map]; exact f1, f2, by rw [f3]; simp⟩
          have fin2 : ∀ (c' : Array Value) (vs : List Value), rels rs.flatten E.pure vs → c'.toList = vs →
              ∃ v E' w', v = .slice (some ⟨w.heap.size, 0, none⟩) n n ∧ w' = w.alloc (.cells c' e) ∧ Step E E' (fun _ => False) w w' ∧ Inv E' N w' ∧ (∀ j, E'.blk j = E.blk j ∧ E'.hdr j = E.hdr j) ∧ rel (.list s rs) E' v := by
            intro c' vs f2 f3
            obtain ⟨g1, g2, g3⟩ := new_im hi e c' (0, 0) vs (fun k hk => by rw [← Array.getElem?_toList, f3])
            refine ⟨_, _, _, rfl, rfl, g1, g2, fun j => ⟨rfl, rfl⟩, some ⟨w.heap.size, 0, none⟩, n, by rw [hn'], by omega, fun _ => ⟨w.heap.size, 0, rfl, ?_⟩⟩
            exact relRow_of h3 (rels_mono _ g1.le.pure f2) fun k hk => by simp [Env.pure, Env.add]
          have hsz := size_run (w := w) hL he
          by_cases h0 : n * s = 0
          · obtain ⟨c', vs, f1, f2, f3⟩ := fin #[]
            obtain ⟨v, E', w', rfl, rfl, q⟩ := fin2 c' vs f2 f3
            refine ⟨_, E', _, ?_, q⟩
            simp only [execOp, Instr.buildSlice, Sem.run_bind, slice_run hL ht rfl, Result.andThen_ok, hsz]
            rw [if_neg (by omega), if_pos h0]
            simp only [Sem.run_bind, Sem.run_pure, Result.andThen_ok, f1]
            rfl
          · obtain ⟨c', vs, f1, f2, f3⟩ := fin (if (Ty.mk k s by' (z0 :: zr)).k.agg then Value.agg (z0 :: zr).toArray else z0).cells
            obtain ⟨v, E', w', rfl, rfl, q⟩ := fin2 c' vs f2 f3
            refine ⟨_, E', _, ?_, q⟩
            have hz0 := zero_run (w := w) hL he hzz
            simp only [execOp, Instr.buildSlice, Sem.run_bind, slice_run hL ht rfl, Result.andThen_ok, hsz]
            rw [if_neg (by omega), if_neg h0]
            simp only [Sem.run_bind, Sem.run_pure, Result.andThen_ok, hz0]
            have f1' := f1
            simp only [List.headD_cons] at f1' ⊢
            rw [f1']
            rfl
        · exact h.elim
      · exact h.elim
    · exact h.elim
  · exact h.elim
end
end Go.Dm
namespace Go.Dm
theorem Inv.heap {E : Env} {N : Nat → Option Ob} {w w' : World} (h : Inv E N w) (e : w'.heap = w.heap) : Inv E N w' := by
  refine ⟨fun b o v hv => ?_, fun id x hx => ?_, h.sep, h.gl⟩
  · exact (cell_same (by rw [e])).trans (h.im b o v hv)
  · have := h.ob id x hx
    cases x with
    | cells ds => simp only [ObOK] at this ⊢; rw [e]; exact this
    | row et s xs => simp only [ObOK] at this ⊢; rw [e]; exact this
    | dead => trivial
    | mrow et s v xs => simp only [ObOK] at this ⊢; rw [e]; exact this
    | mp l => simp only [ObOK] at this ⊢; rw [e]; exact this
    | tc T ds => simp only [ObOK] at this ⊢; rw [e]; exact this
theorem Step.heap {E : Env} {own : Nat → Prop} {w w' : World} (e : w'.heap = w.heap) (h1 : w'.os = w.os) (h2 : w'.tape = w.tape) (h3 : w'.output = w.output) : Step E E own w w' :=
  ⟨.refl E, by rw [e]; exact Nat.le_refl _, fun _ _ _ => by rw [e], fun _ _ _ h => .inl h, h1, h2, h3⟩
def byD (l : List UInt8) : List (List D) := l.map fun c => [.v (.int .u8 c.toNat)]
theorem byD_length (l : List UInt8) : (byD l).length = l.length := by simp [byD]
theorem byD_one (l : List UInt8) : ∀ r ∈ byD l, r.length = 1 := by simp [byD]
theorem byD_rels (E : Env) (l : List UInt8) : rels (byD l).flatten E (l.map fun c => Value.int .u8 c.toNat) := by
  induction l with
  | nil => rfl
  | cons c l ih => exact ⟨_, _, rfl, rfl, ih⟩
theorem relRow_byD {E : Env} {b : Nat} : ∀ {l : List UInt8} {o : Nat}, relRow (byD l) E 1 b o → ∀ i, i < l.length → E.im b (o + i) = some (.int .u8 ((l.map fun c => (c.toNat : Int)).getD i 0))
  | [], o, _, i, h => absurd h (by simp)
  | c :: l, o, h, 0, _ => by
    obtain ⟨⟨_, ⟨v, h1, h2⟩, _⟩, _⟩ := h
    obtain rfl : v = _ := h2
    simpa using h1
  | c :: l, o, h, i + 1, hi => by
    have := relRow_byD h.2 i (by simpa using hi)
    simpa [Nat.add_assoc, Nat.add_comm 1 i] using this
section
variable {P : Program} {L : List Ty} {fr : Fr} {M : Mem} {news : List Nat} {K : Kont} {dst : Option Tmp} {ty : TypeId} {pos : String} {after : Array Edge} {guard : Option (Nat × Bool)}
structure StrG (xs : List (List D)) (pre : List (Nat × Ob)) (K : Kont) : Prop where
  ex : ∃ l : List UInt8, xs = byD l ∧ K (.ret (.v (.string ⟨l.toArray⟩)) []) pre
theorem StrG.to {xs : List (List D)} {pre : List (Nat × Ob)} {K : Kont} (l : List UInt8) (e : xs = byD l) (h : K (.ret (.v (.string ⟨l.toArray⟩)) []) pre) : StrG xs pre K := ⟨l, e, h⟩
structure FltG (P : Program) (dst : TypeId) (n : Int) (K : Kont) : Prop where
  ty : P.underlying dst = some (.float .f64)
  kv : KV K (.float .f64 (FloatKind.f64.nearest n))
theorem FltG.to {P : Program} {dst : TypeId} {n : Int} {K : Kont} (x : Nat) (h : P.underlying dst = some (.float .f64)) (e : FloatKind.f64.nearest n = x) (hK : KV K (.float .f64 x)) : FltG P dst n K := ⟨h, by subst e; exact hK⟩
def wConvert (P : Program) (L : List Ty) (fr : Fr) (M : Mem) (src dst : TypeId) (x : Operand) (K : Kont) : Prop :=
  match nth L src, nth L dst with
  | some ⟨ks, _, _, _⟩, some ⟨kd, _, _, _⟩ => match kd, ev fr x with
    | .int k, .v (.int _ n) => KI K k (k.wrap n)
    | .flt, .v (.int _ n) => FltG P dst n K
    | .str, .v (.string s) => KV K (.string s)
    | .slice e, .v (.string s) => match nth L e with
      | some ⟨.int .u8, _, _, _⟩ => K (.ret (.list 1 (byD s.data.toList)) []) []
      | _ => False
    | .str, d => match ks with
      | .slice e => match nth L e with
        | some ⟨.int .u8, _, _, _⟩ => match rowOf M 1 d with
          | some (xs, pre) => StrG xs pre K
          | none => False
        | _ => False
      | _ => False
    | _, _ => False
  | _, _ => False
theorem run_intTo {src dst : TypeId} {ks kd : Ty} {w : World} {k q : IntKind} {n : Int} (hL : TyOK P L) (hs : nth L src = some ks) (hd : nth L dst = some kd) (hk : kd.k = .int k) : (convert src dst (.int q n)).run P w = .ok (.int k (k.wrap n)) w := by
  obtain ⟨d, i, h1, _⟩ := ty_run (w := w) hL hs
  unfold convert
  rw [Sem.run_bind, h1]
  simp only [Result.andThen_ok]
  rw [Sem.run_bind, int_run hL hd hk]
  rfl
theorem run_strTo {src dst : TypeId} {ks kd : Ty} {w : World} {s : ByteArray} (hL : TyOK P L) (hs : nth L src = some ks) (hd : nth L dst = some kd) (hk : kd.k = .str) : (convert src dst (.string s)).run P w = .ok (.string s) w := by
  obtain ⟨d, i, h1, _⟩ := ty_run (w := w) hL hs
  unfold convert
  rw [Sem.run_bind, h1]
  simp only [Result.andThen_ok]
  rw [Sem.run_bind, str_run hL hd hk]
  rfl
theorem under_slice {t : TypeId} {x : Ty} {e : TypeId} (hL : TyOK P L) (ht : nth L t = some x) (hk : x.k = .slice e) : P.underlying t = some (.slice e) := by
  obtain ⟨d, i, h1, _, h3, _⟩ := hL t x ht
  rw [hk] at h3; rw [h1]
  cases d <;> simp [tkOf] at h3
  subst h3; rfl
theorem under_int {t : TypeId} {x : Ty} {k : IntKind} (hL : TyOK P L) (ht : nth L t = some x) (hk : x.k = .int k) : P.underlying t = some (.int k) := by
  obtain ⟨d, i, h1, _, h3, _⟩ := hL t x ht
  rw [hk] at h3; rw [h1]
  cases d <;> simp [tkOf] at h3
  subst h3; rfl
theorem under_str {t : TypeId} {x : Ty} (hL : TyOK P L) (ht : nth L t = some x) (hk : x.k = .str) : P.underlying t = some .string := by
  obtain ⟨d, i, h1, _, h3, _⟩ := hL t x ht
  rw [hk] at h3; rw [h1]
  cases d <;> simp [tkOf] at h3
  rfl
theorem freeze_new (w : World) (c : Array Value) (e : TypeId) (n : Nat) : (w.alloc (.cells c e)).freeze { block := w.heap.size, off := n } 1 = w.alloc (.cells c e (n, n + 1)) := by
  unfold World.freeze World.alloc
  simp only [Nat.succ_ne_zero, if_false]
  congr 1
  apply Array.ext_getElem?
  intro i
  simp only [Array.getElem?_modify, Array.getElem?_push]
  by_cases h : i = w.heap.size
  · subst h; simp
  · simp [h]; intro h'; exact absurd h'.symm h
theorem run_bytesTo {src dst e : TypeId} {ks kd ke : Ty} {w : World} {s : ByteArray} (hL : TyOK P L) (hs : nth L src = some ks) (hd : nth L dst = some kd) (hk : kd.k = .slice e) (he : nth L e = some ke) (hke : ke.k = .int .u8) :
    ∃ cap r, s.size ≤ cap ∧ (convert src dst (.string s)).run P w = .ok (.slice (some ⟨w.heap.size, 0, none⟩) s.size cap) (({ w with drawn := w.drawn + 1 } : World).alloc (.cells (s.data.map (fun b => Value.int .u8 b.toNat) ++ r) e (s.size + r.size, s.size + r.size + 1))) := by
  obtain ⟨d, i, h1, _⟩ := ty_run (w := w) hL hs
  have h2 := slice_run (w := w) hL hd hk
  have h3 := int_run (w := w) hL he hke
  have hcap : s.size ≤ (Question.appendCap s.size 0 e).cut (w.tape w.drawn (.appendCap s.size 0 e)) := by simp [Question.cut]
  refine ⟨_, Array.replicate ((Question.appendCap s.size 0 e).cut (w.tape w.drawn (.appendCap s.size 0 e)) - s.size) (.int .u8 0), hcap, ?_⟩
  unfold convert
  rw [Sem.run_bind, h1]
  simp only [Result.andThen_ok]
  rw [Sem.run_bind, h2]
  simp only [Result.andThen_ok]
  have key : (Conv.stringToBytes e s).run P w = .ok (.slice (some ⟨w.heap.size, 0, none⟩) s.size ((Question.appendCap s.size 0 e).cut (w.tape w.drawn (.appendCap s.size 0 e)))) (({ w with drawn := w.drawn + 1 } : World).alloc (.cells (s.data.map (fun b => Value.int .u8 b.toNat) ++ Array.replicate ((Question.appendCap s.size 0 e).cut (w.tape w.drawn (.appendCap s.size 0 e)) - s.size) (.int .u8 0)) e (s.size + (Array.replicate ((Question.appendCap s.size 0 e).cut (w.tape w.drawn (.appendCap s.size 0 e)) - s.size) (Value.int .u8 0)).size, s.size + (Array.replicate ((Question.appendCap s.size 0 e).cut (w.tape w.drawn (.appendCap s.size 0 e)) - s.size) (Value.int .u8 0)).size + 1))) := by
    unfold Conv.stringToBytes
    rw [Sem.run_bind, run_choose]
    simp only [Question.forced, Bool.false_eq_true, if_false, Result.andThen_ok]
    rw [Sem.run_bind, run_newRow]
    simp only [Result.andThen_ok]
    rw [Sem.run_bind]
    unfold markStringish
    rw [Sem.run_bind, run_shape]
    simp only [Result.andThen_ok, World.shape?, heap_alloc_new]
    rw [run_freeze]
    simp only [Result.andThen_ok]
    rw [freeze_new]
    have hz : (s.data.map (fun b => Value.int .u8 b.toNat)).size = s.size := by simp
    simp [Array.size_append, hz]
  cases d <;> (simp only [Sem.run_bind, h3, Result.andThen_ok]; exact key)
theorem sound_convert {src dst' : TypeId} {x : Operand} (hL : TyOK P L) (h : wConvert P L fr M src dst' x K) : Sound P fr M news ⟨dst, .convert src dst' x, ty, pos, after, guard⟩ K := by
  have hx : ∀ {E : Env} {a : Act}, RelO fr E a ⟨dst, .convert src dst' x, ty, pos, after, guard⟩ → rel (ev fr x) E (a.eval x) := fun hr => rel_ev hr (by simp [Op.operands])
  unfold wConvert at h
  split at h
  · rename_i ks _ _ _ kd _ _ _ hs hd
    split at h
    · rename_i k q n ex
      refine .val h.kv fun E N w a hi hr => ⟨_, ?_, rfl⟩
      have h2 := hx hr; rw [ex] at h2
      have h2' : a.eval x = .int q n := h2
      simp [execOp, h2', run_intTo hL hs hd rfl]
    · rename_i q n ex
      obtain ⟨hk, hK⟩ := h
      refine .val hK fun E N w a hi hr => ⟨_, ?_, rfl⟩
      have h2 := hx hr; rw [ex] at h2
      have h2' : a.eval x = .int q n := h2
      obtain ⟨d, i, h1, _⟩ := ty_run (w := w) hL hs
      simp only [execOp, h2', Sem.run_bind]
      unfold convert
      rw [Sem.run_bind, h1]
      simp only [Result.andThen_ok]
      rw [Sem.run_bind]
      simp only [underlying, Sem.run_bind, run_program, Result.andThen_ok, hk]
      rfl
    · rename_i s ex
      refine .val h fun E N w a hi hr => ⟨_, ?_, rfl⟩
      have h2 := hx hr; rw [ex] at h2
      have h2' : a.eval x = .string s := h2
      simp [execOp, h2', run_strTo hL hs hd rfl]
    · rename_i e s ex
      split at h
      · rename_i _ _ _ he
        refine .new (fun _ h => (by cases h)) h fun E N w a hi hN hr => ?_
        have h2 := hx hr; rw [ex] at h2
        have h2' : a.eval x = .string s := h2
        obtain ⟨cap, r, h3, h4⟩ := run_bytesTo (w := w) (s := s) hL hs hd rfl he rfl
        have hi' := hi.heap (w' := { w with drawn := w.drawn + 1 }) rfl
        have hsz : s.data.toList.length = s.size := by simp
        obtain ⟨g1, g2, g3⟩ := new_im hi' e (s.data.map (fun b => Value.int .u8 b.toNat) ++ r) (s.size + r.size, s.size + r.size + 1) (s.data.toList.map fun c => Value.int .u8 c.toNat) (fun k hk => by
          have hk' : k < s.data.size := by simpa using hk
          rw [Array.getElem?_append_left (by simpa using hk')]; simp)
        have hrun : (execOp a.eval ⟨dst, .convert src dst' x, ty, pos, after, guard⟩).run P w = .ok (.value (.slice (some ⟨w.heap.size, 0, none⟩) s.size cap)) (({ w with drawn := w.drawn + 1 } : World).alloc (.cells (s.data.map (fun b => Value.int .u8 b.toNat) ++ r) e (s.size + r.size, s.size + r.size + 1))) := by
          simp only [execOp, h2', Sem.run_bind, h4, Result.andThen_ok]; rfl
        refine ⟨_, _, _, hrun, (Step.heap (w := w) (w' := { w with drawn := w.drawn + 1 }) rfl rfl rfl rfl).trans g1 (fun _ h => h.elim), g2, fun j => ⟨rfl, rfl⟩, some ⟨w.heap.size, 0, none⟩, cap, by rw [byD_length, hsz], by rw [byD_length, hsz]; exact h3, fun _ => ⟨w.heap.size, 0, rfl, ?_⟩⟩
        exact relRow_of (byD_one _) (byD_rels _ _) fun k hk => by simp [Env.pure, Env.add]
      · exact h.elim
    · rename_i d hne
      split at h
      · rename_i e
        split at h
        · rename_i _ _ _ he
          split at h
          · rename_i xs pre hrow
            obtain ⟨l, rfl, hK⟩ := h.ex
            obtain ⟨hp, hrel⟩ := rowOf_rel hrow
            refine ⟨.ret (.v (.string ⟨l.toArray⟩)) [], pre, lact_val fun E N w a hi hN hr => ⟨_, ?_, rfl⟩, hp, hK⟩
            obtain ⟨ad, cap, h1, h2, h3⟩ := hrel E N w _ hi hN (hx hr)
            cases l with
            | nil =>
              cases ad with
              | none => 
                have := run_convert_bytes_nil (P := P) w src e (under_slice hL hs rfl) (under_int hL he rfl) (byD []).length cap dst' (under_str hL hd rfl)
                simp [execOp, h1, this]; rfl
              | some ad =>
                obtain ⟨b, o, sp⟩ := ad
                have hb : (Conv.bytesToString (.slice (some ⟨b, o, sp⟩) 0 cap)).run P w = .ok (.string .empty) w := by
                  have := run_bytesToString (P := P) w ⟨b, o, sp⟩ 0 cap [] (by simp [loadCells, loadCellsFrom])
                  simpa using this
                have := run_convert_bytes_string (P := P) w src dst' e (some ⟨b, o, sp⟩) 0 cap (under_slice hL hs rfl) (under_int hL he rfl) (under_str hL hd rfl)
                rw [hb] at this
                simp [execOp, h1, byD, this]; rfl
            | cons c l =>
              obtain ⟨b, o, rfl, h5⟩ := h3 (by simp [byD])
              have h6 : ∀ i, i < (c :: l).length → w.cell? ⟨b, o + i, none⟩ = some (.int .u8 (((c :: l).map fun c => (c.toNat : Int)).getD i 0)) := fun i hi' => hi.im _ _ _ (relRow_byD h5 i hi')
              have := run_convert_bytes_arg (P := P) w src e (under_slice hL hs rfl) (under_int hL he rfl) b o (byD (c :: l)).length cap ((c :: l).map fun c => (c.toNat : Int)) (by simp [byD]) (fun i hi' => h6 i (by simpa [byD] using hi')) dst' (under_str hL hd rfl)
              simp only [execOp, h1]
              simp only [Sem.run_bind, this, Result.andThen_ok]
              have e1 : strOfNums ((c :: l).map fun c => (c.toNat : Int)) = ⟨(c :: l).toArray⟩ := by
                simp [strOfNums, List.map_map, Function.comp_def]
              rw [e1]; rfl
          · exact h.elim
        · exact h.elim
      · exact h.elim
    · exact h.elim
  · exact h.elim
end
end Go.Dm
namespace Go.Dm
theorem relRow_take {E : Env} {s b : Nat} : ∀ {xs : List (List D)} {o : Nat} (n : Nat), relRow xs E s b o → relRow (xs.take n) E s b o
  | [], _, n, _ => by simp [relRow]
  | x :: xs, _, 0, _ => trivial
  | x :: xs, _, n + 1, h => ⟨h.1, relRow_take n h.2⟩
theorem relRow_drop {E : Env} {s b : Nat} : ∀ {xs : List (List D)} {o : Nat} (n : Nat), relRow xs E s b o → relRow (xs.drop n) E s b (o + n * s)
  | [], _, n, _ => by simp [relRow]
  | x :: xs, _, 0, h => by simpa using h
  | x :: xs, o, n + 1, h => by
    have := relRow_drop n h.2
    have e : o + s + n * s = o + (n + 1) * s := by rw [Nat.add_mul]; omega
    rw [← e]; exact this
section
variable {P : Program} {L : List Ty} {fr : Fr} {M : Mem} {news : List Nat} {K : Kont} {dst : Option Tmp} {ty : TypeId} {pos : String} {after : Array Edge} {guard : Option (Nat × Bool)}
structure BndG (n : Int) (C : Nat → Prop) : Prop where
  ex : ∃ j : Nat, n = (j : Int) ∧ C j
theorem BndG.to {n : Int} {C : Nat → Prop} (j : Nat) (e : n = (j : Int)) (h : C j) : BndG n C := ⟨j, e, h⟩
structure CutS (s : ByteArray) (l h : Nat) (K : Kont) : Prop where
  ex : l ≤ h ∧ h ≤ s.size ∧ KV K (.string (s.extract l h))
theorem CutS.to {s : ByteArray} {l h : Nat} {K : Kont} (c : ByteArray) (h1 : l ≤ h) (h2 : h ≤ s.size) (e : s.extract l h = c) (hK : KV K (.string c)) : CutS s l h K := ⟨h1, h2, by subst e; exact hK⟩
structure CutL (s : Nat) (xs : List (List D)) (pre : List (Nat × Ob)) (l h : Nat) (K : Kont) : Prop where
  ex : l ≤ h ∧ h ≤ xs.length ∧ K (.ret (.list s ((xs.take h).drop l)) []) pre
theorem CutL.to {s : Nat} {xs : List (List D)} {pre : List (Nat × Ob)} {l h : Nat} {K : Kont} (ys : List (List D)) (h1 : l ≤ h) (h2 : h ≤ xs.length) (e : (xs.take h).drop l = ys) (hK : K (.ret (.list s ys) []) pre) : CutL s xs pre l h K := ⟨h1, h2, by subst e; exact hK⟩
def wBnd (fr : Fr) (o : Option Operand) (dflt : Nat) (C : Nat → Prop) : Prop :=
  match o with
  | none => C dflt
  | some x => match ev fr x with
    | .v (.int _ n) => BndG n C
    | _ => False
def IsBnd (fr : Fr) (o : Option Operand) (dflt n : Nat) : Prop :=
  match o with
  | none => n = dflt
  | some x => ∃ k, ev fr x = .v (.int k (n : Int))
theorem wBnd_some {o : Option Operand} {dflt : Nat} {C : Nat → Prop} (h : wBnd fr o dflt C) : ∃ n, IsBnd fr o dflt n ∧ C n := by
  unfold wBnd at h
  split at h
  · exact ⟨dflt, rfl, h⟩
  · split at h
    · rename_i k n e
      obtain ⟨j, rfl, hC⟩ := h.ex
      exact ⟨j, ⟨k, e⟩, hC⟩
    · exact h.elim
def wSlice (L : List Ty) (fr : Fr) (M : Mem) (t : TypeId) (x : Operand) (lo hi mx : Option Operand) (K : Kont) : Prop :=
  match mx with
  | some _ => False
  | none => match nth L t with
    | some ⟨.str, _, _, _⟩ => match ev fr x with
      | .v (.string s) => wBnd fr lo 0 fun l => wBnd fr hi s.size fun h => CutS s l h K
      | _ => False
    | some ⟨.slice e, _, _, _⟩ => match nth L e with
      | some ⟨_, s, _, _⟩ => match rowOf M s (ev fr x) with
        | some (xs, pre) => wBnd fr lo 0 fun l => wBnd fr hi xs.length fun h => CutL s xs pre l h K
        | none => False
      | none => False
    | _ => False
theorem run_bound {P : Program} {w : World} {k : IntKind} {j y : Nat} {c : BoundsCode} (h : j ≤ y) : (Instr.sliceBound (.int k (j : Int)) y c).run P w = .ok j w := by
  simp [Instr.sliceBound, asIntOf, h]
theorem isBnd_val {o : Option Operand} {dflt n : Nat} {E : Env} {a : Act} {op : Oper} (hr : RelO fr E a op) (hm : ∀ x, o = some x → x ∈ op.op.operands) (h : IsBnd fr o dflt n) :
    (o = none ∧ n = dflt) ∨ ∃ x k, o = some x ∧ a.eval x = .int k (n : Int) := by
  cases o with
  | none => exact .inl ⟨rfl, h⟩
  | some x =>
    obtain ⟨k, hk⟩ := h
    have := rel_ev hr (hm x rfl)
    rw [hk] at this
    exact .inr ⟨x, k, rfl, this⟩
theorem run_bounds {P : Program} {w : World} {isS : Bool} {len cap l h : Nat} {lo hi : Option Operand} {a : Act} (h1 : (lo = none ∧ l = 0) ∨ ∃ x k, lo = some x ∧ a.eval x = .int k (l : Int)) (h2 : (hi = none ∧ h = len) ∨ ∃ x k, hi = some x ∧ a.eval x = .int k (h : Int))
    (hl : l ≤ h) (hc : h ≤ cap) : (Instr.sliceBounds isS len cap (lo.map a.eval) (hi.map a.eval) none).run P w = .ok (l, h, cap) w := by
  unfold Instr.sliceBounds
  rcases h1 with ⟨rfl, rfl⟩ | ⟨x, k, rfl, hx⟩ <;> rcases h2 with ⟨rfl, rfl⟩ | ⟨y, q, rfl, hy⟩
  · simp
  · simp [hy, run_bound hc]
  · simp [hx, run_bound hl]
  · simp [hx, hy, run_bound hc, run_bound hl]
theorem sound_slice {t : TypeId} {x : Operand} {lo hi mx : Option Operand} (hL : TyOK P L) (h : wSlice L fr M t x lo hi mx K) : Sound P fr M news ⟨dst, .slice t x lo hi mx, ty, pos, after, guard⟩ K := by
  have hx : ∀ {E : Env} {a : Act}, RelO fr E a ⟨dst, .slice t x lo hi mx, ty, pos, after, guard⟩ → rel (ev fr x) E (a.eval x) := fun hr => rel_ev hr (by simp [Op.operands])
  unfold wSlice at h
  split at h
  · exact h.elim
  · split at h
    · rename_i ht
      split at h
      · rename_i s ex
        obtain ⟨l, hbl, h⟩ := wBnd_some h
        obtain ⟨u, hbu, h⟩ := wBnd_some h
        obtain ⟨h1, h2, hK⟩ := h.ex
        refine .val hK fun E N w a hi' hr => ⟨_, ?_, rfl⟩
        have h3 := hx hr; rw [ex] at h3
        have h3' : a.eval x = .string s := h3
        have hb := run_bounds (P := P) (w := w) (isS := false) (len := s.size) (cap := s.size) (a := a) (isBnd_val hr (by intro y hy; subst hy; simp [Op.operands]) hbl) (isBnd_val hr (by intro y hy; subst hy; simp [Op.operands]) hbu) h1 h2
        have hs := str_run (w := w) hL ht rfl
        simp only [execOp, Instr.sliceAt, h3', Sem.run_bind, hs, Result.andThen_ok]
        simp only [Instr.slice, Sem.run_bind, hs, Result.andThen_ok, Option.map_none, Option.isSome_none, Bool.false_eq_true, if_false, hb]
        rfl
      · exact h.elim
    · rename_i e _ _ _ ht
      split at h
      · rename_i kk s _ _ he
        split at h
        · rename_i xs pre hrow
          obtain ⟨hp, hrel⟩ := rowOf_rel hrow
          obtain ⟨l, hbl, h⟩ := wBnd_some h
          obtain ⟨u, hbu, h⟩ := wBnd_some h
          obtain ⟨h1, h2, hK⟩ := h.ex
          refine ⟨.ret (.list s ((xs.take u).drop l)) [], pre, lact_val fun E N w a hi' hN hr => ?_, hp, hK⟩
          obtain ⟨ad, cap, h3, h4, h5⟩ := hrel E N w _ hi' hN (hx hr)
          have hb := run_bounds (P := P) (w := w) (isS := true) (len := xs.length) (cap := cap) (a := a) (isBnd_val hr (by intro y hy; subst hy; simp [Op.operands]) hbl) (isBnd_val hr (by intro y hy; subst hy; simp [Op.operands]) hbu) h1 (by omega)
          have hs := slice_run (w := w) hL ht rfl
          have hz := size_run (w := w) hL he
          refine ⟨.slice (if cap = l then ad else ad.map (·.add (l * s))) (u - l) (cap - l), ?_, (if cap = l then ad else ad.map (·.add (l * s))), cap - l, by simp; omega, by simp; omega, fun hne => ?_⟩
          · simp only [execOp, Instr.sliceAt, h3, Sem.run_bind, hs, Result.andThen_ok]
            simp only [Instr.slice, Sem.run_bind, hs, Result.andThen_ok, Option.map_none, hb, hz]
            rfl
          · have hlu : l < u := by
              rcases Nat.lt_or_ge l u with h | h
              · exact h
              · exact absurd (by apply List.eq_nil_of_length_eq_zero; simp; omega) hne
            obtain ⟨b, o, rfl, h6⟩ := h5 (by intro h; subst h; simp at h2; omega)
            refine ⟨b, o + l * s, ?_, ?_⟩
            · rw [if_neg (by omega)]; simp [add_plain]
            · have h7 := relRow_drop l (relRow_take u h6)
              exact h7
        · exact h.elim
      · exact h.elim
    · exact h.elim
def partsIn (L : List Ty) (fr : Fr) (fs : List (Nat × TypeId)) : List (Nat × Operand) → List D → Option (List D)
  | [], ds => some ds
  | (i, x) :: r, ds => match nth fs i with
    | some (off, ft) => match nth L ft with
      | some ⟨_, n, _, _⟩ => match aggOne (ev fr x) with
        | true => match Nat.beq (cellsOf (ev fr x)).length n with
          | true => match Nat.ble (off + n) ds.length with
            | true => partsIn L fr fs r (splice ds off (cellsOf (ev fr x)))
            | false => none
          | false => none
        | false => none
      | none => none
    | none => none
def known (L : List Ty) : List (Nat × TypeId) → Bool
  | [] => true
  | (_, t) :: r => match nth L t with
    | some _ => known L r
    | none => false
def wBuild (L : List Ty) (fr : Fr) (t : TypeId) (parts : Array (Nat × Operand)) (K : Kont) : Prop :=
  match nth L t with
  | some ⟨.struct fs, _, _, z :: zs⟩ => match known L fs with
    | true => match partsIn L fr fs parts.toList ((z :: zs).map .v) with
      | some ds => K (.ret (.agg ds) []) []
      | none => False
    | false => False
  | _ => False
theorem partsIn_fill {fs : List (Nat × TypeId)} {place : Nat → Option (Nat × Nat)} (hpl : ∀ i off ft x, nth fs i = some (off, ft) → nth L ft = some x → place i = some (off, x.size)) {a : Act} {E : Env} :
    ∀ (parts : List (Nat × Operand)) {ds es : List D} (c : Array Value), partsIn L fr fs parts ds = some es → rels ds E c.toList → (∀ p ∈ parts, rel (ev fr p.2) E (a.eval p.2)) →
      ∃ c', Instr.fill place c (parts.map fun p => (p.1, a.eval p.2)) = some c' ∧ rels es E c'.toList
  | [], ds, es, c, h, hr, _ => by simp [partsIn] at h; subst h; exact ⟨c, rfl, hr⟩
  | (i, x) :: r, ds, es, c, h, hr, hp => by
    simp only [partsIn] at h
    split at h
    · rename_i off ft hf
      split at h
      · rename_i kk n _ _ hft
        split at h
        · rename_i ho
          split at h
          · rename_i hn
            split at h
            · rename_i hb
              have hn' := beq_eq hn
              have hb' : off + n ≤ ds.length := by simpa using hb
              obtain ⟨h1, _⟩ := cellsOf_rel ho (hp (i, x) (by simp))
              have hsz : (a.eval x).cells.size = n := by have := rels_length h1; simp at this; omega
              have hlen := rels_length hr
              obtain ⟨c1, e1, e2, e3⟩ := fill_one (place := place) (cells := c) (i := i) (v := a.eval x) (rest := r.map fun p => (p.1, a.eval p.2)) (hpl i off ft _ hf hft) hsz (by simp at hlen; simp; omega)
              obtain ⟨c', f1, f2⟩ := partsIn_fill hpl r c1 h (by rw [e2]; exact rels_splice hr h1 off) fun p hq => hp p (by simp [hq])
              exact ⟨c', by simp only [List.map_cons]; rw [e1]; exact f1, f2⟩
            · cases h
          · cases h
        · cases h
      · cases h
    · cases h
theorem run_places {w : World} (hL : TyOK P L) : ∀ (gs : List Field), known L (gs.map fun f => (f.offset, f.type)) = true →
    ∃ ps : List (Nat × Nat), (gs.mapM fun f => (do pure (f.offset, ← sizeOf f.type) : Sem (Nat × Nat))).run P w = .ok ps w ∧ ∀ i off ft x, nth (gs.map fun f => (f.offset, f.type)) i = some (off, ft) → nth L ft = some x → ps[i]? = some (off, x.size)
  | [], _ => ⟨[], rfl, fun i _ _ _ h => by simp [nth] at h⟩
  | g :: gs, h => by
    simp only [List.map_cons, known] at h
    split at h
    · rename_i y hy
      obtain ⟨ps, h1, h2⟩ := run_places (w := w) hL gs h
      refine ⟨(g.offset, y.size) :: ps, ?_, fun i off ft x hi hx => ?_⟩
      · rw [List.mapM_cons]
        simp only [Sem.run_bind, size_run hL hy, Result.andThen_ok, Sem.run_pure, h1]
      · cases i with
        | zero =>
          simp [nth] at hi
          obtain ⟨rfl, rfl⟩ := hi
          rw [hy] at hx; injection hx with hx; subst hx; rfl
        | succ i => simpa using h2 i off ft x (by simpa [nth] using hi) hx
    · cases h
theorem sound_build {t : TypeId} {parts : Array (Nat × Operand)} (hL : TyOK P L) (h : wBuild L fr t parts K) : Sound P fr M news ⟨dst, .build t parts, ty, pos, after, guard⟩ K := by
  unfold wBuild at h
  split at h
  · rename_i fs sz by' z zs ht
    split at h
    · rename_i hkn
      split at h
      · rename_i ds hds
        refine .val h fun E N w a hi hr => ?_
        obtain ⟨gs, h1, h2⟩ := struct_run (w := w) hL ht rfl
        subst h2
        obtain ⟨ps, h3, h4⟩ := run_places (w := w) hL gs.toList hkn
        have hz := zero_run (w := w) hL ht (by simp)
        obtain ⟨c', f1, f2⟩ := partsIn_fill (L := L) (fr := fr) (place := (ps.toArray[·]?)) (a := a) (E := E) (fun i off ft x hi hx => by simpa using h4 i off ft x hi hx) parts.toList (z :: zs).toArray hds (by simpa using rels_map_v E (z :: zs)) (fun p hp => rel_ev hr (by simp [Op.operands]; exact ⟨p.1, by simpa using hp⟩))
        refine ⟨.agg c', ?_, c'.toList, by simp, f2⟩
        have hmap : (gs.mapM fun f => (do pure (f.offset, ← sizeOf f.type) : Sem (Nat × Nat))).run P w = .ok ps.toArray w := by
          rw [Array.mapM_eq_mapM_toList]
          simp only [Sem.run_map, h3, Result.andThen_ok]
        simp only [TK.agg, if_true] at hz
        simp only [execOp, Instr.build, Sem.run_bind, hz, h1, hmap, Result.andThen_ok, Value.cells]
        have hf : Instr.fill (fun x => ps.toArray[x]?) (z :: zs).toArray (parts.map fun (i, x) => (i, a.eval x)).toList = some c' := by rw [Array.toList_map]; exact f1
        rw [hf]
        rfl
      · exact h.elim
    · exact h.elim
  · exact h.elim
end
end Go.Dm
namespace Go.Dm
def Env.obj (E : Env) (id b : Nat) : Env := ⟨E.im, fun j => if j = id then some b else E.blk j, E.hdr⟩
theorem new_obj {E : Env} {N : Nat → Option Ob} {w : World} (hi : Inv E N w) {id : Nat} (h1 : N id = none) (h2 : E.blk id = none) (T : TypeId) (c : Array Value) {ds : List D} (hr : rels ds E c.toList) :
    Step E (E.obj id w.heap.size) (ownOf E N [(id, .cells ds)]) w (w.alloc (.cells c T)) ∧ Inv (E.obj id w.heap.size) (upds N [(id, .cells ds)]) (w.alloc (.cells c T)) ∧ (E.obj id w.heap.size).blk id = some w.heap.size := by
  have hle : E.le (E.obj id w.heap.size) := by
    refine ⟨fun _ _ _ h => h, fun j b h => ?_, fun _ _ _ h => h⟩
    simp only [Env.obj]
    rw [if_neg (by intro e; subst e; rw [h2] at h; cases h)]; exact h
  have st : Step E (E.obj id w.heap.size) (ownOf E N [(id, .cells ds)]) w (w.alloc (.cells c T)) :=
    ⟨hle, by simp, fun b hb _ => heap_alloc_old hb, fun b o v h => .inl h, rfl, rfl, rfl⟩
  refine ⟨st, hi.step1 st (fun b o v h => ?_) ?_ (fun j _ => rfl) (fun b h => ?_), by simp [Env.obj]⟩
  · have h3 := hi.im b o v h
    rw [cell_same (heap_alloc_old (cell_lt h3))]; exact h3
  · refine ⟨w.heap.size, c, T, by simp [Env.obj], heap_alloc_new w _, rels_mono _ hle hr, fun o => ?_⟩
    cases ho : (E.obj id w.heap.size).im w.heap.size o with
    | none => rfl
    | some v => have := cell_lt (hi.im _ _ _ ho); omega
  · simp only [obBlk, Env.obj, if_true] at h
    injection h with h
    exact .inr (by omega)
theorem new_objT {E : Env} {N : Nat → Option Ob} {w : World} (hi : Inv E N w) {id : Nat} (h1 : N id = none) (h2 : E.blk id = none) (T : TypeId) (c : Array Value) {ds : List D} (hr : rels ds E c.toList) :
    Step E (E.obj id w.heap.size) (ownOf E N [(id, .tc T ds)]) w (w.alloc (.cells c T)) ∧ Inv (E.obj id w.heap.size) (upds N [(id, .tc T ds)]) (w.alloc (.cells c T)) ∧ (E.obj id w.heap.size).blk id = some w.heap.size := by
  have hle : E.le (E.obj id w.heap.size) := by
    refine ⟨fun _ _ _ h => h, fun j b h => ?_, fun _ _ _ h => h⟩
    simp only [Env.obj]
    rw [if_neg (by intro e; subst e; rw [h2] at h; cases h)]; exact h
  have st : Step E (E.obj id w.heap.size) (ownOf E N [(id, .tc T ds)]) w (w.alloc (.cells c T)) :=
    ⟨hle, by simp, fun b hb _ => heap_alloc_old hb, fun b o v h => .inl h, rfl, rfl, rfl⟩
  refine ⟨st, hi.step1 st (fun b o v h => ?_) ?_ (fun j _ => rfl) (fun b h => ?_), by simp [Env.obj]⟩
  · have h3 := hi.im b o v h
    rw [cell_same (heap_alloc_old (cell_lt h3))]; exact h3
  · refine ⟨w.heap.size, c, by simp [Env.obj], heap_alloc_new w _, rels_mono _ hle hr, fun o => ?_⟩
    cases ho : (E.obj id w.heap.size).im w.heap.size o with
    | none => rfl
    | some v => have := cell_lt (hi.im _ _ _ ho); omega
  · simp only [obBlk, Env.obj, if_true] at h
    injection h with h
    exact .inr (by omega)
section
variable {P : Program} {L : List Ty} {fr : Fr} {M : Mem} {news : List Nat} {K : Kont} {dst : Option Tmp} {ty : TypeId} {pos : String} {after : Array Edge} {guard : Option (Nat × Bool)}
def memN : List Nat → Nat → Bool
  | [], _ => false
  | k :: r, t => match Nat.beq k t with
    | true => true
    | false => memN r t
theorem memN_iff : ∀ {l : List Nat} {t : Nat}, memN l t = true → t ∈ l
  | k :: r, t, h => by
    simp only [memN] at h
    split at h
    · rename_i e; rw [beq_eq e]; simp
    · exact List.mem_cons_of_mem _ (memN_iff h)
def wAlloc (L : List Ty) (news : List Nat) (dst : Option Tmp) (t : TypeId) (K : Kont) : Prop :=
  match nth L t with
  | some ⟨_, _, _, z :: zs⟩ => match dst with
    | some d => match memN news d with
      | true => match memN news (d + 5000) with
        | true => K (.ret (.ref d 0) [(d, .tc t ((z :: zs).map .v))]) []
        | false => K (.ret (.ref d 0) [(d, .cells ((z :: zs).map .v))]) []
      | false => K (.ret (.ptr ((z :: zs).map .v)) []) []
    | none => False
  | _ => False
theorem zero_cells {t : TypeId} {x : Ty} (hL : TyOK P L) (ht : nth L t = some x) (hz : x.zero ≠ []) (ho : x.k.agg = false → (x.zero.headD undef).cells = x.zero.toArray) (w : World) :
    (zeroValue t).run P w = .ok (if x.k.agg then .agg x.zero.toArray else x.zero.headD undef) w ∧ (if x.k.agg then Value.agg x.zero.toArray else x.zero.headD undef).cells = x.zero.toArray := by
  refine ⟨zero_run hL ht hz, ?_⟩
  cases hk : x.k.agg with
  | true => rfl
  | false => simpa using ho hk
def ZOK (L : List Ty) : Prop := ∀ t x, nth L t = some x → x.zero ≠ [] → x.k.agg = false → (x.zero.headD undef).cells = x.zero.toArray
theorem sound_alloc {t : TypeId} (hL : TyOK P L) (hZ : ZOK L) (h : wAlloc L news dst t K) : Sound P fr M news ⟨dst, .alloc t, ty, pos, after, guard⟩ K := by
  unfold wAlloc at h
  split at h
  · rename_i kk n by' z zs ht
    obtain ⟨_, hc⟩ := zero_cells hL ht (by simp) (hZ t _ ht (by simp)) default
    have hz := fun w => (zero_cells hL ht (by simp) (hZ t _ ht (by simp)) w).1
    have hrun : ∀ (w : World) (a : Act) (d : Option Tmp), (execOp a.eval ⟨d, .alloc t, ty, pos, after, guard⟩).run P w = .ok (.value (.pointer (some ⟨w.heap.size, 0, none⟩))) (w.alloc (.cells (z :: zs).toArray t)) := by
      intro w a d
      simp only [execOp, Instr.alloc, Sem.run_bind, hz w, Result.andThen_ok, newVar, hc, run_newRow, Sem.run_pure]
    split at h
    · rename_i d
      split at h
      · rename_i hm
        split at h
        · refine ⟨.ret (.ref d 0) [(d, .tc t ((z :: zs).map .v))], [], fun E N w a Q hi hN hnew hr => ?_, fun _ h => (by cases h), h⟩
          obtain ⟨n1, n2, n3⟩ := hnew d ⟨rfl, by simp⟩
          obtain ⟨g1, g2, g3⟩ := new_objT hi n1 n2 t (z :: zs).toArray (ds := (z :: zs).map .v) (by simpa using rels_map_v E (z :: zs))
          show Oper.wp P _ a w _ Q
          unfold Oper.wp
          rw [hrun]
          refine ⟨_, _, rfl, ⟨g1, g2, fun j hj => ⟨?_, rfl⟩, fun p hp b hb => ?_⟩, w.heap.size, g3, rfl⟩
          · simp only [Env.obj]
            rw [if_neg (by intro e; subst e; simp at hj)]
          · simp only [List.mem_singleton] at hp
            subst hp
            simp only [obBlk, g3] at hb
            injection hb with hb
            exact .inr (by omega)
        · refine ⟨.ret (.ref d 0) [(d, .cells ((z :: zs).map .v))], [], fun E N w a Q hi hN hnew hr => ?_, fun _ h => (by cases h), h⟩
          obtain ⟨n1, n2, n3⟩ := hnew d ⟨rfl, by simp⟩
          obtain ⟨g1, g2, g3⟩ := new_obj hi n1 n2 t (z :: zs).toArray (ds := (z :: zs).map .v) (by simpa using rels_map_v E (z :: zs))
          show Oper.wp P _ a w _ Q
          unfold Oper.wp
          rw [hrun]
          refine ⟨_, _, rfl, ⟨g1, g2, fun j hj => ⟨?_, rfl⟩, fun p hp b hb => ?_⟩, w.heap.size, g3, rfl⟩
          · simp only [Env.obj]
            rw [if_neg (by intro e; subst e; simp at hj)]
          · simp only [List.mem_singleton] at hp
            subst hp
            simp only [obBlk, g3] at hb
            injection hb with hb
            exact .inr (by omega)
      · refine .new (fun _ h => (by cases h)) h fun E N w a hi hN hr => ?_
        obtain ⟨g1, g2, g3⟩ := new_im hi t (z :: zs).toArray (0, 0) (z :: zs) (fun k hk => by simp)
        exact ⟨_, _, _, hrun w a (some d), g1, g2, fun j => ⟨rfl, rfl⟩, w.heap.size, 0, rfl, g3 _ (rels_map_v _ _)⟩
    · exact h.elim
  · exact h.elim
def wBuildSliceO (L : List Ty) (M : Mem) (fr : Fr) (news : List Nat) (dst : Option Tmp) (t : TypeId) (n : Nat) (parts : Array (Nat × Operand)) (K : Kont) : Prop :=
  match dst with
  | some d => match memN news d with
    | true => match nth L t with
      | some ⟨.slice e, _, _, _⟩ => match nth L e with
        | some ⟨_, s, _, _ :: _⟩ => match litRows M fr s 0 parts.toList with
          | some (rs, pre) => match Nat.beq rs.length n with
            | true => match Nat.blt 0 (n * s) with
              | true => match Nat.ble (n * s) 16777216 with
                | true => match get pre d with
                  | none => K (.ret (.sl d s n) [(d, .cells rs.flatten)]) pre
                  | some _ => False
                | false => False
              | false => False
            | false => False
          | none => False
        | _ => False
      | _ => False
    | false => wBuildSlice L M fr t n parts K
  | none => wBuildSlice L M fr t n parts K
theorem sound_buildSliceO {t : TypeId} {n : Nat} {parts : Array (Nat × Operand)} (hL : TyOK P L) (h : wBuildSliceO L M fr news dst t n parts K) : Sound P fr M news ⟨dst, .buildSlice t n parts, ty, pos, after, guard⟩ K := by
  unfold wBuildSliceO at h
  split at h
  case h_2 => exact sound_buildSlice hL h
  rename_i d
  split at h
  case h_2 => exact sound_buildSlice hL h
  split at h
  · rename_i e _ _ _ ht
    split at h
    · rename_i k s by' z0 zr he
      split at h
      · rename_i rs pre hrs
        split at h
        · rename_i hn
          have hn' := beq_eq hn
          split at h
          · rename_i h0
            have h0 : 0 < n * s := by simpa using h0
            split at h
            · rename_i hb
              have hb : n * s ≤ 16777216 := Nat.le_of_ble_eq_true hb
              split at h
              · rename_i hgd
                have hzz : (Ty.mk k s by' (z0 :: zr)).zero ≠ [] := by simp
                obtain ⟨d0, i0, _, _, _, _, _, hz⟩ := hL e _ he
                have hs0 : s = zr.length + 1 := by have := (hz hzz).2; simp at this; omega
                obtain ⟨h1, h2, h3, h4⟩ := litRows_fill (n := n) (by omega) parts.toList 0 hrs
                refine ⟨.ret (.sl d s n) [(d, .cells rs.flatten)], pre, fun E N w a Q hi hN hnew hr => ?_, h1, h⟩
                obtain ⟨n1, n2, n3⟩ := hnew d ⟨hgd, by simp⟩
                have hro : ∀ p ∈ parts.toList, rel (ev fr p.2) E (a.eval p.2) := fun p hp => rel_ev hr (by simp [Op.operands]; exact ⟨p.1, by simpa using hp⟩)
                let z := (if (Ty.mk k s by' (z0 :: zr)).k.agg then Value.agg (z0 :: zr).toArray else z0).cells
                obtain ⟨c', vs, f1, f2, f3, f4⟩ := h4 E N w a ((Array.range (n * s)).map (z[· % z.size]!)) hi hN hro (by simp) (by simp [← h2, hn'])
                have f3' : c'.toList = vs := by rw [f3]; simp
                obtain ⟨g1, g2, g3⟩ := new_obj hi n1 n2 e c' (ds := rs.flatten) (by rw [f3']; exact rels_pure f2)
                have hsz := size_run (w := w) hL he
                have hz0 := zero_run (w := w) hL he hzz
                have hrun : (execOp a.eval ⟨some d, .buildSlice t n parts, ty, pos, after, guard⟩).run P w = .ok (.value (.slice (some ⟨w.heap.size, 0, none⟩) n n)) (w.alloc (.cells c' e)) := by
                  simp only [execOp, Instr.buildSlice, Sem.run_bind, slice_run hL ht rfl, Result.andThen_ok, hsz]
                  rw [if_neg (by omega), if_neg (by omega)]
                  simp only [Sem.run_bind, Sem.run_pure, Result.andThen_ok, hz0]
                  have f1' : Instr.fill (fun i => some (i * s, s)) ((Array.range (n * s)).map (z[· % z.size]!)) (parts.map fun (i, x) => (i, a.eval x)).toList = some c' := by rw [Array.toList_map]; exact f1
                  simp only [z, List.headD_cons] at f1' ⊢
                  rw [f1']
                  rfl
                show Oper.wp P _ a w _ Q
                unfold Oper.wp
                rw [hrun]
                refine ⟨_, _, rfl, ⟨g1, g2, fun j hj => ⟨?_, rfl⟩, fun p hp b hb => ?_⟩, w.heap.size, g3, rfl⟩
                · simp only [Env.obj]
                  rw [if_neg (by intro e; subst e; simp at hj)]
                · simp only [List.mem_singleton] at hp
                  subst hp
                  simp only [obBlk, g3] at hb
                  injection hb with hb
                  exact .inr (by omega)
              · exact h.elim
            · exact h.elim
          · exact h.elim
        · exact h.elim
      · exact h.elim
    · exact h.elim
  · exact h.elim
theorem flatten_ones {α : Type} : ∀ (l : List α), (l.map fun d => [d]).flatten = l
  | [] => rfl
  | d :: r => by rw [List.map_cons, List.flatten_cons, flatten_ones r]; rfl
def allV : List D → Bool
  | [] => true
  | .v _ :: r => allV r
  | _ :: _ => false
theorem allV_pure {E : Env} : ∀ {ds : List D} {vs : List Value}, allV ds = true → rels ds E vs → rels ds E.pure vs
  | [], _, _, h => h
  | .v x :: r, _, ha, ⟨v, ws, h1, h2, h3⟩ => ⟨v, ws, h1, h2, allV_pure (by simpa [allV] using ha) h3⟩
  | .bot :: _, _, ha, _ | .agg _ :: _, _, ha, _ | .tup _ :: _, _, ha, _ | .list .. :: _, _, ha, _ | .ptr _ :: _, _, ha, _ | .ref .. :: _, _, ha, _ | .sl .. :: _, _, ha, _ | .row .. :: _, _, ha, _ | .fn .. :: _, _, ha, _ | .iface .. :: _, _, ha, _ => by simp [allV] at ha
def wConvertO (P : Program) (L : List Ty) (fr : Fr) (M : Mem) (src dst : TypeId) (x : Operand) (K : Kont) : Prop :=
  match ev fr x with
  | .sl id _ n => match nth L src with
    | some ⟨.slice e, _, _, _⟩ => match nth L e with
      | some ⟨.int .u8, _, _, _⟩ => match Nat.beq src dst with
        | true => match get M id with
          | some (.cells ds) => match Nat.beq ds.length n with
            | true => match allV ds with
              | true => K (.ret (.list 1 (ds.map fun d => [d])) [(id, .dead)]) [(id, .cells ds)]
              | false => False
            | false => False
          | _ => False
        | false => False
      | _ => False
    | _ => False
  | _ => wConvert P L fr M src dst x K
theorem sound_convertO {src dst' : TypeId} {x : Operand} (hL : TyOK P L) (h : wConvertO P L fr M src dst' x K) : Sound P fr M news ⟨dst, .convert src dst' x, ty, pos, after, guard⟩ K := by
  have hx : ∀ {E : Env} {a : Act}, RelO fr E a ⟨dst, .convert src dst' x, ty, pos, after, guard⟩ → rel (ev fr x) E (a.eval x) := fun hr => rel_ev hr (by simp [Op.operands])
  unfold wConvertO at h
  split at h
  case h_2 => exact sound_convert hL h
  rename_i id s n ex
  split at h
  case h_2 => exact h.elim
  rename_i e _ _ _ hs
  split at h
  case h_2 => exact h.elim
  rename_i _ _ _ he
  split at h
  case h_2 => exact h.elim
  rename_i hsd
  have := beq_eq hsd
  subst this
  split at h
  case h_2 => exact h.elim
  rename_i ds hg
  split at h
  case h_2 => exact h.elim
  rename_i hn
  have hn := beq_eq hn
  split at h
  case h_2 => exact h.elim
  rename_i hv
  refine ⟨.ret (.list 1 (ds.map fun d => [d])) [(id, .dead)], [(id, .cells ds)], fun E N w a Q hi hN hnew hr => ?_, fun p hp => (by simp at hp; subst hp; exact hg), h⟩
  have hN' := hN (id, .cells ds) (by simp)
  have h2 := hx hr; rw [ex] at h2
  obtain ⟨b, h3, h4⟩ := h2
  obtain ⟨b', c, T, h5, h6, h7, h8⟩ := hi.ob id _ hN'
  rw [h5] at h3
  injection h3 with h3; subst h3
  let w' : World := w.freeze { block := b', off := c.size } 1
  have hh1 : w'.heap[b']? = some (.cells c T (c.size, c.size + 1)) := by
    show (w.freeze { block := b', off := c.size } 1).heap[b']? = _
    unfold World.freeze
    simp only [Nat.succ_ne_zero, if_false, Array.getElem?_modify, if_true, h6]
    simp
  have hh2 : ∀ k, k ≠ b' → w'.heap[k]? = w.heap[k]? := by
    intro k hk
    show (w.freeze { block := b', off := c.size } 1).heap[k]? = _
    unfold World.freeze
    simp only [Nat.succ_ne_zero, if_false, Array.getElem?_modify]
    rw [if_neg (Ne.symm hk)]
  have hsz : w'.heap.size = w.heap.size := by
    show (w.freeze { block := b', off := c.size } 1).heap.size = _
    unfold World.freeze
    simp
  have hrun : (execOp a.eval ⟨dst, .convert src src x, ty, pos, after, guard⟩).run P w = .ok (.value (.slice (some ⟨b', 0, none⟩) n n)) w' := by
    have hs1 := under_slice hL hs rfl
    have hs3 := under_int hL he rfl
    have hfz : (markStringish ⟨b', 0, none⟩).run P w = .ok () w' := by
      unfold markStringish
      rw [Sem.run_bind, run_shape]
      simp only [Result.andThen_ok, World.shape?, h6]
      rw [run_freeze]
    simp [execOp, h4, convert, run_underlying hs1, run_underlying hs3, hfz]
  let E' : Env := E.add b' c.toList
  have hle : E.le E' := by
    refine ⟨fun k o v hv => ?_, fun _ _ h => h, fun _ _ _ h => h⟩
    show (if k = b' then c.toList[o]? else E.im k o) = some v
    rw [if_neg (by intro e; subst e; rw [h8] at hv; cases hv)]; exact hv
  have hown : ownOf E N [(id, .dead)] b' := ⟨_, List.mem_singleton_self _, .cells ds, hN', by simp [obBlk, h5]⟩
  have st : Step E E' (ownOf E N [(id, .dead)]) w w' := by
    refine ⟨hle, by rw [hsz]; exact Nat.le_refl _, fun k _ hk => hh2 k (by intro e; subst e; exact hk hown), fun k o v hv => ?_, rfl, rfl, rfl⟩
    have hv' : (if k = b' then c.toList[o]? else E.im k o) = some v := hv
    split at hv'
    · rename_i e; subst e; exact .inr (.inr hown)
    · exact .inl hv'
  have him : ImOK E' w' := by
    intro k o v hv
    have hv' : (if k = b' then c.toList[o]? else E.im k o) = some v := hv
    split at hv'
    · rename_i e; subst e
      simp only [World.cell?, hh1]
      simpa using hv'
    · rename_i e
      rw [cell_same (hh2 k e)]; exact hi.im k o v hv'
  show Oper.wp P _ a w _ Q
  unfold Oper.wp
  rw [hrun]
  have hlen := rels_length h7
  refine ⟨_, E', rfl, ⟨st, hi.step1 st him trivial (fun _ _ => rfl) (fun b h => by cases h), fun j hj => ⟨rfl, rfl⟩, fun p hp b hb => (by simp only [List.mem_singleton] at hp; subst hp; cases hb)⟩, some ⟨b', 0, none⟩, n, by simp [hn], by simp [hn], fun _ => ⟨b', 0, rfl, ?_⟩⟩
  refine relRow_of (vs := c.toList) (by simp) ?_ (fun k hk => by simp [Env.pure, E', Env.add])
  rw [flatten_ones]
  exact rels_mono _ hle.pure (allV_pure hv h7)
def wBoxO (M : Mem) (fr : Fr) (news : List Nat) (dst : Option Tmp) (x : Operand) (K : Kont) : Prop :=
  match dst with
  | some d => match memN news d with
    | true => match aggOne (ev fr x) with
      | true => K (.ret (.ref d 0) [(d, .cells (cellsOf (ev fr x)))]) []
      | false => False
    | false => wBox M fr x K
  | none => False
theorem sound_boxO {t : TypeId} {x : Operand} (h : wBoxO M fr news dst x K) : Sound P fr M news ⟨dst, .box t x, ty, pos, after, guard⟩ K := by
  unfold wBoxO at h
  split at h
  · rename_i d
    split at h
    · rename_i hm
      split at h
      · rename_i ho
        refine ⟨.ret (.ref d 0) [(d, .cells (cellsOf (ev fr x)))], [], fun E N w a Q hi hN hnew hr => ?_, fun _ h => (by cases h), h⟩
        obtain ⟨n1, n2, n3⟩ := hnew d ⟨rfl, by simp⟩
        obtain ⟨h4, _⟩ := cellsOf_rel ho (rel_ev hr (x := x) (by simp [Op.operands]))
        obtain ⟨g1, g2, g3⟩ := new_obj hi n1 n2 t (a.eval x).cells h4
        show Oper.wp P _ a w _ Q
        unfold Oper.wp
        have hrun : (execOp a.eval ⟨some d, .box t x, ty, pos, after, guard⟩).run P w = .ok (.value (.pointer (some ⟨w.heap.size, 0, none⟩))) (w.alloc (.cells (a.eval x).cells t)) := rfl
        rw [hrun]
        refine ⟨_, _, rfl, ⟨g1, g2, fun j hj => ⟨?_, rfl⟩, fun p hp b hb => ?_⟩, w.heap.size, g3, rfl⟩
        · simp only [Env.obj]
          rw [if_neg (by intro e; subst e; simp at hj)]
        · simp only [List.mem_singleton] at hp
          subst hp
          simp only [obBlk, g3] at hb
          injection hb with hb
          exact .inr (by omega)
      · exact h.elim
    · exact sound_box h
  · exact h.elim
theorem rels_flatten_set {E : Env} : ∀ {xs : List (List D)} {s j : Nat} {cs cs' : List D} {vs us : List Value}, (∀ r ∈ xs, r.length = s) → xs[j]? = some cs → cs'.length = s → rels xs.flatten E vs → rels cs' E us →
    rels (xs.set j cs').flatten E (splice vs (j * s) us)
  | x :: xs, s, 0, cs, cs', vs, us, hs, hj, hl, hr, hu => by
    have hx := hs x (by simp)
    have h1 := rels_drop s hr
    have hul := rels_length hu
    rw [List.flatten_cons, ← hx, List.drop_left] at h1
    simp only [List.set_cons_zero, List.flatten_cons, splice, Nat.zero_mul, List.take_zero, List.nil_append, Nat.zero_add]
    rw [hul, hl, ← hx]
    exact rels_append hu h1
  | x :: xs, s, j + 1, cs, cs', vs, us, hs, hj, hl, hr, hu => by
    have hx := hs x (by simp)
    have h1 := rels_drop s hr
    have h2 := rels_take s hr
    rw [List.flatten_cons, ← hx, List.drop_left] at h1
    rw [List.flatten_cons, ← hx, List.take_left] at h2
    have h3 := rels_flatten_set (fun r hr => hs r (by simp [hr])) (by simpa using hj) hl h1 hu
    simp only [List.set_cons_succ, List.flatten_cons]
    have h4 := rels_append h2 h3
    have hvl := rels_length hr
    rw [List.flatten_cons, List.length_append] at hvl
    have e : vs.take x.length ++ splice (vs.drop x.length) (j * s) us = splice vs ((j + 1) * s) us := by
      unfold splice
      have e1 : s + (j * s + us.length) = j * s + s + us.length := by omega
      rw [Nat.succ_mul, hx, ← List.append_assoc, List.drop_drop, e1, Nat.add_comm (j * s) s, List.take_add]
    rw [← e]; exact h4
  | [], _, _, _, _, _, _, _, h, _, _, _ => by simp at h
def wStoreR (M : Mem) (id ver s j o n : Nat) (d : D) (p : Mem) (K : Kont) : Prop :=
  match get M id with
  | some (.mrow e s' ver' xs) => match Nat.beq s s' with
    | true => match aggOne d with
      | true => match Nat.beq (cellsOf d).length n with
        | true => match Nat.ble (o + n) s with
          | true => ver = ver' ∧ ElG xs j fun cs => K (.ret (.v undef) [(id, .mrow e s ver (xs.set j (splice cs o (cellsOf d))))]) ((id, .mrow e s ver xs) :: p)
          | false => False
        | false => False
      | false => False
    | false => False
  | _ => False
theorem sound_storeR {t : TypeId} {ad x : Operand} {kk : TK} {n bb : Nat} {zz : List Value} (hL : TyOK P L) (ht : nth L t = some ⟨kk, n, bb, zz⟩) {id ver s j o : Nat} (e : ev fr ad = .rp id ver s j o) {d : D} {p : Mem} (hp : purify M (ev fr x) = some (d, p))
    (h : wStoreR M id ver s j o n d p K) : Sound P fr M news ⟨dst, .store t ad x, ty, pos, after, guard⟩ K := by
  unfold wStoreR at h
  split at h
  · rename_i et s' ver' xs hg
    split at h
    · rename_i es
      · obtain rfl := beq_eq es
        split at h
        · rename_i ho
          split at h
          · rename_i hn
            split at h
            · rename_i hb
              have hn' := beq_eq hn
              have hb' : o + n ≤ s := by simpa using hb
              obtain ⟨rfl, h⟩ := h
              obtain ⟨cs, hj, hK⟩ := h.ex
              obtain ⟨hp1, hp2⟩ := purify_rel _ hp
              refine ⟨_, _, fun E N w a Q hi hN hnew hr => ?_, fun q hq => (by
                simp only [List.mem_cons] at hq
                rcases hq with rfl | hq
                · exact hg
                · exact hp1 q hq), hK⟩
              have hN1 := hN (id, .mrow et s ver xs) (by simp)
              have h1 : rel (ev fr ad) E (a.eval ad) := rel_ev hr (by simp [Op.operands])
              rw [e] at h1
              obtain ⟨b, h2, h3⟩ := h1
              obtain ⟨c, cap, g1, g2, g3, g4, g5, g6, g7, g8, g9, g10, g11⟩ := mrow_cells (hi.ob id _ hN1) hj h2
              have hd := hp2 E N w _ hi (fun q hq => hN q (by simp [hq])) (rel_ev hr (x := x) (by simp [Op.operands]))
              obtain ⟨h8, h9⟩ := cellsOf_rel ho hd
              have hsz : (a.eval x).cells.size = n := by have := rels_length h8; simp at this; omega
              obtain ⟨w', c', r1, r2, r3, r4, r5, r6, r7, r8⟩ := run_storeCells (P := P) (o := j * s + o) (a.eval x).cells.toList 0 w c g2 (by simp; omega) h9
              have hlt := (Array.getElem?_eq_some_iff.1 g2).1
              have hjl : j < xs.length := (List.getElem?_eq_some_iff.1 hj).1
              have hm : (j + 1) * s ≤ xs.length * s := Nat.mul_le_mul_right _ hjl
              rw [Nat.succ_mul] at hm
              have hown : ownOf E N [(id, .mrow et s ver (xs.set j (splice cs o (cellsOf d))))] b := ⟨_, List.mem_singleton_self _, _, hN1, by simp [obBlk, g1, hdrBlk]⟩
              have st : Step E E (ownOf E N [(id, .mrow et s ver (xs.set j (splice cs o (cellsOf d))))]) w w' :=
                ⟨.refl E, by omega, fun k hk hno => r5 k (fun e => hno (e ▸ hown)), fun _ _ _ h => .inl h, r6, r7, r8⟩
              have hrun : (execOp a.eval ⟨dst, .store t ad x, ty, pos, after, guard⟩).run P w = .ok .skip w' := by
                have hs := size_run (w := w) hL ht
                simp only [execOp, Instr.storeAt, h3, Instr.sureAddr, storeVar, Sem.run_bind, Sem.run_pure, Result.andThen_ok, hs]
                rw [if_neg (by simpa using hsz)]
                simp only [r1, Result.andThen_ok]
              show Oper.wp P _ a w _ Q
              unfold Oper.wp
              rw [hrun]
              have hobk : obBlk E id (.mrow et s ver (xs.set j (splice cs o (cellsOf d)))) = some b := by simp [obBlk, g1, hdrBlk]
              have hbd : ∀ k, obBlk E id (.mrow et s ver (xs.set j (splice cs o (cellsOf d)))) = some k → (∃ x, N id = some x ∧ obBlk E id x = some k) ∨ w.heap.size ≤ k := fun k hk => .inl ⟨_, hN1, by simpa [obBlk] using hk⟩
              refine ⟨undef, E, rfl, ⟨st, hi.step1 st (fun k q v hv => ?_) ?_ (fun _ _ => rfl) hbd, fun _ _ => ⟨rfl, rfl⟩, fun p hp k hk => (by simp only [List.mem_singleton] at hp; subst hp; exact (hbd k hk).imp (fun ⟨x, h1, h2⟩ => ⟨_, List.mem_singleton_self _, x, h1, h2⟩) (fun h => h))⟩, rfl⟩
              · have hc := hi.im k q v hv
                by_cases hkb : k = b
                · subst hkb; rw [g8] at hv; cases hv
                · rw [cell_same (r5 k hkb)]; exact hc
              · have hcsl : (splice cs o (cellsOf d)).length = s := by rw [splice_length (by omega)]; exact g9
                refine ⟨(hi.ob id _ hN1).1, .inr ⟨b, c', cap, by simpa using g1, r2, by rw [← g3, ← Array.length_toList, r3, splice_length (by simp; omega), Array.length_toList], by simpa using g4, g5, ?_, ?_, g8⟩⟩
                · intro r hr
                  rcases List.mem_or_eq_of_mem_set hr with h | h
                  · exact g6 r h
                  · rw [h]; exact hcsl
                · have h10 := rels_flatten_set (us := splice ((c.toList.drop (j * s)).take s) o (a.eval x).cells.toList) g6 hj hcsl g7 (rels_splice g10 h8 o)
                  rw [List.length_set, r3]
                  simp only [Nat.add_zero]
                  have e2 : splice (c.toList.take (xs.length * s)) (j * s) (splice ((c.toList.drop (j * s)).take s) o (a.eval x).cells.toList) = (splice c.toList (j * s + o) (a.eval x).cells.toList).take (xs.length * s) := by
                    have hul : (a.eval x).cells.toList.length = n := by simpa using hsz
                    have hcl : c.toList.length = cap * s := by simpa using g3
                    have hxc : xs.length * s ≤ cap * s := Nat.mul_le_mul_right _ g4
                    apply List.ext_getElem?
                    intro i
                    have hin : ((c.toList.drop (j * s)).take s).length = s := by simp; omega
                    have hsl2 : (splice ((c.toList.drop (j * s)).take s) o (a.eval x).cells.toList).length = s := by rw [splice_length (by omega), hin]
                    have q1 := splice_get (l := c.toList.take (xs.length * s)) (o := j * s) (vs := splice ((c.toList.drop (j * s)).take s) o (a.eval x).cells.toList) (by rw [hsl2]; simp; omega) i
                    rw [q1, hsl2]
                    by_cases hi1 : i < xs.length * s
                    · rw [List.getElem?_take_of_lt (l := splice _ _ _) hi1]
                      have q2 := splice_get (l := c.toList) (o := j * s + o) (vs := (a.eval x).cells.toList) (by omega) i
                      rw [q2, hul]
                      by_cases a1 : j * s ≤ i ∧ i < j * s + s
                      · rw [if_pos a1]
                        have q3 := splice_get (l := (c.toList.drop (j * s)).take s) (o := o) (vs := (a.eval x).cells.toList) (by omega) (i - j * s)
                        rw [q3, hul]
                        by_cases a2 : j * s + o ≤ i ∧ i < j * s + o + n
                        · rw [if_pos (by omega), if_pos (by omega)]
                          congr 1; omega
                        · rw [if_neg (by omega), if_neg (by omega), List.getElem?_take_of_lt (by omega), List.getElem?_drop]
                          congr 1; omega
                      · rw [if_neg a1, if_neg (by omega), List.getElem?_take_of_lt hi1]
                    · rw [List.getElem?_eq_none (l := List.take _ (splice _ _ _)) (by simp; omega), if_neg (by omega)]
                      exact List.getElem?_eq_none (by simp; omega)
                  rw [← e2]; exact h10
            · exact h.elim
          · exact h.elim
        · exact h.elim
    · exact h.elim
  · exact h.elim
def wStore (L : List Ty) (M : Mem) (fr : Fr) (t : TypeId) (ad x : Operand) (K : Kont) : Prop :=
  match nth L t with
  | some ⟨_, n, _, _⟩ => match ev fr ad with
    | .ref i o => match get M i with
      | some (.cells ds) => match aggOne (ev fr x) with
        | true => match Nat.beq (cellsOf (ev fr x)).length n with
          | true => match Nat.ble (o + n) ds.length with
            | true => K (.ret (.v undef) [(i, .cells (splice ds o (cellsOf (ev fr x))))]) [(i, .cells ds)]
            | false => False
          | false => False
        | false => False
      | some (.tc T ds) => match aggOne (ev fr x) with
        | true => match Nat.beq (cellsOf (ev fr x)).length n with
          | true => match Nat.ble (o + n) ds.length with
            | true => K (.ret (.v undef) [(i, .tc T (splice ds o (cellsOf (ev fr x))))]) [(i, .tc T ds)]
            | false => False
          | false => False
        | false => False
      | _ => False
    | .rp id ver s j o => match purify M (ev fr x) with
      | some (d, p) => wStoreR M id ver s j o n d p K
      | none => False
    | _ => False
  | none => False
theorem sound_store {t : TypeId} {ad x : Operand} (hL : TyOK P L) (h : wStore L M fr t ad x K) : Sound P fr M news ⟨dst, .store t ad x, ty, pos, after, guard⟩ K := by
  unfold wStore at h
  split at h
  · rename_i kk n _ _ ht
    split at h
    · rename_i i o e
      split at h
      · rename_i ds hg
        split at h
        · rename_i ho
          split at h
          · rename_i hn
            split at h
            · rename_i hb
              have hn' := beq_eq hn
              have hb' : o + n ≤ ds.length := by simpa using hb
              refine ⟨_, _, fun E N w a Q hi hN hnew hr => ?_, fun p hp => (by simp at hp; subst hp; exact hg), h⟩
              have h1 : rel (ev fr ad) E (a.eval ad) := rel_ev hr (by simp [Op.operands])
              rw [e] at h1
              obtain ⟨b, h2, h3⟩ := h1
              obtain ⟨b', c, T, h4, h5, h6, h7⟩ := hi.ob i _ (hN (i, .cells ds) (by simp))
              rw [h4] at h2; injection h2 with h2; subst h2
              obtain ⟨h8, h9⟩ := cellsOf_rel ho (rel_ev hr (x := x) (by simp [Op.operands]))
              have hsz : (a.eval x).cells.size = n := by have := rels_length h8; simp at this; omega
              have hlen := rels_length h6
              obtain ⟨w', c', r1, r2, r3, r4, r5, r6, r7, r8⟩ := run_storeCells (P := P) (o := o) (a.eval x).cells.toList 0 w c h5 (by simp at hlen ⊢; omega) h9
              have hlt := (Array.getElem?_eq_some_iff.1 h5).1
              have hown : ownOf E N [(i, .cells (splice ds o (cellsOf (ev fr x))))] b' := ⟨(i, .cells (splice ds o (cellsOf (ev fr x)))), by simp, .cells ds, hN (i, .cells ds) (by simp), by simp [obBlk, h4]⟩
              have st : Step E E (ownOf E N [(i, .cells (splice ds o (cellsOf (ev fr x))))]) w w' :=
                ⟨.refl E, by omega, fun k hk hno => r5 k (fun e => hno (e ▸ hown)), fun _ _ _ h => .inl h, r6, r7, r8⟩
              have hrun : (execOp a.eval ⟨dst, .store t ad x, ty, pos, after, guard⟩).run P w = .ok .skip w' := by
                have hs := size_run (w := w) hL ht
                simp only [execOp, Instr.storeAt, h3, Instr.sureAddr, storeVar, Sem.run_bind, Sem.run_pure, Result.andThen_ok, hs]
                rw [if_neg (by simpa using hsz)]
                simp only [r1, Result.andThen_ok]
              show Oper.wp P _ a w _ Q
              unfold Oper.wp
              rw [hrun]
              have hbd : ∀ k, obBlk E i (.cells (splice ds o (cellsOf (ev fr x)))) = some k → (∃ x, N i = some x ∧ obBlk E i x = some k) ∨ w.heap.size ≤ k := fun k hk => .inl ⟨.cells ds, hN (i, .cells ds) (by simp), by simpa [obBlk] using hk⟩
              refine ⟨undef, E, rfl, ⟨st, hi.step1 st (fun k q v hv => ?_) ?_ (fun _ _ => rfl) hbd, fun _ _ => ⟨rfl, rfl⟩, fun p hp k hk => (by simp only [List.mem_singleton] at hp; subst hp; exact (hbd k hk).imp (fun ⟨x, h1, h2⟩ => ⟨_, List.mem_singleton_self _, x, h1, h2⟩) id)⟩, rfl⟩
              · have hc := hi.im k q v hv
                by_cases hkb : k = b'
                · subst hkb; rw [h7] at hv; cases hv
                · rw [cell_same (r5 k hkb)]; exact hc
              · refine ⟨b', c', T, h4, r2, ?_, h7⟩
                rw [r3]
                simpa using rels_splice h6 h8 o
            · exact h.elim
          · exact h.elim
        · exact h.elim
      · rename_i TT ds hg
        split at h
        · rename_i ho
          split at h
          · rename_i hn
            split at h
            · rename_i hb
              have hn' := beq_eq hn
              have hb' : o + n ≤ ds.length := by simpa using hb
              refine ⟨_, _, fun E N w a Q hi hN hnew hr => ?_, fun p hp => (by simp at hp; subst hp; exact hg), h⟩
              have h1 : rel (ev fr ad) E (a.eval ad) := rel_ev hr (by simp [Op.operands])
              rw [e] at h1
              obtain ⟨b, h2, h3⟩ := h1
              obtain ⟨b', c, h4, h5, h6, h7⟩ := hi.ob i _ (hN (i, .tc TT ds) (by simp))
              rw [h4] at h2; injection h2 with h2; subst h2
              obtain ⟨h8, h9⟩ := cellsOf_rel ho (rel_ev hr (x := x) (by simp [Op.operands]))
              have hsz : (a.eval x).cells.size = n := by have := rels_length h8; simp at this; omega
              have hlen := rels_length h6
              obtain ⟨w', c', r1, r2, r3, r4, r5, r6, r7, r8⟩ := run_storeCells (P := P) (o := o) (a.eval x).cells.toList 0 w c h5 (by simp at hlen ⊢; omega) h9
              have hlt := (Array.getElem?_eq_some_iff.1 h5).1
              have hown : ownOf E N [(i, .tc TT (splice ds o (cellsOf (ev fr x))))] b' := ⟨(i, .tc TT (splice ds o (cellsOf (ev fr x)))), by simp, .tc TT ds, hN (i, .tc TT ds) (by simp), by simp [obBlk, h4]⟩
              have st : Step E E (ownOf E N [(i, .tc TT (splice ds o (cellsOf (ev fr x))))]) w w' :=
                ⟨.refl E, by omega, fun k hk hno => r5 k (fun e => hno (e ▸ hown)), fun _ _ _ h => .inl h, r6, r7, r8⟩
              have hrun : (execOp a.eval ⟨dst, .store t ad x, ty, pos, after, guard⟩).run P w = .ok .skip w' := by
                have hs := size_run (w := w) hL ht
                simp only [execOp, Instr.storeAt, h3, Instr.sureAddr, storeVar, Sem.run_bind, Sem.run_pure, Result.andThen_ok, hs]
                rw [if_neg (by simpa using hsz)]
                simp only [r1, Result.andThen_ok]
              show Oper.wp P _ a w _ Q
              unfold Oper.wp
              rw [hrun]
              have hbd : ∀ k, obBlk E i (.tc TT (splice ds o (cellsOf (ev fr x)))) = some k → (∃ x, N i = some x ∧ obBlk E i x = some k) ∨ w.heap.size ≤ k := fun k hk => .inl ⟨.tc TT ds, hN (i, .tc TT ds) (by simp), by simpa [obBlk] using hk⟩
              refine ⟨undef, E, rfl, ⟨st, hi.step1 st (fun k q v hv => ?_) ?_ (fun _ _ => rfl) hbd, fun _ _ => ⟨rfl, rfl⟩, fun p hp k hk => (by simp only [List.mem_singleton] at hp; subst hp; exact (hbd k hk).imp (fun ⟨x, h1, h2⟩ => ⟨_, List.mem_singleton_self _, x, h1, h2⟩) id)⟩, rfl⟩
              · have hc := hi.im k q v hv
                by_cases hkb : k = b'
                · subst hkb; rw [h7] at hv; cases hv
                · rw [cell_same (r5 k hkb)]; exact hc
              · refine ⟨b', c', h4, r2, ?_, h7⟩
                rw [r3]
                simpa using rels_splice h6 h8 o
            · exact h.elim
          · exact h.elim
        · exact h.elim
      · exact h.elim
    · rename_i id ver s j o e
      split at h
      · rename_i d p hp
        exact sound_storeR hL ht e hp h
      · exact h.elim
    · exact h.elim
  · exact h.elim
end
end Go.Dm
namespace Go.Dm
theorem relRow_flat {E : Env} {s b : Nat} : ∀ {xs : List (List D)} {o : Nat}, relRow xs E s b o → ∃ vs, rels xs.flatten E vs ∧ vs.length = xs.length * s ∧ (∀ r ∈ xs, r.length = s) ∧ ∀ k, k < vs.length → E.im b (o + k) = vs[k]?
  | [], o, _ => ⟨[], rfl, by simp, fun _ h => (by cases h), fun _ h => absurd h (by simp)⟩
  | x :: xs, o, h => by
    obtain ⟨us, h1, h2, h3⟩ := relCells_get h.1.2
    obtain ⟨vs, h4, h5, h6, h7⟩ := relRow_flat h.2
    have hx := h.1.1
    refine ⟨us ++ vs, by simpa using rels_append h2 h4, by simp [h1, hx, h5, Nat.add_mul]; omega, fun r hr => (by simp at hr; rcases hr with rfl | hr; exact hx; exact h6 r hr), fun k hk => ?_⟩
    by_cases hku : k < us.length
    · rw [h3 k (by omega), List.getElem?_append_left hku]
    · rw [List.getElem?_append_right (by omega)]
      have := h7 (k - us.length) (by simp at hk; omega)
      rw [← this]
      congr 1
      omega
def Env.grow (E : Env) (b id n m : Nat) (v : Value) (vs : List Value) : Env :=
  ⟨fun k o => if k = b ∧ o < m then vs[o]? else E.im k o, E.blk, fun j q => if j = id ∧ q = n then some v else E.hdr j q⟩
theorem append_two {P : Program} (w : World) (t ty e : TypeId) (i : TypeInfo) (z : Value) (ht : P.underlying t = some (.slice e)) (hi : P.info? e = some i) (hz : i.zero = some z) (hzs : z.cells.size = i.size) (hsz : 0 < i.size)
    (v : Value) (n : Nat) (xs : List Value) (hown : w.ownsRow 0 e i.size v n xs) (a : Addr) (m c : Nat) (ys : List Value) (hl : ys.length = m * i.size) (hys : ∀ j u, ys[j]? = some u → w.cell? (a.add j) = some u) (h1 : ∀ u ∈ ys, u.oneCell' = true)
    (hm0 : 0 < m) (h63 : n + m ≤ maxLen) (hb : (n + m) * i.bytes ≤ 140737488355328) :
    ∃ g cap w' cur, (Builtin.append_ #[t, t] ty #[v, .slice (some a) m c]).run P w = .ok (.slice (some ⟨g, 0, none⟩) (n + m) cap) w' ∧ w'.heap[g]? = some (.cells cur e (0, 0)) ∧ n + m ≤ cap ∧ cap ≤ maxLen ∧ cur.size = cap * i.size ∧
      cur.toList.take ((n + m) * i.size) = xs ++ ys ∧ ((v.ownBlock = some g ∧ w.grownBy w' (some g)) ∨ (g = w.heap.size ∧ w.grownBy w' none)) := by
  have hlen : (xs ++ ys).length = (n + m) * i.size := by rw [List.length_append, hown.1, hl, Nat.add_mul]
  have new : ∀ old, ∃ cap cur, cap = grownCap w (n + m) old e ∧ cur = xs.toArray ++ ys.toArray ++ Builtin.zeroCells z.cells (cap - (n + m)) ∧ (w.drew.alloc (.cells cur e)).heap[w.heap.size]? = some (.cells cur e (0, 0)) ∧ n + m ≤ cap ∧ cap ≤ maxLen ∧ cur.size = cap * i.size ∧
      cur.toList.take ((n + m) * i.size) = xs ++ ys ∧ w.grownBy (w.drew.alloc (.cells cur e)) none := by
    intro old
    refine ⟨_, _, rfl, rfl, heap_alloc_new w.drew _, grownCap_ge w _ old e, grownCap_le_maxLen w _ old e h63, ?_, ?_, ⟨rfl, rfl, rfl, by simp, fun k hk _ => heap_alloc_old (w := w.drew) hk⟩⟩
    · have hge := grownCap_ge w (n + m) old e
      rw [Array.size_append, Array.size_append, size_zeroCells, hzs]
      simp only [List.size_toArray, hown.1, hl]
      rw [← Nat.add_mul, ← Nat.add_mul]
      congr 1; omega
    · rw [← hlen]
      simp only [Array.toList_append, List.append_assoc]
      rw [← List.append_assoc]
      exact List.take_left
  rcases hown.2 with ⟨rfl, rfl⟩ | ⟨g, cap, cur, rfl, _, hg, hnc, hcm, hcs, htake⟩
  · obtain rfl : xs = [] := List.eq_nil_of_length_eq_zero (by simpa using hown.1)
    obtain ⟨cap, cur, e1, e2, e3, e4, e5, e6, e7, e8⟩ := new 0
    have hr := run_append_nil (P := P) w t ty e i z ht hi hz a m c ys hl hys hm0 (by simp only [maxLen] at h63; omega) (by simp only [Nat.zero_add] at hb; omega)
    refine ⟨w.heap.size, cap, _, cur, ?_, e3, e4, e5, e6, e7, .inr ⟨rfl, e8⟩⟩
    rw [hr, e2, e1]
    simp
  · by_cases hroom : n + m ≤ cap
    · have hfit : n * i.size + ys.length ≤ cur.size := by rw [hl, hcs, ← Nat.add_mul]; exact Nat.mul_le_mul_right _ hroom
      have hr := run_append_room (P := P) w t ty e i ht hi g n cap cur hg a m c ys hl hys h1 hroom hfit
      refine ⟨g, cap, _, _, hr, setRow_heap w g cur _ e _ hg, hroom, hcm, ?_, ?_, .inl ⟨rfl, ⟨rfl, rfl, rfl, by simp [World.setRow], fun k _ hk => setRow_other w g k _ (fun e => hk (by rw [e]))⟩⟩⟩
      · simp only [List.size_toArray, List.length_append, List.length_take, List.length_drop, Array.length_toList]
        omega
      · rw [htake, ← hlen]
        exact List.take_left
    · obtain ⟨cap', cur', e1, e2, e3, e4, e5, e6, e7, e8⟩ := new cap
      have holds : ∀ j u, xs[j]? = some u → w.cell? ((⟨g, 0, none⟩ : Addr).add j) = some u := hown.cells (g := g) rfl
      have hr := run_append_grow (P := P) w t ty e i z ht hi hz ⟨g, 0, none⟩ n cap xs hown.1 holds a m c ys hl hys (by omega) (by simp only [maxLen] at h63; omega) (growslice_fits (by omega) hb)
      exact ⟨w.heap.size, cap', _, cur', by rw [hr, e2, e1], e3, e4, e5, e6, e7, .inr ⟨rfl, e8⟩⟩
section
variable {P : Program}
theorem grow_row {E : Env} {N : Nat → Option Ob} {w : World} (hi : Inv E N w) {id : Nat} {et : TypeId} {s : Nat} {xs ys : List (List D)} (hN : N id = some (.row et s xs)) (hs : 0 < s)
    {t ty : TypeId} {i : TypeInfo} {z : Value} {bytes : Nat} (ht : P.underlying t = some (.slice et)) (hinf : P.info? et = some i) (hz : i.zero = some z) (hsz : i.size = s) (hby : i.bytes = bytes) (hzc : z.cells.size = s)
    {v u : Value} (hv : E.hdr id xs.length = some v) (hu : rel (.list s ys) E u) (hne : ys ≠ []) (hone : ∀ r ∈ ys, allOne r = true) (hb : (xs.length + ys.length) * bytes ≤ 140737488355328) (h63 : xs.length + ys.length ≤ maxLen) :
    ∃ v' w' E', (Builtin.append_ #[t, t] ty #[v, u]).run P w = .ok v' w' ∧ Done E E' N [(id, .row et s (xs ++ ys))] w w' ∧
      E'.hdr id (xs.length + ys.length) = some v' ∧ v'.oneCell' = true := by
  have ho := hi.ob id _ hN
  obtain ⟨a, cap, rfl, hcap, hrow⟩ := hu
  obtain ⟨yb, yo, rfl, hyr⟩ := hrow hne
  obtain ⟨yvs, y1, y2, y3, y4⟩ := relRow_flat hyr
  have hyone : ∀ q ∈ yvs, q.oneCell' = true := by
    have key : ∀ (cs : List D) (vs : List Value), allOne cs = true → rels cs E.pure vs → ∀ q ∈ vs, q.oneCell' = true := by
      intro cs
      induction cs with
      | nil => intro vs _ h; cases h; simp
      | cons c cs ih =>
        intro vs ha hr
        obtain ⟨x, ws, rfl, h3, h4⟩ := hr
        simp only [allOne] at ha
        split at ha
        · rename_i hq
          intro q hm
          simp at hm
          rcases hm with rfl | hm
          · exact isOne_rel hq h3
          · exact ih ws ha h4 q hm
        · cases ha
    have all : ∀ (ys : List (List D)), (∀ r ∈ ys, allOne r = true) → allOne ys.flatten = true := by
      intro ys
      induction ys with
      | nil => intro _; rfl
      | cons y ys ih =>
        intro h
        have h1 := ih fun r hr => h r (by simp [hr])
        have h2 := h y (by simp)
        simp only [List.flatten_cons]
        clear h ih
        induction y with
        | nil => simpa using h1
        | cons c y ihy =>
          simp only [allOne] at h2
          split at h2
          · rename_i hq
            simp only [List.cons_append, allOne, hq]
            exact ihy h2
          · cases h2
    exact key _ _ (all ys hone) y1
  have hnews : ∀ j q, yvs[j]? = some q → w.cell? ((⟨yb, yo, none⟩ : Addr).add j) = some q := by
    intro j q hq
    have hj : j < yvs.length := (List.getElem?_eq_some_iff.1 hq).1
    rw [add_plain]
    exact hi.im _ _ _ (by have := y4 j hj; simp only [Env.pure] at this; rw [this, hq])
  -- what is owned already
  obtain ⟨vals, hvals, hown, hvb⟩ : ∃ vals, rels xs.flatten E.pure vals ∧ w.ownsRow 0 et s v xs.length vals ∧ (v.ownBlock = none ∨ ∃ b c cap, v = .slice (some ⟨b, 0, none⟩) xs.length cap ∧ w.heap[b]? = some (.cells c et (0, 0)) ∧ (∀ o q, E.im b o = some q → o < xs.length * s) ∧ (∀ k, k < vals.length → E.im b k = vals[k]?) ∧ vals.length = xs.length * s) := by
    rcases ho.2 with ⟨h1, rfl⟩ | ⟨b, c, cap, h1, h2, h3, h4, hm, h5⟩
    · rw [hv] at h1
      injection h1 with h1
      subst h1
      exact ⟨[], rfl, World.ownsRow_nil _ _ _ _, .inl rfl⟩
    · rw [hv] at h1
      injection h1 with h1
      subst h1
      have hr := (ho.1 _ _ hv).2
      rw [List.take_length] at hr
      obtain ⟨a', cap', e1, _, e3⟩ := hr
      by_cases hx : xs = []
      · subst hx
        exact ⟨[], rfl, ⟨by simp, .inr ⟨b, cap, c, rfl, Nat.zero_le _, h2, h4, hm, h3, by simp⟩⟩, .inr ⟨b, c, cap, rfl, h2, h5, fun k hk => absurd hk (by simp), by simp⟩⟩
      · obtain ⟨b', o', e4, e5⟩ := e3 hx
        injection e1 with e1 _ _
        rw [e4] at e1
        injection e1 with e1
        injection e1 with e1 e1'
        subst e1; subst e1'
        obtain ⟨vs, f1, f2, f3, f4⟩ := relRow_flat e5
        simp only [Nat.zero_add] at f4
        refine ⟨vs, f1, ⟨f2, .inr ⟨b, cap, c, rfl, Nat.zero_le _, h2, h4, hm, h3, ?_⟩⟩, .inr ⟨b, c, cap, rfl, h2, h5, f4, f2⟩⟩
        apply List.ext_getElem?
        intro k
        by_cases hk : k < xs.length * s
        · rw [List.getElem?_take_of_lt hk]
          have g1 := f4 k (by omega)
          have hk' : k < vs.length := by omega
          have g2 : w.cell? ⟨b, k, none⟩ = some vs[k] := hi.im _ _ _ (by have := g1; simp only [Env.pure] at this; rw [this, List.getElem?_eq_getElem hk'])
          simp only [World.cell?, h2] at g2
          rw [List.getElem?_eq_getElem hk']
          simpa using g2
        · rw [List.getElem?_eq_none (by simp; omega), List.getElem?_eq_none (by omega)]
  subst hsz; subst hby
  have hylen : 0 < ys.length := by cases ys with | nil => exact absurd rfl hne | cons _ _ => simp
  obtain ⟨g, cap', w', cur, r1, g2, g3, g4, g5, g6, r5⟩ := append_two (P := P) w t ty et i z ht hinf hz hzc hs v xs.length vals hown ⟨yb, yo, none⟩ ys.length cap yvs y2 hnews hyone hylen h63 hb
  have hvl : vals.length = xs.length * i.size := hown.1
  have hcell : ∀ o, o < (xs.length + ys.length) * i.size → w'.cell? ⟨g, o, none⟩ = (vals ++ yvs)[o]? := by
    intro o ho'
    simp only [World.cell?, g2]
    rw [← g6, List.getElem?_take_of_lt ho']
    simp
  have r3 : w.grownBy w' v.ownBlock := by
    rcases r5 with ⟨e, h⟩ | ⟨_, h⟩
    · rw [e]; exact h
    · exact ⟨h.os, h.tape, h.output, h.size, fun k hk _ => h.block k hk (by simp)⟩
  -- where it lies: in its own block, or in a new one
  have hg : (∃ (c : Nat) (cap : Nat), v = .slice (some ⟨g, 0, none⟩) xs.length cap ∧ (∀ o q, E.im g o = some q → o < xs.length * i.size) ∧ (∀ k, k < vals.length → E.im g k = vals[k]?)) ∨ ((g = w.heap.size ∧ w.grownBy w' none) ∧ ∀ o, E.im g o = none) := by
    rcases r5 with ⟨r5, _⟩ | r5
    · rcases hvb with hvb | ⟨b, c, cap, rfl, q1, q2, q3, q4⟩
      · rw [hvb] at r5; cases r5
      · simp only [Value.ownBlock, Option.some.injEq] at r5
        subst r5
        exact .inl ⟨0, cap, rfl, q2, q3⟩
    · refine .inr ⟨r5, fun o => ?_⟩
      cases hq : E.im g o with
      | none => rfl
      | some q => have := cell_lt (hi.im _ _ _ hq); omega
  let E' := E.grow g id (xs.length + ys.length) ((xs.length + ys.length) * i.size) (.slice (some ⟨g, 0, none⟩) (xs.length + ys.length) cap') (vals ++ yvs)
  have hfresh : ∀ q, E.hdr id (xs.length + ys.length) ≠ some q := by
    intro q hq
    have := (ho.1 _ _ hq).1
    omega
  have him : ∀ b o q, E.im b o = some q → E'.im b o = some q := by
    intro b o q hq
    show (if b = g ∧ o < (xs.length + ys.length) * i.size then (vals ++ yvs)[o]? else E.im b o) = some q
    by_cases hc : b = g ∧ o < (xs.length + ys.length) * i.size
    · rw [if_pos hc]
      obtain ⟨rfl, hc⟩ := hc
      rcases hg with ⟨c, cap, _, k1, k2⟩ | ⟨⟨_, _⟩, k1⟩
      · have := k1 o q hq
        rw [List.getElem?_append_left (by omega), ← k2 o (by omega)]; exact hq
      · rw [k1] at hq; cases hq
    · rw [if_neg hc]; exact hq
  have hle : E.le E' := by
    refine ⟨him, fun _ _ h => h, fun j n q hq => ?_⟩
    show (if j = id ∧ n = xs.length + ys.length then _ else E.hdr j n) = some q
    rw [if_neg (by rintro ⟨rfl, rfl⟩; exact hfresh q hq)]; exact hq
  have hownb : ∀ b, v.ownBlock = some b → ownOf E N [(id, .row et i.size (xs ++ ys))] b := by
    intro b hb'
    refine ⟨(id, .row et i.size (xs ++ ys)), by simp, .row et i.size xs, hN, ?_⟩
    rcases hvb with hvb | ⟨b2, c, cap, rfl, _⟩
    · rw [hvb] at hb'; cases hb'
    · simp only [obBlk, hv, hdrBlk]
      exact hb'
  have st : Step E E' (ownOf E N [(id, .row et i.size (xs ++ ys))]) w w' := by
    refine ⟨hle, r3.size, fun b hb' hno => r3.block b hb' (fun e => hno (hownb b e.symm)), fun b o q hq => ?_, r3.os, r3.tape, r3.output⟩
    have hq' : (if b = g ∧ o < (xs.length + ys.length) * i.size then (vals ++ yvs)[o]? else E.im b o) = some q := hq
    split at hq'
    · rename_i hc
      obtain ⟨rfl, _⟩ := hc
      rcases hg with ⟨c, cap, rfl, _⟩ | ⟨⟨e, _⟩, _⟩
      · exact .inr (.inr (hownb _ rfl))
      · exact .inr (.inl (by omega))
    · exact .inl hq'
  have hrow' : relRow (xs ++ ys) E'.pure i.size g 0 := by
    refine relRow_of (fun r hr => ?_) (vs := vals ++ yvs) ?_ fun k hk => ?_
    · rcases List.mem_append.1 hr with hr | hr
      · rcases hvb with hvb | ⟨b, c, cap, rfl, q1, q2, q3, q4⟩
        · have : xs = [] := by
            rcases ho.2 with ⟨_, h⟩ | ⟨b, c, cap, h1, _⟩
            · exact h
            · rw [hv] at h1; injection h1 with h1; subst h1; simp [Value.ownBlock] at hvb
          subst this; cases hr
        · have hr0 := (ho.1 _ _ hv).2
          rw [List.take_length] at hr0
          obtain ⟨a', cap2, e1, _, e3⟩ := hr0
          obtain ⟨b', o', e4, e5⟩ := e3 (by intro h; subst h; cases hr)
          exact (relRow_flat e5).choose_spec.2.2.1 r hr
      · exact y3 r hr
    · simpa using rels_append (rels_mono _ hle.pure hvals) (rels_mono _ hle.pure y1)
    · show (if g = g ∧ 0 + k < (xs.length + ys.length) * i.size then (vals ++ yvs)[0 + k]? else E.im g (0 + k)) = (vals ++ yvs)[k]?
      rw [Nat.zero_add, if_pos ⟨rfl, by have h7 := hk; rw [List.length_append, hvl, y2, ← Nat.add_mul] at h7; exact h7⟩]
  have hhdr : E'.hdr id (xs.length + ys.length) = some (.slice (some ⟨g, 0, none⟩) (xs.length + ys.length) cap') := by
    show (if id = id ∧ xs.length + ys.length = xs.length + ys.length then _ else _) = _
    rw [if_pos ⟨rfl, rfl⟩]
  have hlist : rel (.list i.size (xs ++ ys)) E' (.slice (some ⟨g, 0, none⟩) (xs.length + ys.length) cap') :=
    ⟨_, cap', by rw [List.length_append], by rw [List.length_append]; exact g3, fun _ => ⟨g, 0, rfl, hrow'⟩⟩
  have hbd : ∀ b, obBlk E' id (.row et i.size (xs ++ ys)) = some b → (∃ x, N id = some x ∧ obBlk E id x = some b) ∨ w.heap.size ≤ b := by
    intro b hb'
    simp only [obBlk, List.length_append, hhdr, hdrBlk] at hb'
    injection hb' with hb'
    subst hb'
    rcases hg with ⟨c, cap, rfl, _⟩ | ⟨⟨e, _⟩, _⟩
    · exact .inl ⟨_, hN, by simp [obBlk, hv, hdrBlk]⟩
    · exact .inr (by show w.heap.size ≤ g; omega)
  refine ⟨_, w', E', r1, ⟨st, hi.step1 st (fun b o q hq => ?_) ?_ (fun j hj => ?_) hbd, fun j hj => ⟨rfl, ?_⟩, fun p hp b hb' => (by simp only [List.mem_singleton] at hp; subst hp; exact (hbd b hb').imp (fun ⟨x, h1, h2⟩ => ⟨_, List.mem_singleton_self _, x, h1, h2⟩) fun h => h)⟩, hhdr, rfl⟩
  · have hq' : (if b = g ∧ o < (xs.length + ys.length) * i.size then (vals ++ yvs)[o]? else E.im b o) = some q := hq
    split at hq'
    · rename_i hc
      obtain ⟨rfl, hc⟩ := hc
      rw [hcell o hc]; exact hq'
    · rename_i hc
      have hc0 := hi.im b o q hq'
      have hlt := cell_lt hc0
      by_cases hbv : some b = v.ownBlock
      · -- its own block, beyond the row: nothing is known there
        rcases hvb with hvb | ⟨b2, c, cap, rfl, q1, q2, q3, q4⟩
        · rw [hvb] at hbv; cases hbv
        · simp only [Value.ownBlock, Option.some.injEq] at hbv
          subst hbv
          have hob := q2 o q hq'
          rcases hg with ⟨c', cap', e, _, _⟩ | ⟨⟨_, e⟩, _⟩
          · injection e with e _ _; injection e with e; injection e with e
            subst e
            exfalso; apply hc; refine ⟨rfl, ?_⟩
            have h7 : xs.length * i.size ≤ (xs.length + ys.length) * i.size := Nat.mul_le_mul_right _ (by omega)
            exact Nat.lt_of_lt_of_le hob h7
          · -- it moved: the old block stays as it was
            rw [cell_same (e.block b hlt (by simp))]; exact hc0
      · rw [cell_same (r3.block b hlt hbv)]; exact hc0
  · refine ⟨fun n q hq => ?_, .inr ⟨g, cur, cap', by rw [List.length_append]; exact hhdr, g2, g5, by rw [List.length_append]; exact g3, g4, fun o q hq => ?_⟩⟩
    · have hq' : (if id = id ∧ n = xs.length + ys.length then some (Value.slice (some ⟨g, 0, none⟩) (xs.length + ys.length) cap') else E.hdr id n) = some q := hq
      split at hq'
      · rename_i hc
        obtain ⟨_, rfl⟩ := hc
        injection hq' with hq'
        subst hq'
        refine ⟨by simp, ?_⟩
        rw [List.take_of_length_le (by simp)]; exact hlist
      · obtain ⟨k1, k2⟩ := ho.1 n q hq'
        refine ⟨by simp; omega, ?_⟩
        rw [List.take_append_of_le_length k1]
        exact rel_mono _ hle k2
    · have hq' : (if g = g ∧ o < (xs.length + ys.length) * i.size then (vals ++ yvs)[o]? else E.im g o) = some q := hq
      rw [List.length_append]
      split at hq'
      · rename_i hc; exact hc.2
      · rcases hg with ⟨c, cap, _, k1, _⟩ | ⟨⟨_, _⟩, k1⟩
        · have := k1 o q hq'
          have : xs.length * i.size ≤ (xs.length + ys.length) * i.size := Nat.mul_le_mul_right _ (by omega)
          omega
        · rw [k1] at hq'; cases hq'
  · funext n
    show (if j = id ∧ n = xs.length + ys.length then _ else E.hdr j n) = _
    rw [if_neg (by rintro ⟨rfl, _⟩; exact hj rfl)]
  · funext n
    show (if j = id ∧ n = xs.length + ys.length then _ else E.hdr j n) = _
    rw [if_neg (by rintro ⟨rfl, _⟩; exact hj (by simp))]
theorem ones_rel {E : Env} {ys : List (List D)} {vs : List Value} (h : ∀ r ∈ ys, allOne r = true) (hr : rels ys.flatten E vs) : ∀ q ∈ vs, q.oneCell' = true := by
  have key : ∀ (cs : List D) (vs : List Value), allOne cs = true → rels cs E vs → ∀ q ∈ vs, q.oneCell' = true := by
    intro cs
    induction cs with
    | nil => intro vs _ h; cases h; simp
    | cons c cs ih =>
      intro vs ha hr
      obtain ⟨x, ws, rfl, h3, h4⟩ := hr
      simp only [allOne] at ha
      split at ha
      · rename_i hq
        intro q hm
        simp at hm
        rcases hm with rfl | hm
        · exact isOne_rel hq h3
        · exact ih ws ha h4 q hm
      · cases ha
  have all : ∀ (ys : List (List D)), (∀ r ∈ ys, allOne r = true) → allOne ys.flatten = true := by
    intro ys
    induction ys with
    | nil => intro _; rfl
    | cons y ys ih =>
      intro h
      have h1 := ih fun r hr => h r (by simp [hr])
      have h2 := h y (by simp)
      simp only [List.flatten_cons]
      clear h ih
      induction y with
      | nil => simpa using h1
      | cons c y ihy =>
        simp only [allOne] at h2
        split at h2
        · rename_i hq
          simp only [List.cons_append, allOne, hq]
          exact ihy h2
        · cases h2
  exact key _ _ (all ys h) hr
theorem grow_mrow {E : Env} {N : Nat → Option Ob} {w : World} (hi : Inv E N w) {id : Nat} {et : TypeId} {s ver : Nat} {xs ys : List (List D)} (hN : N id = some (.mrow et s ver xs)) (hs : 0 < s)
    {t ty : TypeId} {i : TypeInfo} {z : Value} {bytes : Nat} (ht : P.underlying t = some (.slice et)) (hinf : P.info? et = some i) (hz : i.zero = some z) (hsz : i.size = s) (hby : i.bytes = bytes) (hzc : z.cells.size = s)
    {v u : Value} (hv : E.hdr id ver = some v) (hu : rel (.list s ys) E u) (hne : ys ≠ []) (hone : ∀ r ∈ ys, allOne r = true) (hb : (xs.length + ys.length) * bytes ≤ 140737488355328) (h63 : xs.length + ys.length ≤ maxLen) :
    ∃ v' w' E', (Builtin.append_ #[t, t] ty #[v, u]).run P w = .ok v' w' ∧ Done E E' N [(id, .mrow et s (ver + 1) (xs ++ ys))] w w' ∧
      E'.hdr id (ver + 1) = some v' ∧ v'.oneCell' = true := by
  have ho := hi.ob id _ hN
  obtain ⟨a, cap, rfl, hcap, hrow⟩ := hu
  obtain ⟨yb, yo, rfl, hyr⟩ := hrow hne
  obtain ⟨yvs, y1, y2, y3, y4⟩ := relRow_flat hyr
  have hyone := ones_rel hone y1
  have hnews : ∀ j q, yvs[j]? = some q → w.cell? ((⟨yb, yo, none⟩ : Addr).add j) = some q := by
    intro j q hq
    have hj : j < yvs.length := (List.getElem?_eq_some_iff.1 hq).1
    rw [add_plain]
    exact hi.im _ _ _ (by have := y4 j hj; simp only [Env.pure] at this; rw [this, hq])
  obtain ⟨vals, hvals, hown, hxr, hvb⟩ : ∃ vals, rels xs.flatten E.pure vals ∧ w.ownsRow 0 et s v xs.length vals ∧ (∀ r ∈ xs, r.length = s) ∧ (v.ownBlock = none ∨ ∃ b c cap, v = .slice (some ⟨b, 0, none⟩) xs.length cap ∧ w.heap[b]? = some (.cells c et (0, 0)) ∧ ∀ o, E.im b o = none) := by
    rcases ho.2 with ⟨h1, rfl⟩ | ⟨b, c, cap, h1, h2, h3, h4, hm, h5, h6, h7⟩
    · rw [hv] at h1
      injection h1 with h1
      subst h1
      exact ⟨[], rfl, World.ownsRow_nil _ _ _ _, fun _ h => (by cases h), .inl rfl⟩
    · rw [hv] at h1
      injection h1 with h1
      subst h1
      have hle : xs.length * s ≤ cap * s := Nat.mul_le_mul_right _ h4
      exact ⟨_, h6, ⟨by simp; omega, .inr ⟨b, cap, c, rfl, Nat.zero_le _, h2, h4, hm, h3, rfl⟩⟩, h5, .inr ⟨b, c, cap, rfl, h2, h7⟩⟩
  subst hsz; subst hby
  have hylen : 0 < ys.length := by cases ys with | nil => exact absurd rfl hne | cons _ _ => simp
  obtain ⟨g, cap', w', cur, r1, g2, g3, g4, g5, g6, r5⟩ := append_two (P := P) w t ty et i z ht hinf hz hzc hs v xs.length vals hown ⟨yb, yo, none⟩ ys.length cap yvs y2 hnews hyone hylen h63 hb
  have r3 : w.grownBy w' v.ownBlock := by
    rcases r5 with ⟨e, h⟩ | ⟨_, h⟩
    · rw [e]; exact h
    · exact ⟨h.os, h.tape, h.output, h.size, fun k hk _ => h.block k hk (by simp)⟩
  have hg : (v.ownBlock = some g ∧ ∀ o, E.im g o = none) ∨ (g = w.heap.size ∧ ∀ o, E.im g o = none) := by
    rcases r5 with ⟨r5, _⟩ | r5
    · rcases hvb with hvb | ⟨b, c, cap, rfl, q1, q2⟩
      · rw [hvb] at r5; cases r5
      · have e := r5
        simp only [Value.ownBlock, Option.some.injEq] at e
        subst e
        exact .inl ⟨r5, q2⟩
    · refine .inr ⟨r5.1, fun o => ?_⟩
      cases hq : E.im g o with
      | none => rfl
      | some q => have := cell_lt (hi.im _ _ _ hq); have := r5.1; omega
  let E' : Env := ⟨E.im, E.blk, fun j q => if j = id ∧ q = ver + 1 then some (.slice (some ⟨g, 0, none⟩) (xs.length + ys.length) cap') else E.hdr j q⟩
  have hle : E.le E' := by
    refine ⟨fun _ _ _ h => h, fun _ _ h => h, fun j n q hq => ?_⟩
    show (if j = id ∧ n = ver + 1 then _ else E.hdr j n) = some q
    rw [if_neg (by rintro ⟨rfl, rfl⟩; have := ho.1 _ _ hq; omega)]; exact hq
  have hh : E'.hdr id (ver + 1) = some (.slice (some ⟨g, 0, none⟩) (xs.length + ys.length) cap') := by show (if id = id ∧ ver + 1 = ver + 1 then _ else _) = _; rw [if_pos ⟨rfl, rfl⟩]
  have hownb : ∀ b, v.ownBlock = some b → ownOf E N [(id, .mrow et i.size (ver + 1) (xs ++ ys))] b := by
    intro b hb'
    refine ⟨_, List.mem_singleton_self _, _, hN, ?_⟩
    rcases hvb with hvb | ⟨b2, c, cap, rfl, _⟩
    · rw [hvb] at hb'; cases hb'
    · simp only [obBlk, hv, hdrBlk]
      exact hb'
  have st : Step E E' (ownOf E N [(id, .mrow et i.size (ver + 1) (xs ++ ys))]) w w' :=
    ⟨hle, r3.size, fun b hb' hno => r3.block b hb' (fun e => hno (hownb b e.symm)), fun b o q hq => .inl hq, r3.os, r3.tape, r3.output⟩
  have hbd : ∀ b, obBlk E' id (.mrow et i.size (ver + 1) (xs ++ ys)) = some b → (∃ x, N id = some x ∧ obBlk E id x = some b) ∨ w.heap.size ≤ b := by
    intro b hb'
    simp only [obBlk, hh, hdrBlk, Option.some.injEq] at hb'
    subst hb'
    rcases hg with ⟨h1, _⟩ | ⟨h1, _⟩
    · obtain ⟨p, h2, x, h3, h4⟩ := hownb _ h1
      simp only [List.mem_singleton] at h2
      subst h2
      exact .inl ⟨x, h3, h4⟩
    · exact .inr (by omega)
  have hvl : vals.length = xs.length * i.size := hown.1
  refine ⟨_, w', E', r1, ⟨st, hi.step1 st (fun b o q hq => ?_) ⟨fun n q hq => ?_, .inr ⟨g, cur, cap', ?_, g2, g5, by simpa using g3, g4, fun r hr => ?_, ?_, fun o => ?_⟩⟩ (fun j hj => ?_) hbd, fun j hj => ⟨rfl, ?_⟩, fun p hp b hb' => ?_⟩, hh, rfl⟩
  · have hc := hi.im b o q hq
    rw [cell_same (r3.block b (cell_lt hc) (fun e => ?_))]; exact hc
    rcases hvb with hvb | ⟨b2, c, cap, rfl, _, q2⟩
    · rw [hvb] at e; cases e
    · simp only [Value.ownBlock, Option.some.injEq] at e
      subst e
      rw [q2] at hq; cases hq
  · have hq' : (if id = id ∧ n = ver + 1 then some (Value.slice (some ⟨g, 0, none⟩) (xs.length + ys.length) cap') else E.hdr id n) = some q := hq
    split at hq'
    · rename_i e; omega
    · have := ho.1 _ _ hq'; omega
  · rw [List.length_append]; exact hh
  · rcases List.mem_append.1 hr with hr | hr
    · exact hxr r hr
    · exact y3 r hr
  · rw [List.length_append, g6, List.flatten_append]
    exact rels_mono _ hle.pure (rels_append hvals y1)
  · show E.im g o = none
    rcases hg with ⟨_, h⟩ | ⟨_, h⟩ <;> exact h o
  · funext n
    show (if j = id ∧ n = ver + 1 then _ else E.hdr j n) = _
    rw [if_neg (by rintro ⟨rfl, _⟩; exact hj rfl)]
  · funext n
    show (if j = id ∧ n = ver + 1 then _ else E.hdr j n) = _
    rw [if_neg (by rintro ⟨rfl, _⟩; exact hj (by simp))]
  · simp only [List.mem_singleton] at hp
    subst hp
    rcases hbd b hb' with ⟨x, h1, h2⟩ | h
    · exact .inl ⟨_, List.mem_singleton_self _, x, h1, h2⟩
    · exact .inr h
end
end Go.Dm
namespace Go.Dm
def CallPost (E : Env) (pre : Mem) (w : World) : Out → Ending → World → Prop
  | .ret d post, e, w' => ∃ v E', e = .returned v ∧ Done E E' (get pre) post w w' ∧ rel d E' v
  | .pan d, e, w' => ∃ x E', e = .panicked [⟨x, false, false⟩] ∧ Step E E' (ownOf E (get pre) pre) w w' ∧ ImOK E' w' ∧ rel d E' x
def FnOK (P : Program) (f : FuncId) : Prop := ∃ fn, P.funcs[f]? = some fn ∧ fn.body.isSome = true ∧ fn.name ≠ "runtime.NumGoroutine"
def PCall (P : Program) (f : FuncId) (pre : Mem) (ds : List D) (out : Out) : Prop :=
  FnOK P f ∧ ∀ (E : Env) (w : World) (vs : List Value), Inv E (get pre) w → (∀ j, isNew pre out j → E.blk j = none ∧ ∀ n, E.hdr j n = none) → rels ds E vs →
    Calls P f vs.toArray w (CallPost E pre w out)
theorem get_mem {pre : Mem} : ∀ {id : Nat} {x : Ob}, get pre id = some x → (id, x) ∈ pre := by
  induction pre with
  | nil => intro id x h; cases h
  | cons p pre ih =>
    intro id x h
    obtain ⟨k, y⟩ := p
    rw [get_cons] at h
    split at h
    · rename_i e; subst e; injection h with h; subst h; simp
    · exact List.mem_cons_of_mem _ (ih h)
theorem upds_eq {N : Nat → Option Ob} : ∀ (post : Mem) (id : Nat), upds N post id = match get post id with | some x => some x | none => N id
  | [], _ => rfl
  | (k, a) :: r, id => by
    rw [upds_cons, get_cons]
    split
    · rfl
    · exact upds_eq r id
theorem get_some_mem {post : Mem} {id : Nat} (h : id ∈ post.map (·.1)) : ∃ x, get post id = some x := by
  induction post with
  | nil => cases h
  | cons p r ih =>
    obtain ⟨k, y⟩ := p
    rw [get_cons]
    by_cases e : k = id
    · exact ⟨y, by rw [if_pos e]⟩
    · rw [if_neg e]
      exact ih (by simp at h ⊢; rcases h with h | h; exact absurd h.symm e; exact h)
theorem get_none_mem {post : Mem} {id : Nat} (h : get post id = none) : id ∉ post.map (·.1) := fun hm => by
  obtain ⟨x, hx⟩ := get_some_mem hm
  rw [h] at hx; cases hx
theorem Inv.sub {E : Env} {N N' : Nat → Option Ob} {w : World} (h : Inv E N w) (hs : ∀ id x, N' id = some x → N id = some x) : Inv E N' w :=
  ⟨h.im, fun id x hx => h.ob id x (hs id x hx), fun i j x y b hx hy => h.sep i j x y b (hs i x hx) (hs j y hy), h.gl⟩
theorem Done.frame {E E' : Env} {N N' : Nat → Option Ob} {post : Mem} {w w' : World} (hi : Inv E N w) (hs : ∀ id x, N' id = some x → N id = some x) (h : Done E E' N' post w w') : Done E E' N post w w' := by
  have own : ∀ b, ownOf E N' post b → ownOf E N post b := fun b ⟨p, h1, x, h2, h3⟩ => ⟨p, h1, x, hs _ _ h2, h3⟩
  have st := h.st.mono own
  have bd : ∀ p ∈ post, ∀ b, obBlk E' p.1 p.2 = some b → ownOf E N post b ∨ w.heap.size ≤ b := fun p hm b hb =>
    (h.bd p hm b hb).imp (own b) id
  have noown : ∀ j y, get post j = none → N j = some y → ∀ b, obBlk E j y = some b → ¬ ownOf E N post b := by
    rintro j y hj hy b hb ⟨p, h1, x, h2, h3⟩
    have := hi.sep j p.1 y x b hy h2 hb h3
    subst this
    exact get_none_mem hj (List.mem_map.2 ⟨p, h1, rfl⟩)
  refine ⟨st, ⟨h.inv.im, fun j y hy => ?_, fun i j x y b hx hy hxb hyb => ?_, h.inv.gl⟩, h.ids, bd⟩
  · rw [upds_eq] at hy
    cases hg : get post j with
    | some z =>
      rw [hg] at hy
      simp only [Option.some.injEq] at hy
      subst hy
      exact h.inv.ob j z (by rw [upds_eq, hg])
    | none =>
      rw [hg] at hy
      simp only at hy
      exact (hi.ob j y hy).keep st (noown j y hg hy) (fun n v hv => by rw [(h.ids j (get_none_mem hg)).2] at hv; exact hv)
  · rw [upds_eq] at hx hy
    have cross : ∀ i j x y, get post i = some x → get post j = none → N j = some y → obBlk E' i x = some b → obBlk E' j y = some b → False := by
      intro i j x y hi' hj hy hxb hyb
      rw [obBlk_le st.le (hi.ob j y hy)] at hyb
      rcases bd (i, x) (get_mem hi') b hxb with ⟨q, h0, z, h1, h2⟩ | hge
      · have := hi.sep q.1 j z y b h1 hy h2 hyb
        subst this
        exact get_none_mem hj (List.mem_map.2 ⟨q, h0, rfl⟩)
      · have := obBlk_lt (hi.ob j y hy) hyb
        omega
    cases hgi : get post i with
    | some u =>
      rw [hgi] at hx
      simp only [Option.some.injEq] at hx
      subst hx
      cases hgj : get post j with
      | some u' =>
        rw [hgj] at hy
        simp only [Option.some.injEq] at hy
        subst hy
        exact h.inv.sep i j u u' b (by rw [upds_eq, hgi]) (by rw [upds_eq, hgj]) hxb hyb
      | none =>
        rw [hgj] at hy
        simp only at hy
        exact (cross i j u y hgi hgj hy hxb hyb).elim
    | none =>
      rw [hgi] at hx
      simp only at hx
      cases hgj : get post j with
      | some u' =>
        rw [hgj] at hy
        simp only [Option.some.injEq] at hy
        subst hy
        exact (cross j i u' x hgj hgi hx hyb hxb).elim
      | none =>
        rw [hgj] at hy
        simp only at hy
        rw [obBlk_le st.le (hi.ob i x hx)] at hxb
        rw [obBlk_le st.le (hi.ob j y hy)] at hyb
        exact hi.sep i j x y b hx hy hxb hyb
def wThere (M : Mem) : Mem → Prop
  | [] => True
  | (k, x) :: r => get M k = some x ∧ wThere M r
theorem wThere_spec {M : Mem} : ∀ {pre : Mem}, wThere M pre → There (get M) pre
  | [], _, _, h => by cases h
  | (k, x) :: r, ⟨h1, h2⟩, p, hp => by
    simp only [List.mem_cons] at hp
    rcases hp with rfl | hp
    · exact h1
    · exact wThere_spec h2 p hp
section
variable {P : Program} {L : List Ty} {fr : Fr} {M : Mem} {news : List Nat} {K : Kont} {dst : Option Tmp} {ty : TypeId} {pos : String} {after : Array Edge} {guard : Option (Nat × Bool)}
def Adapts (M : Mem) (ds ds0 : List D) (p : Mem) : Prop := There (get M) p ∧ ∀ (E : Env) (N : Nat → Option Ob) (w : World) (vs : List Value), Inv E N w → There N p → rels ds E vs → rels ds0 E vs
theorem Adapts.refl (M : Mem) (ds : List D) : Adapts M ds ds [] := ⟨fun _ h => (by cases h), fun _ _ _ _ _ _ h => h⟩
theorem Adapts.pur {M : Mem} {ds ds0 : List D} {p : Mem} (h : purifyL M ds = some (ds0, p)) : Adapts M ds ds0 p :=
  ⟨(purifyL_rel ds h).1, fun E N w vs hi hN hr => rels_pure ((purifyL_rel ds h).2 E N w vs hi hN hr)⟩
theorem Adapts.keep {M : Mem} {d : D} {ds ds0 : List D} {p : Mem} (h : Adapts M ds ds0 p) : Adapts M (d :: ds) (d :: ds0) p :=
  ⟨h.1, fun E N w vs hi hN ⟨v, ws, h1, h2, h3⟩ => ⟨v, ws, h1, h2, h.2 E N w ws hi hN h3⟩⟩
theorem Adapts.one {M : Mem} {d e : D} {ds ds0 : List D} {p q : Mem} (h1 : purify M d = some (e, q)) (h : Adapts M ds ds0 p) : Adapts M (d :: ds) (e :: ds0) (q ++ p) :=
  ⟨(purify_rel d h1).1.app h.1, fun E N w vs hi hN ⟨v, ws, e1, e2, e3⟩ => ⟨v, ws, e1, rel_pure ((purify_rel d h1).2 E N w v hi hN.append.1 e2), h.2 E N w ws hi hN.append.2 e3⟩⟩
def newOff (pre p : Mem) : Mem → Bool
  | [] => true
  | (k, _) :: r => match get pre k with
    | some _ => newOff pre p r
    | none => match get p k with
      | some _ => false
      | none => newOff pre p r
def outOff (pre p : Mem) : Out → Bool
  | .ret _ post => newOff pre p post
  | .pan _ => true
theorem newOff_spec {pre p : Mem} : ∀ {post : Mem}, newOff pre p post = true → ∀ j ∈ post.map (·.1), get pre j = none → get p j = none
  | [], _, j, h, _ => by cases h
  | (k, x) :: r, h, j, hj, hn => by
    simp only [newOff] at h
    simp only [List.map_cons, List.mem_cons] at hj
    split at h
    · rename_i y hy
      rcases hj with rfl | hj
      · rw [hn] at hy; cases hy
      · exact newOff_spec h j hj hn
    · split at h
      · cases h
      · rename_i hp
        rcases hj with rfl | hj
        · exact hp
        · exact newOff_spec h j hj hn
theorem get_app_none {pre p : Mem} {j : Nat} (h1 : get pre j = none) (h2 : get p j = none) : get (pre ++ p) j = none := by
  induction pre with
  | nil => exact h2
  | cons q r ih =>
    obtain ⟨k, x⟩ := q
    rw [get_cons] at h1
    rw [List.cons_append, get_cons]
    split at h1
    · cases h1
    · rename_i e
      rw [if_neg e]; exact ih h1
def ECall (P : Program) (g : D) (f : FuncId) (ds : List D) (d : D) : Prop :=
  ∀ (E : Env) (w : World) (vs : List Value), ImOK E w → rel g E (.pointer (some ⟨maxLenG, 0, none⟩)) → rels ds E vs → ∃ v, (callFunc f vs.toArray).run P w = .ok (.value v) w ∧ rel d E v
inductive CallOK (P : Program) (g : D) (f : FuncId) : Mem → List D → Out → Prop
  | body {pre : Mem} {ds : List D} {out : Out} (h : PCall P f pre ds out) : CallOK P g f pre ds out
  | entry {ds : List D} {d : D} (h : ECall P g f ds d) : CallOK P g f [] ds (.ret d [])
structure wCallF (P : Program) (M : Mem) (g : D) (k : FuncId) (ds : List D) (K : Kont) : Prop where
  ex : ∃ (ds0 : List D) (p pre : Mem) (out : Out), Adapts M ds ds0 p ∧ CallOK P g k pre ds0 out ∧ There (get M) pre ∧ outOff pre p out = true ∧ K out (pre ++ p)
def wCallV (P : Program) (M : Mem) (fr : Fr) (f : Operand) (args : Array Operand) (K : Kont) : Prop :=
  match ev fr f with
  | .fn (.func k) caps => wCallF P M (gd fr (100000 + maxLenG)) k (evs fr args.toList ++ caps) K
  | _ => False
theorem call0F {g : D} {k : FuncId} {ds : List D} {out : Out} (h : PCall P k [] ds out) (hK : K out []) : wCallF P M g k ds K :=
  .mk ⟨ds, [], [], out, .refl _ _, .body h, fun _ h => (by cases h), by
    have : ∀ post, newOff [] [] post = true := by
      intro post
      induction post with
      | nil => rfl
      | cons p r ih => exact ih
    cases out with
    | ret d post => exact this post
    | pan d => rfl, hK⟩
theorem callPF {g : D} {k : FuncId} {ds ds0 : List D} {p : Mem} {out : Out} (hp : purifyL M ds = some (ds0, p)) (h : PCall P k [] ds0 out) (ho : outOff [] p out = true) (hK : K out p) : wCallF P M g k ds K :=
  .mk ⟨ds0, p, [], out, .pur hp, .body h, fun _ h => (by cases h), ho, hK⟩
theorem callMF {g : D} {k : FuncId} {ds : List D} {pre : Mem} {out : Out} (h : PCall P k pre ds out) (ht : wThere M pre) (ho : outOff pre [] out = true) (hK : K out (pre ++ [])) : wCallF P M g k ds K :=
  .mk ⟨ds, [], pre, out, .refl _ _, .body h, wThere_spec ht, ho, hK⟩
theorem callAF {g : D} {k : FuncId} {ds ds0 : List D} {p pre : Mem} {out : Out} (ha : Adapts M ds ds0 p) (h : PCall P k pre ds0 out) (ht : wThere M pre) (ho : outOff pre p out = true) (hK : K out (pre ++ p)) : wCallF P M g k ds K :=
  .mk ⟨ds0, p, pre, out, ha, .body h, wThere_spec ht, ho, hK⟩
theorem callEF {g : D} {k : FuncId} {ds : List D} {d : D} (h : ECall P g k ds d) (hK : K (.ret d []) []) : wCallF P M g k ds K :=
  .mk ⟨ds, [], [], .ret d [], .refl _ _, .entry h, fun _ h => (by cases h), rfl, hK⟩
theorem run_callFunc {w : World} {k : Nat} {vs : Array Value} {fn : Func} (h1 : P.funcs[k]? = some fn) (h2 : fn.body.isSome = true) (h3 : fn.name ≠ "runtime.NumGoroutine") : (callFunc k vs).run P w = .ok (.enter k vs) w := by
  have h4 : (fn.name == "runtime.NumGoroutine") = false := by simpa using h3
  have h5 : ¬ fn.body = none := by intro h; rw [h] at h2; cases h2
  unfold callFunc
  simp [h1, h3, h5]
theorem sound_callV {f : Operand} {args : Array Operand} {ats : Array TypeId} (h : wCallV P M fr f args K) : Sound P fr M news ⟨dst, .call ⟨.value f, args, ats⟩, ty, pos, after, guard⟩ K := by
  unfold wCallV at h
  split at h
  · rename_i k caps ef
    obtain ⟨ds0, p, pre, out, had, hcall, hth, hoff, hK⟩ := h.ex
    cases hcall
    case entry d hc =>
      refine ⟨.ret d [], p, lact_val fun E N w a hi hN hr => ?_, had.1, hK⟩
      have h1 : rel (ev fr f) E (a.eval f) := rel_ev hr (by simp [Op.operands, Call.operands])
      rw [ef] at h1
      obtain ⟨cv', h2, h3⟩ := h1
      have h4 : rels (evs fr args.toList) E (args.toList.map a.eval) := rels_evs _ fun x hx => rel_ev hr (by simp [Op.operands, Call.operands]; exact .inr (by simpa using hx))
      have hgl : rel (gd fr (100000 + maxLenG)) E (.pointer (some ⟨maxLenG, 0, none⟩)) := by
        have := hr (100000 + maxLenG) (by simp [opTmps])
        unfold tv at this
        rw [if_neg (by simp [maxLenG]), if_pos (by omega), Nat.add_sub_cancel_left] at this
        exact this
      obtain ⟨v, h5, h6⟩ := hc E w _ hi.im hgl (had.2 E N w _ hi hN (rels_append h4 h3))
      refine ⟨v, ?_, h6⟩
      simp only [execOp, resolve, h2, Deferred.ofValue, Sem.run_bind, Sem.run_pure, Result.andThen_ok, invoke]
      have e : #[] ++ Array.map a.eval args ++ cv'.toArray = (args.toList.map a.eval ++ cv').toArray := by simp
      rw [e, h5]
    case body hc =>
    obtain ⟨⟨fn, hf1, hf2, hf3⟩, hc⟩ := hc
    refine ⟨out, pre ++ p, fun E N w a Q hi hN hnew hr => ?_, hth.app had.1, hK⟩
    have hN1 : There N pre := fun q hq => hN q (List.mem_append_left _ hq)
    have hN2 : There N p := fun q hq => hN q (List.mem_append_right _ hq)
    have hnew' : ∀ j, isNew pre out j → N j = none ∧ E.blk j = none ∧ ∀ n, E.hdr j n = none := by
      intro j hj
      cases out with
      | ret d post => exact hnew j ⟨get_app_none hj.1 (newOff_spec hoff j hj.2 hj.1), hj.2⟩
      | pan d => exact hj.elim
    have h1 : rel (ev fr f) E (a.eval f) := rel_ev hr (by simp [Op.operands, Call.operands])
    rw [ef] at h1
    obtain ⟨cv', h2, h3⟩ := h1
    have h4 : rels (evs fr args.toList) E (args.toList.map a.eval) := rels_evs _ fun x hx => rel_ev hr (by simp [Op.operands, Call.operands]; exact .inr (by simpa using hx))
    have hsub : ∀ id x, get pre id = some x → N id = some x := fun id x hx => hN1 (id, x) (get_mem hx)
    have hcall := hc E w (args.toList.map a.eval ++ cv') (hi.sub hsub) (fun j hj => (hnew' j hj).2) (had.2 E N w _ hi hN2 (rels_append h4 h3))
    have hrun : (execOp a.eval ⟨dst, .call ⟨.value f, args, ats⟩, ty, pos, after, guard⟩).run P w = .ok (.enter k (args.toList.map a.eval ++ cv').toArray) w := by
      clear hnew' hcall
      simp only [execOp, resolve, h2, Deferred.ofValue, Sem.run_bind, Sem.run_pure, Result.andThen_ok, invoke]
      rw [run_callFunc hf1 hf2 hf3]
      congr 2
      simp
    cases out with
    | ret d post =>
      show Oper.wp P _ a w _ Q
      unfold Oper.wp
      rw [hrun]
      refine Calls.mono hcall fun e w' he => ?_
      obtain ⟨v, E', rfl, hd, hv⟩ := he
      exact ⟨v, E', rfl, hd.frame hi hsub, hv⟩
    | pan d =>
      intro hq
      show Oper.wp P _ a w _ Q
      unfold Oper.wp
      rw [hrun]
      refine Calls.mono hcall fun e w' he => ?_
      obtain ⟨x, E', rfl, hst, him, hx⟩ := he
      exact hq x E' w' (hst.mono fun b ⟨q, h1, y, h2, h3⟩ => ⟨q, List.mem_append_left _ h1, y, hsub _ _ h2, h3⟩) him hx
  · exact h.elim
def wPanic (fr : Fr) (x : Operand) (K : Kont) : Prop :=
  match ev fr x with
  | .iface t d => K (.pan (.iface t d)) []
  | _ => False
theorem sound_panic {x : Operand} (h : wPanic fr x K) : Sound P fr M news ⟨dst, .panic x, ty, pos, after, guard⟩ K := by
  unfold wPanic at h
  split at h
  · rename_i t d e
    refine ⟨.pan (.iface t d), [], fun E N w a Q hi hN hnew hr hq => ?_, fun _ h => (by cases h), h⟩
    have h1 : rel (ev fr x) E (a.eval x) := rel_ev hr (by simp [Op.operands])
    rw [e] at h1
    obtain ⟨y, h2, h3⟩ := h1
    show Oper.wp P _ a w _ Q
    unfold Oper.wp
    have hrun : (execOp a.eval ⟨dst, .panic x, ty, pos, after, guard⟩).run P w = .halt (.panic (.iface t y)) w := by
      simp [execOp, h2, Instr.panic]
    rw [hrun]
    exact hq (.iface t y) E w (Step.refl _ _ _) hi.im ⟨y, rfl, h3⟩
  · exact h.elim
def wLen (L : List Ty) (M : Mem) (fr : Fr) (t : TypeId) (x : Operand) (K : Kont) : Prop :=
  match nth L t with
  | some ⟨.str, _, _, _⟩ => match ev fr x with
    | .v (.string s) => KV K (.int .i64 s.size)
    | _ => False
  | some ⟨.slice _, _, _, _⟩ => match ev fr x with
    | .list _ xs => KV K (.int .i64 xs.length)
    | .row id n => match get M id with
      | some (.row e s xs) => n ≤ xs.length ∧ K (.ret (.v (.int .i64 n)) []) [(id, .row e s xs)]
      | _ => False
    | .v (.slice none 0 0) => KV K (.int .i64 0)
    | _ => False
  | some ⟨.arr n _, _, _, _⟩ => KV K (.int .i64 n)
  | _ => False
theorem sound_len {t : TypeId} {x : Operand} (hL : TyOK P L) (h : wLen L M fr t x K) : Sound P fr M news ⟨dst, .call ⟨.builtin .len, #[x], #[t]⟩, ty, pos, after, guard⟩ K := by
  have hx : ∀ {E : Env} {a : Act}, RelO fr E a ⟨dst, .call ⟨.builtin .len, #[x], #[t]⟩, ty, pos, after, guard⟩ → rel (ev fr x) E (a.eval x) := fun hr => rel_ev hr (by simp [Op.operands, Call.operands])
  have hrun : ∀ (w : World) (a : Act) (v : Value), (Builtin.len_ #[t] ty #[a.eval x]).run P w = .ok v w → (execOp a.eval ⟨dst, .call ⟨.builtin .len, #[x], #[t]⟩, ty, pos, after, guard⟩).run P w = .ok (.value v) w := by
    intro w a v hv
    simp [execOp, resolve, invoke, builtin, hv]
  unfold wLen at h
  split at h
  · rename_i ht
    split at h
    · rename_i s e
      refine .val h fun E N w a hi hr => ⟨_, hrun w a _ ?_, rfl⟩
      have h1 := hx hr; rw [e] at h1
      have h1' : a.eval x = .string s := h1
      simp [Builtin.len_, h1', str_run hL ht rfl, goInt]
    · exact h.elim
  · rename_i ht
    have sl : ∀ (w : World) (a : Act) (ad : Option Addr) (n c : Nat), a.eval x = .slice ad n c → (Builtin.len_ #[t] ty #[a.eval x]).run P w = .ok (.int .i64 n) w := by
      intro w a ad n c h1
      simp [Builtin.len_, h1, slice_run hL ht rfl, goInt]
    split at h
    · rename_i s xs e
      refine .val h fun E N w a hi hr => ⟨_, hrun w a _ ?_, rfl⟩
      have h1 := hx hr; rw [e] at h1
      obtain ⟨ad, cap, h2, _⟩ := h1
      exact sl w a _ _ _ h2
    · rename_i id n e
      split at h
      · rename_i et s xs hg
        obtain ⟨hn, hK⟩ := h
        refine .val1 hg hK fun E N w a hi hN hr => ⟨_, hrun w a _ ?_, rfl⟩
        have h1 := hx hr; rw [e] at h1
        obtain ⟨_, ad, cap, h2, _⟩ := (hi.ob id _ hN).1 n _ h1.1
        rw [List.length_take, Nat.min_eq_left hn] at h2
        exact sl w a _ _ _ h2
      · exact h.elim
    · rename_i e
      refine .val h fun E N w a hi hr => ⟨_, hrun w a _ ?_, rfl⟩
      have h1 := hx hr; rw [e] at h1
      have h1' : a.eval x = .slice none 0 0 := h1
      exact sl w a _ _ _ h1'
    · exact h.elim
  · rename_i ht
    refine .val h fun E N w a hi hr => ⟨_, hrun w a _ ?_, rfl⟩
    simp [Builtin.len_, arr_run hL ht rfl, goInt]
  · exact h.elim
def wReal (fr : Fr) (im : Bool) (x : Operand) (K : Kont) : Prop :=
  match ev fr x with
  | .v (.complex k a b) => KV K (.float k (match im with | true => b | false => a))
  | _ => False
theorem sound_real {t : Array TypeId} {x : Operand} (h : wReal fr false x K) : Sound P fr M news ⟨dst, .call ⟨.builtin .real, #[x], t⟩, ty, pos, after, guard⟩ K := by
  unfold wReal at h
  split at h
  · rename_i k p q e
    refine .val h fun E N w a hi hr => ⟨_, ?_, rfl⟩
    have h1 : rel (ev fr x) E (a.eval x) := rel_ev hr (by simp [Op.operands, Call.operands])
    rw [e] at h1
    have h1' : a.eval x = .complex k p q := h1
    have hb : (Builtin.real_ t ty #[.complex k p q]).run P w = .ok (.float k p) w := rfl
    simp [execOp, resolve, invoke, builtin, h1', hb]
  · exact h.elim
theorem sound_imag {t : Array TypeId} {x : Operand} (h : wReal fr true x K) : Sound P fr M news ⟨dst, .call ⟨.builtin .imag, #[x], t⟩, ty, pos, after, guard⟩ K := by
  unfold wReal at h
  split at h
  · rename_i k p q e
    refine .val h fun E N w a hi hr => ⟨_, ?_, rfl⟩
    have h1 : rel (ev fr x) E (a.eval x) := rel_ev hr (by simp [Op.operands, Call.operands])
    rw [e] at h1
    have h1' : a.eval x = .complex k p q := h1
    have hb : (Builtin.imag_ t ty #[.complex k p q]).run P w = .ok (.float k q) w := rfl
    simp [execOp, resolve, invoke, builtin, h1', hb]
  · exact h.elim
def wComplex (fr : Fr) (x y : Operand) (K : Kont) : Prop :=
  match ev fr x, ev fr y with
  | .v (.float .f64 a), .v (.float .f64 b) => KV K (.complex .f64 a b)
  | _, _ => False
theorem sound_complex {t : Array TypeId} {x y : Operand} (h : wComplex fr x y K) : Sound P fr M news ⟨dst, .call ⟨.builtin .complex, #[x, y], t⟩, ty, pos, after, guard⟩ K := by
  unfold wComplex at h
  split at h
  · rename_i p q e1 e2
    refine .val h fun E N w a hi hr => ⟨_, ?_, rfl⟩
    have h1 : rel (ev fr x) E (a.eval x) := rel_ev hr (by simp [Op.operands, Call.operands])
    have h2 : rel (ev fr y) E (a.eval y) := rel_ev hr (by simp [Op.operands, Call.operands])
    rw [e1] at h1; rw [e2] at h2
    have h1' : a.eval x = .float .f64 p := h1
    have h2' : a.eval y = .float .f64 q := h2
    have hb : (Builtin.complex_ t ty #[.float .f64 p, .float .f64 q]).run P w = .ok (.complex .f64 p q) w := rfl
    simp [execOp, resolve, invoke, builtin, h1', h2', hb]
  · exact h.elim
structure AppG (side : Prop) (ys : List (List D)) (Z : Unit → Prop) (C : Nat → List (List D) → Prop) : Prop where
  side : side
  ex : (ys = [] ∧ Z ()) ∨ (ys ≠ [] ∧ ∃ n xs, C n xs)
theorem AppG.to {s : Prop} {ys : List (List D)} {Z : Unit → Prop} {C : Nat → List (List D) → Prop} (n : Nat) (xs : List (List D)) (hs : s) (hn : ys ≠ []) (h : C n xs) : AppG s ys Z C := ⟨hs, .inr ⟨hn, n, xs, h⟩⟩
theorem AppG.nil {s : Prop} {ys : List (List D)} {Z : Unit → Prop} {C : Nat → List (List D) → Prop} (hs : s) (hn : ys = []) (h : Z ()) : AppG s ys Z C := ⟨hs, .inl ⟨hn, h⟩⟩
def wApp (L : List Ty) (M : Mem) (fr : Fr) (news : List Nat) (dst : Option Tmp) (t : TypeId) (x y : Operand) (K : Kont) : Prop :=
  match nth L t with
  | some ⟨.slice e, _, _, _⟩ => match nth L e with
    | some ⟨_, s, by', _ :: _⟩ => match rowOf M s (ev fr y) with
      | some (ys, pre) => match ev fr x with
        | .row id n => match get M id with
          | some (.row et s' xs) => AppG (et = e ∧ s' = s ∧ n = xs.length ∧ 0 < by' ∧ (∀ r ∈ ys, allOne r = true) ∧ (xs.length + ys.length) * by' ≤ 140737488355328) ys
              (fun _ => K (.ret (.row id n) []) (pre ++ [(id, .row et s' xs)])) fun n' xs' => n' = n + ys.length ∧ xs' = xs ++ ys ∧ K (.ret (.row id n') [(id, .row et s' xs')]) (pre ++ [(id, .row et s' xs)])
          | _ => False
        | .v (.slice none 0 0) => match dst with
          | some d => match memN news d with
            | true => AppG (get pre d = none ∧ 0 < by' ∧ (∀ r ∈ ys, allOne r = true) ∧ ys.length * by' ≤ 140737488355328) ys (fun _ => False) fun n' xs' => n' = ys.length ∧ xs' = ys ∧ K (.ret (.row d n') [(d, .row e s xs')]) pre
            | false => False
          | none => False
        | _ => False
      | none => False
    | _ => False
  | _ => False
theorem sound_append {t : TypeId} {x y : Operand} (hL : TyOK P L) (hZ : ZOK L) (h : wApp L M fr news dst t x y K) : Sound P fr M news ⟨dst, .call ⟨.builtin .append, #[x, y], #[t, t]⟩, ty, pos, after, guard⟩ K := by
  have hx : ∀ {E : Env} {a : Act}, RelO fr E a ⟨dst, .call ⟨.builtin .append, #[x, y], #[t, t]⟩, ty, pos, after, guard⟩ → rel (ev fr x) E (a.eval x) := fun hr => rel_ev hr (by simp [Op.operands, Call.operands])
  have hy : ∀ {E : Env} {a : Act}, RelO fr E a ⟨dst, .call ⟨.builtin .append, #[x, y], #[t, t]⟩, ty, pos, after, guard⟩ → rel (ev fr y) E (a.eval y) := fun hr => rel_ev hr (by simp [Op.operands, Call.operands])
  have hrun : ∀ (w : World) (a : Act) (v : Value) (w' : World), (Builtin.append_ #[t, t] ty #[a.eval x, a.eval y]).run P w = .ok v w' → (execOp a.eval ⟨dst, .call ⟨.builtin .append, #[x, y], #[t, t]⟩, ty, pos, after, guard⟩).run P w = .ok (.value v) w' := by
    intro w a v w' hv
    simp [execOp, resolve, invoke, builtin, hv]
  unfold wApp at h
  split at h
  · rename_i e _ _ _ ht
    split at h
    · rename_i kk s by' z zs he
      obtain ⟨de, ie, u1, u2, u3, u4, u5, u6⟩ := hL e _ he
      have u6' := u6 (by simp)
      have hzc : (if kk.agg then Value.agg (z :: zs).toArray else z).cells.size = ie.size := by
        have h1 := u6'.2
        simp only at h1 u4
        cases hk : kk.agg with
        | true => simp [Value.cells, u4, ← h1]
        | false =>
          have := hZ e _ he (by simp) hk
          simp only [List.headD_cons] at this
          simp [this, u4, ← h1]
      have hinf0 : ie.zero = some (if kk.agg then Value.agg (z :: zs).toArray else z) := u6'.1
      have hunder := under_slice hL ht rfl
      have hbyte : ie.bytes = by' := u5
      have hsize : ie.size = s := u4
      have hs0 : 0 < s := by have h1 := u6'.2; simp only at h1; simp at h1; omega
      split at h
      · rename_i ys pre hrow
        obtain ⟨hp, hrel⟩ := rowOf_rel hrow
        split at h
        · rename_i id n ex
          split at h
          · rename_i et s' xs hg
            obtain ⟨⟨rfl, rfl, rfl, hb0, hone, hbound⟩, h⟩ := h
            have h : (ys = [] ∧ K (.ret (.row id xs.length) []) (pre ++ [(id, .row et s' xs)])) ∨ (ys ≠ [] ∧ K (.ret (.row id (xs.length + ys.length)) [(id, .row et s' (xs ++ ys))]) (pre ++ [(id, .row et s' xs)])) := h.imp (fun h => h) fun ⟨h1, _, _, e1, e2, h2⟩ => ⟨h1, by rw [e1, e2] at h2; exact h2⟩
            have hth : There (get M) (pre ++ [(id, .row et s' xs)]) := There.app hp fun p hq => (by simp at hq; subst hq; exact hg)
            rcases h with ⟨rfl, hK⟩ | ⟨hne, hK⟩
            · refine ⟨.ret (.row id xs.length) [], _, lact_val fun E N w a hi hN hr => ?_, hth, hK⟩
              have h1 := hx hr; rw [ex] at h1
              have hN' := hN (id, .row et s' xs) (by simp)
              obtain ⟨ad, cap, h2, h3, _⟩ := hrel E N w _ hi (fun p hq => hN p (by simp [hq])) (hy hr)
              refine ⟨a.eval x, hrun w a _ _ ?_, h1⟩
              have ho := hi.ob id _ hN'
              rcases ho.2 with ⟨o1, o2⟩ | ⟨b, c, cap', o1, o2, o3, o4, _⟩
              · have e1 : a.eval x = .slice none 0 0 := by have := h1.1; rw [o1] at this; injection this with this; exact this.symm
                cases ad <;> simp [Builtin.append_, e1, h2, run_underlying hunder, sizeOf, typeInfo, u2, Builtin.lenOf, Builtin.firstCells, loadCells, loadCellsFrom]
              · have e1 : a.eval x = .slice (some ⟨b, 0, none⟩) xs.length cap' := by have := h1.1; rw [o1] at this; injection this with this; exact this.symm
                cases ad <;> simp [Builtin.append_, e1, h2, run_underlying hunder, sizeOf, typeInfo, u2, Builtin.lenOf, Builtin.firstCells, loadCells, loadCellsFrom, o4, storeCells]
            · refine ⟨.ret (.row id (xs.length + ys.length)) [(id, .row et s' (xs ++ ys))], _, fun E N w a Q hi hN hnew hr => ?_, hth, hK⟩
              have h1 := hx hr; rw [ex] at h1
              have hN' := hN (id, .row et s' xs) (by simp)
              have h2 := hrel E N w _ hi (fun p hq => hN p (by simp [hq])) (hy hr)
              have hlen63 : xs.length + ys.length ≤ maxLen := by
                have : xs.length + ys.length ≤ (xs.length + ys.length) * by' := Nat.le_mul_of_pos_right _ hb0
                simp only [maxLen]; omega
              obtain ⟨v', w', E', r1, r2, r3, r4⟩ := grow_row (P := P) hi hN' hs0 (ty := ty) hunder u2 hinf0 hsize hbyte (by rw [hzc, hsize]) h1.1 h2 hne hone hbound hlen63
              show Oper.wp P _ a w _ Q
              unfold Oper.wp
              rw [hrun w a _ _ r1]
              exact ⟨v', E', rfl, r2, r3, r4⟩
          · exact h.elim
        · rename_i ex
          split at h
          · rename_i d
            split at h
            · rename_i hm
              obtain ⟨⟨hgd, hb0, hone, hbound⟩, h⟩ := h
              rcases h with ⟨_, h⟩ | ⟨hne, n', xs', e1', e2', hK⟩
              · exact h.elim
              rw [e1', e2'] at hK
              refine ⟨.ret (.row d ys.length) [(d, .row e s ys)], pre, fun E N w a Q hi hN hnew hr => ?_, hp, hK⟩
              obtain ⟨n1, n2, n3⟩ := hnew d ⟨hgd, by simp⟩
              have h1 := hx hr; rw [ex] at h1
              have h1' : a.eval x = .slice none 0 0 := h1
              have h2 := hrel E N w _ hi hN (hy hr)
              -- first an empty row
              let E1 : Env := ⟨E.im, E.blk, fun j q => if j = d ∧ q = 0 then some (.slice none 0 0) else E.hdr j q⟩
              have le1 : E.le E1 := ⟨fun _ _ _ h => h, fun _ _ h => h, fun j q v h => by
                show (if j = d ∧ q = 0 then some (.slice none 0 0) else E.hdr j q) = some v
                rw [if_neg (by rintro ⟨rfl, rfl⟩; rw [n3] at h; cases h)]; exact h⟩
              have hd0 : E1.hdr d 0 = some (.slice none 0 0) := by show (if d = d ∧ 0 = 0 then _ else _) = _; rw [if_pos ⟨rfl, rfl⟩]
              have st1 : Step E E1 (ownOf E N [(d, .row e s [])]) w w := ⟨le1, Nat.le_refl _, fun _ _ _ => rfl, fun _ _ _ h => .inl h, rfl, rfl, rfl⟩
              have i1 : Inv E1 (upds N [(d, .row e s [])]) w := hi.step1 st1 (fun b o v h => hi.im b o v h)
                ⟨fun n v hv => (by
                  have hv' : (if d = d ∧ n = 0 then some (Value.slice none 0 0) else E.hdr d n) = some v := hv
                  split at hv'
                  · rename_i hc
                    obtain ⟨_, rfl⟩ := hc
                    injection hv' with hv'
                    subst hv'
                    exact ⟨Nat.le_refl _, none, 0, rfl, Nat.le_refl _, fun h => absurd rfl h⟩
                  · rw [n3] at hv'; cases hv'), .inl ⟨hd0, rfl⟩⟩
                (fun j hj => by
                  funext n
                  show (if j = d ∧ n = 0 then _ else E.hdr j n) = _
                  rw [if_neg (by rintro ⟨rfl, _⟩; exact hj rfl)])
                (fun b hb => by simp [obBlk, hd0, hdrBlk] at hb)
              have hlen63 : ([] : List (List D)).length + ys.length ≤ maxLen := by
                have : ys.length ≤ ys.length * by' := Nat.le_mul_of_pos_right _ hb0
                simp only [maxLen, List.length_nil]; omega
              obtain ⟨v', w', E', r1, r2, r3, r4⟩ := grow_row (P := P) i1 (id := d) (et := e) (s := s) (xs := []) (by rw [upds_cons, if_pos rfl]) hs0 (ty := ty) hunder u2 hinf0 hsize hbyte (by rw [hzc, hsize]) hd0 (rel_mono _ le1 h2) hne hone (by simpa using hbound) hlen63
              simp only [List.nil_append, List.length_nil, Nat.zero_add] at r2 r3
              show Oper.wp P _ a w _ Q
              unfold Oper.wp
              rw [hrun w a _ _ (by rw [h1']; exact r1)]
              have hups : upds (upds N [(d, .row e s [])]) [(d, .row e s ys)] = upds N [(d, .row e s ys)] := by
                funext j
                simp only [upds_cons, upds_nil]
                split <;> rfl
              refine ⟨v', E', rfl, ⟨?_, by rw [← hups]; exact r2.inv, fun j hj => ?_, fun p hq b hb => ?_⟩, r3, r4⟩
              · refine ⟨le1.trans r2.st.le, r2.st.size, fun b hb hno => r2.st.frame b hb fun ⟨p, h3, y', h4, h5⟩ => ?_, fun b o v h => ?_, r2.st.os, r2.st.tape, r2.st.output⟩
                · simp only [List.mem_singleton] at h3
                  subst h3
                  rw [upds_cons, if_pos rfl] at h4
                  injection h4 with h4; subst h4
                  simp [obBlk, hd0, hdrBlk] at h5
                · rcases r2.st.new b o v h with h | h | ⟨p, h3, y', h4, h5⟩
                  · exact .inl h
                  · exact .inr (.inl h)
                  · simp only [List.mem_singleton] at h3
                    subst h3
                    rw [upds_cons, if_pos rfl] at h4
                    injection h4 with h4; subst h4
                    simp [obBlk, hd0, hdrBlk] at h5
              · obtain ⟨k1, k2⟩ := r2.ids j hj
                refine ⟨k1, k2.trans ?_⟩
                funext n
                show (if j = d ∧ n = 0 then _ else E.hdr j n) = _
                rw [if_neg (by rintro ⟨rfl, _⟩; exact hj (by simp))]
              · rcases r2.bd p hq b hb with ⟨q, hq', y', h4, h5⟩ | h
                · simp only [List.mem_singleton] at hq'
                  subst hq'
                  rw [upds_cons, if_pos rfl] at h4
                  injection h4 with h4; subst h4
                  simp [obBlk, hd0, hdrBlk] at h5
                · exact .inr h
            · exact h.elim
          · exact h.elim
        · exact h.elim
      · exact h.elim
    · exact h.elim
  · exact h.elim
end
end Go.Dm
namespace Go.Dm
theorem beq_ne {a b : Nat} (h : Nat.beq a b = false) : a ≠ b := by
  intro e; subst e; rw [beq_same] at h; cases h
section
variable {P : Program} {L : List Ty} {fr : Fr} {M : Mem} {news : List Nat} {K : Kont} {dst : Option Tmp} {ty : TypeId} {pos : String} {after : Array Edge} {guard : Option (Nat × Bool)}
theorem under_map {t : TypeId} {x : Ty} {k e : TypeId} (hL : TyOK P L) (ht : nth L t = some x) (hk : x.k = .map k e) : P.underlying t = some (.map k e) := by
  obtain ⟨d, i, h1, _, h3, _⟩ := hL t x ht
  rw [hk] at h3; rw [h1]
  cases d <;> simp [tkOf] at h3
  obtain ⟨rfl, rfl⟩ := h3; rfl
def wLenX (L : List Ty) (M : Mem) (fr : Fr) (t : TypeId) (x : Operand) (K : Kont) : Prop :=
  match ev fr x with
  | .row id n => match get M id with
    | some (.mrow e s ver xs) => match nth L t with
      | some ⟨.slice _, _, _, _⟩ => n = ver ∧ K (.ret (.v (.int .i64 xs.length)) []) [(id, .mrow e s ver xs)]
      | _ => False
    | _ => wLen L M fr t x K
  | .mp id => match get M id with
    | some (.mp l) => match nth L t with
      | some ⟨.map _ _, _, _, _⟩ => K (.ret (.v (.int .i64 l.length)) []) [(id, .mp l)]
      | _ => False
    | _ => False
  | _ => wLen L M fr t x K
theorem sound_lenX {t : TypeId} {x : Operand} (hL : TyOK P L) (h : wLenX L M fr t x K) : Sound P fr M news ⟨dst, .call ⟨.builtin .len, #[x], #[t]⟩, ty, pos, after, guard⟩ K := by
  have hx : ∀ {E : Env} {a : Act}, RelO fr E a ⟨dst, .call ⟨.builtin .len, #[x], #[t]⟩, ty, pos, after, guard⟩ → rel (ev fr x) E (a.eval x) := fun hr => rel_ev hr (by simp [Op.operands, Call.operands])
  have hrun : ∀ (w : World) (a : Act) (v : Value), (Builtin.len_ #[t] ty #[a.eval x]).run P w = .ok v w → (execOp a.eval ⟨dst, .call ⟨.builtin .len, #[x], #[t]⟩, ty, pos, after, guard⟩).run P w = .ok (.value v) w := by
    intro w a v hv
    simp [execOp, resolve, invoke, builtin, hv]
  unfold wLenX at h
  split at h
  · rename_i id n e
    split at h
    · rename_i et s ver xs hg
      split at h
      · rename_i ht
        obtain ⟨rfl, h⟩ := h
        refine .val1 hg h fun E N w a hi hN hr => ⟨_, hrun w a _ ?_, rfl⟩
        have h1 := hx hr; rw [e] at h1
        rcases (hi.ob id _ hN).2 with ⟨o1, o2⟩ | ⟨b, c, cap, o1, _⟩
        · have e1 : a.eval x = .slice none 0 0 := by have := h1.1; rw [o1] at this; injection this with this; exact this.symm
          subst o2
          simp [Builtin.len_, e1, slice_run hL ht rfl, goInt]
        · have e1 : a.eval x = .slice (some ⟨b, 0, none⟩) xs.length cap := by have := h1.1; rw [o1] at this; injection this with this; exact this.symm
          simp [Builtin.len_, e1, slice_run hL ht rfl, goInt]
      · exact h.elim
    · exact sound_len hL h
  · rename_i id e
    split at h
    · rename_i l hg
      split at h
      · rename_i ht
        refine .val1 hg h fun E N w a hi hN hr => ⟨_, hrun w a _ ?_, rfl⟩
        have h1 := hx hr; rw [e] at h1
        obtain ⟨b, h2, h3⟩ := h1
        obtain ⟨b', es, k, o1, o2, o3, _⟩ := hi.ob id _ hN
        rw [o1] at h2; injection h2 with h2; subst h2
        have hu := under_map hL ht rfl
        have hget : (getObj b').run P w = .ok (.map es k) w := by simp [getObj, Sem.run, o2]
        subst o3
        simp [Builtin.len_, h3, run_underlying hu, hget, goInt]
      · exact h.elim
    · exact h.elim
  · exact sound_len hL h
def wMax (fr : Fr) (x y : Operand) (K : Kont) : Prop :=
  match ev fr x, ev fr y with
  | .v (.int k a), .v (.int _ b) => KI K k (if b > a then b else a)
  | _, _ => False
theorem sound_max {t : Array TypeId} {x y : Operand} (h : wMax fr x y K) : Sound P fr M news ⟨dst, .call ⟨.builtin .max, #[x, y], t⟩, ty, pos, after, guard⟩ K := by
  unfold wMax at h
  split at h
  · rename_i k p k' q e1 e2
    refine .val (KI.kv h) fun E N w a hi hr => ⟨_, ?_, rfl⟩
    have h1 : rel (ev fr x) E (a.eval x) := rel_ev hr (by simp [Op.operands, Call.operands])
    have h2 : rel (ev fr y) E (a.eval y) := rel_ev hr (by simp [Op.operands, Call.operands])
    rw [e1] at h1; rw [e2] at h2
    have h1' : a.eval x = .int k p := h1
    have h2' : a.eval y = .int k' q := h2
    have hb : (Builtin.max_ t ty #[.int k p, .int k' q]).run P w = .ok (.int k (if q > p then q else p)) w := rfl
    simp [execOp, resolve, invoke, builtin, h1', h2', hb]
  · exact h.elim
def notIface : TK → Bool
  | .iface => false
  | _ => true
def wAssert (L : List Ty) (fr : Fr) (x : Operand) (xt t : TypeId) (ok : Bool) (K : Kont) : Prop :=
  match nth L t with
  | some ⟨k, _, _, z :: zs⟩ => match notIface k, ok, ev fr x with
    | true, true, .iface t' d => match Nat.beq t' t with
      | true => K (.ret (.tup [d, .v (.bool true)]) []) []
      | false => K (.ret (.tup [match k.agg with | true => .agg ((z :: zs).map .v) | false => .v z, .v (.bool false)]) []) []
    | _, _, _ => False
  | _ => False
theorem sound_assert {x : Operand} {xt t : TypeId} {ok : Bool} (hL : TyOK P L) (h : wAssert L fr x xt t ok K) : Sound P fr M news ⟨dst, .typeAssert x xt t ok, ty, pos, after, guard⟩ K := by
  unfold wAssert at h
  split at h
  · rename_i k sz bb z zs ht
    split at h
    · rename_i t' d hk e
      have hxr : ∀ {E : Env} {a : Act}, RelO fr E a ⟨dst, .typeAssert x xt t true, ty, pos, after, guard⟩ → ∃ y, a.eval x = .iface t' y ∧ rel d E y := by
        intro E a hr
        have h1 : rel (ev fr x) E (a.eval x) := rel_ev hr (by simp [Op.operands])
        rw [e] at h1; exact h1
      have hu : ∀ w, ∃ dd, (underlying t).run P w = .ok dd w ∧ ∀ ms, dd ≠ .interface ms := by
        intro w
        obtain ⟨dd, i, h1, _, h3, _⟩ := ty_run (w := w) hL ht
        refine ⟨dd, h1, fun ms hm => ?_⟩
        subst hm
        simp only [tkOf] at h3
        rw [← h3] at hk; cases hk
      split at h
      · rename_i hb
        obtain rfl := beq_eq hb
        refine .val h fun E N w a hi hr => ?_
        obtain ⟨y, h1, h2⟩ := hxr hr
        obtain ⟨dd, h3, h4⟩ := hu w
        refine ⟨_, ?_, [y, .bool true], rfl, y, [.bool true], rfl, h2, .bool true, [], rfl, rfl, rfl⟩
        have : (Instr.typeAssert (.iface t' y) xt t' true).run P w = .ok (.tuple #[y, .bool true]) w := by
          unfold Instr.typeAssert
          rw [Sem.run_bind, h3]
          simp only [Result.andThen_ok]
          cases dd <;> first | exact absurd rfl (h4 _) | simp
        simp [execOp, h1, this]
      · rename_i hb
        have hne := beq_ne hb
        have hzr : ∀ w : World, (zeroValue t).run P w = .ok (if k.agg then .agg (z :: zs).toArray else z) w := fun w => zero_run hL ht (by simp)
        refine .val h fun E N w a hi hr => ?_
        obtain ⟨y, h1, h2⟩ := hxr hr
        obtain ⟨dd, h3, h4⟩ := hu w
        refine ⟨_, ?_, [if k.agg then .agg (z :: zs).toArray else z, .bool false], rfl, _, [.bool false], rfl, ?_, .bool false, [], rfl, rfl, rfl⟩
        · have : (Instr.typeAssert (.iface t' y) xt t true).run P w = .ok (.tuple #[if k.agg then .agg (z :: zs).toArray else z, .bool false]) w := by
            unfold Instr.typeAssert
            rw [Sem.run_bind, h3]
            simp only [Result.andThen_ok]
            cases dd <;> first | exact absurd rfl (h4 _) | simp [hne, hzr w]
          simp [execOp, h1, this]
        · cases hk : k.agg with
          | true => exact ⟨z :: zs, by simp, rels_map_v E _⟩
          | false => rfl
    · exact h.elim
  · exact h.elim
def sameTK : TK → Value → Value → Option Bool
  | .int _, .int k a, .int k' b => if k = k' then some (a == b) else none
  | .str, .string a, .string b => some (a == b)
  | .bool, .bool a, .bool b => some (a == b)
  | _, _, _ => none
theorem sameNow_eq (d : TypeDesc) (a b : Value) : Instr.sameNow d a b = sameTK (tkOf d) a b := by
  cases d <;> cases a <;> cases b <;> rfl
def findL (k : TK) (key : Value) : List (Value × Value) → Option (Option Value)
  | [] => some none
  | (a, v) :: r => match sameTK k key a with
    | some true => some (some v)
    | some false => findL k key r
    | none => none
def putL (k : TK) (key v : Value) : List (Value × Value) → Option (List (Value × Value))
  | [] => some [(key, v)]
  | (a, u) :: r => match sameTK k key a with
    | some true => some ((key, v) :: r)
    | some false => match putL k key v r with
      | some l => some ((a, u) :: l)
      | none => none
    | none => none
structure LkG (k : TK) (key : Value) (l : List (Value × Value)) (C : Option Value → Prop) : Prop where
  ex : ∃ r, findL k key l = some r ∧ C r
theorem LkG.to {k : TK} {key : Value} {l : List (Value × Value)} {C : Option Value → Prop} (r : Option Value) (h : findL k key l = some r) (hC : C r) : LkG k key l C := ⟨r, h, hC⟩
structure UpG (k : TK) (key v : Value) (l : List (Value × Value)) (C : List (Value × Value) → Prop) : Prop where
  ex : ∃ l', putL k key v l = some l' ∧ C l'
theorem UpG.to {k : TK} {key v : Value} {l : List (Value × Value)} {C : List (Value × Value) → Prop} (l' : List (Value × Value)) (h : putL k key v l = some l') (hC : C l') : UpG k key v l C := ⟨l', h, hC⟩
def keyTK : TK → Bool
  | .int _ => true
  | .str => true
  | .bool => true
  | _ => false
theorem run_checkKey {w : World} {t : TypeId} {x : Ty} {b : Bool} {n : Nat} {v : Value} (hL : TyOK P L) (ht : nth L t = some x) (hk : keyTK x.k = true) : (Instr.checkKey b (n + 1) t v).run P w = .ok () w := by
  obtain ⟨d, i, h1, _, h3, _⟩ := ty_run (w := w) hL ht
  unfold Instr.checkKey
  rw [Sem.run_bind, h1]
  rw [← h3] at hk
  simp only [Result.andThen_ok]
  cases d <;> simp [tkOf, keyTK] at hk <;> rfl
theorem findNow_eq (d : TypeDesc) (key : Value) : ∀ (es : List MapEntry) (i : Nat), match findL (tkOf d) key (es.map fun x => (x.key, x.val)) with
    | some (some v) => ∃ j, Instr.findNow d key es i = some (some (i + j, v)) ∧ j < es.length
    | some none => Instr.findNow d key es i = some none
    | none => True
  | [], i => rfl
  | e :: es, i => by
    have ih := findNow_eq d key es (i + 1)
    simp only [List.map_cons, findL, Instr.findNow, sameNow_eq]
    cases hs : sameTK (tkOf d) key e.key with
    | none => trivial
    | some t =>
      cases t with
      | true => exact ⟨0, rfl, by simp⟩
      | false =>
        simp only
        split
        · rename_i v hv
          rw [hv] at ih
          obtain ⟨j, h1, h2⟩ := ih
          exact ⟨j + 1, by rw [h1, show i + 1 + j = i + (j + 1) from by omega], by simp; omega⟩
        · rename_i hv; rw [hv] at ih; exact ih
        · trivial
def wLookup (L : List Ty) (M : Mem) (fr : Fr) (t : TypeId) (x ix : Operand) (ok : Bool) (K : Kont) : Prop :=
  match nth L t with
  | some ⟨.map kt et, _, _, _⟩ => match nth L kt, nth L et with
    | some ⟨kk, _, _, _⟩, some ⟨ek, _, _, z :: zs⟩ => match keyTK kk, ev fr x, ev fr ix with
      | true, .mp id, .v key => match get M id with
        | some (.mp l) => LkG kk key l fun r => match ok with
          | true => match r with
            | some v => K (.ret (.tup [.v v, .v (.bool true)]) []) [(id, .mp l)]
            | none => K (.ret (.tup [cv (match ek.agg with | true => .agg (z :: zs).toArray | false => z), .v (.bool false)]) []) [(id, .mp l)]
          | false => match r with
            | some v => K (.ret (.v v) []) [(id, .mp l)]
            | none => K (.ret (cv (match ek.agg with | true => .agg (z :: zs).toArray | false => z)) []) [(id, .mp l)]
        | _ => False
      | _, _, _ => False
    | _, _ => False
  | _ => False
theorem run_lookup {w : World} {t kt et : TypeId} {kx tx : Ty} {b : Nat} {es : Array MapEntry} {ck : Nat} {key : Value} {r : Option Value} {z : Value} {ok : Bool} (hL : TyOK P L) (ht : nth L t = some tx) (htk : tx.k = .map kt et) (hk : nth L kt = some kx) (hkk : keyTK kx.k = true)
    (hz : (zeroValue et).run P w = .ok z w) (hb : w.heap[b]? = some (.map es ck)) (hf : findL kx.k key (es.toList.map fun x => (x.key, x.val)) = some r) :
    (Instr.lookup t (.map (some b)) key ok).run P w = .ok (if ok then .tuple #[r.getD z, .bool r.isSome] else r.getD z) w := by
  have hu := under_map hL ht htk
  have hget : (getObj b).run P w = .ok (.map es ck) w := by simp [getObj, Sem.run, hb]
  obtain ⟨d, i, h1, _, h3, _⟩ := hL kt _ hk
  have hfind := findNow_eq d key es.toList 0
  rw [h3, hf] at hfind
  have hfk : ∃ q, (Instr.findKey kt key es.toList).run P w = .ok q w ∧ q.map (·.2) = r := by
    unfold Instr.findKey
    simp only [Sem.run_bind, run_underlying h1, Result.andThen_ok]
    cases r with
    | none => simp only at hfind; rw [hfind]; exact ⟨none, rfl, rfl⟩
    | some v =>
      obtain ⟨j, hj, _⟩ := hfind
      rw [hj]; exact ⟨_, rfl, rfl⟩
  obtain ⟨q, hq1, hq2⟩ := hfk
  have hck := run_checkKey (P := P) (w := w) (b := es.isEmpty) (n := 9999) (v := key) hL hk hkk
  simp only [Instr.lookup, Sem.run_bind, run_underlying hu, Result.andThen_ok, hget, Sem.run_pure, hck, hq1]
  subst hq2
  cases q with
  | none => cases ok <;> simp [hz]
  | some p => obtain ⟨j, v⟩ := p; cases ok <;> simp
theorem sound_lookup {t : TypeId} {x ix : Operand} {ok : Bool} (hL : TyOK P L) (h : wLookup L M fr t x ix ok K) : Sound P fr M news ⟨dst, .lookup t x ix ok, ty, pos, after, guard⟩ K := by
  unfold wLookup at h
  split at h
  · rename_i kt et _ _ _ ht
    split at h
    · rename_i kk _ _ _ ek _ _ z zs hk he
      split at h
      · rename_i id key hkk ex ei
        split at h
        · rename_i l hg
          obtain ⟨r, hf, hK⟩ := h.ex
          have run : ∀ (E : Env) (N : Nat → Option Ob) (w : World) (a : Act), Inv E N w → N id = some (.mp l) → RelO fr E a ⟨dst, .lookup t x ix ok, ty, pos, after, guard⟩ →
              (execOp a.eval ⟨dst, .lookup t x ix ok, ty, pos, after, guard⟩).run P w = .ok (.value (if ok then .tuple #[r.getD (if ek.agg then .agg (z :: zs).toArray else z), .bool r.isSome] else r.getD (if ek.agg then .agg (z :: zs).toArray else z))) w := by
            intro E N w a hi hN hr
            have h1 : rel (ev fr x) E (a.eval x) := rel_ev hr (by simp [Op.operands])
            have h2 : rel (ev fr ix) E (a.eval ix) := rel_ev hr (by simp [Op.operands])
            rw [ex] at h1; rw [ei] at h2
            obtain ⟨b, h3, h4⟩ := h1
            have h2' : a.eval ix = key := h2
            obtain ⟨b', es, ck, o1, o2, o3, _⟩ := hi.ob id _ hN
            rw [o1] at h3; injection h3 with h3; subst h3
            have hz : (zeroValue et).run P w = .ok (if ek.agg then .agg (z :: zs).toArray else z) w := by have := zero_run (w := w) hL he (by simp); simpa using this
            have := run_lookup (ok := ok) (key := key) hL ht rfl hk hkk hz o2 (by rw [o3]; exact hf)
            simp [execOp, h4, h2', this]
          have zz : (match ek.agg with | true => Value.agg (z :: zs).toArray | false => z) = (if ek.agg then Value.agg (z :: zs).toArray else z) := by cases ek.agg <;> rfl
          rw [zz] at hK
          cases ok with
          | true =>
            cases r with
            | some v => exact .val1 hg hK fun E N w a hi hN hr => ⟨_, run E N w a hi hN hr, [v, .bool true], rfl, v, [.bool true], rfl, rfl, .bool true, [], rfl, rfl, rfl⟩
            | none => exact .val1 hg hK fun E N w a hi hN hr => ⟨_, run E N w a hi hN hr, [_, .bool false], rfl, _, [.bool false], rfl, rel_cv E _, .bool false, [], rfl, rfl, rfl⟩
          | false =>
            cases r with
            | some v => exact .val1 hg hK fun E N w a hi hN hr => ⟨_, run E N w a hi hN hr, rfl⟩
            | none => exact .val1 hg hK fun E N w a hi hN hr => ⟨_, run E N w a hi hN hr, rel_cv E _⟩
        · exact h.elim
      · exact h.elim
    · exact h.elim
  · exact h.elim
theorem sameTK_eq {k : TK} {a b : Value} (h : sameTK k a b = some true) : a = b := by
  unfold sameTK at h
  split at h
  · split at h
    · rename_i e; subst e; simp at h; subst h; rfl
    · cases h
  · injection h with h; rw [(MapKept.bytes_beq _ _).1 h]
  · simp at h; subst h; rfl
  · cases h
theorem sameTK_bits {k : TK} {a b : Value} (h : sameTK k a b = some true) : Instr.sameBits 10000 b a = true := by
  have e := sameTK_eq h
  subst e
  unfold sameTK at h
  split at h
  · simp [Instr.sameBits]
  · simpa [Instr.sameBits] using h
  · simp [Instr.sameBits]
  · cases h
theorem putL_spec (d : TypeDesc) (key v : Value) : ∀ (es : List MapEntry) (i : Nat) {l : List (Value × Value)}, putL (tkOf d) key v (es.map fun x => (x.key, x.val)) = some l →
    (Instr.findNow d key es i = some none ∧ l = es.map (fun x => (x.key, x.val)) ++ [(key, v)]) ∨
    ∃ j e u, Instr.findNow d key es i = some (some (i + j, u)) ∧ es[j]? = some e ∧ Instr.sameBits 10000 e.key key = true ∧ l = (es.map fun x => (x.key, x.val)).set j (key, v)
  | [], i, l, h => .inl ⟨rfl, by simp [putL] at h; simp [h]⟩
  | e :: es, i, l, h => by
    simp only [List.map_cons, putL] at h
    simp only [Instr.findNow, sameNow_eq]
    cases hs : sameTK (tkOf d) key e.key with
    | none => rw [hs] at h; cases h
    | some t =>
      rw [hs] at h
      cases t with
      | true =>
        injection h with h
        subst h
        exact .inr ⟨0, e, e.val, rfl, rfl, sameTK_bits hs, rfl⟩
      | false =>
        simp only at h
        cases hp : putL (tkOf d) key v (es.map fun x => (x.key, x.val)) with
        | none => rw [hp] at h; cases h
        | some l' =>
          rw [hp] at h
          simp at h; subst h
          rcases putL_spec d key v es (i + 1) hp with ⟨h1, h2⟩ | ⟨j, e', u, h1, h2, h3, h4⟩
          · exact .inl ⟨h1, by simp [h2]⟩
          · exact .inr ⟨j + 1, e', u, by rw [h1, show i + 1 + j = i + (j + 1) from by omega], by simpa using h2, h3, by simp [h4]⟩
theorem map_modify_set {es : List MapEntry} {j : Nat} {key v : Value} {e : MapEntry} (h : es[j]? = some e) : (es.modify j fun x => { x with key := key, val := v }).map (fun x => (x.key, x.val)) = (es.map fun x => (x.key, x.val)).set j (key, v) := by
  apply List.ext_getElem?
  intro i
  simp only [List.getElem?_map, List.getElem?_modify, List.getElem?_set, List.length_map]
  have hl := (List.getElem?_eq_some_iff.1 h).1
  by_cases hi : j = i
  · subst hi; simp [h, hl]
  · simp [hi]
theorem run_mapUpdate {w : World} {t kt et : TypeId} {kx tx : Ty} {b : Nat} {es : Array MapEntry} {ck : Nat} {key v : Value} {l : List (Value × Value)} (hL : TyOK P L) (ht : nth L t = some tx) (htk : tx.k = .map kt et) (hk : nth L kt = some kx) (hkk : keyTK kx.k = true)
    (hb : w.heap[b]? = some (.map es ck)) (hp : putL kx.k key v (es.toList.map fun x => (x.key, x.val)) = some l) :
    ∃ es' ck', (Instr.mapUpdate t (.map (some b)) key v).run P w = .ok () (w.putObj b (.map es' ck')) ∧ es'.toList.map (fun x => (x.key, x.val)) = l := by
  have hu := under_map hL ht htk
  have hget : (getObj b).run P w = .ok (.map es ck) w := by simp [getObj, Sem.run, hb]
  have hset : ∀ o, (setObj b o).run P w = .ok () (w.putObj b o) := fun o => by simp [setObj, Sem.run, hb, World.putObj]
  obtain ⟨d, i, h1, _, h3, _⟩ := hL kt _ hk
  rw [← h3] at hp
  have hck := run_checkKey (P := P) (w := w) (b := false) (n := 9999) (v := key) hL hk hkk
  rcases putL_spec d key v es.toList 0 hp with ⟨h4, h5⟩ | ⟨j, e, u, h4, h5, h6, h7⟩
  · have hfk : (Instr.findKey kt key es.toList).run P w = .ok none w := by
      unfold Instr.findKey
      simp only [Sem.run_bind, run_underlying h1, Result.andThen_ok, h4]
      rfl
    refine ⟨es.push ⟨key, v, ck⟩, ck + 1, ?_, by simp [h5]⟩
    simp only [Instr.mapUpdate, Sem.run_bind, run_underlying hu, Result.andThen_ok, hget, Sem.run_pure, hck, hfk, hset]
  · have hfk : (Instr.findKey kt key es.toList).run P w = .ok (some (j, u)) w := by
      unfold Instr.findKey
      simp only [Sem.run_bind, run_underlying h1, Result.andThen_ok, h4, Nat.zero_add]
      rfl
    have h5' : es[j]? = some e := by rw [← Array.getElem?_toList]; exact h5
    have hst : (Instr.keyThatStays (((es[j]?).map (·.key)).getD key) key).run P w = .ok key w := by
      simp [Instr.keyThatStays, h5', h6]
    refine ⟨es.modify j fun x => { x with key := key, val := v }, ck, ?_, by rw [Array.toList_modify, h7]; exact map_modify_set h5⟩
    simp only [Instr.mapUpdate, Sem.run_bind, run_underlying hu, Result.andThen_ok, hget, Sem.run_pure, hck, hfk, hset, hst]
def wMapUpdate (L : List Ty) (M : Mem) (fr : Fr) (t : TypeId) (x ix y : Operand) (K : Kont) : Prop :=
  match nth L t with
  | some ⟨.map kt et, _, _, _⟩ => match nth L kt with
    | some ⟨kk, _, _, _⟩ => match keyTK kk, ev fr x, ev fr ix, ev fr y with
      | true, .mp id, .v key, .v val => match get M id with
        | some (.mp l) => UpG kk key val l fun l' => K (.ret (.v undef) [(id, .mp l')]) [(id, .mp l)]
        | _ => False
      | _, _, _, _ => False
    | _ => False
  | _ => False
theorem sound_mapUpdate {t : TypeId} {x ix y : Operand} (hL : TyOK P L) (h : wMapUpdate L M fr t x ix y K) : Sound P fr M news ⟨dst, .mapUpdate t x ix y, ty, pos, after, guard⟩ K := by
  unfold wMapUpdate at h
  split at h
  · rename_i kt et _ _ _ ht
    split at h
    · rename_i kk _ _ _ hk
      split at h
      · rename_i id key val hkk ex ei ey
        split at h
        · rename_i l hg
          obtain ⟨l', hp, hK⟩ := h.ex
          refine ⟨_, _, fun E N w a Q hi hN hnew hr => ?_, fun p hp => (by simp at hp; subst hp; exact hg), hK⟩
          have hN1 := hN (id, .mp l) (by simp)
          have h1 : rel (ev fr x) E (a.eval x) := rel_ev hr (by simp [Op.operands])
          have h2 : rel (ev fr ix) E (a.eval ix) := rel_ev hr (by simp [Op.operands])
          have h3 : rel (ev fr y) E (a.eval y) := rel_ev hr (by simp [Op.operands])
          rw [ex] at h1; rw [ei] at h2; rw [ey] at h3
          obtain ⟨b, h4, h5⟩ := h1
          have h2' : a.eval ix = key := h2
          have h3' : a.eval y = val := h3
          obtain ⟨b', es, ck, o1, o2, o3, o4⟩ := hi.ob id _ hN1
          rw [o1] at h4; injection h4 with h4; subst h4
          obtain ⟨es', ck', r1, r2⟩ := run_mapUpdate (key := key) (v := val) hL ht rfl hk hkk o2 (by rw [o3]; exact hp)
          have hlt := (Array.getElem?_eq_some_iff.1 o2).1
          have hown : ownOf E N [(id, .mp l')] b' := ⟨_, List.mem_singleton_self _, _, hN1, by simp [obBlk, o1]⟩
          have st : Step E E (ownOf E N [(id, .mp l')]) w (w.putObj b' (.map es' ck')) :=
            ⟨.refl E, by simp, fun k hk hno => World.putObj_heap_other (fun e => hno (e ▸ hown)), fun _ _ _ h => .inl h, rfl, rfl, rfl⟩
          have hrun : (execOp a.eval ⟨dst, .mapUpdate t x ix y, ty, pos, after, guard⟩).run P w = .ok .skip (w.putObj b' (.map es' ck')) := by
            simp [execOp, h5, h2', h3', r1]
          show Oper.wp P _ a w _ Q
          unfold Oper.wp
          rw [hrun]
          have hbd : ∀ k, obBlk E id (.mp l') = some k → (∃ x, N id = some x ∧ obBlk E id x = some k) ∨ w.heap.size ≤ k := fun k hk => .inl ⟨_, hN1, by simpa [obBlk] using hk⟩
          refine ⟨undef, E, rfl, ⟨st, hi.step1 st (fun k q v hv => ?_) ⟨b', es', ck', o1, World.putObj_heap_same hlt, r2, o4⟩ (fun _ _ => rfl) hbd, fun _ _ => ⟨rfl, rfl⟩, fun p hp k hk => (by simp only [List.mem_singleton] at hp; subst hp; exact (hbd k hk).imp (fun ⟨x, h1, h2⟩ => ⟨_, List.mem_singleton_self _, x, h1, h2⟩) (fun h => h))⟩, rfl⟩
          have hc := hi.im k q v hv
          by_cases hkb : k = b'
          · subst hkb; rw [o4] at hv; cases hv
          · rw [cell_same (World.putObj_heap_other hkb)]; exact hc
        · exact h.elim
      · exact h.elim
    · exact h.elim
  · exact h.elim
def wMakeMap (news : List Nat) (dst : Option Tmp) (r : Option Operand) (K : Kont) : Prop :=
  match r, dst with
  | none, some d => match memN news d with
    | true => K (.ret (.mp d) [(d, .mp [])]) []
    | false => False
  | _, _ => False
theorem sound_makeMap {t : TypeId} {r : Option Operand} (h : wMakeMap news dst r K) : Sound P fr M news ⟨dst, .makeMap t r, ty, pos, after, guard⟩ K := by
  unfold wMakeMap at h
  split at h
  · rename_i d
    split at h
    · rename_i hm
      refine ⟨.ret (.mp d) [(d, .mp [])], [], fun E N w a Q hi hN hnew hr => ?_, fun _ h => (by cases h), h⟩
      obtain ⟨n1, n2, n3⟩ := hnew d ⟨rfl, by simp⟩
      have hle : E.le (E.obj d w.heap.size) := by
        refine ⟨fun _ _ _ h => h, fun j b hb => ?_, fun _ _ _ h => h⟩
        simp only [Env.obj]
        rw [if_neg (by intro e; subst e; rw [n2] at hb; cases hb)]; exact hb
      have st : Step E (E.obj d w.heap.size) (ownOf E N [(d, .mp [])]) w (w.alloc (.map #[] 0)) :=
        ⟨hle, by simp, fun b hb _ => heap_alloc_old hb, fun b o v h => .inl h, rfl, rfl, rfl⟩
      have hbd : ∀ b, obBlk (E.obj d w.heap.size) d (.mp []) = some b → (∃ x, N d = some x ∧ obBlk E d x = some b) ∨ w.heap.size ≤ b := by
        intro b h
        simp only [obBlk, Env.obj, if_true] at h
        injection h with h
        exact .inr (by omega)
      show Oper.wp P _ a w _ Q
      unfold Oper.wp
      have hrun : (execOp a.eval ⟨some d, .makeMap t none, ty, pos, after, guard⟩).run P w = .ok (.value (.map (some w.heap.size))) (w.alloc (.map #[] 0)) := by
        have : (Instr.makeMap t none).run P w = .ok (.map (some w.heap.size)) (w.alloc (.map #[] 0)) := by
          simp [Instr.makeMap, run_newObj_alloc]
        simp [execOp, this]
      rw [hrun]
      refine ⟨_, E.obj d w.heap.size, rfl, ⟨st, hi.step1 st (fun b o v h => ?_) ⟨w.heap.size, #[], 0, by simp [Env.obj], heap_alloc_new w _, rfl, fun o => ?_⟩ (fun j _ => rfl) hbd, fun j hj => ⟨?_, rfl⟩, fun p hp b hb => ?_⟩, w.heap.size, by simp [Env.obj], rfl⟩
      · have h3 := hi.im b o v h
        rw [cell_same (heap_alloc_old (cell_lt h3))]; exact h3
      · cases ho : (E.obj d w.heap.size).im w.heap.size o with
        | none => rfl
        | some v => have := cell_lt (hi.im _ _ _ ho); omega
      · simp only [Env.obj]
        rw [if_neg (by intro e; subst e; simp at hj)]
      · simp only [List.mem_singleton] at hp
        subst hp
        rcases hbd b hb with ⟨x, h1, h2⟩ | h
        · rw [n1] at h1; cases h1
        · exact .inr h
    · exact h.elim
  · exact h.elim
end
end Go.Dm
namespace Go.Dm
section
variable {P : Program} {L : List Ty} {fr : Fr} {M : Mem} {news : List Nat} {K : Kont} {dst : Option Tmp} {ty : TypeId} {pos : String} {after : Array Edge} {guard : Option (Nat × Bool)}
def wAppX (L : List Ty) (M : Mem) (fr : Fr) (news : List Nat) (dst : Option Tmp) (t : TypeId) (x y : Operand) (K : Kont) : Prop :=
  match nth L t with
  | some ⟨.slice e, _, _, _⟩ => match nth L e with
    | some ⟨_, s, by', _ :: _⟩ => match mrowOf M s (ev fr x) with
      | some (id, vn, et, ver, xs) => match rowOf M s (ev fr y) with
        | some (ys, pre) => AppG (vn = ver ∧ et = e ∧ 0 < by' ∧ (∀ r ∈ ys, allOne r = true) ∧ (xs.length + ys.length) * by' ≤ 140737488355328) ys
            (fun _ => K (.ret (.row id ver) []) (pre ++ [(id, .mrow et s ver xs)])) fun n' xs' => n' = ver + 1 ∧ xs' = xs ++ ys ∧ K (.ret (.row id n') [(id, .mrow et s n' xs')]) (pre ++ [(id, .mrow et s ver xs)])
        | none => False
      | none => wApp L M fr news dst t x y K
    | _ => False
  | _ => False
theorem sound_appendX {t : TypeId} {x y : Operand} (hL : TyOK P L) (hZ : ZOK L) (h : wAppX L M fr news dst t x y K) : Sound P fr M news ⟨dst, .call ⟨.builtin .append, #[x, y], #[t, t]⟩, ty, pos, after, guard⟩ K := by
  have hx : ∀ {E : Env} {a : Act}, RelO fr E a ⟨dst, .call ⟨.builtin .append, #[x, y], #[t, t]⟩, ty, pos, after, guard⟩ → rel (ev fr x) E (a.eval x) := fun hr => rel_ev hr (by simp [Op.operands, Call.operands])
  have hy : ∀ {E : Env} {a : Act}, RelO fr E a ⟨dst, .call ⟨.builtin .append, #[x, y], #[t, t]⟩, ty, pos, after, guard⟩ → rel (ev fr y) E (a.eval y) := fun hr => rel_ev hr (by simp [Op.operands, Call.operands])
  have hrun : ∀ (w : World) (a : Act) (v : Value) (w' : World), (Builtin.append_ #[t, t] ty #[a.eval x, a.eval y]).run P w = .ok v w' → (execOp a.eval ⟨dst, .call ⟨.builtin .append, #[x, y], #[t, t]⟩, ty, pos, after, guard⟩).run P w = .ok (.value v) w' := by
    intro w a v w' hv
    simp [execOp, resolve, invoke, builtin, hv]
  unfold wAppX at h
  split at h
  · rename_i e _ _ _ ht
    split at h
    · rename_i kk s by' z zs he
      split at h
      · rename_i id vn et ver xs hm
        obtain ⟨ex, hg⟩ := mrowOf_spec hm
        obtain ⟨de, ie, u1, u2, u3, u4, u5, u6⟩ := hL e _ he
        have u6' := u6 (by simp)
        have hzc : (if kk.agg then Value.agg (z :: zs).toArray else z).cells.size = ie.size := by
          have h1 := u6'.2
          simp only at h1 u4
          cases hk : kk.agg with
          | true => simp [Value.cells, u4, ← h1]
          | false =>
            have := hZ e _ he (by simp) hk
            simp only [List.headD_cons] at this
            simp [this, u4, ← h1]
        have hinf0 : ie.zero = some (if kk.agg then Value.agg (z :: zs).toArray else z) := u6'.1
        have hunder := under_slice hL ht rfl
        have hbyte : ie.bytes = by' := u5
        have hsize : ie.size = s := u4
        have hs0 : 0 < s := by have h1 := u6'.2; simp only at h1; simp at h1; omega
        split at h
        · rename_i ys pre hrow
          obtain ⟨hp, hrel⟩ := rowOf_rel hrow
          obtain ⟨⟨rfl, rfl, hb0, hone, hbound⟩, h⟩ := h
          have hth : There (get M) (pre ++ [(id, .mrow et s vn xs)]) := There.app hp fun p hq => (by simp at hq; subst hq; exact hg)
          rcases h with ⟨rfl, hK⟩ | ⟨hne, n', xs', rfl, rfl, hK⟩
          · refine ⟨.ret (.row id vn) [], _, lact_val fun E N w a hi hN hr => ?_, hth, hK⟩
            have h1 := hx hr; rw [ex] at h1
            have hN' := hN (id, .mrow et s vn xs) (by simp)
            obtain ⟨ad, cap, h2, h3, _⟩ := hrel E N w _ hi (fun p hq => hN p (by simp [hq])) (hy hr)
            refine ⟨a.eval x, hrun w a _ _ ?_, h1⟩
            have ho := hi.ob id _ hN'
            rcases ho.2 with ⟨o1, o2⟩ | ⟨b, c, cap', o1, o2, o3, o4, _⟩
            · have e1 : a.eval x = .slice none 0 0 := by have := h1.1; rw [o1] at this; injection this with this; exact this.symm
              cases ad <;> simp [Builtin.append_, e1, h2, run_underlying hunder, sizeOf, typeInfo, u2, Builtin.lenOf, Builtin.firstCells, loadCells, loadCellsFrom]
            · have e1 : a.eval x = .slice (some ⟨b, 0, none⟩) xs.length cap' := by have := h1.1; rw [o1] at this; injection this with this; exact this.symm
              cases ad <;> simp [Builtin.append_, e1, h2, run_underlying hunder, sizeOf, typeInfo, u2, Builtin.lenOf, Builtin.firstCells, loadCells, loadCellsFrom, o4, storeCells]
          · refine ⟨_, _, fun E N w a Q hi hN hnew hr => ?_, hth, hK⟩
            have h1 := hx hr; rw [ex] at h1
            have hN' := hN (id, .mrow et s vn xs) (by simp)
            have h2 := hrel E N w _ hi (fun p hq => hN p (by simp [hq])) (hy hr)
            have hlen63 : xs.length + ys.length ≤ maxLen := by
              have : xs.length + ys.length ≤ (xs.length + ys.length) * by' := Nat.le_mul_of_pos_right _ hb0
              simp only [maxLen]; omega
            obtain ⟨v', w', E', r1, r2, r3, r4⟩ := grow_mrow (P := P) hi hN' hs0 (ty := ty) hunder u2 hinf0 hsize hbyte (by rw [hzc, hsize]) h1.1 h2 hne hone hbound hlen63
            show Oper.wp P _ a w _ Q
            unfold Oper.wp
            rw [hrun w a _ _ r1]
            exact ⟨v', E', rfl, r2, r3, r4⟩
        · exact h.elim
      · exact sound_append hL hZ h
    · exact h.elim
  · exact h.elim
mutual
def frz (M : Mem) : D → Option (D × Mem)
  | .row id n => match get M id with
    | some (.mrow e s ver xs) => match Nat.beq n ver with
      | true => some (.list s xs, [(id, .mrow e s ver xs)])
      | false => none
    | some (.row e s xs) => some (.list s (xs.take n), [(id, .row e s xs)])
    | _ => none
  | .v x => some (.v x, [])
  | .list s xs => some (.list s xs, [])
  | .ptr cs => some (.ptr cs, [])
  | .agg cs => match frzL M cs with
    | some (ds, p) => some (.agg ds, p)
    | none => none
  | .tup cs => match frzL M cs with
    | some (ds, p) => some (.tup ds, p)
    | none => none
  | .fn f cs => match frzL M cs with
    | some (ds, p) => some (.fn f ds, p)
    | none => none
  | .iface t d => match frz M d with
    | some (e, p) => some (.iface t e, p)
    | none => none
  | .bot => none
  | .ref _ _ => none
  | .sl _ _ _ => none
  | .rp _ _ _ _ _ => none
  | .mp _ => none
def frzL (M : Mem) : List D → Option (List D × Mem)
  | [] => some ([], [])
  | d :: ds => match frz M d with
    | some (e, p) => match frzL M ds with
      | some (es, q) => some (e :: es, p ++ q)
      | none => none
    | none => none
end
open Classical in
noncomputable def Env.frz (E : Env) (w : World) (F : Nat → Prop) : Env := ⟨fun b o => if F b then w.cell? ⟨b, o, none⟩ else E.im b o, E.blk, E.hdr⟩
theorem frz_pos {E : Env} {w : World} {F : Nat → Prop} {b : Nat} (h : F b) (o : Nat) : (E.frz w F).im b o = w.cell? ⟨b, o, none⟩ := by simp [Env.frz, h]
theorem frz_neg {E : Env} {w : World} {F : Nat → Prop} {b : Nat} (h : ¬ F b) (o : Nat) : (E.frz w F).im b o = E.im b o := by simp [Env.frz, h]
theorem frz_le {E : Env} {w : World} {F : Nat → Prop} (h : ImOK E w) : E.le (E.frz w F) :=
  ⟨fun b o v hv => by
    simp only [Env.frz]
    split
    · exact h b o v hv
    · exact hv, fun _ _ h => h, fun _ _ _ h => h⟩
theorem frz_imOK {E : Env} {w : World} {F : Nat → Prop} (h : ImOK E w) : ImOK (E.frz w F) w := by
  intro b o v hv
  simp only [Env.frz] at hv
  split at hv
  · exact hv
  · exact h b o v hv
def mblk (E : Env) (p : Mem) (b : Nat) : Prop := ∃ q ∈ p, ∃ e s ver xs, q.2 = .mrow e s ver xs ∧ obBlk E q.1 q.2 = some b
mutual
theorem frz_rel {M : Mem} : ∀ (d : D) {e : D} {pre : Mem}, frz M d = some (e, pre) → There (get M) pre ∧ ∀ (E : Env) (N : Nat → Option Ob) (w : World) (F : Nat → Prop) (v : Value), Inv E N w → There N pre → (∀ b, mblk E pre b → F b) → rel d E v → rel e (E.frz w F).pure v
  | .v x, _, _, h => by simp [frz] at h; obtain ⟨rfl, rfl⟩ := h; exact ⟨fun _ h => (by cases h), fun E N w F v _ _ _ hr => hr⟩
  | .list s xs, _, _, h => by simp [frz] at h; obtain ⟨rfl, rfl⟩ := h; exact ⟨fun _ h => (by cases h), fun E N w F v hi _ _ hr => rel_mono (.list s xs) (E := E.pure) (frz_le hi.im).pure hr⟩
  | .ptr cs, _, _, h => by simp [frz] at h; obtain ⟨rfl, rfl⟩ := h; exact ⟨fun _ h => (by cases h), fun E N w F v hi _ _ hr => rel_mono (.ptr cs) (E := E.pure) (frz_le hi.im).pure hr⟩
  | .row id n, _, _, h => by
    simp only [frz] at h
    split at h
    · rename_i et s ver xs hg
      split at h
      · rename_i hn
        obtain rfl := beq_eq hn
        simp at h
        obtain ⟨rfl, rfl⟩ := h
        refine ⟨fun p hp => (by simp at hp; subst hp; exact hg), fun E N w F v hi hN hF hr => ?_⟩
        have ho := hi.ob id _ (hN (id, .mrow et s n xs) (by simp))
        rcases ho.2 with ⟨o1, o2⟩ | ⟨b, c, cap, o1, o2, o3, o4, o5, o6, o7, o8⟩
        · have := hr.1; rw [o1] at this; injection this with this; subst this; subst o2
          exact ⟨none, 0, rfl, Nat.le_refl _, fun h => absurd rfl h⟩
        · have := hr.1; rw [o1] at this; injection this with this; subst this
          have hb : F b := hF b ⟨_, List.mem_singleton_self _, et, s, n, xs, rfl, by simp [obBlk, o1, hdrBlk]⟩
          have hcs : xs.length * s ≤ cap * s := Nat.mul_le_mul_right _ o4
          refine ⟨_, _, rfl, o4, fun _ => ⟨b, 0, rfl, relRow_of o6 (rels_mono _ (show E.pure.le ((E.frz w F).pure).pure from (frz_le hi.im).pure) o7) fun k hk => ?_⟩⟩
          have hk' : k < xs.length * s := by simp at hk; omega
          show (E.frz w F).im b (0 + k) = _
          rw [frz_pos hb, List.getElem?_take_of_lt hk']
          simp [World.cell?, o2]
      · cases h
    · rename_i et s xs hg
      simp at h
      obtain ⟨rfl, rfl⟩ := h
      refine ⟨fun p hp => (by simp at hp; subst hp; exact hg), fun E N w F v hi hN _ hr => ?_⟩
      exact rel_mono (.list s (xs.take n)) (E := E.pure) (frz_le hi.im).pure ((hi.ob id (.row et s xs) (hN (id, .row et s xs) (by simp))).1 n v hr.1).2
    · cases h
  | .agg cs, _, _, h => by
    simp only [frz] at h
    split at h
    · rename_i ds p hg
      simp at h
      obtain ⟨rfl, rfl⟩ := h
      obtain ⟨h1, h2⟩ := frzL_rel cs hg
      refine ⟨h1, fun E N w F v hi hN hF hr => ?_⟩
      obtain ⟨vs, h3, h4⟩ := hr
      exact ⟨vs, h3, h2 E N w F vs hi hN hF h4⟩
    · cases h
  | .tup cs, _, _, h => by
    simp only [frz] at h
    split at h
    · rename_i ds p hg
      simp at h
      obtain ⟨rfl, rfl⟩ := h
      obtain ⟨h1, h2⟩ := frzL_rel cs hg
      refine ⟨h1, fun E N w F v hi hN hF hr => ?_⟩
      obtain ⟨vs, h3, h4⟩ := hr
      exact ⟨vs, h3, h2 E N w F vs hi hN hF h4⟩
    · cases h
  | .fn f cs, _, _, h => by
    simp only [frz] at h
    split at h
    · rename_i ds p hg
      simp at h
      obtain ⟨rfl, rfl⟩ := h
      obtain ⟨h1, h2⟩ := frzL_rel cs hg
      refine ⟨h1, fun E N w F v hi hN hF hr => ?_⟩
      obtain ⟨vs, h3, h4⟩ := hr
      exact ⟨vs, h3, h2 E N w F vs hi hN hF h4⟩
    · cases h
  | .iface t d, _, _, h => by
    simp only [frz] at h
    split at h
    · rename_i e p hg
      simp at h
      obtain ⟨rfl, rfl⟩ := h
      obtain ⟨h1, h2⟩ := frz_rel d hg
      refine ⟨h1, fun E N w F v hi hN hF hr => ?_⟩
      obtain ⟨x, h3, h4⟩ := hr
      exact ⟨x, h3, h2 E N w F x hi hN hF h4⟩
    · cases h
  | .bot, _, _, h => by simp [frz] at h
  | .ref _ _, _, _, h => by simp [frz] at h
  | .sl _ _ _, _, _, h => by simp [frz] at h
  | .rp _ _ _ _ _, _, _, h => by simp [frz] at h
  | .mp _, _, _, h => by simp [frz] at h
theorem frzL_rel {M : Mem} : ∀ (ds : List D) {es : List D} {pre : Mem}, frzL M ds = some (es, pre) → There (get M) pre ∧ ∀ (E : Env) (N : Nat → Option Ob) (w : World) (F : Nat → Prop) (vs : List Value), Inv E N w → There N pre → (∀ b, mblk E pre b → F b) → rels ds E vs → rels es (E.frz w F).pure vs
  | [], _, _, h => by simp [frzL] at h; obtain ⟨rfl, rfl⟩ := h; exact ⟨fun _ h => (by cases h), fun E N w F v _ _ _ hr => hr⟩
  | d :: ds, _, _, h => by
    simp only [frzL] at h
    split at h
    · rename_i e p h1
      split at h
      · rename_i es q h2
        simp at h
        obtain ⟨rfl, rfl⟩ := h
        obtain ⟨h3, h4⟩ := frz_rel d h1
        obtain ⟨h5, h6⟩ := frzL_rel ds h2
        refine ⟨h3.app h5, fun E N w F vs hi hN hF hr => ?_⟩
        obtain ⟨v, ws, rfl, h7, h8⟩ := hr
        refine ⟨v, ws, rfl, h4 E N w F v hi hN.append.1 (fun b ⟨q', hq, hx⟩ => hF b ⟨q', List.mem_append_left _ hq, hx⟩) h7, h6 E N w F ws hi hN.append.2 (fun b ⟨q', hq, hx⟩ => hF b ⟨q', List.mem_append_right _ hq, hx⟩) h8⟩
      · cases h
    · cases h
end
mutual
/-- Data that says nothing of memory. -/
def flat : D → Bool
  | .v _ => true
  | .agg cs => flats cs
  | .tup cs => flats cs
  | .iface _ d => flat d
  | _ => false
def flats : List D → Bool
  | [] => true
  | d :: ds => match flat d with
    | true => flats ds
    | false => false
end
mutual
theorem flat_rel : ∀ (d : D) {E E' : Env} {y : Value}, flat d = true → rel d E y → rel d E' y
  | .v _, _, _, _, _, h => h
  | .agg cs, _, _, _, hf, ⟨vs, h1, h2⟩ => ⟨vs, h1, flats_rel cs (by simpa [flat] using hf) h2⟩
  | .tup cs, _, _, _, hf, ⟨vs, h1, h2⟩ => ⟨vs, h1, flats_rel cs (by simpa [flat] using hf) h2⟩
  | .iface _ d, _, _, _, hf, ⟨x, h1, h2⟩ => ⟨x, h1, flat_rel d (by simpa [flat] using hf) h2⟩
  | .bot, _, _, _, hf, _ => by simp [flat] at hf
  | .list _ _, _, _, _, hf, _ => by simp [flat] at hf
  | .ptr _, _, _, _, hf, _ => by simp [flat] at hf
  | .ref _ _, _, _, _, hf, _ => by simp [flat] at hf
  | .sl _ _ _, _, _, _, hf, _ => by simp [flat] at hf
  | .row _ _, _, _, _, hf, _ => by simp [flat] at hf
  | .fn _ _, _, _, _, hf, _ => by simp [flat] at hf
  | .rp _ _ _ _ _, _, _, _, hf, _ => by simp [flat] at hf
  | .mp _, _, _, _, hf, _ => by simp [flat] at hf
theorem flats_rel : ∀ (ds : List D) {E E' : Env} {vs : List Value}, flats ds = true → rels ds E vs → rels ds E' vs
  | [], _, _, _, _, h => h
  | d :: ds, _, _, _, hf, ⟨v, ws, h1, h2, h3⟩ => by
    simp only [flats] at hf
    split at hf
    · rename_i h4; exact ⟨v, ws, h1, flat_rel d h4 h2, flats_rel ds hf h3⟩
    · cases hf
end
structure wCallZ (P : Program) (M : Mem) (g : D) (k : FuncId) (ds : List D) (K : Kont) : Prop where
  ex : wCallF P M g k ds K ∨ ∃ (ds0 : List D) (p : Mem) (d : D), frzL M ds = some (ds0, p) ∧ PCall P k [] ds0 (.ret d []) ∧ flat d = true ∧ K (.ret d []) p
theorem wCallZ.old {P : Program} {M : Mem} {g : D} {k : FuncId} {ds : List D} {K : Kont} (h : wCallF P M g k ds K) : wCallZ P M g k ds K := ⟨.inl h⟩
def wCallVZ (P : Program) (M : Mem) (fr : Fr) (f : Operand) (args : Array Operand) (K : Kont) : Prop :=
  match ev fr f with
  | .fn (.func k) caps => wCallZ P M (gd fr (100000 + maxLenG)) k (evs fr args.toList ++ caps) K
  | _ => False
open Classical in
noncomputable def Env.thaw (E' E : Env) (F : Nat → Prop) : Env := ⟨fun b o => if F b then E.im b o else E'.im b o, E'.blk, E'.hdr⟩
theorem thaw_pos {E' E : Env} {F : Nat → Prop} {b : Nat} (h : F b) (o : Nat) : (E'.thaw E F).im b o = E.im b o := by simp [Env.thaw, h]
theorem thaw_neg {E' E : Env} {F : Nat → Prop} {b : Nat} (h : ¬ F b) (o : Nat) : (E'.thaw E F).im b o = E'.im b o := by simp [Env.thaw, h]
theorem sound_callVZ {f : Operand} {args : Array Operand} {ats : Array TypeId} (h : wCallVZ P M fr f args K) : Sound P fr M news ⟨dst, .call ⟨.value f, args, ats⟩, ty, pos, after, guard⟩ K := by
  unfold wCallVZ at h
  split at h
  · rename_i k caps ef
    rcases h.ex with h | ⟨ds0, p, d, hz, hc, hfl, hK⟩
    · exact sound_callV (by unfold wCallV; rw [ef]; exact h)
    · obtain ⟨⟨fn, hf1, hf2, hf3⟩, hc⟩ := hc
      obtain ⟨hp1, hp2⟩ := frzL_rel _ hz
      refine ⟨.ret d [], p, fun E N w a Q hi hN hnew hr => ?_, hp1, hK⟩
      have h1 : rel (ev fr f) E (a.eval f) := rel_ev hr (by simp [Op.operands, Call.operands])
      rw [ef] at h1
      obtain ⟨cv', h2, h3⟩ := h1
      have h4 : rels (evs fr args.toList) E (args.toList.map a.eval) := rels_evs _ fun x hx => rel_ev hr (by simp [Op.operands, Call.operands]; exact .inr (by simpa using hx))
      let F : Nat → Prop := fun b => mblk E p b
      have hF : ∀ b, F b → ∀ o, E.im b o = none := by
        rintro b ⟨q, hq, e, s, ver, xs, e1, e2⟩ o
        have ho := hi.ob _ _ (hN q hq)
        rw [e1] at ho e2
        rcases ho.2 with ⟨o1, _⟩ | ⟨b', c, cap, o1, o2, o3, o4, o5, o6, o7, o8⟩
        · simp [obBlk, o1, hdrBlk] at e2
        · simp [obBlk, o1, hdrBlk] at e2
          subst e2; exact o8 o
      have hFl : ∀ b, F b → b < w.heap.size := by
        rintro b ⟨q, hq, e, s, ver, xs, e1, e2⟩
        exact obBlk_lt (hi.ob _ _ (hN q hq)) e2
      have hargs : rels ds0 (E.frz w F) (args.toList.map a.eval ++ cv') := rels_pure (hp2 E N w F _ hi hN (fun b hb => hb) (rels_append h4 h3))
      have hinv : Inv (E.frz w F) (get []) w := ⟨frz_imOK hi.im, fun id x hx => (by cases hx), fun i j x y b hx => (by cases hx), hi.gl.mono (frz_le hi.im)⟩
      have hcall := hc (E.frz w F) w _ hinv (fun j hj => by cases hj.2) hargs
      have hrun : (execOp a.eval ⟨dst, .call ⟨.value f, args, ats⟩, ty, pos, after, guard⟩).run P w = .ok (.enter k (args.toList.map a.eval ++ cv').toArray) w := by
        clear hcall hargs
        simp only [execOp, resolve, h2, Deferred.ofValue, Sem.run_bind, Sem.run_pure, Result.andThen_ok, invoke]
        rw [run_callFunc hf1 hf2 hf3]
        congr 2
        simp
      show Oper.wp P _ a w _ Q
      unfold Oper.wp
      rw [hrun]
      refine Calls.mono hcall fun e w' he => ?_
      obtain ⟨v, E', rfl, hd, hv⟩ := he
      have noown : ∀ b, ¬ ownOf (E.frz w F) (get []) [] b := fun b ⟨q, hq, _⟩ => by cases hq
      have him : ImOK (E'.thaw E F) w' := by
        intro b o v hv
        by_cases hb : F b
        · rw [thaw_pos hb, hF b hb] at hv; cases hv
        · rw [thaw_neg hb] at hv; exact hd.inv.im b o v hv
      have hle : E.le (E'.thaw E F) := by
        refine ⟨fun b o v hv => ?_, fun j b hb => hd.st.le.blk j b hb, fun j n v hv => hd.st.le.hdr j n v hv⟩
        by_cases hb : F b
        · rw [thaw_pos hb]; exact hv
        · rw [thaw_neg hb]; exact hd.st.le.im b o v (by rw [frz_neg hb]; exact hv)
      have st : Step E (E'.thaw E F) (fun _ => False) w w' := by
        refine ⟨hle, hd.st.size, fun b hb _ => hd.st.frame b hb (noown b), fun b o v hv => ?_, hd.st.os, hd.st.tape, hd.st.output⟩
        by_cases hb : F b
        · rw [thaw_pos hb] at hv; exact .inl hv
        · rw [thaw_neg hb] at hv
          rcases hd.st.new b o v hv with h | h | h
          · rw [frz_neg hb] at h; exact .inl h
          · exact .inr (.inl h)
          · exact absurd h (noown b)
      have hids : ∀ j, (E'.thaw E F).blk j = E.blk j ∧ (E'.thaw E F).hdr j = E.hdr j := fun j => hd.ids j (by simp)
      refine ⟨v, E'.thaw E F, rfl, ⟨st.mono fun b h => h.elim, ?_, fun j _ => hids j, fun q hq => by cases hq⟩, flat_rel d hfl hv⟩
      rw [upds_nil]
      exact Inv.step0 hi st him fun j => (hids j).2
  · exact h.elim
theorem callZ {g : D} {k : FuncId} {ds ds0 : List D} {p : Mem} {d : D} (hz : frzL M ds = some (ds0, p)) (h : PCall P k [] ds0 (.ret d [])) (hf : flat d = true) (hK : K (.ret d []) p) : wCallZ P M g k ds K := ⟨.inr ⟨ds0, p, d, hz, h, hf, hK⟩⟩
theorem call0 {g : D} {k : FuncId} {ds : List D} {out : Out} (h : PCall P k [] ds out) (hK : K out []) : wCallZ P M g k ds K := .old (call0F h hK)
theorem callP {g : D} {k : FuncId} {ds ds0 : List D} {p : Mem} {out : Out} (hp : purifyL M ds = some (ds0, p)) (h : PCall P k [] ds0 out) (ho : outOff [] p out = true) (hK : K out p) : wCallZ P M g k ds K := .old (callPF hp h ho hK)
theorem callM {g : D} {k : FuncId} {ds : List D} {pre : Mem} {out : Out} (h : PCall P k pre ds out) (ht : wThere M pre) (ho : outOff pre [] out = true) (hK : K out (pre ++ [])) : wCallZ P M g k ds K := .old (callMF h ht ho hK)
theorem callA {g : D} {k : FuncId} {ds ds0 : List D} {p pre : Mem} {out : Out} (ha : Adapts M ds ds0 p) (h : PCall P k pre ds0 out) (ht : wThere M pre) (ho : outOff pre p out = true) (hK : K out (pre ++ p)) : wCallZ P M g k ds K := .old (callAF ha h ht ho hK)
theorem callE {g : D} {k : FuncId} {ds : List D} {d : D} (h : ECall P g k ds d) (hK : K (.ret d []) []) : wCallZ P M g k ds K := .old (callEF h hK)
def FrzTo (M : Mem) (c d : D) (p : Mem) : Prop := frz M c = some (d, p)
def FrzL (M : Mem) (cs ds : List D) (p : Mem) : Prop := frzL M cs = some (ds, p)
theorem FrzL.nil {M : Mem} : FrzL M [] [] [] := rfl
theorem FrzL.cons {M : Mem} {c d : D} {cs ds : List D} {p q : Mem} (h : FrzTo M c d p) (k : FrzL M cs ds q) : FrzL M (c :: cs) (d :: ds) (p ++ q) := by
  unfold FrzTo at h; unfold FrzL at *; simp only [frzL, h, k]
theorem FrzTo.v {M : Mem} {x : Value} : FrzTo M (.v x) (.v x) [] := rfl
theorem FrzTo.list {M : Mem} {s : Nat} {xs : List (List D)} : FrzTo M (.list s xs) (.list s xs) [] := rfl
theorem FrzTo.row {M : Mem} {id n s : Nat} {e : TypeId} {xs ys : List (List D)} (h : get M id = some (.row e s xs)) (hy : xs.take n = ys) : FrzTo M (.row id n) (.list s ys) [(id, .row e s xs)] := by
  subst hy; unfold FrzTo; simp only [frz, h]
theorem FrzTo.mrow {M : Mem} {id n m s : Nat} {e : TypeId} {xs : List (List D)} (h : get M id = some (.mrow e s m xs)) (hn : n = m) : FrzTo M (.row id n) (.list s xs) [(id, .mrow e s m xs)] := by
  subst hn; unfold FrzTo; simp only [frz, h, beq_same]
theorem FrzTo.agg {M : Mem} {cs ds : List D} {p : Mem} (h : FrzL M cs ds p) : FrzTo M (.agg cs) (.agg ds) p := by
  unfold FrzL at h; unfold FrzTo; simp only [frz, h]
end
end Go.Dm
namespace Go.Dm
section
variable {P : Program} {L : List Ty} {fr : Fr} {M : Mem} {news : List Nat} {K : Kont} {dst : Option Tmp} {ty : TypeId} {pos : String} {after : Array Edge} {guard : Option (Nat × Bool)}
def wBuildSliceR (L : List Ty) (M : Mem) (fr : Fr) (news : List Nat) (dst : Option Tmp) (t : TypeId) (n : Nat) (parts : Array (Nat × Operand)) (K : Kont) : Prop :=
  match dst with
  | some d => match memN news (d + 500) with
    | true => match nth L t with
      | some ⟨.slice e, _, _, _⟩ => match nth L e with
        | some ⟨_, s, _, _ :: _⟩ => match litRows M fr s 0 parts.toList with
          | some (rs, pre) => match Nat.beq rs.length n with
            | true => match Nat.ble (n * s) 16777216 with
              | true => match get pre d with
                | none => K (.ret (.row d n) [(d, .row e s rs)]) pre
                | some _ => False
              | false => False
            | false => False
          | none => False
        | _ => False
      | _ => False
    | false => wBuildSliceO L M fr news dst t n parts K
  | none => wBuildSliceO L M fr news dst t n parts K
theorem sound_buildSliceR {t : TypeId} {n : Nat} {parts : Array (Nat × Operand)} (hL : TyOK P L) (h : wBuildSliceR L M fr news dst t n parts K) : Sound P fr M news ⟨dst, .buildSlice t n parts, ty, pos, after, guard⟩ K := by
  unfold wBuildSliceR at h
  split at h
  · rename_i d
    split at h
    · split at h
      · rename_i e _ _ _ ht
        split at h
        · rename_i k s by' z0 zr he
          split at h
          · rename_i rs pre hrs
            split at h
            · rename_i hn
              have hn' := beq_eq hn
              split at h
              · rename_i hb
                have hb : n * s ≤ 16777216 := by simpa using hb
                split at h
                · rename_i hgd
                  have hzz : (Ty.mk k s by' (z0 :: zr)).zero ≠ [] := by simp
                  obtain ⟨d0, i0, _, _, _, _, _, hz⟩ := hL e _ he
                  have hs0 : s = zr.length + 1 := by have := (hz hzz).2; simp at this; omega
                  obtain ⟨h1, h2, h3, h4⟩ := litRows_fill (n := n) (by omega) parts.toList 0 hrs
                  refine ⟨_, _, fun E N w a Q hi hN hnew hr => ?_, h1, h⟩
                  obtain ⟨n1, n2, n3⟩ := hnew d ⟨hgd, by simp⟩
                  have hro : ∀ p ∈ parts.toList, rel (ev fr p.2) E (a.eval p.2) := fun p hp => rel_ev hr (by simp [Op.operands]; exact ⟨p.1, by simpa using hp⟩)
                  have fin : ∀ z : Array Value, ∃ c' vs, Instr.fill (fun i => some (i * s, s)) ((Array.range (n * s)).map (z[· % z.size]!)) (parts.map fun (i, x) => (i, a.eval x)).toList = some c' ∧ rels rs.flatten E.pure vs ∧ c'.toList = vs := by
                    intro z
                    obtain ⟨c', vs, f1, f2, f3, f4⟩ := h4 E N w a ((Array.range (n * s)).map (z[· % z.size]!)) hi hN hro (by simp) (by simp [← h2, hn'])
                    exact ⟨c', vs, by rw [Array.toList_map]; exact f1, f2, by rw [f3]; simp⟩
                  have fin2 : ∀ (c' : Array Value) (vs : List Value), rels rs.flatten E.pure vs → c'.toList = vs →
                      ∃ v E' w', v = .slice (some ⟨w.heap.size, 0, none⟩) n n ∧ w' = w.alloc (.cells c' e) ∧ Done E E' N [(d, .row e s rs)] w w' ∧ rel (.row d n) E' v := by
                    intro c' vs f2 f3
                    obtain ⟨g1, g2, g3⟩ := new_im hi e c' (0, 0) vs (fun k hk => by rw [← Array.getElem?_toList, f3])
                    have hvl : vs.length = n * s := by have := rels_length f2; rw [flatten_len h3] at this; rw [this, hn']
                    let E1 := E.add w.heap.size vs
                    let E2 : Env := ⟨E1.im, E1.blk, fun j q => if j = d ∧ q = n then some (.slice (some ⟨w.heap.size, 0, none⟩) n n) else E1.hdr j q⟩
                    have hd2 : E2.hdr d n = some (.slice (some ⟨w.heap.size, 0, none⟩) n n) := by show (if d = d ∧ n = n then _ else _) = _; rw [if_pos ⟨rfl, rfl⟩]
                    have le2 : E1.le E2 := ⟨fun _ _ _ h => h, fun _ _ h => h, fun j q v hv => by
                      show (if j = d ∧ q = n then _ else E1.hdr j q) = some v
                      rw [if_neg (by rintro ⟨rfl, rfl⟩; have : E.hdr j q = some v := hv; rw [n3] at this; cases this)]; exact hv⟩
                    have hob : obBlk E2 d (.row e s rs) = some w.heap.size := by simp only [obBlk, hn', hd2, hdrBlk]
                    have st2 : Step E1 E2 (ownOf E1 N [(d, .row e s rs)]) (w.alloc (.cells c' e)) (w.alloc (.cells c' e)) := ⟨le2, Nat.le_refl _, fun _ _ _ => rfl, fun _ _ _ h => .inl h, rfl, rfl, rfl⟩
                    have hrow : relRow rs E2.pure s w.heap.size 0 := relRow_of h3 (rels_mono _ (g1.le.trans le2).pure f2) fun k hk => by simp [Env.pure, Env.add, E2, E1]
                    have hfresh : ∀ o v, E.im w.heap.size o = some v → False := fun o v hv => by have := cell_lt (hi.im _ _ _ hv); omega
                    have i2 : Inv E2 (upds N [(d, .row e s rs)]) (w.alloc (.cells c' e)) := by
                      refine ⟨g2.im, fun j y hy => ?_, fun i j x y b hx hy hxb hyb => ?_, g2.gl.mono le2⟩
                      · rw [upds_cons, upds_nil] at hy
                        split at hy
                        · rename_i e'; subst e'; injection hy with hy; subst hy
                          refine ⟨fun q v hv => ?_, .inr ⟨w.heap.size, c', n, by rw [hn']; exact hd2, heap_alloc_new w _, by rw [← Array.length_toList, f3, hvl], by omega, ?_, fun o v hv => ?_⟩⟩
                          · have hv' : (if d = d ∧ q = n then some (Value.slice (some ⟨w.heap.size, 0, none⟩) n n) else E.hdr d q) = some v := hv
                            split at hv'
                            · rename_i hq
                              obtain ⟨_, rfl⟩ := hq
                              injection hv' with hv'
                              subst hv'
                              exact ⟨by omega, some ⟨w.heap.size, 0, none⟩, q, by rw [← hn', List.take_length], by rw [← hn', List.take_length]; exact Nat.le_refl _, fun _ => ⟨w.heap.size, 0, rfl, by rw [← hn', List.take_length]; exact hrow⟩⟩
                            · rw [n3] at hv'; cases hv'
                          · have : n ≤ n * s := Nat.le_mul_of_pos_right _ (by omega)
                            simp only [maxLen]; omega
                          · have hv' : (if w.heap.size = w.heap.size then vs[o]? else E.im w.heap.size o) = some v := hv
                            rw [if_pos rfl] at hv'
                            have := (List.getElem?_eq_some_iff.1 hv').1
                            rw [hn']; omega
                        · rename_i e'
                          refine (g2.ob j y hy).keep st2 (fun b hb hno => ?_) fun q v hv => ?_
                          · obtain ⟨p, hp, x, hx, hxb⟩ := hno
                            simp only [List.mem_singleton] at hp; subst hp
                            rw [n1] at hx; cases hx
                          · have hv' : (if j = d ∧ q = n then _ else E1.hdr j q) = some v := hv
                            rw [if_neg (by rintro ⟨rfl, _⟩; exact e' rfl)] at hv'; exact hv'
                      · have old : ∀ k u b, N k = some u → obBlk E2 k u = some b → b < w.heap.size := by
                          intro k u b hu hb
                          have h5 : obBlk E k u = some b := by rw [← hb]; exact (obBlk_le (g1.le.trans le2) (hi.ob k u hu)).symm
                          exact obBlk_lt (hi.ob k u hu) h5
                        rw [upds_cons, upds_nil] at hx hy
                        split at hx
                        · rename_i e1; injection hx with hx; subst hx
                          split at hy
                          · rename_i e2; exact e1.symm.trans e2
                          · rw [← e1, hob] at hxb
                            injection hxb with hxb
                            have := old j y b hy hyb; omega
                        · split at hy
                          · rename_i e2; injection hy with hy; subst hy
                            rw [← e2, hob] at hyb
                            injection hyb with hyb
                            have := old i x b hx hxb; omega
                          · rw [obBlk_le (g1.le.trans le2) (hi.ob i x hx)] at hxb
                            rw [obBlk_le (g1.le.trans le2) (hi.ob j y hy)] at hyb
                            exact hi.sep i j x y b hx hy hxb hyb
                    refine ⟨_, E2, _, rfl, rfl, ⟨⟨g1.le.trans le2, g1.size, fun b hb _ => g1.frame b hb (fun h => h), fun b o v hv => (g1.new b o v hv).imp id (·.imp id (fun h => h.elim)), g1.os, g1.tape, g1.output⟩, i2, fun j hj => ⟨rfl, ?_⟩, fun p hp b hb => ?_⟩, hd2, rfl⟩
                    · funext q
                      show (if j = d ∧ q = n then _ else E.hdr j q) = _
                      rw [if_neg (by rintro ⟨rfl, _⟩; exact hj (by simp))]
                    · simp only [List.mem_singleton] at hp; subst hp
                      rw [hob] at hb; injection hb with hb
                      exact .inr (by omega)
                  have hsz := size_run (w := w) hL he
                  show Oper.wp P _ a w _ Q
                  unfold Oper.wp
                  by_cases h0 : n * s = 0
                  · obtain ⟨c', vs, f1, f2, f3⟩ := fin #[]
                    obtain ⟨v, E', w', rfl, rfl, q1, q2⟩ := fin2 c' vs f2 f3
                    have hrun : (execOp a.eval ⟨some d, .buildSlice t n parts, ty, pos, after, guard⟩).run P w = .ok (.value (.slice (some ⟨w.heap.size, 0, none⟩) n n)) (w.alloc (.cells c' e)) := by
                      simp only [execOp, Instr.buildSlice, Sem.run_bind, slice_run hL ht rfl, Result.andThen_ok, hsz]
                      rw [if_neg (by omega), if_pos h0]
                      simp only [Sem.run_bind, Sem.run_pure, Result.andThen_ok, f1]
                      rfl
                    rw [hrun]
                    exact ⟨_, E', rfl, q1, q2⟩
                  · obtain ⟨c', vs, f1, f2, f3⟩ := fin (if (Ty.mk k s by' (z0 :: zr)).k.agg then Value.agg (z0 :: zr).toArray else z0).cells
                    obtain ⟨v, E', w', rfl, rfl, q1, q2⟩ := fin2 c' vs f2 f3
                    have hz0 := zero_run (w := w) hL he hzz
                    have hrun : (execOp a.eval ⟨some d, .buildSlice t n parts, ty, pos, after, guard⟩).run P w = .ok (.value (.slice (some ⟨w.heap.size, 0, none⟩) n n)) (w.alloc (.cells c' e)) := by
                      simp only [execOp, Instr.buildSlice, Sem.run_bind, slice_run hL ht rfl, Result.andThen_ok, hsz]
                      rw [if_neg (by omega), if_neg h0]
                      simp only [Sem.run_bind, Sem.run_pure, Result.andThen_ok, hz0]
                      have f1' := f1
                      simp only [List.headD_cons] at f1' ⊢
                      rw [f1']
                      rfl
                    rw [hrun]
                    exact ⟨_, E', rfl, q1, q2⟩
                · exact h.elim
              · exact h.elim
            · exact h.elim
          · exact h.elim
        · exact h.elim
      · exact h.elim
    · exact sound_buildSliceO hL h
  · exact sound_buildSliceO hL h
end
end Go.Dm
