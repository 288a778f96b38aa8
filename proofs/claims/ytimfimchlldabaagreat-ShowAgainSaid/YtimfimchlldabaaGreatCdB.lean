/- Texts of one proof, joined by a program of this claim's: a semantic evaluator for the walks; the contracts of the functions; the plain laws. -/
import Derived.Lib.AppendStr
import Derived.Deep.LoopGhost
import Derived.Laws.Sem
import Derived.Test.YtimfimchlldabaaGreatRows
import Derived.Recover
import Derived.IntWalk
import Derived.Laws.Strings
import Derived.KernelRfl
import Derived.Lib.BytesEntry
import Derived.Laws.Externs
import Derived.Test.YtimfimchlldabaaGreatCdA
set_option linter.all false
namespace Go.Dm
theorem append_two_str {P : Program} (w : World) (t u ty e : TypeId) (i : TypeInfo) (ht : P.underlying t = some (.slice e)) (hu : P.underlying u = some .string) (hi : P.info? e = some i) (hz : i.zero = some (.int .u8 0)) (hs1 : i.size = 1) (hb1 : i.bytes = 1)
    (v : Value) (n : Nat) (xs : List Value) (hown : w.ownsRow 0 e i.size v n xs) (S : ByteArray) (m : Nat) (hm : m = S.size) (ys : List Value) (hys : ys = Lib.strCells S)
    (hm0 : 0 < m) (h63 : n + m ≤ maxLen) (hb : (n + m) * i.bytes ≤ 140737488355328) :
    ∃ g cap w' cur, (Builtin.append_ #[t, u] ty #[v, .string S]).run P w = .ok (.slice (some ⟨g, 0, none⟩) (n + m) cap) w' ∧ w'.heap[g]? = some (.cells cur e (0, 0)) ∧ n + m ≤ cap ∧ cap ≤ maxLen ∧ cur.size = cap * i.size ∧
      cur.toList.take ((n + m) * i.size) = xs ++ ys ∧ ((v.ownBlock = some g ∧ w.grownBy w' (some g)) ∨ (g = w.heap.size ∧ w.grownBy w' none)) := by
  have hl : ys.length = m * i.size := by rw [hys, Lib.strCells_length, hm, hs1]; simp
  have hbb : n + m ≤ 140737488355328 := by rw [hb1] at hb; omega
  have hzs : (Value.int .u8 0).cells.size = i.size := by rw [hs1]; rfl
  have hlen : (xs ++ ys).length = (n + m) * i.size := by rw [List.length_append, hown.1, hl, Nat.add_mul]
  have new : ∀ old, ∃ cap cur, cap = grownCap w (n + m) old e ∧ cur = xs.toArray ++ ys.toArray ++ Builtin.zeroCells (Value.int .u8 0).cells (cap - (n + m)) ∧ (w.drew.alloc (.cells cur e)).heap[w.heap.size]? = some (.cells cur e (0, 0)) ∧ n + m ≤ cap ∧ cap ≤ maxLen ∧ cur.size = cap * i.size ∧
      cur.toList.take ((n + m) * i.size) = xs ++ ys ∧ w.grownBy (w.drew.alloc (.cells cur e)) none := by
    intro old
    refine ⟨_, _, rfl, rfl, heap_alloc_new w.drew _, grownCap_ge w _ old e, grownCap_le_maxLen w _ old e h63, ?_, ?_, ⟨rfl, rfl, rfl, by simp, fun k hk _ => heap_alloc_old (w := w.drew) hk⟩⟩
    · have hge := grownCap_ge w (n + m) old e
      rw [Array.size_append, Array.size_append, size_zeroCells, hzs]
      simp only [List.size_toArray, hown.1, hl]
      rw [← Nat.add_mul, ← Nat.add_mul]
      congr 1; omega
    · rw [← hlen]
      simp only [Array.toList_append, List.append_assoc]
      rw [← List.append_assoc]
      exact List.take_left
  rcases hown.2 with ⟨rfl, rfl⟩ | ⟨g, cap, cur, rfl, _, hg, hnc, hcm, hcs, htake⟩
  · obtain rfl : xs = [] := List.eq_nil_of_length_eq_zero (by simpa using hown.1)
    obtain ⟨cap, cur, e1, e2, e3, e4, e5, e6, e7, e8⟩ := new 0
    have hr := run_append_nil_string (P := P) w t u ty e i (.int .u8 0) ht hu hi hz S (by omega) (by simp only [maxLen] at h63; omega) (by rw [hb1]; omega)
    refine ⟨w.heap.size, cap, _, cur, ?_, e3, e4, e5, e6, e7, .inr ⟨rfl, e8⟩⟩
    have e9 : (S.data.map fun b => Value.int .u8 b.toNat) = ys.toArray := by
      rw [hys]
      apply Array.ext'
      simp [Lib.strCells]
    rw [hr, e2, e1, e9, ← hm]
    simp
  · by_cases hroom : n + m ≤ cap
    · have hcs' : cur.size = cap := by rw [hcs, hs1, Nat.mul_one]
      have hr := Lib.run_append_room_string (P := P) w t u ty e i ht hu hi hs1 g n cap cur hg S (by omega) (by omega)
      have hn1 : n * i.size = n := by rw [hs1, Nat.mul_one]
      rw [hn1] at htake
      refine ⟨g, cap, _, _, by rw [hr, hm], setRow_heap w g cur _ e _ hg, hroom, hcm, ?_, ?_, .inl ⟨rfl, ⟨rfl, rfl, rfl, by simp [World.setRow], fun k _ hk => setRow_other w g k _ (fun e => hk (by rw [e]))⟩⟩⟩
      · simp only [List.size_toArray, List.length_append, List.length_take, List.length_drop, Array.length_toList, Lib.strCells_length]
        omega
      · rw [htake, ← hlen, ← hys]
        exact List.take_left
    · obtain ⟨cap', cur', e1, e2, e3, e4, e5, e6, e7, e8⟩ := new cap
      have holds : ∀ j u, xs[j]? = some u → w.cell? ((⟨g, 0, none⟩ : Addr).add j) = some u := hown.cells (g := g) rfl
      have hr := Lib.run_append_grow_string (P := P) w t u ty e i (.int .u8 0) ht hu hi hz ⟨g, 0, none⟩ n cap xs hown.1 holds S (by omega) (by simp only [maxLen] at h63; omega) (by rw [hb1]; exact growslice_fits (by omega) (by omega))
      refine ⟨w.heap.size, cap', _, cur', ?_, e3, e4, e5, e6, e7, .inr ⟨rfl, e8⟩⟩
      rw [hr, e2, e1, ← hm, hys]
section
variable {P : Program}
theorem grow_row_str {E : Env} {N : Nat → Option Ob} {w : World} (hi : Inv E N w) {id : Nat} {et : TypeId} {s : Nat} {xs : List (List D)} {S : ByteArray} (hN : N id = some (.row et s xs)) (hs1 : s = 1)
    {t tu ty : TypeId} {i : TypeInfo} (ht : P.underlying t = some (.slice et)) (htu : P.underlying tu = some .string) (hinf : P.info? et = some i) (hz : i.zero = some (.int .u8 0)) (hsz : i.size = s) {bytes : Nat} (hby : i.bytes = bytes) (hby1 : bytes = 1)
    {v : Value} (hv : E.hdr id xs.length = some v) {ys : List (List D)} (hys : ys = byD S.data.toList) (hne : ys ≠ []) (hb : (xs.length + ys.length) * bytes ≤ 140737488355328) (h63 : xs.length + ys.length ≤ maxLen) :
    ∃ v' w' E', (Builtin.append_ #[t, tu] ty #[v, .string S]).run P w = .ok v' w' ∧ Done E E' N [(id, .row et s (xs ++ ys))] w w' ∧
      E'.hdr id (xs.length + ys.length) = some v' ∧ v'.oneCell' = true := by
  have hs : 0 < s := by omega
  have ho := hi.ob id _ hN
  have hysl : ys.length = S.size := by rw [hys, byD_length]; simp
  obtain ⟨yvs, hyvs⟩ : ∃ yvs, yvs = Lib.strCells S := ⟨_, rfl⟩
  have y1 : rels ys.flatten E.pure yvs := by rw [hys, hyvs]; exact byD_rels _ _
  have y2 : yvs.length = ys.length * s := by rw [hyvs, Lib.strCells_length, hysl, hs1]; simp
  have y3 : ∀ r ∈ ys, r.length = s := by rw [hys, hs1]; exact byD_one _
  -- what is owned already
  obtain ⟨vals, hvals, hown, hvb⟩ : ∃ vals, rels xs.flatten E.pure vals ∧ w.ownsRow 0 et s v xs.length vals ∧ (v.ownBlock = none ∨ ∃ b c cap, v = .slice (some ⟨b, 0, none⟩) xs.length cap ∧ w.heap[b]? = some (.cells c et (0, 0)) ∧ (∀ o q, E.im b o = some q → o < xs.length * s) ∧ (∀ k, k < vals.length → E.im b k = vals[k]?) ∧ vals.length = xs.length * s) := by
    rcases ho.2 with ⟨h1, rfl⟩ | ⟨b, c, cap, h1, h2, h3, h4, hm, h5⟩
    · rw [hv] at h1
      injection h1 with h1
      subst h1
      exact ⟨[], rfl, World.ownsRow_nil _ _ _ _, .inl rfl⟩
    · rw [hv] at h1
      injection h1 with h1
      subst h1
      have hr := (ho.1 _ _ hv).2
      rw [List.take_length] at hr
      obtain ⟨a', cap', e1, _, e3⟩ := hr
      by_cases hx : xs = []
      · subst hx
        exact ⟨[], rfl, ⟨by simp, .inr ⟨b, cap, c, rfl, Nat.zero_le _, h2, h4, hm, h3, by simp⟩⟩, .inr ⟨b, c, cap, rfl, h2, h5, fun k hk => absurd hk (by simp), by simp⟩⟩
      · obtain ⟨b', o', e4, e5⟩ := e3 hx
        injection e1 with e1 _ _
        rw [e4] at e1
        injection e1 with e1
        injection e1 with e1 e1'
        subst e1; subst e1'
        obtain ⟨vs, f1, f2, f3, f4⟩ := relRow_flat e5
        simp only [Nat.zero_add] at f4
        refine ⟨vs, f1, ⟨f2, .inr ⟨b, cap, c, rfl, Nat.zero_le _, h2, h4, hm, h3, ?_⟩⟩, .inr ⟨b, c, cap, rfl, h2, h5, f4, f2⟩⟩
        apply List.ext_getElem?
        intro k
        by_cases hk : k < xs.length * s
        · rw [List.getElem?_take_of_lt hk]
          have g1 := f4 k (by omega)
          have hk' : k < vs.length := by omega
          have g2 : w.cell? ⟨b, k, none⟩ = some vs[k] := hi.im _ _ _ (by have := g1; simp only [Env.pure] at this; rw [this, List.getElem?_eq_getElem hk'])
          simp only [World.cell?, h2] at g2
          rw [List.getElem?_eq_getElem hk']
          simpa using g2
        · rw [List.getElem?_eq_none (by simp; omega), List.getElem?_eq_none (by omega)]
  subst hsz; subst hby
  have hylen : 0 < ys.length := by cases ys with | nil => exact absurd rfl hne | cons _ _ => simp
  obtain ⟨g, cap', w', cur, r1, g2, g3, g4, g5, g6, r5⟩ := append_two_str (P := P) w t tu ty et i ht htu hinf hz hs1 hby1 v xs.length vals hown S ys.length hysl yvs hyvs hylen h63 hb
  have hvl : vals.length = xs.length * i.size := hown.1
  have hcell : ∀ o, o < (xs.length + ys.length) * i.size → w'.cell? ⟨g, o, none⟩ = (vals ++ yvs)[o]? := by
    intro o ho'
    simp only [World.cell?, g2]
    rw [← g6, List.getElem?_take_of_lt ho']
    simp
  have r3 : w.grownBy w' v.ownBlock := by
    rcases r5 with ⟨e, h⟩ | ⟨_, h⟩
    · rw [e]; exact h
    · exact ⟨h.os, h.tape, h.output, h.size, fun k hk _ => h.block k hk (by simp)⟩
  -- where it lies: in its own block, or in a new one
  have hg : (∃ (c : Nat) (cap : Nat), v = .slice (some ⟨g, 0, none⟩) xs.length cap ∧ (∀ o q, E.im g o = some q → o < xs.length * i.size) ∧ (∀ k, k < vals.length → E.im g k = vals[k]?)) ∨ ((g = w.heap.size ∧ w.grownBy w' none) ∧ ∀ o, E.im g o = none) := by
    rcases r5 with ⟨r5, _⟩ | r5
    · rcases hvb with hvb | ⟨b, c, cap, rfl, q1, q2, q3, q4⟩
      · rw [hvb] at r5; cases r5
      · simp only [Value.ownBlock, Option.some.injEq] at r5
        subst r5
        exact .inl ⟨0, cap, rfl, q2, q3⟩
    · refine .inr ⟨r5, fun o => ?_⟩
      cases hq : E.im g o with
      | none => rfl
      | some q => have := cell_lt (hi.im _ _ _ hq); omega
  let E' := E.grow g id (xs.length + ys.length) ((xs.length + ys.length) * i.size) (.slice (some ⟨g, 0, none⟩) (xs.length + ys.length) cap') (vals ++ yvs)
  have hfresh : ∀ q, E.hdr id (xs.length + ys.length) ≠ some q := by
    intro q hq
    have := (ho.1 _ _ hq).1
    omega
  have him : ∀ b o q, E.im b o = some q → E'.im b o = some q := by
    intro b o q hq
    show (if b = g ∧ o < (xs.length + ys.length) * i.size then (vals ++ yvs)[o]? else E.im b o) = some q
    by_cases hc : b = g ∧ o < (xs.length + ys.length) * i.size
    · rw [if_pos hc]
      obtain ⟨rfl, hc⟩ := hc
      rcases hg with ⟨c, cap, _, k1, k2⟩ | ⟨⟨_, _⟩, k1⟩
      · have := k1 o q hq
        rw [List.getElem?_append_left (by omega), ← k2 o (by omega)]; exact hq
      · rw [k1] at hq; cases hq
    · rw [if_neg hc]; exact hq
  have hle : E.le E' := by
    refine ⟨him, fun _ _ h => h, fun j n q hq => ?_⟩
    show (if j = id ∧ n = xs.length + ys.length then _ else E.hdr j n) = some q
    rw [if_neg (by rintro ⟨rfl, rfl⟩; exact hfresh q hq)]; exact hq
  have hownb : ∀ b, v.ownBlock = some b → ownOf E N [(id, .row et i.size (xs ++ ys))] b := by
    intro b hb'
    refine ⟨(id, .row et i.size (xs ++ ys)), by simp, .row et i.size xs, hN, ?_⟩
    rcases hvb with hvb | ⟨b2, c, cap, rfl, _⟩
    · rw [hvb] at hb'; cases hb'
    · simp only [obBlk, hv, hdrBlk]
      exact hb'
  have st : Step E E' (ownOf E N [(id, .row et i.size (xs ++ ys))]) w w' := by
    refine ⟨hle, r3.size, fun b hb' hno => r3.block b hb' (fun e => hno (hownb b e.symm)), fun b o q hq => ?_, r3.os, r3.tape, r3.output⟩
    have hq' : (if b = g ∧ o < (xs.length + ys.length) * i.size then (vals ++ yvs)[o]? else E.im b o) = some q := hq
    split at hq'
    · rename_i hc
      obtain ⟨rfl, _⟩ := hc
      rcases hg with ⟨c, cap, rfl, _⟩ | ⟨⟨e, _⟩, _⟩
      · exact .inr (.inr (hownb _ rfl))
      · exact .inr (.inl (by omega))
    · exact .inl hq'
  have hrow' : relRow (xs ++ ys) E'.pure i.size g 0 := by
    refine relRow_of (fun r hr => ?_) (vs := vals ++ yvs) ?_ fun k hk => ?_
    · rcases List.mem_append.1 hr with hr | hr
      · rcases hvb with hvb | ⟨b, c, cap, rfl, q1, q2, q3, q4⟩
        · have : xs = [] := by
            rcases ho.2 with ⟨_, h⟩ | ⟨b, c, cap, h1, _⟩
            · exact h
            · rw [hv] at h1; injection h1 with h1; subst h1; simp [Value.ownBlock] at hvb
          subst this; cases hr
        · have hr0 := (ho.1 _ _ hv).2
          rw [List.take_length] at hr0
          obtain ⟨a', cap2, e1, _, e3⟩ := hr0
          obtain ⟨b', o', e4, e5⟩ := e3 (by intro h; subst h; cases hr)
          exact (relRow_flat e5).choose_spec.2.2.1 r hr
      · exact y3 r hr
    · simpa using rels_append (rels_mono _ hle.pure hvals) (rels_mono _ hle.pure y1)
    · show (if g = g ∧ 0 + k < (xs.length + ys.length) * i.size then (vals ++ yvs)[0 + k]? else E.im g (0 + k)) = (vals ++ yvs)[k]?
      rw [Nat.zero_add, if_pos ⟨rfl, by have h7 := hk; rw [List.length_append, hvl, y2, ← Nat.add_mul] at h7; exact h7⟩]
  have hhdr : E'.hdr id (xs.length + ys.length) = some (.slice (some ⟨g, 0, none⟩) (xs.length + ys.length) cap') := by
    show (if id = id ∧ xs.length + ys.length = xs.length + ys.length then _ else _) = _
    rw [if_pos ⟨rfl, rfl⟩]
  have hlist : rel (.list i.size (xs ++ ys)) E' (.slice (some ⟨g, 0, none⟩) (xs.length + ys.length) cap') :=
    ⟨_, cap', by rw [List.length_append], by rw [List.length_append]; exact g3, fun _ => ⟨g, 0, rfl, hrow'⟩⟩
  have hbd : ∀ b, obBlk E' id (.row et i.size (xs ++ ys)) = some b → (∃ x, N id = some x ∧ obBlk E id x = some b) ∨ w.heap.size ≤ b := by
    intro b hb'
    simp only [obBlk, List.length_append, hhdr, hdrBlk] at hb'
    injection hb' with hb'
    subst hb'
    rcases hg with ⟨c, cap, rfl, _⟩ | ⟨⟨e, _⟩, _⟩
    · exact .inl ⟨_, hN, by simp [obBlk, hv, hdrBlk]⟩
    · exact .inr (by show w.heap.size ≤ g; omega)
  refine ⟨_, w', E', r1, ⟨st, hi.step1 st (fun b o q hq => ?_) ?_ (fun j hj => ?_) hbd, fun j hj => ⟨rfl, ?_⟩, fun p hp b hb' => (by simp only [List.mem_singleton] at hp; subst hp; exact (hbd b hb').imp (fun ⟨x, h1, h2⟩ => ⟨_, List.mem_singleton_self _, x, h1, h2⟩) fun h => h)⟩, hhdr, rfl⟩
  · have hq' : (if b = g ∧ o < (xs.length + ys.length) * i.size then (vals ++ yvs)[o]? else E.im b o) = some q := hq
    split at hq'
    · rename_i hc
      obtain ⟨rfl, hc⟩ := hc
      rw [hcell o hc]; exact hq'
    · rename_i hc
      have hc0 := hi.im b o q hq'
      have hlt := cell_lt hc0
      by_cases hbv : some b = v.ownBlock
      · -- its own block, beyond the row: nothing is known there
        rcases hvb with hvb | ⟨b2, c, cap, rfl, q1, q2, q3, q4⟩
        · rw [hvb] at hbv; cases hbv
        · simp only [Value.ownBlock, Option.some.injEq] at hbv
          subst hbv
          have hob := q2 o q hq'
          rcases hg with ⟨c', cap', e, _, _⟩ | ⟨⟨_, e⟩, _⟩
          · injection e with e _ _; injection e with e; injection e with e
            subst e
            exfalso; apply hc; refine ⟨rfl, ?_⟩
            have h7 : xs.length * i.size ≤ (xs.length + ys.length) * i.size := Nat.mul_le_mul_right _ (by omega)
            exact Nat.lt_of_lt_of_le hob h7
          · -- it moved: the old block stays as it was
            rw [cell_same (e.block b hlt (by simp))]; exact hc0
      · rw [cell_same (r3.block b hlt hbv)]; exact hc0
  · refine ⟨fun n q hq => ?_, .inr ⟨g, cur, cap', by rw [List.length_append]; exact hhdr, g2, g5, by rw [List.length_append]; exact g3, g4, fun o q hq => ?_⟩⟩
    · have hq' : (if id = id ∧ n = xs.length + ys.length then some (Value.slice (some ⟨g, 0, none⟩) (xs.length + ys.length) cap') else E.hdr id n) = some q := hq
      split at hq'
      · rename_i hc
        obtain ⟨_, rfl⟩ := hc
        injection hq' with hq'
        subst hq'
        refine ⟨by simp, ?_⟩
        rw [List.take_of_length_le (by simp)]; exact hlist
      · obtain ⟨k1, k2⟩ := ho.1 n q hq'
        refine ⟨by simp; omega, ?_⟩
        rw [List.take_append_of_le_length k1]
        exact rel_mono _ hle k2
    · have hq' : (if g = g ∧ o < (xs.length + ys.length) * i.size then (vals ++ yvs)[o]? else E.im g o) = some q := hq
      rw [List.length_append]
      split at hq'
      · rename_i hc; exact hc.2
      · rcases hg with ⟨c, cap, _, k1, _⟩ | ⟨⟨_, _⟩, k1⟩
        · have := k1 o q hq'
          have : xs.length * i.size ≤ (xs.length + ys.length) * i.size := Nat.mul_le_mul_right _ (by omega)
          omega
        · rw [k1] at hq'; cases hq'
  · funext n
    show (if j = id ∧ n = xs.length + ys.length then _ else E.hdr j n) = _
    rw [if_neg (by rintro ⟨rfl, _⟩; exact hj rfl)]
  · funext n
    show (if j = id ∧ n = xs.length + ys.length then _ else E.hdr j n) = _
    rw [if_neg (by rintro ⟨rfl, _⟩; exact hj (by simp))]
end
theorem grow_new {E : Env} {N : Nat → Option Ob} {w : World} (hi : Inv E N w) {d : Nat} (n3 : ∀ n, E.hdr d n = none) {e s : Nat} {x0 x1 : Ob} (hx0 : x0 = .row e s [] ∨ x0 = .mrow e s 0 []) {R : Value → World → Prop} {m : Nat}
    (h : ∀ E1 : Env, E.le E1 → Inv E1 (upds N [(d, x0)]) w → E1.hdr d 0 = some (.slice none 0 0) → ∃ v' w' E', R v' w' ∧ Done E1 E' (upds N [(d, x0)]) [(d, x1)] w w' ∧ E'.hdr d m = some v' ∧ v'.oneCell' = true) :
    ∃ v' w' E', R v' w' ∧ Done E E' N [(d, x1)] w w' ∧ E'.hdr d m = some v' ∧ v'.oneCell' = true := by
  let E1 : Env := ⟨E.im, E.blk, fun j q => if j = d ∧ q = 0 then some (.slice none 0 0) else E.hdr j q⟩
  have le1 : E.le E1 := ⟨fun _ _ _ h => h, fun _ _ h => h, fun j q v h => by
    show (if j = d ∧ q = 0 then some (.slice none 0 0) else E.hdr j q) = some v
    rw [if_neg (by rintro ⟨rfl, rfl⟩; rw [n3] at h; cases h)]; exact h⟩
  have hd0 : E1.hdr d 0 = some (.slice none 0 0) := by show (if d = d ∧ 0 = 0 then _ else _) = _; rw [if_pos ⟨rfl, rfl⟩]
  have hb0 : ∀ b, obBlk E1 d x0 = some b → False := by
    intro b hb
    rcases hx0 with rfl | rfl <;> simp [obBlk, hd0, hdrBlk] at hb
  have st1 : Step E E1 (ownOf E N [(d, x0)]) w w := ⟨le1, Nat.le_refl _, fun _ _ _ => rfl, fun _ _ _ h => .inl h, rfl, rfl, rfl⟩
  have hq : ∀ n v, E1.hdr d n = some v → n = 0 ∧ v = .slice none 0 0 := by
    intro n v hv
    have hv' : (if d = d ∧ n = 0 then some (Value.slice none 0 0) else E.hdr d n) = some v := hv
    split at hv'
    · rename_i hc
      injection hv' with hv'
      exact ⟨hc.2, hv'.symm⟩
    · rw [n3] at hv'; cases hv'
  have ob0 : ObOK E1 d w x0 := by
    rcases hx0 with rfl | rfl
    · refine ⟨fun n v hv => ?_, .inl ⟨hd0, rfl⟩⟩
      obtain ⟨rfl, rfl⟩ := hq n v hv
      exact ⟨Nat.le_refl _, none, 0, rfl, Nat.le_refl _, fun h => absurd rfl h⟩
    · exact ⟨fun n v hv => by rw [(hq n v hv).1]; exact Nat.le_refl _, .inl ⟨hd0, rfl⟩⟩
  have i1 : Inv E1 (upds N [(d, x0)]) w := hi.step1 st1 (fun b o v h => hi.im b o v h) ob0
    (fun j hj => by
      funext n
      show (if j = d ∧ n = 0 then _ else E.hdr j n) = _
      rw [if_neg (by rintro ⟨rfl, _⟩; exact hj rfl)])
    (fun b hb => (hb0 b hb).elim)
  obtain ⟨v', w', E', r1, r2, r3, r4⟩ := h E1 le1 i1 hd0
  have hups : upds (upds N [(d, x0)]) [(d, x1)] = upds N [(d, x1)] := by
    funext j
    simp only [upds_cons, upds_nil]
    split <;> rfl
  have hno : ∀ b, ¬ ownOf E1 (upds N [(d, x0)]) [(d, x1)] b := by
    rintro b ⟨p, h3, y', h4, h5⟩
    simp only [List.mem_singleton] at h3
    subst h3
    rw [upds_cons, if_pos rfl] at h4
    injection h4 with h4; subst h4
    exact hb0 b h5
  refine ⟨v', w', E', r1, ⟨?_, by rw [← hups]; exact r2.inv, fun j hj => ?_, fun p hq b hb => ?_⟩, r3, r4⟩
  · refine ⟨le1.trans r2.st.le, r2.st.size, fun b hb _ => r2.st.frame b hb (hno b), fun b o v h => ?_, r2.st.os, r2.st.tape, r2.st.output⟩
    rcases r2.st.new b o v h with h | h | h
    · exact .inl h
    · exact .inr (.inl h)
    · exact (hno b h).elim
  · obtain ⟨k1, k2⟩ := r2.ids j hj
    refine ⟨k1, k2.trans ?_⟩
    funext n
    show (if j = d ∧ n = 0 then _ else E.hdr j n) = _
    rw [if_neg (by rintro ⟨rfl, _⟩; exact hj (by simp))]
  · rcases r2.bd p hq b hb with h | h
    · exact (hno b h).elim
    · exact .inr h
section
variable {P : Program} {L : List Ty} {fr : Fr} {M : Mem} {news : List Nat} {K : Kont} {dst : Option Tmp} {ty : TypeId} {pos : String} {after : Array Edge} {guard : Option (Nat × Bool)}
def wAppY (L : List Ty) (M : Mem) (fr : Fr) (news : List Nat) (dst : Option Tmp) (t : TypeId) (x y : Operand) (K : Kont) : Prop :=
  match dst with
  | some d => match memN news (d + 6000) with
    | true => match ev fr x with
      | .v (.slice none 0 0) => match nth L t with
        | some ⟨.slice e, _, _, _⟩ => match nth L e with
          | some ⟨_, s, by', _ :: _⟩ => match rowOf M s (ev fr y) with
            | some (ys, pre) => AppG (get pre d = none ∧ 0 < by' ∧ (∀ r ∈ ys, allOne r = true) ∧ ys.length * by' ≤ 140737488355328) ys (fun _ => False) fun n' xs' => n' = 1 ∧ xs' = ys ∧ K (.ret (.row d n') [(d, .mrow e s n' xs')]) pre
            | none => False
          | _ => False
        | _ => False
      | _ => wAppX L M fr news dst t x y K
    | false => wAppX L M fr news dst t x y K
  | none => wAppX L M fr news dst t x y K
theorem sound_appendY {t : TypeId} {x y : Operand} (hL : TyOK P L) (hZ : ZOK L) (h : wAppY L M fr news dst t x y K) : Sound P fr M news ⟨dst, .call ⟨.builtin .append, #[x, y], #[t, t]⟩, ty, pos, after, guard⟩ K := by
  unfold wAppY at h
  split at h
  case h_2 => exact sound_appendX hL hZ h
  rename_i d
  split at h
  case h_2 => exact sound_appendX hL hZ h
  split at h
  case h_2 => exact sound_appendX hL hZ h
  rename_i ex
  have hx : ∀ {E : Env} {a : Act}, RelO fr E a ⟨some d, .call ⟨.builtin .append, #[x, y], #[t, t]⟩, ty, pos, after, guard⟩ → rel (ev fr x) E (a.eval x) := fun hr => rel_ev hr (by simp [Op.operands, Call.operands])
  have hy : ∀ {E : Env} {a : Act}, RelO fr E a ⟨some d, .call ⟨.builtin .append, #[x, y], #[t, t]⟩, ty, pos, after, guard⟩ → rel (ev fr y) E (a.eval y) := fun hr => rel_ev hr (by simp [Op.operands, Call.operands])
  have hrun : ∀ (w : World) (a : Act) (v : Value) (w' : World), (Builtin.append_ #[t, t] ty #[a.eval x, a.eval y]).run P w = .ok v w' → (execOp a.eval ⟨some d, .call ⟨.builtin .append, #[x, y], #[t, t]⟩, ty, pos, after, guard⟩).run P w = .ok (.value v) w' := by
    intro w a v w' hv
    simp [execOp, resolve, invoke, builtin, hv]
  split at h
  · rename_i e _ _ _ ht
    split at h
    · rename_i kk s by' z zs he
      obtain ⟨de, ie, u1, u2, u3, u4, u5, u6⟩ := hL e _ he
      have u6' := u6 (by simp)
      have hzc : (if kk.agg then Value.agg (z :: zs).toArray else z).cells.size = ie.size := by
        have h1 := u6'.2
        simp only at h1 u4
        cases hk : kk.agg with
        | true => simp [Value.cells, u4, ← h1]
        | false =>
          have := hZ e _ he (by simp) hk
          simp only [List.headD_cons] at this
          simp [this, u4, ← h1]
      have hinf0 : ie.zero = some (if kk.agg then Value.agg (z :: zs).toArray else z) := u6'.1
      have hunder := under_slice hL ht rfl
      have hbyte : ie.bytes = by' := u5
      have hsize : ie.size = s := u4
      have hs0 : 0 < s := by have h1 := u6'.2; simp only at h1; simp at h1; omega
      split at h
      · rename_i ys pre hrow
        obtain ⟨hp, hrel⟩ := rowOf_rel hrow
        obtain ⟨⟨hgd, hb0, hone, hbound⟩, h⟩ := h
        rcases h with ⟨_, h⟩ | ⟨hne, n', xs', e1', e2', hK⟩
        · exact h.elim
        rw [e1', e2'] at hK
        refine ⟨.ret (.row d 1) [(d, .mrow e s 1 ys)], pre, fun E N w a Q hi hN hnew hr => ?_, hp, hK⟩
        obtain ⟨n1, n2, n3⟩ := hnew d ⟨hgd, by simp⟩
        have h1 := hx hr; rw [ex] at h1
        have h1' : a.eval x = .slice none 0 0 := h1
        have h2 := hrel E N w _ hi hN (hy hr)
        have hlen63 : ([] : List (List D)).length + ys.length ≤ maxLen := by
          have : ys.length ≤ ys.length * by' := Nat.le_mul_of_pos_right _ hb0
          simp only [maxLen, List.length_nil]; omega
        obtain ⟨v', w', E', r1, r2, r3, r4⟩ := grow_new (R := fun v' w' => (Builtin.append_ #[t, t] ty #[.slice none 0 0, a.eval y]).run P w = .ok v' w') (m := 1) (x1 := .mrow e s 1 ys) hi n3 (.inr rfl) fun E1 le1 i1 hd0 => by
          have := grow_mrow (P := P) i1 (id := d) (et := e) (s := s) (xs := []) (ver := 0) (by rw [upds_cons, if_pos rfl]) hs0 (ty := ty) hunder u2 hinf0 hsize hbyte (by rw [hzc, hsize]) hd0 (rel_mono _ le1 h2) hne hone (by simpa using hbound) hlen63
          simpa using this
        show Oper.wp P _ a w _ Q
        unfold Oper.wp
        rw [hrun w a _ _ (by rw [h1']; exact r1)]
        exact ⟨v', E', rfl, r2, r3, r4⟩
      · exact h.elim
    · exact h.elim
  · exact h.elim
def wAppS (L : List Ty) (M : Mem) (fr : Fr) (news : List Nat) (dst : Option Tmp) (t u : TypeId) (x y : Operand) (K : Kont) : Prop :=
  match nth L t, nth L u with
  | some ⟨.slice e, _, _, _⟩, some ⟨.str, _, _, _⟩ => match nth L e with
    | some ⟨.int .u8, 1, 1, [.int .u8 (.ofNat 0)]⟩ => match ev fr y with
      | .v (.string S) => match ev fr x with
        | .row id n => match get M id with
          | some (.row et s' xs) => AppG (et = e ∧ s' = 1 ∧ n = xs.length ∧ xs.length + (byD S.data.toList).length ≤ 140737488355328) (byD S.data.toList)
              (fun _ => False) fun n' xs' => n' = n + (byD S.data.toList).length ∧ xs' = xs ++ byD S.data.toList ∧ K (.ret (.row id n') [(id, .row et s' xs')]) [(id, .row et s' xs)]
          | _ => False
        | .v (.slice none 0 0) => match dst with
          | some d => match memN news d with
            | true => AppG ((byD S.data.toList).length ≤ 140737488355328) (byD S.data.toList) (fun _ => False) fun n' xs' => n' = (byD S.data.toList).length ∧ xs' = byD S.data.toList ∧ K (.ret (.row d n') [(d, .row e 1 xs')]) []
            | false => False
          | none => False
        | _ => False
      | _ => False
    | _ => False
  | _, _ => False
theorem sound_appendS {t u : TypeId} {x y : Operand} (hL : TyOK P L) (h : wAppS L M fr news dst t u x y K) : Sound P fr M news ⟨dst, .call ⟨.builtin .append, #[x, y], #[t, u]⟩, ty, pos, after, guard⟩ K := by
  have hx : ∀ {E : Env} {a : Act}, RelO fr E a ⟨dst, .call ⟨.builtin .append, #[x, y], #[t, u]⟩, ty, pos, after, guard⟩ → rel (ev fr x) E (a.eval x) := fun hr => rel_ev hr (by simp [Op.operands, Call.operands])
  have hy : ∀ {E : Env} {a : Act}, RelO fr E a ⟨dst, .call ⟨.builtin .append, #[x, y], #[t, u]⟩, ty, pos, after, guard⟩ → rel (ev fr y) E (a.eval y) := fun hr => rel_ev hr (by simp [Op.operands, Call.operands])
  have hrun : ∀ (w : World) (a : Act) (v : Value) (w' : World), (Builtin.append_ #[t, u] ty #[a.eval x, a.eval y]).run P w = .ok v w' → (execOp a.eval ⟨dst, .call ⟨.builtin .append, #[x, y], #[t, u]⟩, ty, pos, after, guard⟩).run P w = .ok (.value v) w' := by
    intro w a v w' hv
    simp [execOp, resolve, invoke, builtin, hv]
  unfold wAppS at h
  split at h
  · rename_i e _ _ _ _ _ _ ht hu
    split at h
    · rename_i he
      obtain ⟨de, ie, u1, u2, u3, u4, u5, u6⟩ := hL e _ he
      have u6' := u6 (by simp)
      have hinf0 : ie.zero = some (.int .u8 0) := u6'.1
      have hunder := under_slice hL ht rfl
      have hstr := under_str hL hu rfl
      have hbyte : ie.bytes = 1 := u5
      have hsize : ie.size = 1 := u4
      split at h
      · rename_i S ey
        split at h
        · rename_i id n ex
          split at h
          · rename_i et s' xs hg
            obtain ⟨⟨rfl, rfl, rfl, hbound⟩, h⟩ := h
            rcases h with ⟨_, h⟩ | ⟨hne, n', xs', e1', e2', hK⟩
            · exact h.elim
            rw [e1', e2'] at hK
            refine ⟨.ret (.row id (xs.length + (byD S.data.toList).length)) [(id, .row et 1 (xs ++ byD S.data.toList))], _, fun E N w a Q hi hN hnew hr => ?_, fun p hq => (by simp at hq; subst hq; exact hg), hK⟩
            have h1 := hx hr; rw [ex] at h1
            have h2 := hy hr; rw [ey] at h2
            have h2' : a.eval y = .string S := h2
            have hN' := hN (id, .row et 1 xs) (by simp)
            obtain ⟨v', w', E', r1, r2, r3, r4⟩ := grow_row_str (P := P) hi hN' rfl (ty := ty) hunder hstr u2 hinf0 hsize hbyte rfl h1.1 rfl hne (by simpa using hbound) (by simp only [maxLen]; omega)
            show Oper.wp P _ a w _ Q
            unfold Oper.wp
            rw [hrun w a _ _ (by rw [h2']; exact r1)]
            exact ⟨v', E', rfl, r2, r3, r4⟩
          · exact h.elim
        · rename_i ex
          split at h
          · rename_i d
            split at h
            · rename_i hm
              obtain ⟨hbound, h⟩ := h
              rcases h with ⟨_, h⟩ | ⟨hne, n', xs', e1', e2', hK⟩
              · exact h.elim
              rw [e1', e2'] at hK
              refine ⟨.ret (.row d (byD S.data.toList).length) [(d, .row e 1 (byD S.data.toList))], [], fun E N w a Q hi hN hnew hr => ?_, fun p hq => (by cases hq), hK⟩
              obtain ⟨n1, n2, n3⟩ := hnew d ⟨rfl, by simp⟩
              have h1 := hx hr; rw [ex] at h1
              have h1' : a.eval x = .slice none 0 0 := h1
              have h2 := hy hr; rw [ey] at h2
              have h2' : a.eval y = .string S := h2
              obtain ⟨v', w', E', r1, r2, r3, r4⟩ := grow_new (R := fun v' w' => (Builtin.append_ #[t, u] ty #[.slice none 0 0, .string S]).run P w = .ok v' w') (m := (byD S.data.toList).length) (x1 := .row e 1 (byD S.data.toList)) hi n3 (.inl rfl) fun E1 le1 i1 hd0 => by
                have := grow_row_str (P := P) i1 (id := d) (et := e) (xs := []) (S := S) (by rw [upds_cons, if_pos rfl]) rfl (ty := ty) hunder hstr u2 hinf0 hsize hbyte rfl hd0 rfl hne (by simpa using hbound) (by simp only [maxLen, List.length_nil]; omega)
                simpa using this
              show Oper.wp P _ a w _ Q
              unfold Oper.wp
              rw [hrun w a _ _ (by rw [h1', h2']; exact r1)]
              exact ⟨v', E', rfl, r2, r3, r4⟩
            · exact h.elim
          · exact h.elim
        · exact h.elim
      · exact h.elim
    · exact h.elim
  · exact h.elim
end
end Go.Dm
namespace Go.Dm
structure Ctx where
  P : Program
  L : List Ty
structure Ctx.OK (C : Ctx) : Prop where
  ty : TyOK C.P C.L
  z : ZOK C.L
  mixed : C.P.follows .mixedOrders = true
def callW (C : Ctx) (fr : Fr) (M : Mem) (news : List Nat) (dst : Option Tmp) (c : Call) (K : Kont) : Prop :=
  match c with
  | ⟨.value f, args, _⟩ => wCallVZ C.P M fr f args K
  | ⟨.builtin b, args, ats⟩ => match b, args.toList, ats.toList with
    | .len, [x], [t] => wLenX C.L M fr t x K
    | .max, [x, y], _ => wMax fr x y K
    | .real, [x], _ => wReal fr false x K
    | .imag, [x], _ => wReal fr true x K
    | .complex, [x, y], _ => wComplex fr x y K
    | .append, [x, y], [t, u] => match Nat.beq t u with
      | true => wAppY C.L M fr news dst t x y K
      | false => wAppS C.L M fr news dst t u x y K
    | _, _, _ => False
  | _ => False
def opW (C : Ctx) (fr : Fr) (M : Mem) (news : List Nat) (o : Oper) (K : Kont) : Prop :=
  match o with
  | ⟨dst, op, _, _, _, _⟩ => match op with
    | .move x => K (.ret (ev fr x) []) []
    | .assign x => K (.ret (ev fr x) []) []
    | .pick c a b => wPick fr c a b K
    | .alloc t => wAlloc C.L news dst t K
    | .box _ x => wBoxO M fr news dst x K
    | .build t ps => wBuild C.L fr t ps K
    | .buildSlice t n ps => wBuildSliceR C.L M fr news dst t n ps K
    | .load t a => wLoad C.L fr M t a K
    | .store t a x => wStore C.L M fr t a x K
    | .nilCheck x => wNil fr x K
    | .binOp op t x y _ => wBin C.P C.L fr op t x y K
    | .unOp op _ x => wUn fr op x K
    | .convert s d x => wConvertO C.P C.L fr M s d x K
    | .makeInterface t x => wMakeIface C.L fr t x K
    | .makeFunc f fs cs => wMakeFunc fr f fs cs K
    | .slice t x l h m => wSlice C.L fr M t x l h m K
    | .fieldAddr t x f => wFieldAddr C.L fr t x f K
    | .field t x f => wField C.L fr t x f K
    | .indexAddr t x i => wIndexAddr C.L fr M t x i K
    | .index t x i => wIndex C.L fr t x i K
    | .extract x i => wExtract fr x i K
    | .panic x => wPanic fr x K
    | .makeMap _ r => wMakeMap news dst r K
    | .lookup t x ix ok => wLookup C.L M fr t x ix ok K
    | .mapUpdate t x ix y => wMapUpdate C.L M fr t x ix y K
    | .typeAssert x xt t ok => wAssert C.L fr x xt t ok K
    | .call c => callW C fr M news dst c K
    | _ => False
theorem toArray_of {α : Type} {a : Array α} {l : List α} (h : a.toList = l) : a = l.toArray := by subst h; simp
theorem opW_sound {C : Ctx} (hC : C.OK) {fr : Fr} {M : Mem} {news : List Nat} {o : Oper} {K : Kont} (h : opW C fr M news o K) : Sound C.P fr M news o K := by
  obtain ⟨dst, op, ty, pos, after, guard⟩ := o
  cases op with
  | move x => exact sound_move h
  | assign x => exact sound_assign h
  | pick c a b => exact sound_pick h
  | alloc t => exact sound_alloc hC.ty hC.z h
  | box t x => exact sound_boxO h
  | build t ps => exact sound_build hC.ty h
  | buildSlice t n ps => exact sound_buildSliceR hC.ty h
  | load t a => exact sound_load hC.ty h
  | store t a x => exact sound_store hC.ty h
  | nilCheck x => exact sound_nil h
  | binOp op t x y yt => exact sound_bin hC.ty h
  | unOp op t x => exact sound_un h
  | convert s d x => exact sound_convertO hC.ty h
  | makeInterface t x => exact sound_makeIface hC.ty h
  | makeFunc f fs cs => exact sound_makeFunc h
  | slice t x l hi m => exact sound_slice hC.ty h
  | fieldAddr t x f => exact sound_fieldAddr hC.ty h
  | field t x f => exact sound_field hC.ty h
  | indexAddr t x i => exact sound_indexAddr hC.ty h
  | index t x i => exact sound_index hC.ty h
  | extract x i => exact sound_extract h
  | panic x => exact sound_panic h
  | makeMap t r => exact sound_makeMap h
  | lookup t x ix ok => exact sound_lookup hC.ty h
  | mapUpdate t x ix y => exact sound_mapUpdate hC.ty h
  | typeAssert x xt t ok => exact sound_assert hC.ty h
  | call c =>
    obtain ⟨cal, args, ats⟩ := c
    cases cal with
    | value f => exact sound_callVZ h
    | invoke r m => exact h.elim
    | builtin b =>
      simp only [opW, callW] at h
      split at h
      · rename_i x t h1 h2
        obtain rfl := toArray_of h1
        obtain rfl := toArray_of h2
        exact sound_lenX hC.ty h
      · rename_i x y h1
        obtain rfl := toArray_of h1
        exact sound_max h
      · rename_i x h1
        obtain rfl := toArray_of h1
        exact sound_real h
      · rename_i x h1
        obtain rfl := toArray_of h1
        exact sound_imag h
      · rename_i x y h1
        obtain rfl := toArray_of h1
        exact sound_complex h
      · rename_i x y t u h1 h2
        obtain rfl := toArray_of h1
        obtain rfl := toArray_of h2
        split at h
        · rename_i e
          have := beq_eq e
          subst this
          exact sound_appendY hC.ty hC.z h
        · exact sound_appendS hC.ty h
      · exact h.elim
  | _ => exact h.elim
mutual
def occ (k : Nat) : D → Bool
  | .ref i _ => Nat.beq k i
  | .sl i _ _ => Nat.beq k i
  | .row i _ => Nat.beq k i
  | .agg cs => occs k cs
  | .tup cs => occs k cs
  | .fn _ cs => occs k cs
  | .iface _ d => occ k d
  | .bot => false
  | .v _ => false
  | .list _ _ => false
  | .ptr _ => false
  | .rp i _ _ _ _ => Nat.beq k i
  | .mp i => Nat.beq k i
def occs (k : Nat) : List D → Bool
  | [] => false
  | d :: ds => match occ k d with
    | true => true
    | false => occs k ds
end
def occF (k : Nat) : Fr → Bool
  | [] => false
  | (_, d) :: r => match occ k d with
    | true => true
    | false => occF k r
def occM (k : Nat) : Mem → Bool
  | [] => false
  | (j, .cells ds) :: r => match Nat.beq k j with
    | true => true
    | false => match occs k ds with
      | true => true
      | false => occM k r
  | (j, .row _ _ _) :: r => match Nat.beq k j with
    | true => true
    | false => occM k r
  | (j, .dead) :: r => match Nat.beq k j with
    | true => true
    | false => occM k r
  | (j, .mrow _ _ _ _) :: r => match Nat.beq k j with
    | true => true
    | false => occM k r
  | (j, .mp _) :: r => match Nat.beq k j with
    | true => true
    | false => occM k r
  | (j, .tc _ ds) :: r => match Nat.beq k j with
    | true => true
    | false => match occs k ds with
      | true => true
      | false => occM k r
def Env.forget (E : Env) (k : Nat) : Env := ⟨E.im, fun j => if j = k then none else E.blk j, fun j n => if j = k then none else E.hdr j n⟩
mutual
theorem rel_forget {k : Nat} : ∀ (d : D) {E : Env} {y : Value}, occ k d = false → rel d E y → rel d (E.forget k) y
  | .bot, _, _, _, _ => trivial
  | .v _, _, _, _, h => h
  | .list _ _, _, _, _, h => h
  | .ptr _, _, _, _, h => h
  | .ref i o, E, y, ho, ⟨b, h1, h2⟩ => ⟨b, by
    have := beq_ne (by simpa [occ] using ho)
    simp only [Env.forget]; rw [if_neg (Ne.symm this)]; exact h1, h2⟩
  | .sl i s n, E, y, ho, ⟨b, h1, h2⟩ => ⟨b, by
    have := beq_ne (by simpa [occ] using ho)
    simp only [Env.forget]; rw [if_neg (Ne.symm this)]; exact h1, h2⟩
  | .row i n, E, y, ho, ⟨h1, h2⟩ => ⟨by
    have := beq_ne (by simpa [occ] using ho)
    simp only [Env.forget]; rw [if_neg (Ne.symm this)]; exact h1, h2⟩
  | .rp i n s j o, E, y, ho, ⟨b, h1, h2⟩ => ⟨b, by
    have := beq_ne (by simpa [occ] using ho)
    simp only [Env.forget]; rw [if_neg (Ne.symm this)]; exact h1, h2⟩
  | .mp i, E, y, ho, ⟨b, h1, h2⟩ => ⟨b, by
    have := beq_ne (by simpa [occ] using ho)
    simp only [Env.forget]; rw [if_neg (Ne.symm this)]; exact h1, h2⟩
  | .agg cs, _, _, ho, ⟨vs, h1, h2⟩ => ⟨vs, h1, rels_forget cs (by simpa [occ] using ho) h2⟩
  | .tup cs, _, _, ho, ⟨vs, h1, h2⟩ => ⟨vs, h1, rels_forget cs (by simpa [occ] using ho) h2⟩
  | .fn _ cs, _, _, ho, ⟨vs, h1, h2⟩ => ⟨vs, h1, rels_forget cs (by simpa [occ] using ho) h2⟩
  | .iface _ d, _, _, ho, ⟨x, h1, h2⟩ => ⟨x, h1, rel_forget d (by simpa [occ] using ho) h2⟩
theorem rels_forget {k : Nat} : ∀ (ds : List D) {E : Env} {vs : List Value}, occs k ds = false → rels ds E vs → rels ds (E.forget k) vs
  | [], _, _, _, h => h
  | d :: ds, _, _, ho, ⟨v, ws, h1, h2, h3⟩ => by
    simp only [occs] at ho
    split at ho
    · cases ho
    · rename_i h4
      exact ⟨v, ws, h1, rel_forget d h4 h2, rels_forget ds ho h3⟩
end
theorem occM_get {k : Nat} : ∀ {M : Mem}, occM k M = false → get M k = none ∧ ∀ id x, get M id = some x → id ≠ k ∧ (∀ ds, (x = .cells ds ∨ ∃ T, x = .tc T ds) → occs k ds = false)
  | [], _ => ⟨rfl, fun _ _ h => (by cases h)⟩
  | (j, .cells ds) :: r, h => by
    simp only [occM] at h
    split at h
    · cases h
    · rename_i h1
      split at h
      · cases h
      · rename_i h2
        obtain ⟨h3, h4⟩ := occM_get h
        refine ⟨by rw [get_cons, if_neg (Ne.symm (beq_ne h1))]; exact h3, fun id x hx => ?_⟩
        rw [get_cons] at hx
        split at hx
        · rename_i e
          subst e
          injection hx with hx
          subst hx
          exact ⟨Ne.symm (beq_ne h1), fun ds' e => by rcases e with e | ⟨_, e⟩ <;> cases e <;> exact h2⟩
        · exact h4 id x hx
  | (j, .row e s xs) :: r, h => by
    simp only [occM] at h
    split at h
    · cases h
    · rename_i h1
      obtain ⟨h3, h4⟩ := occM_get h
      refine ⟨by rw [get_cons, if_neg (Ne.symm (beq_ne h1))]; exact h3, fun id x hx => ?_⟩
      rw [get_cons] at hx
      split at hx
      · rename_i e'
        subst e'
        injection hx with hx
        subst hx
        exact ⟨Ne.symm (beq_ne h1), fun ds' e => by rcases e with e | ⟨_, e⟩ <;> cases e⟩
      · exact h4 id x hx
  | (j, .dead) :: r, h => by
    simp only [occM] at h
    split at h
    · cases h
    · rename_i h1
      obtain ⟨h3, h4⟩ := occM_get h
      refine ⟨by rw [get_cons, if_neg (Ne.symm (beq_ne h1))]; exact h3, fun id x hx => ?_⟩
      rw [get_cons] at hx
      split at hx
      · rename_i e'
        subst e'
        injection hx with hx
        subst hx
        exact ⟨Ne.symm (beq_ne h1), fun ds' e => by rcases e with e | ⟨_, e⟩ <;> cases e⟩
      · exact h4 id x hx
  | (j, .mrow _ _ _ _) :: r, h => by
    simp only [occM] at h
    split at h
    · cases h
    · rename_i h1
      obtain ⟨h3, h4⟩ := occM_get h
      refine ⟨by rw [get_cons, if_neg (Ne.symm (beq_ne h1))]; exact h3, fun id x hx => ?_⟩
      rw [get_cons] at hx
      split at hx
      · rename_i e'
        subst e'
        injection hx with hx
        subst hx
        exact ⟨Ne.symm (beq_ne h1), fun ds' e => by rcases e with e | ⟨_, e⟩ <;> cases e⟩
      · exact h4 id x hx
  | (j, .mp _) :: r, h => by
    simp only [occM] at h
    split at h
    · cases h
    · rename_i h1
      obtain ⟨h3, h4⟩ := occM_get h
      refine ⟨by rw [get_cons, if_neg (Ne.symm (beq_ne h1))]; exact h3, fun id x hx => ?_⟩
      rw [get_cons] at hx
      split at hx
      · rename_i e'
        subst e'
        injection hx with hx
        subst hx
        exact ⟨Ne.symm (beq_ne h1), fun ds' e => by rcases e with e | ⟨_, e⟩ <;> cases e⟩
      · exact h4 id x hx
  | (j, .tc T ds) :: r, h => by
    simp only [occM] at h
    split at h
    · cases h
    · rename_i h1
      split at h
      · cases h
      · rename_i h2
        obtain ⟨h3, h4⟩ := occM_get h
        refine ⟨by rw [get_cons, if_neg (Ne.symm (beq_ne h1))]; exact h3, fun id x hx => ?_⟩
        rw [get_cons] at hx
        split at hx
        · rename_i e
          subst e
          injection hx with hx
          subst hx
          exact ⟨Ne.symm (beq_ne h1), fun ds' e => by rcases e with e | ⟨_, e⟩ <;> cases e <;> exact h2⟩
        · exact h4 id x hx
theorem Inv.forget {E : Env} {M : Mem} {w : World} {k : Nat} (h : Inv E (get M) w) (ho : occM k M = false) : Inv (E.forget k) (get M) w := by
  obtain ⟨h1, h2⟩ := occM_get ho
  have hdr : ∀ id x, get M id = some x → (E.forget k).hdr id = E.hdr id ∧ (E.forget k).blk id = E.blk id := by
    intro id x hx
    have := (h2 id x hx).1
    exact ⟨by funext n; simp [Env.forget, this], by simp [Env.forget, this]⟩
  have hob : ∀ id x, get M id = some x → obBlk (E.forget k) id x = obBlk E id x := by
    intro id x hx
    obtain ⟨e1, e2⟩ := hdr id x hx
    cases x <;> simp [obBlk, e1, e2]
  refine ⟨h.im, fun id x hx => ?_, fun i j x y b hx hy hxb hyb => ?_, h.gl⟩
  · have := h.ob id x hx
    obtain ⟨e1, e2⟩ := hdr id x hx
    cases x with
    | cells ds =>
      obtain ⟨b, c, T, g1, g2, g3, g4⟩ := this
      exact ⟨b, c, T, by rw [e2]; exact g1, g2, rels_forget ds ((h2 id _ hx).2 ds (.inl rfl)) g3, g4⟩
    | row e s xs =>
      obtain ⟨g1, g2⟩ := this
      refine ⟨fun n v hv => ?_, ?_⟩
      · rw [e1] at hv
        exact ⟨(g1 n v hv).1, rel_forget _ rfl (g1 n v hv).2⟩
      · rw [e1]; exact g2
    | dead => trivial
    | mrow e s v xs =>
      obtain ⟨g1, g2⟩ := this
      refine ⟨fun n u hv => ?_, ?_⟩
      · rw [e1] at hv
        exact g1 n u hv
      · rw [e1]; exact g2
    | mp l =>
      obtain ⟨b, es, ck, g1, g2, g3, g4⟩ := this
      exact ⟨b, es, ck, by rw [e2]; exact g1, g2, g3, g4⟩
    | tc T ds =>
      obtain ⟨b, c, g1, g2, g3, g4⟩ := this
      exact ⟨b, c, by rw [e2]; exact g1, g2, rels_forget ds ((h2 id _ hx).2 ds (.inr ⟨T, rfl⟩)) g3, g4⟩
  · rw [hob i x hx] at hxb
    rw [hob j y hy] at hyb
    exact h.sep i j x y b hx hy hxb hyb
end Go.Dm
namespace Go.Dm
structure StepOn (S : Nat → Prop) (E E' : Env) (own : Nat → Prop) (w w' : World) : Prop where
  im : ∀ b o v, E.im b o = some v → E'.im b o = some v
  blk : ∀ j, S j → ∀ b, E.blk j = some b → E'.blk j = some b
  hdr : ∀ j, S j → ∀ n v, E.hdr j n = some v → E'.hdr j n = some v
  size : w.heap.size ≤ w'.heap.size
  frame : ∀ b, b < w.heap.size → ¬ own b → w'.heap[b]? = w.heap[b]?
  new : ∀ b o v, E'.im b o = some v → E.im b o = some v ∨ w.heap.size ≤ b ∨ own b
  os : w'.os = w.os
  tape : w'.tape = w.tape
  output : w'.output = w.output
theorem StepOn.refl (S : Nat → Prop) (E : Env) (own : Nat → Prop) (w : World) : StepOn S E E own w w :=
  ⟨fun _ _ _ h => h, fun _ _ _ h => h, fun _ _ _ _ h => h, Nat.le_refl _, fun _ _ _ => rfl, fun _ _ _ h => .inl h, rfl, rfl, rfl⟩
theorem StepOn.step {S : Nat → Prop} {A B C : Env} {own own' : Nat → Prop} {u v w : World} (h : StepOn S A B own u v) (k : Step B C own' v w) (ho : ∀ b, own' b → own b ∨ u.heap.size ≤ b) : StepOn S A C own u w where
  im b o x hx := k.le.im _ _ _ (h.im _ _ _ hx)
  blk j hj b hb := k.le.blk _ _ (h.blk j hj b hb)
  hdr j hj n x hx := k.le.hdr _ _ _ (h.hdr j hj n x hx)
  size := Nat.le_trans h.size k.size
  frame b hb hn := (k.frame b (Nat.lt_of_lt_of_le hb h.size) fun x => (ho b x).elim hn fun y => by omega).trans (h.frame b hb hn)
  new b o x hx := by
    rcases k.new b o x hx with h1 | h1 | h1
    · exact h.new b o x h1
    · exact .inr (.inl (Nat.le_trans h.size h1))
    · rcases ho b h1 with h2 | h2
      · exact .inr (.inr h2)
      · exact .inr (.inl h2)
  os := k.os.trans h.os
  tape := k.tape.trans h.tape
  output := k.output.trans h.output
theorem StepOn.heap {S : Nat → Prop} {A B : Env} {own : Nat → Prop} {u v w : World} (h : StepOn S A B own u v) (e : w.heap = v.heap) (h1 : w.os = v.os) (h2 : w.tape = v.tape) (h3 : w.output = v.output) : StepOn S A B own u w :=
  h.step (own' := fun _ => False) (Step.heap e h1 h2 h3) (fun _ h => h.elim)
structure Base where
  E : Env
  w : World
  own : Nat → Prop
  ids : Nat → Prop
  n : Nat
  ds : List Deferred
structure StE (B : Base) (sl : Nat → D) (N : Nat → Option Ob) (E : Env) (a : Act) (w : World) : Prop where
  inv : Inv E N w
  frm : ∀ t, rel (sl t) E (tv a t)
  size : a.tmps.size = B.n
  small : B.n ≤ 99999
  defers : a.defers = B.ds
  step : StepOn B.ids B.E E B.own B.w w
  bd : ∀ id x b, N id = some x → obBlk E id x = some b → B.own b ∨ B.w.heap.size ≤ b
def St (B : Base) (fr : Fr) (M : Mem) (a : Act) (w : World) : Prop := ∃ E, StE B (gd fr) (get M) E a w
def putS (sl : Nat → D) (dst : Option Tmp) (d : D) (t : Nat) : D := if dst = some t then d else sl t
theorem getD_put {a : Act} {dst : Option Tmp} {v : Value} {n t : Nat} (hn : a.tmps.size = n) (hs : n ≤ 99999) (hd : ∀ k, dst = some k → k < n) : tv (a.put dst v) t = if dst = some t then v else tv a t := by
  cases dst with
  | none => simp [Act.put]
  | some k =>
    have hk := hd k rfl
    simp only [Act.put, tv, Array.getD_eq_getD_getElem?, Array.getElem?_setIfInBounds, Option.some.injEq]
    by_cases h : k = t
    · subst h
      have hk0 := Nat.lt_of_lt_of_le hk hs
      have hk1 : ¬ k = 99999 := Nat.ne_of_lt hk0
      have hk2 : ¬ 100000 ≤ k := Nat.not_le.2 (Nat.lt_trans hk0 (by decide))
      rw [if_neg hk1, if_neg hk2]; simp [hn, hk]
    · simp [h]
theorem StE.done {B : Base} {sl : Nat → D} {N : Nat → Option Ob} {E E' : Env} {a : Act} {w w' : World} {post : Mem} {dst : Option Tmp} {d : D} {v : Value} (h : StE B sl N E a w) (hd : ∀ k, dst = some k → k < B.n) (k : Done E E' N post w w') (hv : rel d E' v) :
    StE B (putS sl dst d) (upds N post) E' (a.put dst v) w' := by
  have hown : ∀ b, ownOf E N post b → B.own b ∨ B.w.heap.size ≤ b := fun b ⟨p, h1, x, h2, h3⟩ => h.bd _ x b h2 h3
  refine ⟨k.inv, fun t => ?_, by cases dst <;> simp [Act.put, h.size], h.small, by cases dst <;> exact h.defers, h.step.step k.st hown, fun id x b hx hb => ?_⟩
  · rw [getD_put h.size h.small hd]
    unfold putS
    split
    · exact hv
    · exact rel_mono _ k.st.le (h.frm t)
  · rw [upds_eq] at hx
    cases hg : get post id with
    | some y =>
      rw [hg] at hx
      simp only [Option.some.injEq] at hx
      subst hx
      rcases k.bd (id, y) (get_mem hg) b hb with ⟨q, h0, z, h1, h2⟩ | hge
      · exact h.bd _ z b h1 h2
      · exact .inr (Nat.le_trans h.step.size hge)
    | none =>
      rw [hg] at hx
      simp only at hx
      rw [obBlk_le k.st.le (h.inv.ob id x hx)] at hb
      exact h.bd id x b hx hb
theorem StE.forget {B : Base} {sl : Nat → D} {M : Mem} {E : Env} {a : Act} {w : World} {k : Nat} (h : StE B sl (get M) E a w) (h1 : ∀ t, occ k (sl t) = false) (h2 : occM k M = false) (h3 : ¬ B.ids k) : StE B sl (get M) (E.forget k) a w := by
  obtain ⟨g1, g2⟩ := occM_get h2
  refine ⟨h.inv.forget h2, fun t => rel_forget _ (h1 t) (h.frm t), h.size, h.small, h.defers, ⟨h.step.im, fun j hj b hb => ?_, fun j hj n v hv => ?_, h.step.size, h.step.frame, h.step.new, h.step.os, h.step.tape, h.step.output⟩, fun id x b hx hb => ?_⟩
  · have : j ≠ k := fun e => h3 (e ▸ hj)
    simp only [Env.forget, if_neg this]; exact h.step.blk j hj b hb
  · have : j ≠ k := fun e => h3 (e ▸ hj)
    simp only [Env.forget, if_neg this]; exact h.step.hdr j hj n v hv
  · have hne := (g2 id x hx).1
    refine h.bd id x b hx ?_
    cases x <;> simpa [obBlk, Env.forget, hne] using hb
theorem occF_gd {k : Nat} : ∀ {fr : Fr}, occF k fr = false → ∀ t, occ k (gd fr t) = false
  | [], _, t => rfl
  | (j, d) :: r, h, t => by
    simp only [occF] at h
    split at h
    · cases h
    · rename_i h1
      have h2 := occF_gd h t
      unfold gd at h2 ⊢
      rw [get_cons]
      split
      · rename_i e
        split at e
        · rename_i e'; injection e with e; subst e; exact h1
        · rename_i e'
          rw [e] at h2; exact h2
      · rfl
def putD (dst : Option Tmp) (d : D) (fr : Fr) : Fr := match dst with | some t => (t, d) :: fr | none => fr
theorem gd_putD (dst : Option Tmp) (d : D) (fr : Fr) : gd (putD dst d fr) = putS (gd fr) dst d := by
  funext t
  cases dst with
  | none => simp [putD, putS]
  | some k =>
    simp only [putD, putS, gd, get_cons, Option.some.injEq]
    split <;> split <;> simp_all
theorem get_append (post M : Mem) : get (post ++ M) = upds (get M) post := by
  induction post with
  | nil => rfl
  | cons p r ih =>
    obtain ⟨k, x⟩ := p
    funext t
    rw [List.cons_append, get_cons, upds_cons, ih]
abbrev Foot := List Nat × List Nat
def foot (pre post : Mem) : Foot := (pre.map (·.1), post.map (·.1))
def newIds (pre : Mem) : Mem → List Nat
  | [] => []
  | (k, _) :: r => match get pre k with
    | some _ => newIds pre r
    | none => k :: newIds pre r
theorem newIds_mem {pre post : Mem} {j : Nat} (h1 : get pre j = none) (h2 : j ∈ post.map (·.1)) : j ∈ newIds pre post := by
  induction post with
  | nil => cases h2
  | cons p r ih =>
    obtain ⟨k, x⟩ := p
    simp only [List.map_cons, List.mem_cons] at h2
    simp only [newIds]
    rcases h2 with rfl | h2
    · rw [h1]; simp
    · split
      · exact ih h2
      · exact List.mem_cons_of_mem _ (ih h2)
def freshB (fr : Fr) (M : Mem) : List Nat → Bool
  | [] => true
  | k :: r => match Nat.blt k 1000 with
    | true => match occF k fr with
      | true => false
      | false => match occM k M with
        | true => false
        | false => freshB fr M r
    | false => false
def dstOK (n : Nat) : List Oper → Bool
  | [] => true
  | o :: r => match o.dst with
    | some t => match Nat.blt t n with
      | true => dstOK n r
      | false => false
    | none => dstOK n r
def delO (dst : Option Tmp) : List (Nat × Bool) → List (Nat × Bool)
  | [] => []
  | (k, b) :: r => match dst with
    | none => (k, b) :: r
    | some t => match Nat.beq k t with
      | true => delO dst r
      | false => (k, b) :: delO dst r
structure Split (b : Bool) (X Y : Prop) : Prop where
  t : b = true → X
  f : b = false → Y
theorem Split.yes {b : Bool} {X Y : Prop} (h : b = true) (x : X) : Split b X Y := ⟨fun _ => x, fun e => (by rw [h] at e; cases e)⟩
theorem Split.no {b : Bool} {X Y : Prop} (h : b = false) (y : Y) : Split b X Y := ⟨fun e => (by rw [h] at e; cases e), fun _ => y⟩
def delM (pre : Mem) : Mem → Mem
  | [] => []
  | (k, x) :: r => match get pre k with
    | some _ => delM pre r
    | none => (k, x) :: delM pre r
theorem delM_get {pre : Mem} : ∀ {M : Mem} {id : Nat} {x : Ob}, get (delM pre M) id = some x → get pre id = none ∧ get M id = some x
  | [], _, _, h => by cases h
  | (k, y) :: r, id, x, h => by
    simp only [delM] at h
    split at h
    · rename_i z hz
      obtain ⟨h1, h2⟩ := delM_get h
      exact ⟨h1, by rw [get_cons, if_neg (by intro e; subst e; rw [hz] at h1; cases h1)]; exact h2⟩
    · rename_i hz
      rw [get_cons] at h ⊢
      by_cases e : k = id
      · subst e; rw [if_pos rfl] at h ⊢; exact ⟨hz, h⟩
      · rw [if_neg e] at h ⊢; exact delM_get h
def seqW (C : Ctx) (news : List Nat) (ops : List Oper) (Qp : D → Fr → Mem → Prop) : List Oper → Fr → Mem → List (Nat × Bool) → (Fr → Mem → Prop) → Prop
  | [], fr, M, _, K => K fr M
  | o :: os, fr, M, dec, K =>
    let run := fun (fr : Fr) (dec : List (Nat × Bool)) => opW C fr M news o fun out pre => match out with
      | .ret d post => match freshB fr M (newIds pre post) with
        | true => seqW C news ops Qp os (putD o.dst d fr) (post ++ M) (delO o.dst dec) K
        | false => False
      | .pan d => Qp d fr (delM pre M)
    let skip := fun (fr : Fr) (dec : List (Nat × Bool)) => seqW C news ops Qp os (putD o.dst (.v undef) fr) M (delO o.dst dec) K
    match o.guard with
    | none => run fr dec
    | some (g, want) => match nth ops g with
      | some og => match og.dst with
        | some t => match get dec t with
          | some b => match b == want with
            | true => run fr dec
            | false => skip fr dec
          | none => match gd fr t with
            | .v (.bool b) => Split b (match want with | true => run ((t, .v (.bool true)) :: fr) ((t, true) :: dec) | false => skip ((t, .v (.bool true)) :: fr) ((t, true) :: dec))
              (match want with | true => skip ((t, .v (.bool false)) :: fr) ((t, false) :: dec) | false => run ((t, .v (.bool false)) :: fr) ((t, false) :: dec))
            | .v (.tuple _) => skip fr dec
            | _ => False
        | none => False
      | none => False
def DecOK (fr : Fr) (dec : List (Nat × Bool)) : Prop := ∀ t b, get dec t = some b → gd fr t = .v (.bool b)
theorem get_delO {dst : Option Tmp} : ∀ {dec : List (Nat × Bool)} {t : Nat} {b : Bool}, get (delO dst dec) t = some b → get dec t = some b ∧ (dst ≠ some t)
  | [], t, b, h => by simp [delO, get] at h
  | (k, c) :: r, t, b, h => by
    cases dst with
    | none => exact ⟨by simpa [delO] using h, by simp⟩
    | some u =>
      simp only [delO] at h
      split at h
      · rename_i e
        have := beq_eq e; subst this
        obtain ⟨h1, h2⟩ := get_delO h
        refine ⟨?_, h2⟩
        rw [get_cons, if_neg (by intro e; subst e; exact h2 rfl)]; exact h1
      · rename_i e
        have hne := beq_ne e
        rw [get_cons] at h
        split at h
        · rename_i e'
          subst e'
          injection h with h; subst h
          exact ⟨by rw [get_cons, if_pos rfl], by intro e; injection e with e; exact hne e.symm⟩
        · rename_i e'
          obtain ⟨h1, h2⟩ := get_delO h
          exact ⟨by rw [get_cons, if_neg e']; exact h1, h2⟩
theorem DecOK.put {fr : Fr} {dec : List (Nat × Bool)} (h : DecOK fr dec) (dst : Option Tmp) (d : D) : DecOK (putD dst d fr) (delO dst dec) := by
  intro t b hb
  obtain ⟨h1, h2⟩ := get_delO hb
  rw [gd_putD]
  unfold putS
  rw [if_neg h2]; exact h t b h1
theorem freshB_mem {fr : Fr} {M : Mem} : ∀ {l : List Nat}, freshB fr M l = true → ∀ k ∈ l, k < 1000 ∧ occF k fr = false ∧ occM k M = false
  | [], _, k, h => by cases h
  | j :: r, h, k, hk => by
    simp only [freshB] at h
    split at h
    · rename_i h1
      split at h
      · cases h
      · rename_i h2
        split at h
        · cases h
        · rename_i h3
          simp only [List.mem_cons] at hk
          rcases hk with rfl | hk
          · exact ⟨by simpa using h1, h2, h3⟩
          · exact freshB_mem h k hk
    · cases h
theorem tv_tmps {a : Act} {t : Nat} {v : Value} (h : tv a t = v) (hv : ∀ x, v ≠ .pointer x) (hf : ∀ f b c, v ≠ .func f b c) : a.tmps.getD t undef = v := by
  unfold tv at h
  split at h
  · unfold dv at h
    split at h
    · exact absurd h.symm (hf _ _ _)
    · exact absurd h.symm (hv _)
  split at h
  · exact absurd h.symm (hv _)
  · exact h
theorem yielded_of {ops : Array Oper} {og : Oper} {g t : Nat} {b : Bool} {a : Act} (hg : nth ops.toList g = some og) (hd : og.dst = some t) (h : tv a t = .bool b) : yielded ops a.tmps g = some b := by
  have h := tv_tmps h (by simp) (by simp)
  rw [nth_get, Array.getElem?_toList] at hg
  unfold yielded
  simp only [hg, Option.bind_some, hd]
  cases ht : a.tmps[t]? with
  | none => simp [Array.getD_eq_getD_getElem?, ht, undef] at h
  | some v => simp [Array.getD_eq_getD_getElem?, ht] at h; subst h; rfl
theorem yielded_no {ops : Array Oper} {og : Oper} {g t : Nat} {u : Array Value} {a : Act} (hg : nth ops.toList g = some og) (hd : og.dst = some t) (h : tv a t = .tuple u) : yielded ops a.tmps g = none := by
  have h := tv_tmps h (by simp) (by simp)
  rw [nth_get, Array.getElem?_toList] at hg
  unfold yielded
  simp only [hg, Option.bind_some, hd]
  cases ht : a.tmps[t]? with
  | none => rfl
  | some v => simp [Array.getD_eq_getD_getElem?, ht] at h; subst h; rfl
theorem StE.toSt {B : Base} {fr : Fr} {M : Mem} {E : Env} {a : Act} {w : World} {sl : Nat → D} {N : Nat → Option Ob} (h : StE B sl N E a w) (h1 : sl = gd fr) (h2 : N = get M) : St B fr M a w := by
  subst h1; subst h2; exact ⟨E, h⟩
def PanSt (B : Base) (d : D) (fr : Fr) (M : Mem) (x : Value) (a : Act) (w : World) : Prop := ∃ E E2, StepOn B.ids B.E E B.own B.w w ∧ ImOK E w ∧ rel d E x ∧ StE B (gd fr) (get M) E2 a w
theorem StE.pan {B : Base} {sl : Nat → D} {fr : Fr} {N : Nat → Option Ob} {M pre : Mem} {E E' : Env} {a : Act} {w w' : World} {d : D} {x : Value} (h : StE B sl N E a w) (st : Step E E' (ownOf E N pre) w w') (him : ImOK E' w') (hx : rel d E' x)
    (hM : ∀ id x, get M id = some x → get pre id = none ∧ N id = some x) (hf : ∀ t, gd fr t = sl t ∨ gd fr t = .bot) : PanSt B d fr M x a w' := by
  have hown : ∀ b, ownOf E N pre b → B.own b ∨ B.w.heap.size ≤ b := fun b ⟨p, h1, y, h2, h3⟩ => h.bd _ y b h2 h3
  have st2 : Step E ⟨E'.im, E.blk, E.hdr⟩ (ownOf E N pre) w w' := ⟨⟨st.le.im, fun _ _ h => h, fun _ _ _ h => h⟩, st.size, st.frame, st.new, st.os, st.tape, st.output⟩
  have noown : ∀ j y, get pre j = none → N j = some y → ∀ b, obBlk E j y = some b → ¬ ownOf E N pre b := by
    rintro j y hj hy b hb ⟨p, h1, z, h2, h3⟩
    have := h.inv.sep j p.1 y z b hy h2 hb h3
    subst this
    obtain ⟨u, hu⟩ := get_some_mem (List.mem_map.2 ⟨p, h1, rfl⟩)
    rw [hj] at hu; cases hu
  have e : ∀ k u, obBlk ⟨E'.im, E.blk, E.hdr⟩ k u = obBlk E k u := fun k u => by cases u <;> rfl
  refine ⟨E', ⟨E'.im, E.blk, E.hdr⟩, h.step.step st hown, him, hx, ⟨⟨him, fun id y hy => ?_, fun i j y z b hy hz hyb hzb => ?_, h.inv.gl.mono st2.le⟩, fun t => ?_, h.size, h.small, h.defers, h.step.step st2 hown, fun id y b hy hb => ?_⟩⟩
  · obtain ⟨h1, h2⟩ := hM id y hy
    exact (h.inv.ob id y h2).keep st2 (noown id y h1 h2) fun n v hv => hv
  · rw [e] at hyb hzb
    exact h.inv.sep i j y z b (hM i y hy).2 (hM j z hz).2 hyb hzb
  · rcases hf t with h1 | h1
    · rw [h1]; exact rel_mono _ st2.le (h.frm t)
    · rw [h1]; trivial
  · rw [e] at hb
    exact h.bd id y b (hM id y hy).2 hb
theorem St.forgetAll {B : Base} {fr : Fr} {M : Mem} {a : Act} {w : World} (hB : ∀ k, B.ids k → 1000 ≤ k) : ∀ (l : List Nat), (∀ k ∈ l, k < 1000 ∧ occF k fr = false ∧ occM k M = false) → ∀ E, StE B (gd fr) (get M) E a w → ∃ E', StE B (gd fr) (get M) E' a w ∧ (∀ k ∈ l, E'.blk k = none ∧ ∀ n, E'.hdr k n = none) ∧ (∀ k, E.blk k = none ∧ (∀ n, E.hdr k n = none) → E'.blk k = none ∧ ∀ n, E'.hdr k n = none)
  | [], _, E, h => ⟨E, h, fun _ h => (by cases h), fun _ h => h⟩
  | k :: l, hl, E, h => by
    obtain ⟨h1, h2, h3⟩ := hl k (by simp)
    have h4 := h.forget (k := k) (occF_gd h2) h3 (fun hk => by have := hB k hk; omega)
    obtain ⟨E', h5, h6, h7⟩ := St.forgetAll hB l (fun j hj => hl j (by simp [hj])) _ h4
    refine ⟨E', h5, fun j hj => ?_, fun j hj => h7 j ⟨?_, fun n => ?_⟩⟩
    · simp only [List.mem_cons] at hj
      rcases hj with rfl | hj
      · exact h7 j ⟨by simp [Env.forget], fun n => by simp [Env.forget]⟩
      · exact h6 j hj
    · simp only [Env.forget]; split
      · rfl
      · exact hj.1
    · simp only [Env.forget]; split
      · rfl
      · exact hj.2 n
theorem seq_sound {C : Ctx} (hC : C.OK) {news : List Nat} {ops : Array Oper} {Qp : D → Fr → Mem → Prop} {B : Base} {Q : Exit → Act → World → Prop} {K : Fr → Mem → Prop} (hB : ∀ k, B.ids k → 1000 ≤ k)
    (hQ : ∀ fr M a w, K fr M → St B fr M a w → Q .normal a w) (hP : ∀ d fr M x a w, Qp d fr M → PanSt B d fr M x a w → Q (.panic [⟨x, false, false⟩]) a w) :
    ∀ (os : List Oper) (fr : Fr) (M : Mem) (dec : List (Nat × Bool)) (a : Act) (w : World), seqW C news ops.toList Qp os fr M dec K → dstOK B.n os = true → DecOK fr dec → St B fr M a w → wpList C.P ops Q os a w
  | [], fr, M, dec, a, w, h, _, _, hs => hQ fr M a w h hs
  | o :: os, fr, M, dec, a, w, h, hd, hdec, hs => by
    have hdk : ∀ k, o.dst = some k → k < B.n := by
      intro k hk
      simp only [dstOK, hk] at hd
      split at hd
      · rename_i e; simpa using e
      · cases hd
    have hd' : dstOK B.n os = true := by
      simp only [dstOK] at hd
      split at hd
      · split at hd
        · exact hd
        · cases hd
      · exact hd
    have skip : ∀ fr dec, DecOK fr dec → St B fr M a w → seqW C news ops.toList Qp os (putD o.dst (.v undef) fr) M (delO o.dst dec) K → wpList C.P ops Q os (a.put o.dst undef) w := by
      intro fr dec hdec ⟨E, hs⟩ h
      refine seq_sound hC hB hQ hP os _ _ _ _ _ h hd' (hdec.put _ _) ?_
      exact (hs.done (post := []) (v := undef) (d := .v undef) hdk (.nil hs.inv) rfl).toSt (gd_putD _ _ _).symm rfl
    have run : ∀ fr dec, DecOK fr dec → St B fr M a w → (opW C fr M news o fun out pre => match out with
        | .ret d post => match freshB fr M (newIds pre post) with
          | true => seqW C news ops.toList Qp os (putD o.dst d fr) (post ++ M) (delO o.dst dec) K
          | false => False
        | .pan d => Qp d fr (delM pre M)) → o.wp C.P a w (wpList C.P ops Q os) Q := by
      intro fr dec hdec ⟨E0, hs0⟩ h
      obtain ⟨out, pre, hact, hth, hK⟩ := opW_sound hC h
      cases out with
      | ret d post =>
        simp only at hK
        split at hK
        · rename_i hfr
          have hmem := freshB_mem hfr
          obtain ⟨E, hs, hfor, _⟩ := St.forgetAll hB (newIds pre post) hmem E0 hs0
          have := hact E (get M) w a Q hs.inv hth (fun j hj => by
            have hjm := newIds_mem hj.1 hj.2
            exact ⟨(occM_get (hmem j hjm).2.2).1, hfor j hjm⟩) (fun t _ => hs.frm t)
          refine Oper.wp_mono (fun a' w' hh => ?_) this
          obtain ⟨v, E', rfl, hdone, hv⟩ := hh
          refine seq_sound hC hB hQ hP os _ _ _ _ _ hK hd' (hdec.put _ _) ?_
          exact (hs.done hdk hdone hv).toSt (gd_putD _ _ _).symm (get_append _ _).symm
        · exact hK.elim
      | pan d =>
        have := hact E0 (get M) w a Q hs0.inv hth (fun j hj => hj.elim) (fun t _ => hs0.frm t) (fun x E' w' hst him hx => by
          exact hP d _ _ x a w' hK (hs0.pan hst him hx (fun id y hy => delM_get hy) fun t => .inl rfl))
        exact Oper.wp_mono (fun _ _ hh => hh.elim) this
    simp only [seqW] at h
    unfold wpList
    split at h
    · rename_i hg
      rw [if_pos (by simp [Region.wanted, hg])]
      exact .inl (run fr dec hdec hs h)
    · rename_i g want hg
      split at h
      · rename_i og hog
        split at h
        · rename_i t ht
          have hyield : ∀ fr b, St B fr M a w → gd fr t = .v (.bool b) → yielded ops a.tmps g = some b := by
            intro fr b ⟨E, hs⟩ hb
            have := hs.frm t
            rw [hb] at this
            exact yielded_of hog ht this
          split at h
          · rename_i b hb
            have hy := hyield fr b hs (hdec t b hb)
            split at h
            · rename_i he
              have : b = want := by simpa using he
              subst this
              rw [if_pos (by simp [Region.wanted, hg, hy])]
              exact .inl (run fr dec hdec hs h)
            · rename_i he
              have : b ≠ want := by simpa using he
              rw [if_neg (by simp [Region.wanted, hg, hy]; exact this)]
              exact skip fr dec hdec hs h
          · split at h
            · rename_i b hb
              have hy := hyield fr b hs hb
              have same : ∀ c, b = c → St B ((t, .v (.bool c)) :: fr) M a w ∧ DecOK ((t, .v (.bool c)) :: fr) ((t, c) :: dec) := by
                intro c hc
                subst hc
                have hgd : gd ((t, .v (.bool b)) :: fr) = gd fr := by
                  funext u
                  have := congrFun (gd_putD (some t) (.v (.bool b)) fr) u
                  simp only [putD, putS] at this
                  rw [this]
                  split
                  · rename_i e; injection e with e; subst e; exact hb.symm
                  · rfl
                obtain ⟨E, hs⟩ := hs
                refine ⟨⟨E, by rw [hgd]; exact hs⟩, fun u c hc => ?_⟩
                rw [hgd]
                rw [get_cons] at hc
                split at hc
                · rename_i e; subst e; injection hc with hc; subst hc; exact hb
                · exact hdec u c hc
              cases b with
              | true =>
                obtain ⟨s1, s2⟩ := same true rfl
                have h1 := h.t rfl
                cases want with
                | true => rw [if_pos (by simp [Region.wanted, hg, hy])]; exact .inl (run _ _ s2 s1 h1)
                | false => rw [if_neg (by simp [Region.wanted, hg, hy])]; exact skip _ _ s2 s1 h1
              | false =>
                obtain ⟨s1, s2⟩ := same false rfl
                have h1 := h.f rfl
                cases want with
                | true => rw [if_neg (by simp [Region.wanted, hg, hy])]; exact skip _ _ s2 s1 h1
                | false => rw [if_pos (by simp [Region.wanted, hg, hy])]; exact .inl (run _ _ s2 s1 h1)
            · rename_i u hb
              obtain ⟨E, hsE⟩ := id hs
              have h1 := hsE.frm t
              rw [hb] at h1
              rw [if_neg (by simp [Region.wanted, hg, yielded_no hog ht h1])]
              exact skip fr dec hdec hs h
            · exact h.elim
        · exact h.elim
      · exact h.elim
end Go.Dm
namespace Go.Dm
inductive It where
  | run (pre : Mem) (d : D) (post : Mem)
  | skip
  | pan (pre : Mem) (d : D)
  | dead
def It.val : It → D
  | .run _ d _ => d
  | .skip => .v undef
  | _ => .bot
def It.post : It → Mem
  | .run _ _ post => post
  | _ => []
def It.foot : It → Foot
  | .run pre _ post => Dm.foot pre post
  | .pan pre _ => (pre.map (·.1), pre.map (·.1))
  | _ => ([], [])
def It.stops : It → Bool
  | .pan _ _ => true
  | .dead => true
  | _ => false
def anyIn (l dead : List Nat) : Bool := match l with
  | [] => false
  | k :: r => match memN dead k with
    | true => true
    | false => anyIn r dead
def edges (o : Oper) : List Nat := (o.after.toList.filter (Region.binds .any ·)).map (·.on)
def subN : List Nat → List Nat → Bool
  | [], _ => true
  | k :: r, l => match memN l k with
    | true => subN r l
    | false => false
theorem subN_mem : ∀ {a l : List Nat}, subN a l = true → ∀ k ∈ a, k ∈ l
  | [], _, _, k, h => by cases h
  | j :: r, l, h, k, hk => by
    simp only [subN] at h
    split at h
    · rename_i e
      simp only [List.mem_cons] at hk
      rcases hk with rfl | hk
      · exact memN_iff e
      · exact subN_mem h k hk
    · cases h
def regNews (news : List Nat) : List Oper → List Nat
  | [] => []
  | o :: r => match o.dst with
    | some t => match memN news t with
      | true => t :: regNews news r
      | false => regNews news r
    | none => regNews news r
def drawW (C : Ctx) (news : List Nat) (ops : List Oper) (Qp : D → Fr → Mem → Prop) : List Oper → Nat → Fr → Mem → List (Nat × Bool) → List Nat → List Foot → (Fr → Mem → List Nat → List Foot → Prop) → Prop
  | [], _, fr, M, _, dead, fp, K => K fr M dead fp
  | o :: os, i, fr, M, dec, dead, fp, K =>
    match anyIn (edges o) dead with
    | true => drawW C news ops Qp os (i + 1) (putD o.dst .bot fr) M (delO o.dst dec) (i :: dead) (fp ++ [([], [])]) K
    | false =>
      let run := fun (fr : Fr) (dec : List (Nat × Bool)) => opW C fr M news o fun out pre => match out with
        | .ret d post => match subN (newIds pre post) (regNews news [o]) with
          | true => drawW C news ops Qp os (i + 1) (putD o.dst d fr) (post ++ M) (delO o.dst dec) dead (fp ++ [foot pre post]) K
          | false => False
        | .pan d => Qp d [] [] ∧ drawW C news ops Qp os (i + 1) (putD o.dst .bot fr) M (delO o.dst dec) (i :: dead) (fp ++ [(pre.map (·.1), pre.map (·.1))]) K
      let skip := fun (fr : Fr) (dec : List (Nat × Bool)) => drawW C news ops Qp os (i + 1) (putD o.dst (.v undef) fr) M (delO o.dst dec) dead (fp ++ [([], [])]) K
      match o.guard with
      | none => run fr dec
      | some (g, want) => match nth ops g with
        | some og => match og.dst with
          | some t => match get dec t with
            | some b => match b == want with
              | true => run fr dec
              | false => skip fr dec
            | none => match gd fr t with
              | .v (.bool b) => Split b (match want with | true => run ((t, .v (.bool true)) :: fr) ((t, true) :: dec) | false => skip ((t, .v (.bool true)) :: fr) ((t, true) :: dec))
                (match want with | true => skip ((t, .v (.bool false)) :: fr) ((t, false) :: dec) | false => run ((t, .v (.bool false)) :: fr) ((t, false) :: dec))
              | .v (.tuple _) => skip fr dec
              | _ => False
          | none => False
        | none => False
def GuardIs (ops : List Oper) (o : Oper) (sl : Nat → D) (b : Bool) : Prop :=
  match o.guard with
  | none => b = true
  | some (g, want) => ∃ og t, nth ops g = some og ∧ og.dst = some t ∧ ((∃ c, sl t = .v (.bool c) ∧ b = (c == want)) ∨ (∃ u, sl t = .v (.tuple u)) ∧ b = false)
def ItOK (C : Ctx) (news : List Nat) (ops : List Oper) (Qp : D → Fr → Mem → Prop) (o : Oper) (sl : Nat → D) (M : Mem) (dead : List Nat) : It → Prop
  | .run pre d post => GuardIs ops o sl true ∧ (∃ fr, gd fr = sl ∧ LAct C.P o fr pre news (.ret d post) ∧ subN (newIds pre post) (regNews news [o]) = true) ∧ There (get M) pre
  | .skip => GuardIs ops o sl false
  | .pan pre d => GuardIs ops o sl true ∧ (∃ fr, gd fr = sl ∧ LAct C.P o fr pre news (.pan d)) ∧ There (get M) pre ∧ Qp d [] []
  | .dead => anyIn (edges o) dead = true
def TR (C : Ctx) (news : List Nat) (ops : List Oper) (Qp : D → Fr → Mem → Prop) : List (Oper × It) → Nat → (Nat → D) → Mem → List Nat → Prop
  | [], _, _, _, _ => True
  | (o, it) :: r, i, sl, M, dead => ItOK C news ops Qp o sl M dead it ∧ TR C news ops Qp r (i + 1) (putS sl o.dst it.val) (it.post ++ M) (if it.stops = true then i :: dead else dead)
def endDead : List (Oper × It) → Nat → List Nat → List Nat
  | [], _, dead => dead
  | (_, it) :: r, i, dead => endDead r (i + 1) (if it.stops = true then i :: dead else dead)
def endMem : List (Oper × It) → Mem → Mem
  | [], M => M
  | (_, it) :: r, M => endMem r (it.post ++ M)
def endSl : List (Oper × It) → (Nat → D) → Nat → D
  | [], sl => sl
  | (o, it) :: r, sl => endSl r (putS sl o.dst it.val)
theorem gd_same {fr : Fr} {t : Nat} {b c : Bool} (h : gd fr t = .v (.bool b)) (hc : b = c) : gd ((t, .v (.bool c)) :: fr) = gd fr := by
  subst hc
  funext u
  have := congrFun (gd_putD (some t) (.v (.bool b)) fr) u
  simp only [putD, putS] at this
  rw [this]
  split
  · rename_i e; injection e with e; subst e; exact h.symm
  · rfl
theorem DecOK.cons {fr : Fr} {dec : List (Nat × Bool)} {t : Nat} {b c : Bool} (hd : DecOK fr dec) (h : gd fr t = .v (.bool b)) (hc : b = c) : DecOK ((t, .v (.bool c)) :: fr) ((t, c) :: dec) := by
  intro u e he
  rw [gd_same h hc]
  subst hc
  rw [get_cons] at he
  split at he
  · rename_i e'; subst e'; injection he with he; subst he; exact h
  · exact hd u e he
theorem draw_trace {C : Ctx} (hC : C.OK) {news : List Nat} {ops : List Oper} {Qp : D → Fr → Mem → Prop} {K : Fr → Mem → List Nat → List Foot → Prop} :
    ∀ (os : List Oper) (i : Nat) (fr : Fr) (M : Mem) (dec : List (Nat × Bool)) (dead : List Nat) (fp : List Foot), drawW C news ops Qp os i fr M dec dead fp K → DecOK fr dec →
      ∃ l : List (Oper × It), l.map (·.1) = os ∧ TR C news ops Qp l i (gd fr) M dead ∧ ∃ fr', gd fr' = endSl l (gd fr) ∧ K fr' (endMem l M) (endDead l i dead) (fp ++ l.map (·.2.foot))
  | [], i, fr, M, dec, dead, fp, h, _ => ⟨[], rfl, trivial, fr, rfl, by simpa [drawW, endMem, endDead] using h⟩
  | o :: os, i, fr, M, dec, dead, fp, h, hdec => by
    have next : ∀ (it : It) (fr1 : Fr) (dec1 : List (Nat × Bool)), gd fr1 = gd fr → DecOK fr1 dec1 → ItOK C news ops Qp o (gd fr) M dead it →
        drawW C news ops Qp os (i + 1) (putD o.dst it.val fr1) (it.post ++ M) (delO o.dst dec1) (if it.stops = true then i :: dead else dead) (fp ++ [it.foot]) K →
        ∃ l : List (Oper × It), l.map (·.1) = o :: os ∧ TR C news ops Qp l i (gd fr) M dead ∧ ∃ fr', gd fr' = endSl l (gd fr) ∧ K fr' (endMem l M) (endDead l i dead) (fp ++ l.map (·.2.foot)) := by
      intro it fr1 dec1 he hd hit hw
      obtain ⟨l, h1, h2, fr', h3, h4⟩ := draw_trace hC os (i + 1) _ _ _ _ _ hw (hd.put _ _)
      rw [gd_putD, he] at h2 h3
      exact ⟨(o, it) :: l, by simp [h1], ⟨hit, h2⟩, fr', h3, by simpa [endMem, endDead] using h4⟩
    simp only [drawW] at h
    split at h
    · rename_i hdead
      exact next .dead fr dec rfl hdec hdead (by simpa [It.val, It.post, It.stops, It.foot] using h)
    · have run : ∀ fr1 dec1, gd fr1 = gd fr → DecOK fr1 dec1 → GuardIs ops o (gd fr) true → (opW C fr1 M news o fun out pre => match out with
          | .ret d post => match subN (newIds pre post) (regNews news [o]) with
            | true => drawW C news ops Qp os (i + 1) (putD o.dst d fr1) (post ++ M) (delO o.dst dec1) dead (fp ++ [foot pre post]) K
            | false => False
          | .pan d => Qp d [] [] ∧ drawW C news ops Qp os (i + 1) (putD o.dst .bot fr1) M (delO o.dst dec1) (i :: dead) (fp ++ [(pre.map (·.1), pre.map (·.1))]) K) →
          ∃ l : List (Oper × It), l.map (·.1) = o :: os ∧ TR C news ops Qp l i (gd fr) M dead ∧ ∃ fr', gd fr' = endSl l (gd fr) ∧ K fr' (endMem l M) (endDead l i dead) (fp ++ l.map (·.2.foot)) := by
        intro fr1 dec1 he hd hg h
        obtain ⟨out, pre, hact, hth, hK⟩ := opW_sound hC h
        cases out with
        | ret d post =>
          simp only at hK
          split at hK
          · rename_i hfr
            exact next (.run pre d post) fr1 dec1 he hd ⟨hg, ⟨fr1, he, hact, hfr⟩, hth⟩ (by simpa [It.val, It.post, It.stops, It.foot] using hK)
          · exact hK.elim
        | pan d =>
          exact next (.pan pre d) fr1 dec1 he hd ⟨hg, ⟨fr1, he, hact⟩, hth, hK.1⟩ (by simpa [It.val, It.post, It.stops, It.foot] using hK.2)
      have skip : ∀ fr1 dec1, gd fr1 = gd fr → DecOK fr1 dec1 → GuardIs ops o (gd fr) false → drawW C news ops Qp os (i + 1) (putD o.dst (.v undef) fr1) M (delO o.dst dec1) dead (fp ++ [([], [])]) K →
          ∃ l : List (Oper × It), l.map (·.1) = o :: os ∧ TR C news ops Qp l i (gd fr) M dead ∧ ∃ fr', gd fr' = endSl l (gd fr) ∧ K fr' (endMem l M) (endDead l i dead) (fp ++ l.map (·.2.foot)) := by
        intro fr1 dec1 he hd hg h
        exact next .skip fr1 dec1 he hd hg (by simpa [It.val, It.post, It.stops, It.foot] using h)
      split at h
      · rename_i hg
        exact run fr dec rfl hdec (by simp [GuardIs, hg]) h
      · rename_i g want hg
        split at h
        · rename_i og hog
          split at h
          · rename_i t ht
            split at h
            · rename_i b hb
              have hgd := hdec t b hb
              split at h
              · rename_i hw
                exact run fr dec rfl hdec (by simp only [GuardIs, hg]; exact ⟨og, t, hog, ht, .inl ⟨b, hgd, hw.symm⟩⟩) h
              · rename_i hw
                exact skip fr dec rfl hdec (by simp only [GuardIs, hg]; exact ⟨og, t, hog, ht, .inl ⟨b, hgd, hw.symm⟩⟩) h
            · split at h
              · rename_i b hb
                have hgi : ∀ c, b = c → GuardIs ops o (gd fr) (c == want) := fun c hc => by
                  subst hc
                  simp only [GuardIs, hg]; exact ⟨og, t, hog, ht, .inl ⟨b, hb, rfl⟩⟩
                cases b with
                | true =>
                  have h1 := h.t rfl
                  cases want with
                  | true => exact run _ _ (gd_same hb rfl) (hdec.cons hb rfl) (hgi true rfl) h1
                  | false => exact skip _ _ (gd_same hb rfl) (hdec.cons hb rfl) (hgi true rfl) h1
                | false =>
                  have h1 := h.f rfl
                  cases want with
                  | true => exact skip _ _ (gd_same hb rfl) (hdec.cons hb rfl) (hgi false rfl) h1
                  | false => exact run _ _ (gd_same hb rfl) (hdec.cons hb rfl) (hgi false rfl) h1
              · rename_i u hb
                exact skip fr dec rfl hdec (by simp only [GuardIs, hg]; exact ⟨og, t, hog, ht, .inr ⟨⟨u, hb⟩, trivial⟩⟩) h
              · exact h.elim
          · exact h.elim
        · exact h.elim
end Go.Dm
namespace Go.Dm
def slotS (sel : Nat → Bool) : Nat → List (Oper × It) → Nat → D → D
  | _, [], _, d => d
  | i, (o, it) :: r, t, d => slotS sel (i + 1) r t (if sel i = true ∧ o.dst = some t then it.val else d)
def obS (sel : Nat → Bool) : Nat → List (Oper × It) → Nat → Option Ob → Option Ob
  | _, [], _, x => x
  | i, (o, it) :: r, id, x => obS sel (i + 1) r id (if sel i = true then match get it.post id with | some y => some y | none => x else x)
theorem slotS_congr {sel sel' : Nat → Bool} {t : Nat} : ∀ (l : List (Oper × It)) (i : Nat) (d : D), (∀ j o it, l[j]? = some (o, it) → o.dst = some t → sel (i + j) = sel' (i + j)) → slotS sel i l t d = slotS sel' i l t d
  | [], _, _, _ => rfl
  | (o, it) :: r, i, d, h => by
    have hr := fun d => slotS_congr r (i + 1) d fun j o' it' hj ho => by
      have := h (j + 1) o' it' (by simpa using hj) ho
      simpa [Nat.add_assoc, Nat.add_comm 1 j] using this
    simp only [slotS]
    rw [hr]
    congr 1
    by_cases ho : o.dst = some t
    · rw [show sel i = sel' i from by simpa using h 0 o it (by simp) ho]
    · simp [ho]
theorem obS_congr {sel sel' : Nat → Bool} {id : Nat} : ∀ (l : List (Oper × It)) (i : Nat) (x : Option Ob), (∀ j o it, l[j]? = some (o, it) → (∃ y, get it.post id = some y) → sel (i + j) = sel' (i + j)) → obS sel i l id x = obS sel' i l id x
  | [], _, _, _ => rfl
  | (o, it) :: r, i, x, h => by
    have hr := fun x => obS_congr r (i + 1) x fun j o' it' hj ho => by
      have := h (j + 1) o' it' (by simpa using hj) ho
      simpa [Nat.add_assoc, Nat.add_comm 1 j] using this
    simp only [obS]
    rw [hr]
    congr 1
    cases hg : get it.post id with
    | some y => rw [show sel i = sel' i from by simpa using h 0 o it (by simp) ⟨y, hg⟩]
    | none => simp
theorem slotS_ins {sel' : Nat → Bool} {t k : Nat} {o : Oper} {it : It} : ∀ (l : List (Oper × It)) (i : Nat) (d : D), l[k]? = some (o, it) → o.dst = some t → sel' (i + k) = true → (∀ j o it, l[j]? = some (o, it) → o.dst = some t → k < j → sel' (i + j) = false) → slotS sel' i l t d = it.val
  | [], _, _, h, _, _, _ => by simp at h
  | (o', it') :: r, i, d, h, ho, hs, hn => by
    simp only [slotS]
    cases k with
    | zero =>
      simp at h
      obtain ⟨rfl, rfl⟩ := h
      rw [if_pos ⟨by simpa using hs, ho⟩]
      clear hs
      have : ∀ (r : List (Oper × It)) (i : Nat) (d : D), (∀ j o it, r[j]? = some (o, it) → o.dst = some t → sel' (i + j) = false) → slotS sel' i r t d = d := by
        intro r
        induction r with
        | nil => intro _ _ _; rfl
        | cons p r ih =>
          intro i d h
          obtain ⟨o2, it2⟩ := p
          simp only [slotS]
          rw [ih (i + 1) _ fun j o it hj ho => by have := h (j + 1) o it (by simpa using hj) ho; simpa [Nat.add_assoc, Nat.add_comm 1 j] using this]
          rw [if_neg]
          rintro ⟨h1, h2⟩
          have := h 0 o2 it2 (by simp) h2
          simp at this; rw [this] at h1; cases h1
      exact this r (i + 1) _ fun j o it hj ho' => by have := hn (j + 1) o it (by simpa using hj) ho' (by omega); simpa [Nat.add_assoc, Nat.add_comm 1 j] using this
    | succ k =>
      exact slotS_ins r (i + 1) _ (by simpa using h) ho (by simpa [Nat.add_assoc, Nat.add_comm 1 k] using hs) fun j o it hj ho' hk => by
        have := hn (j + 1) o it (by simpa using hj) ho' (by omega); simpa [Nat.add_assoc, Nat.add_comm 1 j] using this
theorem obS_ins {sel' : Nat → Bool} {id k : Nat} {o : Oper} {it : It} {y : Ob} : ∀ (l : List (Oper × It)) (i : Nat) (x : Option Ob), l[k]? = some (o, it) → get it.post id = some y → sel' (i + k) = true → (∀ j o it, l[j]? = some (o, it) → (∃ y, get it.post id = some y) → k < j → sel' (i + j) = false) → obS sel' i l id x = some y
  | [], _, _, h, _, _, _ => by simp at h
  | (o', it') :: r, i, x, h, ho, hs, hn => by
    simp only [obS]
    cases k with
    | zero =>
      simp at h
      obtain ⟨rfl, rfl⟩ := h
      rw [if_pos (by simpa using hs), ho]
      clear hs
      have : ∀ (r : List (Oper × It)) (i : Nat) (x : Option Ob), (∀ j o it, r[j]? = some (o, it) → (∃ y, get it.post id = some y) → sel' (i + j) = false) → obS sel' i r id x = x := by
        intro r
        induction r with
        | nil => intro _ _ _; rfl
        | cons p r ih =>
          intro i x h
          obtain ⟨o2, it2⟩ := p
          simp only [obS]
          rw [ih (i + 1) _ fun j o it hj ho => by have := h (j + 1) o it (by simpa using hj) ho; simpa [Nat.add_assoc, Nat.add_comm 1 j] using this]
          cases hg : get it2.post id with
          | none => simp
          | some z =>
            have := h 0 o2 it2 (by simp) ⟨z, hg⟩
            simp at this; simp [this]
      exact this r (i + 1) _ fun j o it hj ho' => by have := hn (j + 1) o it (by simpa using hj) ho' (by omega); simpa [Nat.add_assoc, Nat.add_comm 1 j] using this
    | succ k =>
      exact obS_ins r (i + 1) _ (by simpa using h) ho (by simpa [Nat.add_assoc, Nat.add_comm 1 k] using hs) fun j o it hj ho' hk => by
        have := hn (j + 1) o it (by simpa using hj) ho' (by omega); simpa [Nat.add_assoc, Nat.add_comm 1 j] using this
def pickI (k : Nat) (j : Nat) : Bool := Nat.blt j k
theorem TR_at {C : Ctx} {news : List Nat} {ops : List Oper} {Qp : D → Fr → Mem → Prop} : ∀ (l : List (Oper × It)) (i : Nat) (sl : Nat → D) (M : Mem) (dead : List Nat), TR C news ops Qp l i sl M dead → ∀ k o it, l[k]? = some (o, it) →
    ∃ sl' M' dead', ItOK C news ops Qp o sl' M' dead' it ∧ (∀ t, sl' t = slotS (pickI (i + k)) i l t (sl t)) ∧ (∀ id, get M' id = obS (pickI (i + k)) i l id (get M id)) ∧ (∀ d ∈ dead', d ∈ dead ∨ ∃ j o' it', d = i + j ∧ j < k ∧ l[j]? = some (o', it') ∧ it'.stops = true)
  | [], _, _, _, _, _, k, _, _, h => by simp at h
  | (o0, it0) :: r, i, sl, M, dead, hT, k, o, it, h => by
    have tail0 : ∀ (r : List (Oper × It)) (i : Nat) (t : Nat) (d : D) (m : Nat), m ≤ i → slotS (pickI m) i r t d = d := by
      intro r
      induction r with
      | nil => intro _ _ _ _ _; rfl
      | cons p r ih =>
        intro i t d m hm
        obtain ⟨o2, it2⟩ := p
        simp only [slotS]
        rw [ih (i + 1) t _ m (by omega), if_neg]
        rintro ⟨h1, _⟩
        simp [pickI] at h1; omega
    have tail1 : ∀ (r : List (Oper × It)) (i : Nat) (id : Nat) (x : Option Ob) (m : Nat), m ≤ i → obS (pickI m) i r id x = x := by
      intro r
      induction r with
      | nil => intro _ _ _ _ _; rfl
      | cons p r ih =>
        intro i id x m hm
        obtain ⟨o2, it2⟩ := p
        simp only [obS]
        rw [ih (i + 1) id _ m (by omega), if_neg]
        intro h1
        simp [pickI] at h1; omega
    obtain ⟨h1, h2⟩ := hT
    cases k with
    | zero =>
      simp at h
      obtain ⟨rfl, rfl⟩ := h
      exact ⟨sl, M, dead, h1, fun t => (tail0 _ _ _ _ _ (by omega)).symm, fun id => (tail1 _ _ _ _ _ (by omega)).symm, fun d hd => .inl hd⟩
    | succ k =>
      obtain ⟨sl', M', dead', g1, g2, g3, g4⟩ := TR_at r (i + 1) _ _ _ h2 k o it (by simpa using h)
      refine ⟨sl', M', dead', g1, fun t => ?_, fun id => ?_, fun d hd => ?_⟩
      · rw [g2 t, show i + 1 + k = i + (k + 1) from by omega]
        simp only [slotS]
        congr 1
        unfold putS
        have : pickI (i + (k + 1)) i = true := by simp [pickI]
        simp [this]
      · rw [g3 id, show i + 1 + k = i + (k + 1) from by omega]
        simp only [obS]
        congr 1
        have : pickI (i + (k + 1)) i = true := by simp [pickI]
        rw [this, get_append, upds_eq]
        cases get it0.post id <;> simp
      · rcases g4 d hd with g4 | ⟨j, o', it', rfl, hj, hl, hs⟩
        · split at g4
          · rename_i hs
            simp only [List.mem_cons] at g4
            rcases g4 with rfl | g4
            · exact .inr ⟨0, o0, it0, rfl, by omega, by simp, hs⟩
            · exact .inl g4
          · exact .inl g4
        · exact .inr ⟨j + 1, o', it', by omega, by omega, by simpa using hl, hs⟩
theorem endSl_slotS : ∀ (l : List (Oper × It)) (i : Nat) (sl : Nat → D) (t : Nat), endSl l sl t = slotS (fun _ => true) i l t (sl t)
  | [], _, _, _ => rfl
  | (o, it) :: r, i, sl, t => by
    simp only [endSl, slotS]
    rw [endSl_slotS r (i + 1)]
    congr 1
    simp [putS]
theorem endMem_obS : ∀ (l : List (Oper × It)) (i : Nat) (M : Mem) (id : Nat), get (endMem l M) id = obS (fun _ => true) i l id (get M id)
  | [], _, _, _ => rfl
  | (o, it) :: r, i, M, id => by
    simp only [endMem, obS]
    rw [endMem_obS r (i + 1)]
    congr 1
    rw [get_append, upds_eq]
    cases get it.post id <;> simp
end Go.Dm
namespace Go.Dm
def disj (a b : List Nat) : Bool := match a with
  | [] => true
  | k :: r => match memN b k with
    | true => false
    | false => disj r b
theorem memN_of : ∀ {l : List Nat} {t : Nat}, t ∈ l → memN l t = true
  | k :: r, t, h => by
    simp only [memN]
    split
    · rfl
    · rename_i e
      simp only [List.mem_cons] at h
      rcases h with rfl | h
      · rw [beq_same] at e; cases e
      · exact memN_of h
theorem disj_spec : ∀ {a b : List Nat}, disj a b = true → ∀ k ∈ a, k ∉ b
  | [], _, _, k, h => by cases h
  | j :: r, b, h, k, hk => by
    simp only [disj] at h
    split at h
    · cases h
    · rename_i e
      simp only [List.mem_cons] at hk
      rcases hk with rfl | hk
      · intro hb; rw [memN_of hb] at e; cases e
      · exact disj_spec h k hk
def guardSlot (ops : List Oper) (o : Oper) : List Nat := match o.guard with
  | none => []
  | some (g, _) => match nth ops g with
    | some og => og.dst.toList
    | none => []
def names (ops : List Oper) (o : Oper) : List Nat := o.dst.toList ++ (guardSlot ops o ++ opTmps o)
def compat (ops : List Oper) (oi oj : Oper) (fi fj : Foot) : Bool :=
  disj oi.dst.toList (names ops oj) && (disj oj.dst.toList (names ops oi) && (disj fi.2 (fj.1 ++ fj.2) && disj fj.2 (fi.1 ++ fi.2)))
def ancB : List Oper → List Nat → List Nat
  | [], acc => acc
  | o :: r, acc => ancB r (acc ++ [(edges o).foldl (fun s e => s ||| (2 ^ e ||| (nth acc e).getD 0)) 0])
def pairOK (ops : List Oper) (fps : List Foot) (an : List Nat) (i j : Nat) : Bool :=
  match nth ops i, nth ops j, nth fps i, nth fps j, nth an j with
  | some oi, some oj, some fi, some fj, some aj => aj.testBit i || compat ops oi oj fi fj
  | _, _, _, _, _ => false
def rangeAll (p : Nat → Bool) : Nat → Bool
  | 0 => true
  | n + 1 => match p n with
    | true => rangeAll p n
    | false => false
theorem rangeAll_spec {p : Nat → Bool} : ∀ {n : Nat}, rangeAll p n = true → ∀ i, i < n → p i = true
  | 0, _, i, h => by omega
  | n + 1, h, i, hi => by
    simp only [rangeAll] at h
    split at h
    · rename_i e
      by_cases he : i = n
      · subst he; exact e
      · exact rangeAll_spec h i (by omega)
    · cases h
def edgesOK (ops : List Oper) (j : Nat) : Bool := match nth ops j with
  | some o => (edges o).all (fun e => Nat.blt e j)
  | none => true
def chk (ops : List Oper) (fps : List Foot) : Bool :=
  rangeAll (fun j => edgesOK ops j && rangeAll (fun i => pairOK ops fps (ancB ops []) i j) j) ops.length
theorem foldl_bit (g : Nat → Nat) : ∀ (es : List Nat) (s i : Nat), (es.foldl (fun s e => s ||| (2 ^ e ||| g e)) s).testBit i = true → s.testBit i = true ∨ ∃ e ∈ es, e = i ∨ (g e).testBit i = true
  | [], s, i, h => .inl h
  | e :: es, s, i, h => by
    simp only [List.foldl_cons] at h
    rcases foldl_bit g es _ i h with h | ⟨e', h1, h2⟩
    · simp only [Nat.testBit_or, Bool.or_eq_true] at h
      rcases h with h | h | h
      · exact .inl h
      · rw [Nat.testBit_two_pow] at h
        exact .inr ⟨e, by simp, .inl (by simpa using h)⟩
      · exact .inr ⟨e, by simp, .inr h⟩
    · exact .inr ⟨e', by simp [h1], h2⟩
theorem ancB_closed {ops : List Oper} {sel : Nat → Bool} (hcl : ∀ j o, nth ops j = some o → sel j = true → ∀ e ∈ edges o, sel e = true) :
    ∀ (l : List Oper) (acc : List Nat), (∀ k, nth l k = nth ops (acc.length + k)) → (∀ j aj, nth acc j = some aj → sel j = true → ∀ i, aj.testBit i = true → sel i = true) →
      ∀ j aj, nth (ancB l acc) j = some aj → sel j = true → ∀ i, aj.testBit i = true → sel i = true
  | [], acc, _, h => h
  | o :: r, acc, hl, h => by
    simp only [ancB]
    refine ancB_closed hcl r _ (fun k => ?_) fun j aj hj hs i hi => ?_
    · have := hl (k + 1)
      simpa [nth, Nat.add_assoc, Nat.add_comm 1 k] using this
    · by_cases hlt : j < acc.length
      · rw [nth_get, List.getElem?_append_left hlt, ← nth_get] at hj
        exact h j aj hj hs i hi
      · rw [nth_get, List.getElem?_append_right (by omega)] at hj
        have hj0 : j = acc.length := by
          rcases Nat.lt_or_ge (j - acc.length) 1 with h1 | h1
          · omega
          · rw [List.getElem?_eq_none (by simpa using h1)] at hj; cases hj
        subst hj0
        simp at hj
        subst hj
        have ho : nth ops acc.length = some o := by have := hl 0; simpa [nth] using this.symm
        rcases foldl_bit _ _ _ _ hi with h0 | ⟨e, he, rfl | hb⟩
        · simp at h0
        · exact hcl _ o ho hs _ he
        · have hse := hcl _ o ho hs e he
          cases hn : nth acc e with
          | none => rw [hn] at hb; simp at hb
          | some ae => rw [hn] at hb; exact h e ae hn hse i hb
end Go.Dm
namespace Go.Dm
def cnt : List Bool → Nat
  | [] => 0
  | true :: r => cnt r
  | false :: r => cnt r + 1
theorem cnt_set : ∀ (l : List Bool) (i : Nat), l[i]? = some false → cnt (l.set i true) + 1 = cnt l
  | [], i, h => by simp at h
  | b :: r, 0, h => by simp at h; subst h; simp [cnt]
  | b :: r, i + 1, h => by
    have := cnt_set r i (by simpa using h)
    cases b <;> simp [cnt] <;> omega
theorem cnt_zero : ∀ (l : List Bool), cnt l = 0 → ∀ i : Nat, l[i]? ≠ some false
  | [], _, i => by simp
  | true :: r, h, 0 => by simp
  | true :: r, h, i + 1 => by have := cnt_zero r (by simpa [cnt] using h) i; simpa using this
  | false :: r, h, _ => by simp [cnt] at h
theorem cnt_le : ∀ (l : List Bool), cnt l ≤ l.length
  | [] => Nat.le_refl _
  | true :: r => by have := cnt_le r; simp [cnt]; omega
  | false :: r => by have := cnt_le r; simp [cnt]; omega
theorem wpAny_inv {P : Program} {ops : Array Oper} {Q : Exit → Act → World → Prop} {I : Array Bool → Act → World → Prop}
    (hstep : ∀ listed a w, I listed a w → ∀ i ∈ Region.ready .any ops listed, wpOp P ops Q i (I (listed.setIfInBounds i true)) a w)
    (hend : ∀ listed a w, I listed a w → Region.ready .any ops listed = [] → Q .normal a w) (hsz : ∀ listed a w, I listed a w → listed.size = ops.size) :
    ∀ (fuel : Nat) (listed : Array Bool) (a : Act) (w : World), I listed a w → cnt listed.toList ≤ fuel → wpAny P .any ops Q fuel listed a w
  | 0, listed, a, w, h, hc => by
    have hr : Region.ready .any ops listed = [] := by
      cases hr : Region.ready .any ops listed with
      | nil => rfl
      | cons i r =>
        have hi : i ∈ Region.ready .any ops listed := by rw [hr]; simp
        have h1 := (mem_ready.1 hi).1
        have h2 := cnt_zero listed.toList (by omega) i
        rw [Array.getElem?_toList] at h2
        cases hg : listed[i]? with
        | none => simp [Array.getD_eq_getD_getElem?, hg] at h1
        | some b => rw [hg] at h2; simp [Array.getD_eq_getD_getElem?, hg] at h1; subst h1; exact absurd rfl h2
    exact ⟨hr, hend _ _ _ h hr⟩
  | fuel + 1, listed, a, w, h, hc => by
    refine ⟨hend _ _ _ h, fun i hi => wpOp_mono (fun a' w' h' => wpAny_inv hstep hend hsz fuel _ a' w' h' ?_) (hstep _ _ _ h i hi)⟩
    have h1 := (mem_ready.1 hi).1
    have hg : listed.toList[i]? = some false := by
      rw [Array.getElem?_toList]
      cases hg : listed[i]? with
      | none => simp [Array.getD_eq_getD_getElem?, hg] at h1
      | some b => simp [Array.getD_eq_getD_getElem?, hg] at h1; subst h1; rfl
    have h2 := cnt_set _ _ hg
    rw [Array.toList_setIfInBounds]
    omega
def It.news : It → List Nat
  | .run pre _ post => newIds pre post
  | _ => []
def selA (listed : Array Bool) (i : Nat) : Bool := listed.getD i false
theorem endDead_of : ∀ (l : List (Oper × It)) (i : Nat) (dead : List Nat), (∀ (j : Nat) (o : Oper) (it : It), l[j]? = some (o, it) → it.stops = false) → endDead l i dead = dead
  | [], _, _, _ => rfl
  | (o, it) :: r, i, dead, h => by
    have h0 := h 0 o it (by simp)
    simp only [endDead, h0, Bool.false_eq_true, if_false]
    exact endDead_of r (i + 1) dead fun j o' it' hj => h (j + 1) o' it' (by simpa using hj)
section
variable {C : Ctx} {news : List Nat} {ops : Array Oper} {Qp : D → Fr → Mem → Prop} {B : Base} {Q : Exit → Act → World → Prop} {K : Fr → Mem → Prop} {fr0 : Fr} {M0 : Mem} {l : List (Oper × It)}
structure InvR (B : Base) (ops : Array Oper) (l : List (Oper × It)) (fr0 : Fr) (M0 : Mem) (listed : Array Bool) (a : Act) (w : World) : Prop where
  sz : listed.size = ops.size
  cl : ∀ j o, nth ops.toList j = some o → selA listed j = true → ∀ e ∈ edges o, selA listed e = true
  ns : ∀ (j : Nat) (o : Oper) (it : It), l[j]? = some (o, it) → selA listed j = true → it.stops = false
  st : ∃ E, StE B (fun t => slotS (selA listed) 0 l t (gd fr0 t)) (fun id => obS (selA listed) 0 l id (get M0 id)) E a w ∧
      (∀ (j : Nat) (o : Oper) (it : It), l[j]? = some (o, it) → selA listed j = false → ∀ k ∈ it.news, obS (selA listed) 0 l k (get M0 k) = none ∧ E.blk k = none ∧ ∀ n, E.hdr k n = none)
theorem selA_set {listed : Array Bool} {i : Nat} (hi : i < listed.size) (j : Nat) : selA (listed.setIfInBounds i true) j = if j = i then true else selA listed j := by
  unfold selA
  simp only [Array.getD_eq_getD_getElem?, Array.getElem?_setIfInBounds]
  by_cases h : j = i
  · subst h; simp [hi]
  · simp [h, Ne.symm h]
theorem mem_edges {o : Oper} {e : Nat} : e ∈ edges o ↔ ∃ x ∈ o.after, Region.binds .any x = true ∧ x.on = e := by
  simp [edges]
  constructor
  · rintro ⟨x, ⟨h1, h2⟩, h3⟩; exact ⟨x, h1, h2, h3⟩
  · rintro ⟨x, h1, h2, h3⟩; exact ⟨x, ⟨h1, h2⟩, h3⟩
theorem post_foot {it : It} {id : Nat} {y : Ob} (h : get it.post id = some y) : id ∈ it.foot.2 := by
  cases it with
  | run pre d post => exact List.mem_map.2 ⟨_, get_mem h, rfl⟩
  | skip => cases h
  | pan pre d => cases h
  | dead => cases h
theorem apart_of (hl : l.map (·.1) = ops.toList) (hchk : chk ops.toList (l.map (·.2.foot)) = true) {listed : Array Bool} (hsz : listed.size = ops.size) (hcl : ∀ j o, nth ops.toList j = some o → selA listed j = true → ∀ e ∈ edges o, selA listed e = true)
    {i : Nat} {oi : Oper} {iti : It} (hi : l[i]? = some (oi, iti)) (hun : selA listed i = false) (hed : ∀ e ∈ edges oi, selA listed e = true) {j : Nat} {oj : Oper} {itj : It} (hj : l[j]? = some (oj, itj))
    (h : (selA listed j = true ∧ i < j) ∨ (selA listed j = false ∧ j < i)) : compat ops.toList oi oj iti.foot itj.foot = true ∨ compat ops.toList oj oi itj.foot iti.foot = true := by
  have nth_l : ∀ k o it, l[k]? = some (o, it) → nth ops.toList k = some o ∧ nth (l.map (·.2.foot)) k = some it.foot := by
    intro k o it hk
    rw [nth_get, nth_get, ← hl, List.getElem?_map, List.getElem?_map, hk]
    exact ⟨rfl, rfl⟩
  obtain ⟨ni, fi⟩ := nth_l i oi iti hi
  obtain ⟨nj, fj⟩ := nth_l j oj itj hj
  have hlen : ops.toList.length = l.length := by rw [← hl]; simp
  have hil : i < l.length := (List.getElem?_eq_some_iff.1 hi).1
  have hjl : j < l.length := (List.getElem?_eq_some_iff.1 hj).1
  rcases h with ⟨hs, hij⟩ | ⟨hs, hij⟩
  · have hp := rangeAll_spec hchk j (by omega)
    simp only [Bool.and_eq_true] at hp
    have hp := rangeAll_spec hp.2 i hij
    unfold pairOK at hp
    rw [ni, nj, fi, fj] at hp
    split at hp
    · rename_i h1 h2 h3 h4 h5
      injection h1 with h1; injection h2 with h2; injection h3 with h3; injection h4 with h4
      subst h1; subst h2; subst h3; subst h4
      simp only [Bool.or_eq_true] at hp
      rcases hp with hp | hp
      · have := ancB_closed (sel := selA listed) hcl ops.toList [] (fun k => by simp) (fun _ _ h => by simp [nth] at h) j _ h5 hs i hp
        rw [hun] at this; cases this
      · exact .inl hp
    · cases hp
  · have hp := rangeAll_spec hchk i (by omega)
    simp only [Bool.and_eq_true] at hp
    have hp := rangeAll_spec hp.2 j hij
    unfold pairOK at hp
    rw [ni, nj, fi, fj] at hp
    split at hp
    · rename_i h1 h2 h3 h4 h5
      injection h1 with h1; injection h2 with h2; injection h3 with h3; injection h4 with h4
      subst h1; subst h2; subst h3; subst h4
      simp only [Bool.or_eq_true] at hp
      rcases hp with hp | hp
      · have hiz : i < listed.size := by rw [hsz]; simp at hlen; omega
        have := ancB_closed (sel := selA (listed.setIfInBounds i true)) (fun k o hk hsk e he => by
          rw [selA_set hiz] at hsk ⊢
          split
          · rfl
          · split at hsk
            · rename_i e'; subst e'; rw [ni] at hk; injection hk with hk; subst hk; exact hed e he
            · exact hcl k o hk hsk e he) ops.toList [] (fun k => by simp) (fun _ _ h => by simp [nth] at h) i _ h5 (by rw [selA_set hiz]; simp) j hp
        rw [selA_set hiz, if_neg (by omega), hs] at this; cases this
      · exact .inr hp
    · cases hp
theorem compat_spec {ops : List Oper} {oi oj : Oper} {fi fj : Foot} (h : compat ops oi oj fi fj = true) :
    (∀ t, oi.dst = some t → t ∉ names ops oj) ∧ (∀ t, oj.dst = some t → t ∉ names ops oi) ∧ (∀ k ∈ fi.2, k ∉ fj.1 ++ fj.2) ∧ (∀ k ∈ fj.2, k ∉ fi.1 ++ fi.2) := by
  simp only [compat, Bool.and_eq_true] at h
  obtain ⟨h1, h2, h3, h4⟩ := h
  exact ⟨fun t ht => disj_spec h1 t (by simp [ht]), fun t ht => disj_spec h2 t (by simp [ht]), disj_spec h3, disj_spec h4⟩
def nodupB : List Nat → Bool
  | [] => true
  | k :: r => match memN r k with
    | true => false
    | false => nodupB r
theorem nodupB_spec : ∀ {l : List Nat}, nodupB l = true → l.Nodup
  | [], _ => List.nodup_nil
  | k :: r, h => by
    simp only [nodupB] at h
    split at h
    · cases h
    · rename_i e
      exact List.nodup_cons.2 ⟨fun hk => (by rw [memN_of hk] at e; cases e), nodupB_spec h⟩
theorem regNews_cons (news : List Nat) (o : Oper) (r : List Oper) : regNews news (o :: r) = regNews news [o] ++ regNews news r := by
  simp only [regNews]
  split
  · split <;> simp
  · simp
theorem regNews_at {news : List Nat} : ∀ {ops : List Oper} {i : Nat} {o : Oper} {k : Nat}, ops[i]? = some o → k ∈ regNews news [o] → k ∈ regNews news ops
  | [], _, _, _, h, _ => by simp at h
  | o' :: r, 0, o, k, h, hk => by
    simp at h; subst h
    rw [regNews_cons]; simp [hk]
  | o' :: r, i + 1, o, k, h, hk => by
    rw [regNews_cons]
    exact List.mem_append_right _ (regNews_at (by simpa using h) hk)
theorem regNews_ne {news : List Nat} : ∀ {ops : List Oper} {i j : Nat} {oi oj : Oper} {k : Nat}, (regNews news ops).Nodup → ops[i]? = some oi → ops[j]? = some oj → k ∈ regNews news [oi] → k ∈ regNews news [oj] → i = j
  | [], _, _, _, _, _, _, h, _, _, _ => by simp at h
  | o :: r, i, j, oi, oj, k, hn, hi, hj, ki, kj => by
    rw [regNews_cons, List.nodup_append] at hn
    obtain ⟨_, h2, h3⟩ := hn
    cases i with
    | zero =>
      cases j with
      | zero => rfl
      | succ j =>
        simp at hi; subst hi
        exact absurd rfl (h3 k ki k (regNews_at (by simpa using hj) kj))
    | succ i =>
      cases j with
      | zero =>
        simp at hj; subst hj
        exact absurd rfl (h3 k kj k (regNews_at (by simpa using hi) ki))
      | succ j => exact congrArg (· + 1) (regNews_ne h2 (i := i) (j := j) (by simpa using hi) (by simpa using hj) ki kj)
end
end Go.Dm
namespace Go.Dm
def regOK (n : Nat) (news : List Nat) (ops : List Oper) (fr : Fr) (M : Mem) : Bool :=
  match nodupB (regNews news ops) with
  | true => freshB fr M (regNews news ops)
  | false => false
section
variable {C : Ctx} {news : List Nat} {ops : Array Oper} {Qp : D → Fr → Mem → Prop} {B : Base} {Q : Exit → Act → World → Prop} {K : Fr → Mem → Prop} {fr0 : Fr} {M0 : Mem} {l : List (Oper × It)}
theorem anyIn_spec : ∀ {l dead : List Nat}, anyIn l dead = true → ∃ e ∈ l, e ∈ dead
  | [], _, h => by simp [anyIn] at h
  | k :: r, dead, h => by
    simp only [anyIn] at h
    split at h
    · rename_i e; exact ⟨k, by simp, memN_iff e⟩
    · obtain ⟨e, h1, h2⟩ := anyIn_spec h
      exact ⟨e, by simp [h1], h2⟩
theorem dstOK_spec {n : Nat} : ∀ {l : List Oper}, dstOK n l = true → ∀ o ∈ l, ∀ k, o.dst = some k → k < n
  | [], _, _, h, _, _ => by cases h
  | o :: r, h, p, hp, k, hk => by
    have h2 : dstOK n r = true := by
      simp only [dstOK] at h
      split at h
      · split at h
        · exact h
        · cases h
      · exact h
    simp only [List.mem_cons] at hp
    rcases hp with rfl | hp
    · simp only [dstOK, hk] at h
      split at h
      · rename_i e; simpa using e
      · cases h
    · exact dstOK_spec h2 p hp k hk
theorem InvR.put (hl : l.map (·.1) = ops.toList) (hchk : chk ops.toList (l.map (·.2.foot)) = true) (hnd : (regNews news ops.toList).Nodup)
    (hnews : ∀ (j : Nat) (o : Oper) (it : It), l[j]? = some (o, it) → ∀ k ∈ it.news, k ∈ regNews news [o])
    (hdst : dstOK B.n ops.toList = true) {listed : Array Bool} {a : Act} {w : World} (hI : InvR B ops l fr0 M0 listed a w)
    {i : Nat} {oi : Oper} {iti : It} (hi : l[i]? = some (oi, iti)) (hun : selA listed i = false) (hed : ∀ e ∈ edges oi, selA listed e = true) (hst : iti.stops = false)
    {E E' : Env} {w' : World} {v : Value} (hE : StE B (fun t => slotS (selA listed) 0 l t (gd fr0 t)) (fun id => obS (selA listed) 0 l id (get M0 id)) E a w)
    (hN : ∀ (j : Nat) (o : Oper) (it : It), l[j]? = some (o, it) → selA listed j = false → ∀ k ∈ it.news, obS (selA listed) 0 l k (get M0 k) = none ∧ E.blk k = none ∧ ∀ n, E.hdr k n = none)
    (hdone : Done E E' (fun id => obS (selA listed) 0 l id (get M0 id)) iti.post w w') (hv : rel iti.val E' v)
    (hpre : ∀ k ∈ iti.post.map (·.1), k ∈ iti.news ∨ obS (selA listed) 0 l k (get M0 k) ≠ none) :
    InvR B ops l fr0 M0 (listed.setIfInBounds i true) (a.put oi.dst v) w' := by
  have hlen : ops.size = l.length := by have := congrArg List.length hl; simpa using this.symm
  have hil : i < l.length := (List.getElem?_eq_some_iff.1 hi).1
  have hiz : i < listed.size := by rw [hI.sz]; omega
  have hat : ∀ (j : Nat) (o : Oper) (it : It), l[j]? = some (o, it) → nth ops.toList j = some o ∧ ops.toList[j]? = some o := by
    intro j o it hj
    have : ops.toList[j]? = some o := by rw [← hl, List.getElem?_map, hj]; rfl
    exact ⟨by rw [nth_get]; exact this, this⟩
  have hoi := hat i oi iti hi
  have hap : ∀ {j : Nat} {oj : Oper} {itj : It}, l[j]? = some (oj, itj) → selA listed j = true → i < j →
      (∀ t, oi.dst = some t → t ∉ names ops.toList oj) ∧ (∀ k ∈ iti.foot.2, k ∉ itj.foot.1 ++ itj.foot.2) := by
    intro j oj itj hj hs hij
    rcases apart_of hl hchk hI.sz hI.cl hi hun hed hj (.inl ⟨hs, hij⟩) with h | h
    · obtain ⟨h1, h2, h3, h4⟩ := compat_spec h; exact ⟨h1, h3⟩
    · obtain ⟨h1, h2, h3, h4⟩ := compat_spec h; exact ⟨h2, h4⟩
  refine ⟨by simp [hI.sz], ?_, ?_, E', ?_, ?_⟩
  · intro j o hj hs e he
    rw [selA_set hiz] at hs ⊢
    split
    · rfl
    · split at hs
      · rename_i e'; subst e'; rw [hoi.1] at hj; injection hj with hj; subst hj; exact hed e he
      · exact hI.cl j o hj hs e he
  · intro j o it hj hs
    rw [selA_set hiz] at hs
    split at hs
    · rename_i e'; subst e'; rw [hi] at hj; injection hj with hj; cases hj; exact hst
    · exact hI.ns j o it hj hs
  · have h := hE.done (dst := oi.dst) (fun k hk => dstOK_spec hdst oi (List.mem_of_getElem? hoi.2) k hk) hdone hv
    have e1 : putS (fun t => slotS (selA listed) 0 l t (gd fr0 t)) oi.dst iti.val = fun t => slotS (selA (listed.setIfInBounds i true)) 0 l t (gd fr0 t) := by
      funext t
      unfold putS
      by_cases ht : oi.dst = some t
      · rw [if_pos ht]
        refine (slotS_ins l 0 _ hi ht (by rw [Nat.zero_add, selA_set hiz]; simp) fun j o it hj ho hij => ?_).symm
        rw [Nat.zero_add, selA_set hiz, if_neg (by omega)]
        cases hs : selA listed j with
        | false => rfl
        | true => exact absurd (show t ∈ names ops.toList o by simp [names, ho]) ((hap hj hs hij).1 t ht)
      · rw [if_neg ht]
        refine slotS_congr l 0 _ fun j o it hj ho => ?_
        rw [Nat.zero_add, selA_set hiz, if_neg]
        intro e; subst e; rw [hi] at hj; injection hj with hj; cases hj; exact ht ho
    have e2 : upds (fun id => obS (selA listed) 0 l id (get M0 id)) iti.post = fun id => obS (selA (listed.setIfInBounds i true)) 0 l id (get M0 id) := by
      funext id
      rw [upds_eq]
      cases hg : get iti.post id with
      | some y =>
        refine (obS_ins l 0 _ hi hg (by rw [Nat.zero_add, selA_set hiz]; simp) fun j o it hj ho hij => ?_).symm
        rw [Nat.zero_add, selA_set hiz, if_neg (by omega)]
        cases hs : selA listed j with
        | false => rfl
        | true =>
          obtain ⟨y', hy'⟩ := ho
          exact absurd (List.mem_append_right _ (post_foot hy')) ((hap hj hs hij).2 id (post_foot hg))
      | none =>
        refine obS_congr l 0 _ fun j o it hj ho => ?_
        rw [Nat.zero_add, selA_set hiz, if_neg]
        intro e; subst e; rw [hi] at hj; injection hj with hj; cases hj
        obtain ⟨y, hy⟩ := ho
        rw [hg] at hy; cases hy
    rw [e1, e2] at h
    exact h
  · intro j o it hj hs k hk
    rw [selA_set hiz] at hs
    split at hs
    · cases hs
    · rename_i hne
      obtain ⟨h1, h2, h3⟩ := hN j o it hj hs k hk
      have hkp : k ∉ iti.post.map (·.1) := by
        intro hkp
        rcases hpre k hkp with h | h
        · exact hne (regNews_ne hnd (hat j o it hj).2 hoi.2 (hnews j o it hj k hk) (hnews i oi iti hi k h))
        · exact h h1
      obtain ⟨h4, h5⟩ := hdone.ids k hkp
      refine ⟨?_, by rw [h4]; exact h2, fun n => by rw [h5]; exact h3 n⟩
      rw [← h1]
      refine obS_congr l 0 _ fun j' o' it' hj' ho' => ?_
      rw [Nat.zero_add, selA_set hiz, if_neg]
      intro e; subst e; rw [hi] at hj'; injection hj' with hj'; cases hj'
      obtain ⟨y, hy⟩ := ho'
      exact hkp (List.mem_map.2 ⟨_, get_mem hy, rfl⟩)
end
end Go.Dm
namespace Go.Dm
theorem news_sub {C : Ctx} {news : List Nat} {ops : List Oper} {Qp : D → Fr → Mem → Prop} : ∀ (l : List (Oper × It)) (i : Nat) (sl : Nat → D) (M : Mem) (dead : List Nat), TR C news ops Qp l i sl M dead → ∀ (j : Nat) (o : Oper) (it : It), l[j]? = some (o, it) → ∀ k ∈ it.news, k ∈ regNews news [o]
  | [], _, _, _, _, _, j, _, _, h, _, _ => by simp at h
  | (o0, it0) :: r, i, sl, M, dead, ⟨h1, h2⟩, 0, o, it, h, k, hk => by
    simp at h
    obtain ⟨rfl, rfl⟩ := h
    cases it0 with
    | run pre d post =>
      obtain ⟨_, ⟨_, _, _, hs⟩, _⟩ := h1
      exact subN_mem hs k hk
    | _ => cases hk
  | (o0, it0) :: r, i, sl, M, dead, ⟨h1, h2⟩, j + 1, o, it, h, k, hk => news_sub r (i + 1) _ _ _ h2 j o it (by simpa using h) k hk
theorem draw_sound {C : Ctx} (hC : C.OK) {news : List Nat} {ops : Array Oper} {Qp : D → Fr → Mem → Prop} {B : Base} {Q : Exit → Act → World → Prop} {K : Fr → Mem → Prop} (hB : ∀ k, B.ids k → 1000 ≤ k)
    (hQ : ∀ fr M a w, K fr M → St B fr M a w → Q .normal a w) (hP : ∀ d fr M x a w, Qp d fr M → PanSt B d fr M x a w → Q (.panic [⟨x, false, false⟩]) a w)
    {id : Nat} {fr : Fr} {M : Mem} {a : Act} {w : World}
    (h : drawW C news ops.toList Qp ops.toList 0 fr M [] [] [] fun fr' M' dead fps => chk ops.toList fps = true ∧ (match dead with | [] => K fr' M' | _ => True))
    (hreg : regOK B.n news ops.toList fr M = true) (hd : dstOK B.n ops.toList = true) (hs : St B fr M a w) : (Code.region id ops true).wp C.P Q a w := by
  refine wp_region_any hC.mixed ?_
  obtain ⟨l, hl, hT, fr', hfr', hchk, hend⟩ := draw_trace hC ops.toList 0 fr M [] [] [] h (fun t b hb => by cases hb)
  simp only [List.nil_append] at hchk
  unfold regOK at hreg
  split at hreg
  · rename_i hnd
    have hnd := nodupB_spec hnd
    have hfm := freshB_mem hreg
    obtain ⟨E0, hs0⟩ := hs
    have hs1 : StE B (gd fr) (get M) E0 a { w with drawn := w.drawn + 1 } := ⟨hs0.inv.heap rfl, hs0.frm, hs0.size, hs0.small, hs0.defers, hs0.step.heap rfl rfl rfl rfl, hs0.bd⟩
    obtain ⟨E, hs2, hfor, _⟩ := St.forgetAll hB _ hfm E0 hs1
    have hlen : ops.size = l.length := by have := congrArg List.length hl; simpa using this.symm
    have hat : ∀ (j : Nat) (o : Oper) (it : It), l[j]? = some (o, it) → nth ops.toList j = some o ∧ ops.toList[j]? = some o := by
      intro j o it hj
      have : ops.toList[j]? = some o := by rw [← hl, List.getElem?_map, hj]; rfl
      exact ⟨by rw [nth_get]; exact this, this⟩
    have hal : ∀ (j : Nat) (o : Oper), ops.toList[j]? = some o → ∃ it, l[j]? = some (o, it) := by
      intro j o hj
      rw [← hl, List.getElem?_map] at hj
      cases hg : l[j]? with
      | none => rw [hg] at hj; cases hj
      | some p => rw [hg] at hj; simp at hj; obtain ⟨o', it⟩ := p; simp at hj; subst hj; exact ⟨it, rfl⟩
    have hnews := news_sub l 0 _ _ _ hT
    have none0 : ∀ (listed : Array Bool), (∀ j, selA listed j = false) → (∀ t d, slotS (selA listed) 0 l t d = d) ∧ ∀ id x, obS (selA listed) 0 l id x = x := by
      intro listed hn
      have h1 : ∀ (r : List (Oper × It)) (i t : Nat) (d : D), slotS (selA listed) i r t d = d := by
        intro r
        induction r with
        | nil => intro _ _ _; rfl
        | cons p r ih => intro i t d; obtain ⟨o, it⟩ := p; simp only [slotS, hn]; exact ih _ _ _
      have h2 : ∀ (r : List (Oper × It)) (i t : Nat) (d : Option Ob), obS (selA listed) i r t d = d := by
        intro r
        induction r with
        | nil => intro _ _ _; rfl
        | cons p r ih => intro i t d; obtain ⟨o, it⟩ := p; simp only [obS, hn]; exact ih _ _ _
      exact ⟨h1 l 0, h2 l 0⟩
    refine wpAny_inv (I := InvR B ops l fr M) (fun listed a w hI i hi => ?_) (fun listed a w hI hr => ?_) (fun listed a w hI => hI.sz) _ _ _ _ ?_ ?_
    · obtain ⟨hun0, oi, hoi, hall⟩ := mem_ready.1 hi
      have hun : selA listed i = false := by
        unfold selA
        simp only [Array.getD_eq_getD_getElem?] at hun0 ⊢
        cases hg : listed[i]? with
        | none => rfl
        | some b => rw [hg] at hun0; simpa using hun0
      have hed : ∀ e ∈ edges oi, selA listed e = true := by
        intro e he
        obtain ⟨x, h1, h2, rfl⟩ := mem_edges.1 he
        exact hall x h1 h2
      obtain ⟨iti, hli⟩ := hal i oi (by rw [Array.getElem?_toList]; exact hoi)
      have hni := (hat i oi iti hli).1
      obtain ⟨sl', M', dead', hok, hsl, hM, hdead⟩ := TR_at l 0 _ _ _ hT i oi iti hli
      simp only [Nat.zero_add] at hsl hM hdead
      obtain ⟨E, hE, hN⟩ := hI.st
      have agree : ∀ (j : Nat) (oj : Oper) (itj : It), l[j]? = some (oj, itj) → selA listed j ≠ pickI i j →
          (∀ t, oj.dst = some t → t ∉ names ops.toList oi) ∧ (∀ k ∈ itj.foot.2, k ∉ iti.foot.1 ++ iti.foot.2) := by
        intro j oj itj hj hne
        have hc : (selA listed j = true ∧ i < j) ∨ (selA listed j = false ∧ j < i) := by
          cases hsj : selA listed j with
          | true =>
            left
            refine ⟨rfl, ?_⟩
            rw [hsj] at hne
            have h1 : ¬ j < i := by intro hlt; apply hne; simp [pickI, hlt]
            have h2 : j ≠ i := by intro e; subst e; rw [hun] at hsj; cases hsj
            omega
          | false =>
            right
            refine ⟨rfl, ?_⟩
            rw [hsj] at hne
            have h1 : pickI i j = true := by cases hp : pickI i j <;> simp_all
            simpa [pickI] using h1
        rcases apart_of hl hchk hI.sz hI.cl hli hun hed hj hc with h | h
        · obtain ⟨h1, h2, h3, h4⟩ := compat_spec h; exact ⟨h2, h4⟩
        · obtain ⟨h1, h2, h3, h4⟩ := compat_spec h; exact ⟨h1, h3⟩
      have slA : ∀ t ∈ names ops.toList oi, slotS (selA listed) 0 l t (gd fr t) = sl' t := by
        intro t ht
        rw [hsl t]
        refine slotS_congr l 0 _ fun j o it hj ho => ?_
        rw [Nat.zero_add]
        exact Classical.byContradiction fun hne => (agree j o it hj hne).1 t ho ht
      have obA : ∀ k ∈ iti.foot.1 ++ iti.foot.2, obS (selA listed) 0 l k (get M k) = get M' k := by
        intro k hk
        rw [hM k]
        refine obS_congr l 0 _ fun j o it hj ho => ?_
        rw [Nat.zero_add]
        exact Classical.byContradiction fun hne => by
          obtain ⟨y, hy⟩ := ho
          exact (agree j o it hj hne).2 k (post_foot hy) hk
      have frA : ∀ t ∈ names ops.toList oi, rel (sl' t) E (tv a t) := fun t ht => by rw [← slA t ht]; exact hE.frm t
      have thA : ∀ pre : Mem, There (get M') pre → (∀ p ∈ pre, p.1 ∈ iti.foot.1 ++ iti.foot.2) → There (fun id => obS (selA listed) 0 l id (get M id)) pre := by
        intro pre hth hf p hp
        show obS (selA listed) 0 l p.1 (get M p.1) = some p.2
        rw [obA p.1 (hf p hp)]; exact hth p hp
      have wan : ∀ b, GuardIs ops.toList oi sl' b → Region.wanted oi (yielded ops a.tmps) = b := by
        intro b hg
        unfold GuardIs at hg
        unfold Region.wanted
        cases hgd : oi.guard with
        | none => rw [hgd] at hg; simp only at hg ⊢; exact hg.symm
        | some p =>
          obtain ⟨g, want⟩ := p
          rw [hgd] at hg
          obtain ⟨og, t, h1, h2, h5⟩ := hg
          have := frA t (by simp [names, guardSlot, hgd, h1, h2])
          simp only
          rcases h5 with ⟨c, h3, h4⟩ | ⟨⟨u, h3⟩, h4⟩
          · rw [h3] at this
            rw [yielded_of h1 h2 this, h4]
            cases c <;> cases want <;> rfl
          · rw [h3] at this
            rw [yielded_no h1 h2 this, h4]
            cases want <;> rfl
      unfold wpOp
      rw [hoi]
      simp only
      cases iti with
      | run pre d post =>
        obtain ⟨hg, ⟨fr1, hfr1, hact, hsub⟩, hth⟩ := hok
        rw [wan true hg, if_pos rfl]
        refine .inl ?_
        have hres := hact E (fun id => obS (selA listed) 0 l id (get M id)) w a Q hE.inv (thA pre hth fun p hp => List.mem_append_left _ (List.mem_map.2 ⟨p, hp, rfl⟩))
          (fun j hj => hN i oi _ hli hun j (newIds_mem hj.1 hj.2)) (fun t ht => by rw [hfr1]; exact frA t (by simp [names, ht]))
        refine Oper.wp_mono (fun a' w' hh => ?_) hres
        obtain ⟨v, E', rfl, hdone, hv⟩ := hh
        refine hI.put hl hchk hnd hnews hd hli hun hed rfl hE hN hdone hv fun k hk => ?_
        by_cases hp : get pre k = none
        · exact .inl (newIds_mem hp hk)
        · right
          cases hg : get pre k with
          | none => exact absurd hg hp
          | some y =>
            have := thA pre hth (fun p hp => List.mem_append_left _ (List.mem_map.2 ⟨p, hp, rfl⟩)) (k, y) (get_mem hg)
            simp only at this; rw [this]; simp
      | skip =>
        rw [wan false hok]
        simp only [Bool.false_eq_true, if_false]
        exact hI.put hl hchk hnd hnews hd hli hun hed rfl hE hN (.nil hE.inv) (v := undef) rfl fun k hk => by cases hk
      | pan pre d =>
        obtain ⟨hg, ⟨fr1, hfr1, hact⟩, hth, hqp⟩ := hok
        rw [wan true hg, if_pos rfl]
        refine .inl ?_
        have hres := hact E (fun id => obS (selA listed) 0 l id (get M id)) w a Q hE.inv (thA pre hth fun p hp => List.mem_append_left _ (List.mem_map.2 ⟨p, hp, rfl⟩))
          (fun j hj => hj.elim) (fun t ht => by rw [hfr1]; exact frA t (by simp [names, ht]))
          (fun x E' w' hst him hx => hP d [] [] x a w' hqp (hE.pan hst him hx (fun id y hy => (by cases hy)) fun t => .inr rfl))
        exact Oper.wp_mono (fun _ _ hh => hh.elim) hres
      | dead =>
        obtain ⟨e, he, hde⟩ := anyIn_spec hok
        rcases hdead e hde with h | ⟨j, o', it', rfl, hj, hlj, hst⟩
        · cases h
        · have := hI.ns _ o' it' hlj (hed _ he)
          rw [this] at hst; cases hst
    · have hall : ∀ n j, j < n → j < ops.size → selA listed j = true := by
        intro n
        induction n with
        | zero => intro j h; omega
        | succ n ih =>
          intro j hj hjs
          by_cases hlt : j < n
          · exact ih j hlt hjs
          · cases hsj : selA listed j with
            | true => rfl
            | false =>
              have ho : ops[j]? = some ops[j] := Array.getElem?_eq_getElem hjs
              have : j ∈ Region.ready .any ops listed := by
                refine mem_ready.2 ⟨?_, ops[j], ho, fun e he hb => ?_⟩
                · have hz : j < listed.size := by rw [hI.sz]; exact hjs
                  unfold selA at hsj
                  simp only [Array.getD_eq_getD_getElem?, Array.getElem?_eq_getElem hz] at hsj ⊢
                  exact hsj
                · have h1 := rangeAll_spec hchk j (by simpa using hjs)
                  simp only [Bool.and_eq_true] at h1
                  have h2 := h1.1
                  unfold edgesOK at h2
                  rw [nth_get, Array.getElem?_toList, ho] at h2
                  have h3 := List.all_eq_true.1 h2 e.on (mem_edges.2 ⟨e, he, hb, rfl⟩)
                  have h4 : e.on < j := by simpa using h3
                  exact ih e.on (by omega) (by omega)
              rw [hr] at this; cases this
      have hsz : ∀ j, j < l.length → selA listed j = true := fun j hj => hall (j + 1) j (by omega) (by omega)
      have hnd2 : endDead l 0 [] = [] := endDead_of l 0 [] fun j o it hj => hI.ns j o it hj (hsz j (List.getElem?_eq_some_iff.1 hj).1)
      rw [hnd2] at hend
      obtain ⟨E, hE, _⟩ := hI.st
      refine hQ fr' (endMem l M) a w hend (hE.toSt ?_ ?_)
      · funext t
        rw [hfr', endSl_slotS l 0]
        exact slotS_congr l 0 _ fun j o it hj _ => by rw [Nat.zero_add]; exact hsz j (List.getElem?_eq_some_iff.1 hj).1
      · funext k
        rw [endMem_obS l 0]
        exact obS_congr l 0 _ fun j o it hj _ => by rw [Nat.zero_add]; exact hsz j (List.getElem?_eq_some_iff.1 hj).1
    · have hn : ∀ j, selA (Array.replicate ops.size false) j = false := by
        intro j
        unfold selA
        simp only [Array.getD_eq_getD_getElem?, Array.getElem?_replicate]
        split <;> rfl
      obtain ⟨h1, h2⟩ := none0 _ hn
      refine ⟨by simp, fun j o _ hs => (by rw [hn] at hs; cases hs), fun j o it _ hs => (by rw [hn] at hs; cases hs), E, ?_, fun j o it hj _ k hk => ?_⟩
      · simp only [h1, h2]; exact hs2
      · have hk2 := regNews_at (hat j o it hj).2 (hnews j o it hj k hk)
        rw [h2]
        exact ⟨(occM_get (hfm k hk2).2.2).1, hfor k hk2⟩
    · have := cnt_le (Array.replicate ops.size false).toList
      simpa using this
  · cases hreg
end Go.Dm
namespace Go.Dm
inductive AExit where
  | normal
  | exit (id : Nat)
  | ret
  | goto (l : Nat)
def AExit.real : AExit → Exit
  | .normal => .normal
  | .exit id => .exit id
  | .ret => .ret
  | .goto l => .goto l
abbrev KK := AExit → Fr → Mem → Prop
def thenK (J : Fr → Mem → Prop) (K : KK) : KK
  | .normal, fr, M => J fr M
  | .exit id, fr, M => K (.exit id) fr M
  | .ret, fr, M => K .ret fr M
  | .goto l, fr, M => K (.goto l) fr M
def blockK (id : Nat) (K : KK) : KK
  | .exit i, fr, M => match Nat.beq i id with
    | true => K .normal fr M
    | false => K (.exit i) fr M
  | .normal, fr, M => K .normal fr M
  | .ret, fr, M => K .ret fr M
  | .goto l, fr, M => K (.goto l) fr M
def noGo (K : KK) : KK
  | .goto _, _, _ => False
  | .normal, fr, M => K .normal fr M
  | .ret, fr, M => K .ret fr M
  | .exit i, fr, M => K (.exit i) fr M
def setc (fr : Fr) (c : Operand) (b : Bool) : Fr := match c with
  | .tmp t => (t, .v (.bool b)) :: fr
  | _ => fr
def wkF (fr : Fr) : Fr → Prop
  | [] => True
  | (t, d) :: r => gd fr t = d ∧ wkF fr r
def wkM (M : Mem) : Mem → Prop
  | [] => True
  | (k, x) :: r => get M k = some x ∧ wkM M r
structure Gh where
  k : Nat
  e : TypeId
  s : Nat
  t : Nat
def ghost : List Gh → Fr → Mem → (Fr → Mem → Prop) → Prop
  | [], fr, M, K => K fr M
  | ⟨k, e, s, t⟩ :: r, fr, M, K => match Nat.blt t 1000000 with
    | true => gd fr t = .v (.slice none 0 0) ∧ freshB fr M [k] = true ∧ ghost r ((t, .row k 0) :: fr) ((k, .row e s []) :: M) K
    | false => match get M ((t - 1000000) / 1000) with
      | some (.cells ds) => nth ds (t % 1000) = some (.v (.slice none 0 0)) ∧ freshB fr M [k] = true ∧ ghost r fr ((k, .row e s []) :: ((t - 1000000) / 1000, .cells (splice ds (t % 1000) [.row k 0])) :: M) K
      | _ => False
def Enter (gs : List Gh) (fr : Fr) (M : Mem) (fr' : Fr) (M' : Mem) : Prop := ghost gs fr M fun fr1 M1 => wkF fr1 fr' ∧ wkM M1 M'
structure NextG {ι : Type} (I : ι → Prop) (m : ι → Nat) (F : ι → Fr) (G : ι → Mem) (i : ι) (fr : Fr) (M : Mem) : Prop where
  ex : ∃ j, I j ∧ m j < m i ∧ Enter [] fr M (F j) (G j)
theorem NextG.to {ι : Type} {I : ι → Prop} {m : ι → Nat} {F : ι → Fr} {G : ι → Mem} {i : ι} {fr : Fr} {M : Mem} (j : ι) (h1 : I j) (h2 : m j < m i) (h3 : Enter [] fr M (F j) (G j)) : NextG I m F G i fr M := ⟨j, h1, h2, h3⟩
structure LoopW (W : KK → Fr → Mem → Prop) (K : KK) (fr : Fr) (M : Mem) : Prop where
  ex : ∃ (ι : Type) (I : ι → Prop) (m : ι → Nat) (F : ι → Fr) (G : ι → Mem) (gs : List Gh) (i : ι), I i ∧ Enter gs fr M (F i) (G i) ∧
    ∀ i, I i → W (thenK (NextG I m F G i) K) (F i) (G i)
theorem LoopW.to {W : KK → Fr → Mem → Prop} {K : KK} {fr : Fr} {M : Mem} {ι : Type} (I : ι → Prop) (m : ι → Nat) (F : ι → Fr) (G : ι → Mem) (gs : List Gh) (i : ι) (hI : I i) (h0 : Enter gs fr M (F i) (G i))
    (h : ∀ i, I i → W (thenK (NextG I m F G i) K) (F i) (G i)) : LoopW W K fr M := ⟨ι, I, m, F, G, gs, i, hI, h0, h⟩
def splitAt (l : Nat) : Code → Option (Code × Code)
  | .seq x y => match splitAt l x with
    | some (b, r) => some (b, .seq r y)
    | none => match splitAt l y with
      | some (b, r) => some (.seq x b, r)
      | none => none
  | .label l' => match Nat.beq l' l with
    | true => some (.skip, .skip)
    | false => none
  | _ => none
structure GotoG {ι : Type} (I : ι → Prop) (m : ι → Nat) (F : ι → Fr) (G : ι → Mem) (bound : Option Nat) (fr : Fr) (M : Mem) : Prop where
  ex : ∃ (j : ι) (gs : List Gh), I j ∧ (∀ k, bound = some k → m j < k) ∧ Enter gs fr M (F j) (G j)
theorem GotoG.first {ι : Type} {I : ι → Prop} {m : ι → Nat} {F : ι → Fr} {G : ι → Mem} {fr : Fr} {M : Mem} (j : ι) (gs : List Gh) (h1 : I j) (h2 : Enter gs fr M (F j) (G j)) : GotoG I m F G none fr M := ⟨j, gs, h1, fun _ h => (by cases h), h2⟩
theorem GotoG.again {ι : Type} {I : ι → Prop} {m : ι → Nat} {F : ι → Fr} {G : ι → Mem} {k : Nat} {fr : Fr} {M : Mem} (j : ι) (h1 : I j) (h : m j < k) (h2 : Enter [] fr M (F j) (G j)) : GotoG I m F G (some k) fr M := ⟨j, [], h1, fun _ e => (by injection e with e; subst e; exact h), h2⟩
def scopeK {ι : Type} (rec : Code → KK → Fr → Mem → Prop) (x : Code) (l0 : Nat) (I : ι → Prop) (m : ι → Nat) (F : ι → Fr) (G : ι → Mem) (bound : Option Nat) (K : KK) : KK
  | .goto l, fr, M => match Nat.beq l l0 with
    | true => GotoG I m F G bound fr M
    | false => match findLabel x l with
      | some r => rec r (noGo K) fr M
      | none => False
  | .normal, fr, M => K .normal fr M
  | .ret, fr, M => K .ret fr M
  | .exit i, fr, M => K (.exit i) fr M
structure ScopeW (rec : Code → KK → Fr → Mem → Prop) (x : Code) (K : KK) (fr : Fr) (M : Mem) : Prop where
  ex : rec x (noGo K) fr M ∨ ∃ (ι : Type) (l0 : Nat) (I : ι → Prop) (m : ι → Nat) (F : ι → Fr) (G : ι → Mem) (b r : Code), splitAt l0 x = some (b, r) ∧
    rec b (thenK (GotoG I m F G none) (scopeK rec x l0 I m F G none K)) fr M ∧ ∀ i, I i → rec r (scopeK rec x l0 I m F G (some (m i)) K) (F i) (G i)
theorem ScopeW.straight {rec : Code → KK → Fr → Mem → Prop} {x : Code} {K : KK} {fr : Fr} {M : Mem} (h : rec x (noGo K) fr M) : ScopeW rec x K fr M := ⟨.inl h⟩
theorem ScopeW.loop {rec : Code → KK → Fr → Mem → Prop} {x : Code} {K : KK} {fr : Fr} {M : Mem} {ι : Type} (l0 : Nat) (I : ι → Prop) (m : ι → Nat) (F : ι → Fr) (G : ι → Mem) {b r : Code} (hs : splitAt l0 x = some (b, r))
    (h1 : rec b (thenK (GotoG I m F G none) (scopeK rec x l0 I m F G none K)) fr M) (h2 : ∀ i, I i → rec r (scopeK rec x l0 I m F G (some (m i)) K) (F i) (G i)) : ScopeW rec x K fr M :=
  ⟨.inr ⟨ι, l0, I, m, F, G, b, r, hs, h1, h2⟩⟩
def awpS (C : Ctx) (news : List Nat) (n : Nat) (Qp : D → Fr → Mem → Prop) (rec : Code → KK → Fr → Mem → Prop) : Code → KK → Fr → Mem → Prop
  | .skip, K, fr, M => K .normal fr M
  | .label _, K, fr, M => K .normal fr M
  | .region _ ops draw, K, fr, M => match dstOK n ops.toList with
    | true => match draw with
      | false => seqW C news ops.toList Qp ops.toList fr M [] (K .normal)
      | true => match regOK n news ops.toList fr M with
        | true => drawW C news ops.toList Qp ops.toList 0 fr M [] [] [] fun fr' M' dead fps => chk ops.toList fps = true ∧ (match dead with | [] => K .normal fr' M' | _ => True)
        | false => False
    | false => False
  | .seq x y, K, fr, M => awpS C news n Qp rec x (thenK (awpS C news n Qp rec y K) K) fr M
  | .cond c x y, K, fr, M => match ev fr c with
    | .v (.bool b) => Split b (awpS C news n Qp rec x K (setc fr c true) M) (awpS C news n Qp rec y K (setc fr c false) M)
    | _ => False
  | .block id x, K, fr, M => awpS C news n Qp rec x (blockK id K) fr M
  | .loop x, K, fr, M => LoopW (awpS C news n Qp rec x) K fr M
  | .exit id, K, fr, M => K (.exit id) fr M
  | .goto l, K, fr, M => K (.goto l) fr M
  | .ret, K, fr, M => K .ret fr M
  | .scope x, K, fr, M => ScopeW rec x K fr M
  | _, _, _, _ => False
def awp (C : Ctx) (news : List Nat) (n : Nat) (Qp : D → Fr → Mem → Prop) (c : Code) (K : KK) (fr : Fr) (M : Mem) : Prop :=
  awpS C news n Qp (awpS C news n Qp fun _ _ _ _ => False) c K fr M
theorem StE.ev {B : Base} {sl : Nat → D} {fr : Fr} {N : Nat → Option Ob} {E : Env} {a : Act} {w : World} (h : StE B (gd fr) N E a w) (x : Operand) : rel (ev fr x) E (a.eval x) := by
  cases x with
  | tmp t =>
    rcases ev_tmp fr t with ⟨hlt, e⟩ | e
    · rw [e]
      have := h.frm t
      unfold tv at this
      rw [if_neg (by omega), if_neg (by omega)] at this
      exact this
    · rw [e]; trivial
  | const v => exact rel_cv E v
  | func f => exact ⟨[], by simp [Act.eval], rfl⟩
  | global g =>
    have := h.frm (100000 + g)
    unfold tv at this
    rw [if_neg (by omega), if_pos (by omega), Nat.add_sub_cancel_left] at this
    exact this
theorem St.gd_eq {B : Base} {fr fr' : Fr} {M : Mem} {a : Act} {w : World} (h : St B fr M a w) (he : gd fr' = gd fr) : St B fr' M a w := by
  obtain ⟨E, h⟩ := h
  exact ⟨E, by rw [he]; exact h⟩
theorem St.setc {B : Base} {fr : Fr} {M : Mem} {a : Act} {w : World} {c : Operand} {b b' : Bool} (h : St B fr M a w) (hc : ev fr c = .v (.bool b)) (he : b = b') : St B (setc fr c b') M a w := by
  cases c with
  | tmp t =>
    rcases ev_tmp fr t with ⟨hlt, e⟩ | e
    · rw [e] at hc
      exact h.gd_eq (gd_same hc he)
    · rw [e] at hc; cases hc
  | _ => exact h
theorem wkF_gd {fr : Fr} : ∀ {fr' : Fr}, wkF fr fr' → ∀ t, gd fr' t = gd fr t ∨ gd fr' t = .bot
  | [], _, t => .inr rfl
  | (k, d) :: r, ⟨h1, h2⟩, t => by
    unfold gd
    rw [get_cons]
    by_cases e : k = t
    · subst e
      rw [if_pos rfl]
      exact .inl h1.symm
    · rw [if_neg e]; exact wkF_gd h2 t
theorem wkM_get {M : Mem} : ∀ {M' : Mem}, wkM M M' → ∀ id x, get M' id = some x → get M id = some x
  | [], _, _, _, h => by cases h
  | (k, y) :: r, ⟨h1, h2⟩, id, x, h => by
    rw [get_cons] at h
    split at h
    · rename_i e; subst e; injection h with h; subst h; exact h1
    · exact wkM_get h2 id x h
theorem St.weak {B : Base} {fr fr' : Fr} {M M' : Mem} {a : Act} {w : World} (h : St B fr M a w) (h1 : wkF fr fr') (h2 : wkM M M') : St B fr' M' a w := by
  obtain ⟨E, h⟩ := h
  refine ⟨E, h.inv.sub (wkM_get h2), fun t => ?_, h.size, h.small, h.defers, h.step, fun id x b hx hb => h.bd id x b (wkM_get h2 id x hx) hb⟩
  rcases wkF_gd h1 t with e | e
  · rw [e]; exact h.frm t
  · rw [e]; trivial
def Env.nilRow (E : Env) (k : Nat) : Env := ⟨E.im, E.blk, fun j n => if j = k then (if n = 0 then some (.slice none 0 0) else none) else E.hdr j n⟩
theorem nilRow_le {E : Env} {k : Nat} (h : ∀ n, E.hdr k n = none) : E.le (E.nilRow k) :=
  ⟨fun _ _ _ h => h, fun _ _ h => h, fun j n v hv => by
    simp only [Env.nilRow]
    split
    · rename_i e; subst e; rw [h] at hv; cases hv
    · exact hv⟩
theorem St.ghost1 {B : Base} (hB : ∀ k, B.ids k → 1000 ≤ k) {fr : Fr} {M : Mem} {a : Act} {w : World} {k s t : Nat} {e : TypeId} (h : St B fr M a w) (h1 : gd fr t = .v (.slice none 0 0)) (h2 : freshB fr M [k] = true) : St B ((t, .row k 0) :: fr) ((k, .row e s []) :: M) a w := by
  obtain ⟨E0, h0⟩ := h
  have hm := freshB_mem h2
  obtain ⟨E, h, hfor, _⟩ := St.forgetAll hB _ hm E0 h0
  obtain ⟨hk1, hk2⟩ := hfor k (by simp)
  have hk3 := hm k (by simp)
  have hN : get M k = none := (occM_get hk3.2.2).1
  have le := nilRow_le hk2
  have hh : ∀ j, j ≠ k → (E.nilRow k).hdr j = E.hdr j := fun j hj => by funext n; simp [Env.nilRow, hj]
  have hob : ∀ id x, get M id = some x → ObOK (E.nilRow k) id w x := by
    intro id x hx
    have hne : id ≠ k := by intro e; subst e; rw [hN] at hx; cases hx
    refine (h.inv.ob id x hx).keep (w := w) (E' := E.nilRow k) (own := fun _ => False) ⟨le, Nat.le_refl _, fun _ _ _ => rfl, fun b o v hv => .inl hv, rfl, rfl, rfl⟩ (fun _ _ h => h) fun n v hv => ?_
    rw [hh id hne] at hv; exact hv
  have hbk : ∀ id x, get M id = some x → obBlk (E.nilRow k) id x = obBlk E id x := fun id x hx => obBlk_le le (h.inv.ob id x hx)
  have hnew : obBlk (E.nilRow k) k (.row e s []) = none := by simp [obBlk, Env.nilRow, hdrBlk]
  refine ⟨E.nilRow k, ⟨⟨h.inv.im, fun id x hx => ?_, fun i j x y b hx hy hxb hyb => ?_, h.inv.gl⟩, fun u => ?_, h.size, h.small, h.defers, ?_, fun id x b hx hb => ?_⟩⟩
  · rw [get_cons] at hx
    split at hx
    · rename_i e'; subst e'; injection hx with hx; subst hx
      refine ⟨fun n v hv => ?_, .inl ⟨by simp [Env.nilRow], rfl⟩⟩
      simp only [Env.nilRow, if_true] at hv
      split at hv
      · rename_i e'; subst e'; injection hv with hv; subst hv
        exact ⟨Nat.le_refl _, none, 0, rfl, Nat.le_refl _, fun h => absurd rfl h⟩
      · cases hv
    · exact hob id x hx
  · rw [get_cons] at hx hy
    split at hx
    · rename_i e'; subst e'; injection hx with hx; subst hx
      rw [hnew] at hxb; cases hxb
    · split at hy
      · rename_i e'; subst e'; injection hy with hy; subst hy
        rw [hnew] at hyb; cases hyb
      · rw [hbk i x hx] at hxb
        rw [hbk j y hy] at hyb
        exact h.inv.sep i j x y b hx hy hxb hyb
  · unfold gd
    rw [get_cons]
    by_cases hu : t = u
    · subst hu
      rw [if_pos rfl]
      have := h.frm t
      rw [h1] at this
      have h' : tv a t = .slice none 0 0 := this
      rw [h']
      exact ⟨by simp [Env.nilRow], rfl⟩
    · rw [if_neg hu]
      exact rel_mono _ le (h.frm u)
  · refine ⟨h.step.im, h.step.blk, fun j hj n v hv => ?_, h.step.size, h.step.frame, h.step.new, h.step.os, h.step.tape, h.step.output⟩
    rw [hh j (by intro e'; subst e'; have := hB _ hj; omega)]
    exact h.step.hdr j hj n v hv
  · rw [get_cons] at hx
    split at hx
    · rename_i e'; subst e'; injection hx with hx; subst hx
      rw [hnew] at hb; cases hb
    · rw [hbk id x hx] at hb
      exact h.bd id x b hx hb
theorem splice_self {α : Type} {l : List α} {c : Nat} {x : α} (h : l[c]? = some x) : splice l c [x] = l := by
  have hl := (List.getElem?_eq_some_iff.1 h).1
  apply List.ext_getElem?
  intro i
  rw [splice_get (by simp; omega)]
  split
  · rename_i hi
    simp at hi
    obtain rfl : i = c := by omega
    simp [h]
  · rfl
theorem St.ghost1c {B : Base} (hB : ∀ k, B.ids k → 1000 ≤ k) {fr : Fr} {M : Mem} {a : Act} {w : World} {k s o c : Nat} {e : TypeId} {ds : List D} (h : St B fr M a w) (hg : get M o = some (.cells ds)) (h1 : nth ds c = some (.v (.slice none 0 0))) (h2 : freshB fr M [k] = true) :
    St B fr ((k, .row e s []) :: (o, .cells (splice ds c [.row k 0])) :: M) a w := by
  obtain ⟨E0, h0⟩ := h
  have hm := freshB_mem h2
  obtain ⟨E, h, hfor, _⟩ := St.forgetAll hB _ hm E0 h0
  obtain ⟨hk1, hk2⟩ := hfor k (by simp)
  have hk3 := hm k (by simp)
  have hN : get M k = none := (occM_get hk3.2.2).1
  have hko : k ≠ o := by intro e; subst e; rw [hN] at hg; cases hg
  have le := nilRow_le hk2
  have hh : ∀ j, j ≠ k → (E.nilRow k).hdr j = E.hdr j := fun j hj => by funext n; simp [Env.nilRow, hj]
  have hnew : obBlk (E.nilRow k) k (.row e s []) = none := by simp [obBlk, Env.nilRow, hdrBlk]
  have hob : ∀ id x, get M id = some x → ObOK (E.nilRow k) id w x := by
    intro id x hx
    have hne : id ≠ k := by intro e; subst e; rw [hN] at hx; cases hx
    refine (h.inv.ob id x hx).keep (w := w) (E' := E.nilRow k) (own := fun _ => False) ⟨le, Nat.le_refl _, fun _ _ _ => rfl, fun b o v hv => .inl hv, rfl, rfl, rfl⟩ (fun _ _ h => h) fun n v hv => ?_
    rw [hh id hne] at hv; exact hv
  have hbk : ∀ id x, get M id = some x → obBlk (E.nilRow k) id x = obBlk E id x := fun id x hx => obBlk_le le (h.inv.ob id x hx)
  -- what stands at an id now, and what stood there
  have key : ∀ id x, get ((k, .row e s []) :: (o, .cells (splice ds c [.row k 0])) :: M) id = some x → (id = k ∧ x = .row e s []) ∨ ∃ y, get M id = some y ∧ obBlk (E.nilRow k) id x = obBlk E id y ∧ (x = y ∨ (id = o ∧ x = .cells (splice ds c [.row k 0]))) := by
    intro id x hx
    rw [get_cons] at hx
    split at hx
    · rename_i e'; injection hx with hx; exact .inl ⟨e'.symm, hx.symm⟩
    · rw [get_cons] at hx
      split at hx
      · rename_i e'
        subst e'
        injection hx with hx; subst hx
        refine .inr ⟨_, hg, ?_, .inr ⟨rfl, rfl⟩⟩
        have := hbk o _ hg
        simpa [obBlk] using this
      · exact .inr ⟨x, hx, hbk id x hx, .inl rfl⟩
  refine ⟨E.nilRow k, ⟨⟨h.inv.im, fun id x hx => ?_, fun i j x y b hx hy hxb hyb => ?_, h.inv.gl⟩, fun u => ?_, h.size, h.small, h.defers, ?_, fun id x b hx hb => ?_⟩⟩
  · rcases key id x hx with ⟨rfl, rfl⟩ | ⟨y, hy, _, rfl | ⟨rfl, rfl⟩⟩
    · refine ⟨fun n v hv => ?_, .inl ⟨by simp [Env.nilRow], rfl⟩⟩
      simp only [Env.nilRow, if_true] at hv
      split at hv
      · rename_i e'; subst e'; injection hv with hv; subst hv
        exact ⟨Nat.le_refl _, none, 0, rfl, Nat.le_refl _, fun h => absurd rfl h⟩
      · cases hv
    · exact hob id x hy
    · obtain ⟨b, cc, T, g1, g2, g3, g4⟩ := hob id _ hg
      refine ⟨b, cc, T, g1, g2, ?_, g4⟩
      have hc : cc.toList[c]? = some (.slice none 0 0) := by
        rw [nth_get] at h1
        obtain ⟨v, hv1, hv2⟩ := rels_get g3 h1
        have : v = .slice none 0 0 := hv2
        rw [hv1, this]
      have := rels_splice (cs := [.row k 0]) (vs := [.slice none 0 0]) g3 ⟨_, [], rfl, ⟨by simp [Env.nilRow], rfl⟩, rfl⟩ c
      rwa [splice_self hc] at this
  · rcases key i x hx with ⟨rfl, rfl⟩ | ⟨x', hx', ex, _⟩
    · rw [hnew] at hxb; cases hxb
    · rcases key j y hy with ⟨rfl, rfl⟩ | ⟨y', hy', ey, _⟩
      · rw [hnew] at hyb; cases hyb
      · rw [ex] at hxb; rw [ey] at hyb
        exact h.inv.sep i j x' y' b hx' hy' hxb hyb
  · exact rel_mono _ le (h.frm u)
  · refine ⟨h.step.im, h.step.blk, fun j hj n v hv => ?_, h.step.size, h.step.frame, h.step.new, h.step.os, h.step.tape, h.step.output⟩
    rw [hh j (by intro e'; subst e'; have := hB _ hj; omega)]
    exact h.step.hdr j hj n v hv
  · rcases key id x hx with ⟨rfl, rfl⟩ | ⟨y, hy, e1, _⟩
    · rw [hnew] at hb; cases hb
    · rw [e1] at hb
      exact h.bd id y b hy hb
theorem St.ghost {B : Base} (hB : ∀ k, B.ids k → 1000 ≤ k) {K : Fr → Mem → Prop} : ∀ {gs : List Gh} {fr : Fr} {M : Mem} {a : Act} {w : World}, St B fr M a w → ghost gs fr M K → ∃ fr' M', K fr' M' ∧ St B fr' M' a w
  | [], fr, M, a, w, h, hg => ⟨fr, M, hg, h⟩
  | ⟨k, e, s, t⟩ :: r, fr, M, a, w, h, hg => by
    simp only [Dm.ghost] at hg
    split at hg
    · obtain ⟨h1, h2, h3⟩ := hg
      exact St.ghost hB (h.ghost1 hB h1 h2) h3
    · split at hg
      · rename_i ds hgo
        obtain ⟨h1, h2, h3⟩ := hg
        exact St.ghost hB (h.ghost1c hB hgo h1 h2) h3
      · exact hg.elim
theorem St.enter {B : Base} (hB : ∀ k, B.ids k → 1000 ≤ k) {gs : List Gh} {fr fr' : Fr} {M M' : Mem} {a : Act} {w : World} (h : St B fr M a w) (he : Enter gs fr M fr' M') : St B fr' M' a w := by
  obtain ⟨fr1, M1, ⟨h1, h2⟩, h3⟩ := h.ghost hB he
  exact h3.weak h1 h2
def scopeQ (c : Code) (I : Nat → Nat → Act → World → Prop) (n : Option Nat) (Q : Exit → Act → World → Prop) : Exit → Act → World → Prop
  | .goto l, a, w => ∃ r n', findLabel c l = some r ∧ (∀ k, n = some k → n' < k) ∧ I l n' a w
  | .normal, a, w => Q .normal a w
  | .exit i, a, w => Q (.exit i) a w
  | .ret, a, w => Q .ret a w
  | .panic ch, a, w => Q (.panic ch) a w
  | .outgrown, a, w => Q .outgrown a w
theorem wp_scope_labels {P : Program} {Q : Exit → Act → World → Prop} {c : Code} (I : Nat → Nat → Act → World → Prop) {a : Act} {w : World} (h0 : c.wp P (scopeQ c I none Q) a w)
    (hr : ∀ l r n a w, findLabel c l = some r → I l n a w → r.wp P (scopeQ c I (some n) Q) a w) : (Code.scope c).wp P Q a w := by
  intro b k cs
  have fin : ∀ (n : Option Nat) (m : Machine) e a₁ w₁, (∀ n', (∀ j, n = some j → n' < j) → ∀ l r a w, findLabel c l = some r → I l n' a w → ∃ e a' w', Q e a' w' ∧ Arrives P (lone (b.at a (.code r :: .inScope c :: k)) cs w) b k cs e a' w') →
      scopeQ c I n Q e a₁ w₁ → Arrives P m b (.inScope c :: k) cs e a₁ w₁ → ∃ e a' w', Q e a' w' ∧ Arrives P m b k cs e a' w' := by
    intro n m e a₁ w₁ hn hq harr
    cases e with
    | normal => exact ⟨.normal, a₁, w₁, hq, Steps.trans harr (.one step_inScope)⟩
    | exit id => exact ⟨.exit id, a₁, w₁, hq, fun k' hk => harr k' (by simp [exitTo, hk])⟩
    | goto l =>
      obtain ⟨r, n', h1, h2, h3⟩ := hq
      obtain ⟨e, a', w', h4, h5⟩ := hn n' h2 l r a₁ w₁ h1 h3
      exact ⟨e, a', w', h4, .of_steps (harr (.code r :: .inScope c :: k) (by simp [gotoIn, h1])) h5⟩
    | ret => exact ⟨.ret, a₁, w₁, hq, harr⟩
    | panic ch => exact ⟨.panic ch, a₁, w₁, hq, harr⟩
    | outgrown => exact ⟨.outgrown, a₁, w₁, hq, harr⟩
  have key : ∀ n l r a w, findLabel c l = some r → I l n a w → ∃ e a' w', Q e a' w' ∧ Arrives P (lone (b.at a (.code r :: .inScope c :: k)) cs w) b k cs e a' w' := by
    intro n
    induction n using Nat.strongRecOn with
    | _ n ih =>
      intro l r a w hf hI
      obtain ⟨e, a₁, w₁, hq, harr⟩ := hr l r n a w hf hI b (.inScope c :: k) cs
      exact fin (some n) _ e a₁ w₁ (fun n' hn' => ih n' (hn' n rfl)) hq harr
  obtain ⟨e, a₁, w₁, hq, harr⟩ := h0 b (.inScope c :: k) cs
  obtain ⟨e', a', w', h1, h2⟩ := fin none _ e a₁ w₁ (fun n' _ => key n') hq harr
  exact ⟨e', a', w', h1, .of_steps (.one step_scope) h2⟩
theorem find_split (l : Nat) : ∀ x : Code, findLabel x l = (splitAt l x).map (·.2)
  | .seq x y => by
    simp only [findLabel, splitAt]
    rw [find_split l x, find_split l y]
    cases splitAt l x <;> cases splitAt l y <;> rfl
  | .label l' => by
    simp only [findLabel, splitAt]
    cases hb : Nat.beq l' l with
    | true => have := beq_eq hb; subst this; simp
    | false => have := beq_ne hb; simp [this]
  | .skip | .region .. | .cond .. | .block .. | .loop .. | .rangeFunc .. | .exit .. | .scope .. | .goto .. | .ret | .refuse .. => rfl
theorem thenK_thenK (J J' : Fr → Mem → Prop) (K : KK) : thenK J (thenK J' K) = thenK J K := by
  funext e fr M
  cases e <;> rfl
def SoundR (C : Ctx) (B : Base) (Qp : D → Fr → Mem → Prop) (W : Code → KK → Fr → Mem → Prop) (c : Code) : Prop :=
  ∀ (K : KK) (fr : Fr) (M : Mem) (Q : Exit → Act → World → Prop) (a : Act) (w : World), W c K fr M →
    (∀ d fr M x a w, Qp d fr M → PanSt B d fr M x a w → Q (.panic [⟨x, false, false⟩]) a w) →
    (∀ e fr M a w, K e fr M → St B fr M a w → Q e.real a w) → St B fr M a w → c.wp C.P Q a w
theorem awpS_sound {C : Ctx} (hC : C.OK) {news : List Nat} {Qp : D → Fr → Mem → Prop} {B : Base} (hB : ∀ k, B.ids k → 1000 ≤ k) {rec : Code → KK → Fr → Mem → Prop}
    (hrec : ∀ c, SoundR C B Qp rec c)
    (hsplit : ∀ {ι : Type} (I : ι → Prop) (F : ι → Fr) (G : ι → Mem) (l : Nat) (x b r : Code), splitAt l x = some (b, r) → ∀ (J : Fr → Mem → Prop) (K : KK) (Ki : ι → KK) (fr : Fr) (M : Mem) (Q : Exit → Act → World → Prop) (a : Act) (w : World),
      rec b (thenK J K) fr M → (∀ i, I i → rec r (Ki i) (F i) (G i)) → (∀ fr M a w, J fr M → St B fr M a w → ∃ i, I i ∧ St B (F i) (G i) a w) →
      (∀ d fr M x a w, Qp d fr M → PanSt B d fr M x a w → Q (.panic [⟨x, false, false⟩]) a w) →
      (∀ e fr M a w, K e fr M → (e ≠ .normal) → St B fr M a w → Q e.real a w) → (∀ i e fr M a w, Ki i e fr M → St B fr M a w → Q e.real a w) → St B fr M a w → x.wp C.P Q a w) :
    ∀ (c : Code), SoundR C B Qp (awpS C news B.n Qp rec) c
  | .skip, K, fr, M, Q, a, w, h, hP, hQ, hs => wp_skip (hQ _ _ _ _ _ h hs)
  | .label _, K, fr, M, Q, a, w, h, hP, hQ, hs => wp_label (hQ .normal _ _ _ _ h hs)
  | .exit _, K, fr, M, Q, a, w, h, hP, hQ, hs => wp_exit (hQ (.exit _) _ _ _ _ h hs)
  | .goto _, K, fr, M, Q, a, w, h, hP, hQ, hs => wp_goto (hQ (.goto _) _ _ _ _ h hs)
  | .ret, K, fr, M, Q, a, w, h, hP, hQ, hs => wp_ret (hQ .ret _ _ _ _ h hs)
  | .region id ops draw, K, fr, M, Q, a, w, h, hP, hQ, hs => by
    simp only [awpS] at h
    split at h
    · rename_i hd
      cases draw with
      | false =>
        simp only at h
        exact wp_region_list (seq_sound hC hB (fun fr M a w hk hs => hQ .normal fr M a w hk hs) hP _ _ _ _ _ _ h hd (fun t b hb => by cases hb) hs)
      | true =>
        simp only at h
        split at h
        · rename_i hr
          exact draw_sound hC hB (fun fr M a w hk hs => hQ .normal fr M a w hk hs) hP h hr hd hs
        · exact h.elim
    · exact h.elim
  | .seq x y, K, fr, M, Q, a, w, h, hP, hQ, hs => by
    refine wp_seq (awpS_sound hC hB hrec hsplit x _ fr M _ a w h hP (fun e fr M a w hk hs => ?_) hs)
    cases e with
    | normal => exact awpS_sound hC hB hrec hsplit y K fr M Q a w hk hP hQ hs
    | exit id => exact hQ _ _ _ _ _ hk hs
    | ret => exact hQ _ _ _ _ _ hk hs
    | goto l => exact hQ _ _ _ _ _ hk hs
  | .cond c x y, K, fr, M, Q, a, w, h, hP, hQ, hs => by
    simp only [awpS] at h
    split at h
    · rename_i b hb
      have hc : a.eval c = .bool b := by
        obtain ⟨E, hE⟩ := hs
        have := hE.ev (sl := gd fr) c
        rw [hb] at this
        exact this
      exact wp_cond_split hc (fun e => awpS_sound hC hB hrec hsplit x K _ M Q a w (h.t e) hP hQ (hs.setc hb e)) (fun e => awpS_sound hC hB hrec hsplit y K _ M Q a w (h.f e) hP hQ (hs.setc hb e))
    · exact h.elim
  | .block id x, K, fr, M, Q, a, w, h, hP, hQ, hs => by
    refine wp_block (awpS_sound hC hB hrec hsplit x _ fr M _ a w h hP (fun e fr M a w hk hs => ?_) hs)
    cases e with
    | normal => exact hQ .normal _ _ _ _ hk hs
    | exit i =>
      simp only [blockK] at hk
      split at hk
      · rename_i e
        have := beq_eq e
        subst this
        simp only [AExit.real, Exit.inBlock, if_true]
        exact hQ .normal _ _ _ _ hk hs
      · rename_i e
        have := beq_ne e
        simp only [AExit.real, Exit.inBlock, this, if_false]
        exact hQ (.exit i) _ _ _ _ hk hs
    | ret => exact hQ .ret _ _ _ _ hk hs
    | goto l => exact hQ (.goto l) _ _ _ _ hk hs
  | .loop x, K, fr, M, Q, a, w, h, hP, hQ, hs => by
    obtain ⟨ι, I, m, F, G, gs, i, hI, h0, h1⟩ := h.ex
    refine wp_loop_ghost (fun n a w => ∃ i, m i = n ∧ I i ∧ St B (F i) (G i) a w) (m i) ⟨i, rfl, hI, hs.enter hB h0⟩ ?_
    rintro n a w ⟨i, rfl, hI, hs⟩
    refine awpS_sound hC hB hrec hsplit x _ (F i) (G i) _ a w (h1 i hI) hP (fun e fr M a w hk hs => ?_) hs
    cases e with
    | normal =>
      obtain ⟨j, h2, h3, h4⟩ := hk.ex
      exact ⟨m j, h3, j, rfl, h2, hs.enter hB h4⟩
    | exit id => exact hQ _ _ _ _ _ hk hs
    | ret => exact hQ _ _ _ _ _ hk hs
    | goto l => exact hQ _ _ _ _ _ hk hs
  | .scope x, K, fr, M, Q, a, w, h, hP, hQ, hs => by
    rcases h.ex with h | ⟨ι, l0, I, m, F, G, b, r, hsp, h1, h2⟩
    · refine wp_scope_straight (hrec x _ fr M _ a w h hP (fun e fr M a w hk hs => ?_) hs)
      cases e with
      | normal => exact hQ .normal _ _ _ _ hk hs
      | exit id => exact hQ (.exit id) _ _ _ _ hk hs
      | ret => exact hQ .ret _ _ _ _ hk hs
      | goto l => exact hk.elim
    · have hfl : findLabel x l0 = some r := by rw [find_split, hsp]; rfl
      let I' : Nat → Nat → Act → World → Prop := fun l n a w => (l = l0 ∧ ∃ i, I i ∧ m i + 1 = n ∧ St B (F i) (G i) a w) ∨ (l ≠ l0 ∧ n = 0 ∧ ∃ r fr M, findLabel x l = some r ∧ rec r (noGo K) fr M ∧ St B fr M a w)
      have out : ∀ (bound : Option Nat) e fr M a w, scopeK rec x l0 I m F G bound K e fr M → St B fr M a w → scopeQ x I' (bound.map (· + 1)) Q e.real a w := by
        intro bound e fr M a w hk hs
        cases e with
        | normal => exact hQ .normal _ _ _ _ hk hs
        | exit id => exact hQ (.exit id) _ _ _ _ hk hs
        | ret => exact hQ .ret _ _ _ _ hk hs
        | goto l =>
          simp only [scopeK] at hk
          split at hk
          · rename_i e
            have := beq_eq e; subst this
            obtain ⟨j, gs, g1, g2, g3⟩ := hk.ex
            refine ⟨r, m j + 1, hfl, fun k hk => ?_, .inl ⟨rfl, j, g1, rfl, hs.enter hB g3⟩⟩
            cases bound with
            | none => cases hk
            | some c => simp at hk; have := g2 c rfl; omega
          · rename_i e
            have := beq_ne e
            split at hk
            · rename_i r' hr'
              refine ⟨r', 0, hr', fun k hk => ?_, .inr ⟨this, rfl, r', fr, M, hr', hk, hs⟩⟩
              cases bound with
              | none => cases hk
              | some c => simp at hk; omega
            · exact hk.elim
      refine wp_scope_labels I' ?_ ?_
      · refine hsplit I F G l0 x b r hsp (GotoG I m F G none) (scopeK rec x l0 I m F G none K) (fun i => scopeK rec x l0 I m F G (some (m i)) K) fr M _ a w h1 h2 ?_ ?_ ?_ ?_ hs
        · rintro fr M a w hk hs
          obtain ⟨j, gs, g1, _, g3⟩ := hk.ex
          exact ⟨j, g1, hs.enter hB g3⟩
        · exact hP
        · exact fun e fr M a w hk _ hs => out none e fr M a w hk hs
        · intro i e fr M a w hk hs
          have := out (some (m i)) e fr M a w hk hs
          cases e with
          | goto l =>
            obtain ⟨r, n', g1, _, g3⟩ := this
            exact ⟨r, n', g1, fun _ h => (by cases h), g3⟩
          | normal => exact this
          | exit id => exact this
          | ret => exact this
      · rintro l r' n a w hf (⟨rfl, i, hI, rfl, hs⟩ | ⟨hne, rfl, r2, fr, M, hf2, hr, hs⟩)
        · rw [hfl] at hf
          injection hf with hf; subst hf
          exact hrec r _ (F i) (G i) _ a w (h2 i hI) hP (fun e fr M a w hk hs => out (some (m i)) e fr M a w hk hs) hs
        · rw [hf] at hf2
          injection hf2 with hf2; subst hf2
          refine hrec r' _ fr M _ a w hr hP (fun e fr M a w hk hs => ?_) hs
          cases e with
          | normal => exact hQ .normal _ _ _ _ hk hs
          | exit id => exact hQ (.exit id) _ _ _ _ hk hs
          | ret => exact hQ .ret _ _ _ _ hk hs
          | goto l => exact hk.elim
  | .rangeFunc .., K, fr, M, Q, a, w, h, hP, hQ, hs => h.elim
  | .refuse _, K, fr, M, Q, a, w, h, hP, hQ, hs => h.elim
theorem awpS_split {C : Ctx} {news : List Nat} {Qp : D → Fr → Mem → Prop} {B : Base} {rec : Code → KK → Fr → Mem → Prop} (hsnd : ∀ c, SoundR C B Qp (awpS C news B.n Qp rec) c) {ι : Type} (I : ι → Prop) (F : ι → Fr) (G : ι → Mem) (l : Nat) :
    ∀ (x b r : Code), splitAt l x = some (b, r) → ∀ (J : Fr → Mem → Prop) (K : KK) (Ki : ι → KK) (fr : Fr) (M : Mem) (Q : Exit → Act → World → Prop) (a : Act) (w : World),
      awpS C news B.n Qp rec b (thenK J K) fr M → (∀ i, I i → awpS C news B.n Qp rec r (Ki i) (F i) (G i)) → (∀ fr M a w, J fr M → St B fr M a w → ∃ i, I i ∧ St B (F i) (G i) a w) →
      (∀ d fr M x a w, Qp d fr M → PanSt B d fr M x a w → Q (.panic [⟨x, false, false⟩]) a w) →
      (∀ e fr M a w, K e fr M → (e ≠ .normal) → St B fr M a w → Q e.real a w) → (∀ i e fr M a w, Ki i e fr M → St B fr M a w → Q e.real a w) → St B fr M a w → x.wp C.P Q a w
  | .seq x y, b, r, h, J, K, Ki, fr, M, Q, a, w, hb, hr, hJ, hP, hK, hKi, hs => by
    simp only [splitAt] at h
    split at h
    · rename_i b' r' h1
      injection h with h; injection h with h2 h3
      subst h2; subst h3
      refine wp_seq (awpS_split hsnd I F G l x b' r' h1 J (thenK (fun _ _ => False) K) (fun i => thenK (awpS C news B.n Qp rec y (Ki i)) (Ki i)) fr M _ a w (by rw [thenK_thenK]; exact hb) (fun i hi => hr i hi) hJ hP ?_ ?_ hs)
      · intro e fr M a w hk hne hs
        cases e with
        | normal => exact absurd rfl hne
        | exit id => exact hK _ _ _ _ _ hk hne hs
        | ret => exact hK _ _ _ _ _ hk hne hs
        | goto l => exact hK _ _ _ _ _ hk hne hs
      · intro i e fr M a w hk hs
        cases e with
        | normal => exact hsnd y (Ki i) fr M Q a w hk hP (hKi i) hs
        | exit id => exact hKi i _ _ _ _ _ hk hs
        | ret => exact hKi i _ _ _ _ _ hk hs
        | goto l => exact hKi i _ _ _ _ _ hk hs
    · split at h
      · rename_i b' r' h2
        injection h with h; injection h with h3 h4
        subst h3; subst h4
        refine wp_seq (hsnd x _ fr M _ a w hb hP (fun e fr M a w hk hs => ?_) hs)
        cases e with
        | normal => exact awpS_split hsnd I F G l y b' r' h2 J K Ki fr M Q a w hk hr hJ hP hK hKi hs
        | exit id => exact hK _ _ _ _ _ hk (by simp) hs
        | ret => exact hK _ _ _ _ _ hk (by simp) hs
        | goto l => exact hK _ _ _ _ _ hk (by simp) hs
      · cases h
  | .label l', b, r, h, J, K, Ki, fr, M, Q, a, w, hb, hr, hJ, hP, hK, hKi, hs => by
    simp only [splitAt] at h
    split at h
    · injection h with h; injection h with h2 h3
      subst h2; subst h3
      obtain ⟨i, h4, h5⟩ := hJ fr M a w hb hs
      exact wp_label (hKi i .normal _ _ _ _ (hr i h4) h5)
    · cases h
  | .skip, _, _, h, _, _, _, _, _, _, _, _, _, _, _, _, _, _, _ | .region .., _, _, h, _, _, _, _, _, _, _, _, _, _, _, _, _, _, _ | .cond .., _, _, h, _, _, _, _, _, _, _, _, _, _, _, _, _, _, _
  | .block .., _, _, h, _, _, _, _, _, _, _, _, _, _, _, _, _, _, _ | .loop .., _, _, h, _, _, _, _, _, _, _, _, _, _, _, _, _, _, _ | .rangeFunc .., _, _, h, _, _, _, _, _, _, _, _, _, _, _, _, _, _, _
  | .exit .., _, _, h, _, _, _, _, _, _, _, _, _, _, _, _, _, _, _ | .scope .., _, _, h, _, _, _, _, _, _, _, _, _, _, _, _, _, _, _ | .goto .., _, _, h, _, _, _, _, _, _, _, _, _, _, _, _, _, _, _
  | .ret, _, _, h, _, _, _, _, _, _, _, _, _, _, _, _, _, _, _ | .refuse .., _, _, h, _, _, _, _, _, _, _, _, _, _, _, _, _, _, _ => by cases h
theorem awp_sound {C : Ctx} (hC : C.OK) {news : List Nat} {Qp : D → Fr → Mem → Prop} {B : Base} (hB : ∀ k, B.ids k → 1000 ≤ k) (c : Code) : SoundR C B Qp (awp C news B.n Qp) c := by
  have h1 : ∀ c, SoundR C B Qp (awpS C news B.n Qp fun _ _ _ _ => False) c := awpS_sound hC hB (fun _ _ _ _ _ _ _ h => h.elim) (fun _ _ _ _ _ _ _ _ _ _ _ _ _ _ _ _ h => h.elim)
  exact awpS_sound hC hB h1 (fun I F G l x b r => awpS_split h1 I F G l x b r) c
end Go.Dm
namespace Go.Dm
mutual
def within (ids : List Nat) : D → Bool
  | .ref i _ => memN ids i
  | .sl i _ _ => memN ids i
  | .row i _ => memN ids i
  | .agg cs => withins ids cs
  | .tup cs => withins ids cs
  | .fn _ cs => withins ids cs
  | .iface _ d => within ids d
  | .bot => true
  | .v _ => true
  | .list _ _ => true
  | .ptr _ => true
  | .rp i _ _ _ _ => memN ids i
  | .mp i => memN ids i
def withins (ids : List Nat) : List D → Bool
  | [] => true
  | d :: ds => match within ids d with
    | true => withins ids ds
    | false => false
end
def Env.mix (ids : List Nat) (E' E : Env) : Env := ⟨E'.im, fun j => match memN ids j with | true => E'.blk j | false => E.blk j, fun j n => match memN ids j with | true => E'.hdr j n | false => E.hdr j n⟩
mutual
theorem rel_mix {ids : List Nat} {E' E : Env} : ∀ (d : D) {y : Value}, within ids d = true → rel d E' y → rel d (E'.mix ids E) y
  | .bot, _, _, _ => trivial
  | .v _, _, _, h => h
  | .list _ _, _, _, h => h
  | .ptr _, _, _, h => h
  | .ref i o, y, ho, ⟨b, h1, h2⟩ => ⟨b, by
    have : memN ids i = true := by simpa [within] using ho
    simp only [Env.mix, this]; exact h1, h2⟩
  | .sl i s n, y, ho, ⟨b, h1, h2⟩ => ⟨b, by
    have : memN ids i = true := by simpa [within] using ho
    simp only [Env.mix, this]; exact h1, h2⟩
  | .row i n, y, ho, ⟨h1, h2⟩ => ⟨by
    have : memN ids i = true := by simpa [within] using ho
    simp only [Env.mix, this]; exact h1, h2⟩
  | .rp i n s j o, y, ho, ⟨b, h1, h2⟩ => ⟨b, by
    have : memN ids i = true := by simpa [within] using ho
    simp only [Env.mix, this]; exact h1, h2⟩
  | .mp i, y, ho, ⟨b, h1, h2⟩ => ⟨b, by
    have : memN ids i = true := by simpa [within] using ho
    simp only [Env.mix, this]; exact h1, h2⟩
  | .agg cs, _, ho, ⟨vs, h1, h2⟩ => ⟨vs, h1, rels_mix cs (by simpa [within] using ho) h2⟩
  | .tup cs, _, ho, ⟨vs, h1, h2⟩ => ⟨vs, h1, rels_mix cs (by simpa [within] using ho) h2⟩
  | .fn _ cs, _, ho, ⟨vs, h1, h2⟩ => ⟨vs, h1, rels_mix cs (by simpa [within] using ho) h2⟩
  | .iface _ d, _, ho, ⟨x, h1, h2⟩ => ⟨x, h1, rel_mix d (by simpa [within] using ho) h2⟩
theorem rels_mix {ids : List Nat} {E' E : Env} : ∀ (ds : List D) {vs : List Value}, withins ids ds = true → rels ds E' vs → rels ds (E'.mix ids E) vs
  | [], _, _, h => h
  | d :: ds, _, ho, ⟨v, ws, h1, h2, h3⟩ => by
    simp only [withins] at ho
    split at ho
    · rename_i h4
      exact ⟨v, ws, h1, rel_mix d h4 h2, rels_mix ds ho h3⟩
    · cases ho
end
def argsFr : Nat → List D → Fr
  | _, [] => []
  | i, d :: ds => (i, d) :: argsFr (i + 1) ds
theorem argsFr_rel {E : Env} : ∀ {ds : List D} {vs : List Value} (i t : Nat), rels ds E vs → rel (gd (argsFr i ds) t) E (if i ≤ t then vs.getD (t - i) undef else undef)
  | [], _, i, t, h => by cases h; trivial
  | d :: ds, _, i, t, ⟨v, ws, h1, h2, h3⟩ => by
    subst h1
    unfold gd
    simp only [argsFr, get_cons]
    by_cases e : i = t
    · subst e
      simp; exact h2
    · rw [if_neg e]
      have := argsFr_rel (ds := ds) (i + 1) t h3
      unfold gd at this
      by_cases hle : i ≤ t
      · rw [if_pos hle]
        rw [if_pos (by omega)] at this
        have e2 : t - i = (t - (i + 1)) + 1 := by omega
        rw [e2]
        simpa using this
      · rw [if_neg hle]
        rw [if_neg (by omega)] at this
        exact this
theorem argsFr_none : ∀ (ds : List D) (i t : Nat), i + ds.length ≤ t → gd (argsFr i ds) t = .bot
  | [], _, _, _ => rfl
  | d :: ds, i, t, h => by
    simp only [List.length_cons] at h
    have := argsFr_none ds (i + 1) t (by omega)
    unfold gd at this ⊢
    simp only [argsFr, get_cons]
    rw [if_neg (by omega)]
    exact this
def offIds (ids : List Nat) : Mem → Bool
  | [] => true
  | (k, _) :: r => match memN ids k with
    | true => false
    | false => offIds ids r
theorem offIds_spec {ids : List Nat} : ∀ {p : Mem}, offIds ids p = true → ∀ q ∈ p, q.1 ∉ ids
  | [], _, _, h => by cases h
  | (k, x) :: r, h, q, hq => by
    simp only [offIds] at h
    split at h
    · cases h
    · rename_i hk
      simp only [List.mem_cons] at hq
      rcases hq with rfl | hq
      · intro hm; rw [memN_of hm] at hk; cases hk
      · exact offIds_spec h q hq
def ResTo (ids : List Nat) (M : Mem) (c d : D) : Prop := (c = d ∧ within ids d = true) ∨ (∃ p, purify M c = some (d, p)) ∨ ∃ p, frz M c = some (d, p) ∧ offIds ids p = true
def lblk (E : Env) (M : Mem) (ids : List Nat) (b : Nat) : Prop := ∃ id e s v xs, get M id = some (.mrow e s v xs) ∧ id ∉ ids ∧ obBlk E id (.mrow e s v xs) = some b
noncomputable def Env.left (E : Env) (w : World) (M : Mem) (ids : List Nat) : Env := E.frz w (lblk E M ids)
theorem left_le {E : Env} {w : World} {M : Mem} {ids : List Nat} (h : ImOK E w) : E.le (E.left w M ids) := frz_le h
def ResL (ids : List Nat) (M : Mem) : List D → List D → Prop
  | [], [] => True
  | c :: cs, d :: ds => ResTo ids M c d ∧ ResL ids M cs ds
  | _, _ => False
theorem ResTo.rel {ids : List Nat} {M : Mem} {c d : D} (h : ResTo ids M c d) {E' E : Env} {w : World} {v : Value} (hi : Inv E' (get M) w) (hr : Dm.rel c E' v) : Dm.rel d ((E'.left w M ids).mix ids E) v := by
  rcases h with ⟨rfl, h⟩ | ⟨p, h⟩ | ⟨p, h, ho⟩
  · exact rel_mix c h (rel_mono c (left_le hi.im) hr)
  · have := (purify_rel c h).2 E' (get M) w v hi (purify_rel c h).1 hr
    exact rel_pure (E := (E'.left w M ids).mix ids E) (rel_mono d (E' := (E'.left w M ids).pure) (left_le hi.im).pure this)
  · have := (frz_rel c h).2 E' (get M) w (lblk E' M ids) v hi (frz_rel c h).1 (fun b ⟨q, hq, e, s, ver, xs, h1, h2⟩ => ⟨q.1, e, s, ver, xs, by rw [← h1]; exact (frz_rel c h).1 q hq, offIds_spec ho q hq, by rw [← h1]; exact h2⟩) hr
    exact rel_pure (E := (E'.left w M ids).mix ids E) this
theorem ResL.rels {ids : List Nat} {M : Mem} {E' E : Env} {w : World} (hi : Inv E' (get M) w) : ∀ {cs ds : List D} {vs : List Value}, ResL ids M cs ds → Dm.rels cs E' vs → Dm.rels ds ((E'.left w M ids).mix ids E) vs
  | [], [], _, _, h => h
  | c :: cs, d :: ds, _, ⟨h1, h2⟩, ⟨v, ws, e, h3, h4⟩ => ⟨v, ws, e, h1.rel hi h3, ResL.rels hi h2 h4⟩
  | [], _ :: _, _, h, _ => h.elim
  | _ :: _, [], _, h, _ => h.elim
def ObTo (ids : List Nat) (M : Mem) : Option Ob → Ob → Prop
  | some (.cells cs), .cells ds => ResL ids M cs ds
  | some (.row e s xs), y => .row e s xs = y
  | some (.mrow e s v xs), y => .mrow e s v xs = y
  | some (.mp l), y => .mp l = y
  | some (.tc T cs), .tc T' ds => T = T' ∧ ResL ids M cs ds
  | _, _ => False
def MemTo (ids : List Nat) (M : Mem) : Mem → Prop
  | [] => True
  | (k, y) :: r => ObTo ids M (get M k) y ∧ MemTo ids M r
theorem MemTo_get {ids : List Nat} {M : Mem} : ∀ {post : Mem} {k : Nat} {y : Ob}, MemTo ids M post → get post k = some y → ObTo ids M (get M k) y
  | [], _, _, _, h => by cases h
  | (j, x) :: r, k, y, ⟨h1, h2⟩, h => by
    rw [get_cons] at h
    split at h
    · rename_i e; subst e; injection h with h; subst h; exact h1
    · exact MemTo_get h2 h
def tupD : List D → D
  | [d] => d
  | ds => .tup ds
theorem get_nodup : ∀ {post : Mem}, (post.map (·.1)).Nodup → ∀ {p}, p ∈ post → get post p.1 = some p.2
  | (k, x) :: r, h, p, hp => by
    rw [List.map_cons, List.nodup_cons] at h
    rw [get_cons]
    simp only [List.mem_cons] at hp
    rcases hp with rfl | hp
    · rw [if_pos rfl]
    · rw [if_neg]
      · exact get_nodup h.2 hp
      · intro e; exact h.1 (List.mem_map.2 ⟨p, hp, e.symm⟩)
def ResS (ids : List Nat) (M : Mem) : D → D → Prop
  | .v x, .v y => x = y
  | c, d => ResTo ids M c d
theorem ResS.to {ids : List Nat} {M : Mem} {c d : D} (h : ResS ids M c d) : ResTo ids M c d := by
  unfold ResS at h
  split at h
  · subst h; exact .inl ⟨rfl, rfl⟩
  · exact h
def ResSL (ids : List Nat) (M : Mem) : List D → List D → Prop
  | [], [] => True
  | c :: cs, d :: ds => ResS ids M c d ∧ ResSL ids M cs ds
  | _, _ => False
theorem ResSL.to {ids : List Nat} {M : Mem} : ∀ {cs ds : List D}, ResSL ids M cs ds → ResL ids M cs ds
  | [], [], _ => trivial
  | c :: cs, d :: ds, ⟨h1, h2⟩ => ⟨h1.to, h2.to⟩
  | [], _ :: _, h => h.elim
  | _ :: _, [], h => h.elim
def ResO (ids : List Nat) (M : Mem) : List D → D → Prop
  | [c], d => ResS ids M c d
  | [], .tup [] => True
  | c :: c' :: cs, .tup (d :: d' :: ds) => ResSL ids M (c :: c' :: cs) (d :: d' :: ds)
  | _, _ => False
def postB (pre post : Mem) : Bool := match subN (pre.map (·.1)) (post.map (·.1)) with
  | true => nodupB (post.map (·.1))
  | false => false
def RetO (pre : Mem) (out : Out) (M : Mem) (cs : List D) : Prop :=
  match out with
  | .ret d post => match postB pre post with
    | true => match post with
      | [] => ResO [] M cs d
      | p :: r => ResO ((p :: r).map (·.1)) M cs d ∧ MemTo ((p :: r).map (·.1)) M (p :: r)
    | false => False
  | .pan _ => False
theorem ResO_tup {ids : List Nat} {M : Mem} {cs : List D} {d : D} (h : ResO ids M cs d) : ∃ ds, d = tupD ds ∧ ResL ids M cs ds := by
  unfold ResO at h
  split at h
  · exact ⟨[_], rfl, h.to, trivial⟩
  · exact ⟨[], rfl, trivial⟩
  · exact ⟨_ :: _ :: _, rfl, h.to⟩
  · exact h.elim
theorem RetO_spec {pre : Mem} {out : Out} {M : Mem} {cs : List D} (h : RetO pre out M cs) :
    ∃ ds post, out = .ret (tupD ds) post ∧ (subN (pre.map (·.1)) (post.map (·.1)) && nodupB (post.map (·.1))) = true ∧ ResL (post.map (·.1)) M cs ds ∧ MemTo (post.map (·.1)) M post := by
  unfold RetO at h
  split at h
  · rename_i d post
    split at h
    · rename_i hp
      have hp' : (subN (pre.map (·.1)) (post.map (·.1)) && nodupB (post.map (·.1))) = true := by
        unfold postB at hp
        split at hp
        · rename_i h1; rw [h1, hp]; rfl
        · cases hp
      split at h
      · obtain ⟨ds, rfl, h2⟩ := ResO_tup h
        exact ⟨ds, [], rfl, hp', h2, trivial⟩
      · obtain ⟨ds, rfl, h2⟩ := ResO_tup h.1
        exact ⟨ds, _, rfl, hp', h2, h.2⟩
    · exact h.elim
  · exact h.elim
theorem wLoad_val {P : Program} {L : List Ty} (hL : TyOK P L) {fr : Fr} {M : Mem} {t : TypeId} {x : Operand} {K : Kont} (h : wLoad L fr M t x K) :
    ∃ d pre, K (.ret d []) pre ∧ ∀ (E : Env) (w : World) (v : Value), Inv E (get M) w → rel (ev fr x) E v → ∃ u, (asAddr v >>= loadVar t).run P w = .ok u w ∧ rel d E u := by
  unfold wLoad at h
  split at h
  · rename_i k n _ _ ht
    split at h
    · rename_i cs e
      obtain ⟨d, hK, hn, h1, hd⟩ := loadK_ret h
      refine ⟨d, _, hK, fun E w v hi h2 => ?_⟩
      rw [e] at h2
      obtain ⟨b, o, h3, h4⟩ := h2
      obtain ⟨vs, h5, h6, h7⟩ := relCells_get h4
      refine ⟨_, ?_, rel_pure (hd _ vs h6)⟩
      have := run_loadVar (w := w) (b := b) (o := o) (vs := vs.take n) hL ht (by simp; omega) (fun j hj => ?_) h1
      · simp [h3, asAddr, this]
      · have h8 := h7 j (by simp at hj; omega)
        have hj' : j < vs.length := by simp at hj; omega
        rw [List.getElem?_take_of_lt (by simpa using hj)]
        rw [List.getElem?_eq_getElem hj'] at h8 ⊢
        exact hi.im _ _ _ h8
    · rename_i i o e
      split at h
      · rename_i ds hg
        obtain ⟨d, hK, hn, h1, hd⟩ := loadK_ret h
        refine ⟨d, _, hK, fun E w v hi h2 => ?_⟩
        rw [e] at h2
        obtain ⟨b, h3, h4⟩ := h2
        obtain ⟨b', c, T, h5, h6, h7, h8⟩ := hi.ob i _ hg
        rw [h5] at h3
        injection h3 with h3; subst h3
        refine ⟨_, ?_, hd E _ (rels_drop o h7)⟩
        have hlen := rels_length h7
        have := run_loadVar (w := w) (b := b') (o := o) (vs := (c.toList.drop o).take n) hL ht (by simp at hn ⊢; simp at hlen; omega) (fun j hj => ?_) h1
        · simp [h4, asAddr, this]
        · rw [List.getElem?_take_of_lt (by simpa using hj), List.getElem?_drop]
          simp [World.cell?, h6]
      · rename_i TT ds hg
        obtain ⟨d, hK, hn, h1, hd⟩ := loadK_ret h
        refine ⟨d, _, hK, fun E w v hi h2 => ?_⟩
        rw [e] at h2
        obtain ⟨b, h3, h4⟩ := h2
        obtain ⟨b', c, h5, h6, h7, h8⟩ := hi.ob i _ hg
        rw [h5] at h3
        injection h3 with h3; subst h3
        refine ⟨_, ?_, hd E _ (rels_drop o h7)⟩
        have hlen := rels_length h7
        have := run_loadVar (w := w) (b := b') (o := o) (vs := (c.toList.drop o).take n) hL ht (by simp at hn ⊢; simp at hlen; omega) (fun j hj => ?_) h1
        · simp [h4, asAddr, this]
        · rw [List.getElem?_take_of_lt (by simpa using hj), List.getElem?_drop]
          simp [World.cell?, h6]
      · exact h.elim
    · rename_i id ver s j o e
      split at h
      · rename_i et s' ver' xs hg
        split at h
        · rename_i es
          obtain rfl := beq_eq es
          obtain ⟨rfl, h⟩ := h
          obtain ⟨cs, hj, hK⟩ := h.ex
          obtain ⟨d, hK, hn, h1, hd⟩ := loadK_ret hK
          refine ⟨d, _, hK, fun E w v hi h2 => ?_⟩
          rw [e] at h2
          obtain ⟨b, h3, h4⟩ := h2
          obtain ⟨c, cap, g1, g2, g3, g4, g5, g6, g7, g8, g9, g10, g11⟩ := mrow_cells (hi.ob id _ hg) hj h3
          refine ⟨_, ?_, hd E _ (rels_drop o (rels_pure g10))⟩
          rw [List.length_drop] at hn
          have := run_loadVar (w := w) (b := b) (o := j * s + o) (vs := (((c.toList.drop (j * s)).take s).drop o).take n) hL ht (by simp; omega) (fun q hq => ?_) h1
          · simp [h4, asAddr, this]
          · rw [List.getElem?_take_of_lt (by simpa using hq), List.getElem?_drop, List.getElem?_take_of_lt (by simp at hq; omega), List.getElem?_drop]
            simp [World.cell?, g2, Nat.add_assoc]
        · exact h.elim
      · exact h.elim
    · exact h.elim
  · exact h.elim
def resW (L : List Ty) (fr : Fr) (M : Mem) : List ResultVar → (List D → Prop) → Prop
  | [], C => C []
  | .tmp t :: r, C => resW L fr M r fun ds => C (ev fr (.tmp t) :: ds)
  | .cell a t :: r, C => wLoad L fr M t (.tmp a) fun out _ => match out with
    | .ret d _ => resW L fr M r fun ds => C (d :: ds)
    | .pan _ => False
theorem run_res {P : Program} {L : List Ty} (hL : TyOK P L) {fr : Fr} {M : Mem} {E : Env} {w : World} {tmps : Array Value} (hi : Inv E (get M) w) (hf : ∀ t, rel (ev fr (.tmp t)) E (tmps.getD t undef)) {f : ResultVar → Sem Value} (h1 : ∀ t, f (.tmp t) = pure (tmps.getD t undef)) (h2 : ∀ a t, f (.cell a t) = asAddr (tmps.getD a undef) >>= loadVar t) :
    ∀ {rs : List ResultVar} {C : List D → Prop}, resW L fr M rs C → ∃ ds vs, C ds ∧ (rs.mapM f).run P w = .ok vs w ∧ rels ds E vs
  | [], C, h => ⟨[], [], h, by simp, rfl⟩
  | .tmp t :: r, C, h => by
    obtain ⟨ds, vs, h3, h4, h5⟩ := run_res hL hi hf h1 h2 (rs := r) h
    refine ⟨_, tmps.getD t undef :: vs, h3, ?_, _, vs, rfl, hf t, h5⟩
    rw [List.mapM_cons, h1]
    simp only [Sem.run_bind, Sem.run_pure, Result.andThen_ok]
    rw [h4]
    simp
  | .cell a t :: r, C, h => by
    obtain ⟨d, pre, hK, hv⟩ := wLoad_val hL h
    obtain ⟨u, h6, h7⟩ := hv E w (tmps.getD a undef) hi (hf a)
    obtain ⟨ds, vs, h3, h4, h5⟩ := run_res hL hi hf h1 h2 (rs := r) hK
    refine ⟨_, u :: vs, h3, ?_, _, vs, rfl, h7, h5⟩
    rw [List.mapM_cons, h2]
    rw [Sem.run_bind, h6]
    simp only [Result.andThen_ok, Sem.run_bind]
    rw [h4]
    simp
def RetK (L : List Ty) (pre : Mem) (rs : List ResultVar) (out : Out) (fr : Fr) (M : Mem) : Prop := resW L fr M rs (RetO pre out M)
def funK (L : List Ty) (pre : Mem) (rs : List ResultVar) (out : Out) : KK
  | .normal, fr, M => RetK L pre rs out fr M
  | .ret, fr, M => RetK L pre rs out fr M
  | _, _, _ => False
theorem tupD_rel {E : Env} {ds : List D} {vs : List Value} (h : rels ds E vs) : rel (tupD ds) E (if h : vs.toArray.size = 1 then vs.toArray[0] else .tuple vs.toArray) := by
  have hl := rels_length h
  cases ds with
  | nil => cases h; exact ⟨[], rfl, rfl⟩
  | cons d ds =>
    cases ds with
    | nil =>
      obtain ⟨v, ws, rfl, h1, h2⟩ := h
      cases h2
      simpa [tupD] using h1
    | cons d' ds =>
      have : vs.toArray.size ≠ 1 := by simp at hl ⊢; omega
      rw [dif_neg this]
      exact ⟨vs, rfl, h⟩
theorem ge1000 {pre : Mem} (h : pre.all (fun p => Nat.ble 1000 p.1) = true) : ∀ k ∈ pre.map (·.1), 1000 ≤ k := by
  intro k hk
  obtain ⟨p, hp, rfl⟩ := List.mem_map.1 hk
  have := List.all_eq_true.1 h p hp
  exact Nat.le_of_ble_eq_true this
theorem ret_end {C : Ctx} (hC : C.OK) {fn : Func} {pre : Mem} {out : Out} {rs : List ResultVar} {E : Env} {w : World} {n : Nat} {dl : List Deferred} (hts : fn.results.toList = rs)
    (hnew : ∀ j, isNew pre out j → E.blk j = none ∧ ∀ n, E.hdr j n = none) {fr : Fr} {M : Mem} {a : Act} {w' : World} (hs : St ⟨E, w, ownOf E (get pre) pre, fun k => k ∈ pre.map (·.1), n, dl⟩ fr M a w') (hRet : RetK C.L pre rs out fr M) :
    ∃ v, (results fn a.tmps).run C.P w' = .ok v w' ∧ CallPost E pre w out (.returned v) w' := by
  obtain ⟨E', hE⟩ := hs
  obtain ⟨cs, vs', hC1, hC2, hC3⟩ := run_res (P := C.P) hC.ty hE.inv (fun t => hE.ev (sl := gd fr) (.tmp t)) (f := fun | .tmp t => pure (a.tmps.getD t undef) | .cell c t => do loadVar t (← asAddr (a.tmps.getD c undef))) (fun _ => rfl) (fun _ _ => rfl) hRet
  obtain ⟨ds', post, rfl, hsub, hres, hmem⟩ := RetO_spec hC1
  simp only [Bool.and_eq_true] at hsub
  obtain ⟨hsub, hnd⟩ := hsub
  have hsub' : ∀ k ∈ pre.map (·.1), k ∈ post.map (·.1) := subN_mem hsub
  have hrr := hres.rels (E := E) hE.inv hC3
  have hL : E'.le (E'.left w' M (post.map (·.1))) := left_le hE.inv.im
  have hLn : ∀ b, ¬ lblk E' M (post.map (·.1)) b → ∀ o, (E'.left w' M (post.map (·.1))).im b o = E'.im b o := fun b hb o => frz_neg hb o
  have hLo : ∀ id y b, get M id = some y → id ∈ post.map (·.1) → obBlk E' id y = some b → ¬ lblk E' M (post.map (·.1)) b := by
    rintro id y b hy hid hb ⟨id2, e, s, v, xs, h1, h2, h3⟩
    have := hE.inv.sep id id2 y _ b hy h1 hb h3
    subst this; exact h2 hid
  refine ⟨_, ?_, _, (E'.left w' M (post.map (·.1))).mix (post.map (·.1)) E, rfl, ?_, tupD_rel hrr⟩
  · unfold results
    rw [Array.mapM_eq_mapM_toList]
    simp only [Sem.run_bind, map_eq_pure_bind]
    rw [hts]
    exact (congrArg (fun r => Result.andThen (Result.andThen r _) _) hC2).trans rfl
  have hnot : ∀ j, j ∈ post.map (·.1) → j ∉ pre.map (·.1) → E.blk j = none ∧ ∀ n, E.hdr j n = none := by
    intro j hj hn
    refine hnew j ⟨?_, hj⟩
    cases hg : get pre j with
    | none => rfl
    | some x => exact absurd (List.mem_map.2 ⟨_, get_mem hg, rfl⟩) hn
  have hle : E.le ((E'.left w' M (post.map (·.1))).mix (post.map (·.1)) E) := by
    refine ⟨fun b o v hv => hL.im b o v (hE.step.im b o v hv), fun j b hb => ?_, fun j n v hv => ?_⟩
    · simp only [Env.mix]
      split
      · rename_i hm
        by_cases hp : j ∈ pre.map (·.1)
        · exact hE.step.blk j hp b hb
        · rw [(hnot j (memN_iff hm) hp).1] at hb; cases hb
      · exact hb
    · simp only [Env.mix]
      split
      · rename_i hm
        by_cases hp : j ∈ pre.map (·.1)
        · exact hE.step.hdr j hp n v hv
        · rw [(hnot j (memN_iff hm) hp).2] at hv; cases hv
      · exact hv
  have hown : ∀ b, ownOf E (get pre) pre b → ownOf E (get pre) post b := by
    rintro b ⟨p, h1, x, h2, h3⟩
    obtain ⟨q, hq, e⟩ := List.mem_map.1 (hsub' p.1 (List.mem_map.2 ⟨p, h1, rfl⟩))
    exact ⟨q, hq, x, by rw [e]; exact h2, by rw [e]; exact h3⟩
  have hups : ∀ id x, upds (get pre) post id = some x → get post id = some x := by
    intro id x hx
    rw [upds_eq] at hx
    cases hg : get post id with
    | some y => rw [hg] at hx; exact hx
    | none =>
      rw [hg] at hx
      simp only at hx
      exact absurd (hsub' id (List.mem_map.2 ⟨_, get_mem hx, rfl⟩)) (get_none_mem hg)
  have hblk : ∀ id x, get post id = some x → ∃ y, get M id = some y ∧ ObTo (post.map (·.1)) M (some y) x ∧ obBlk ((E'.left w' M (post.map (·.1))).mix (post.map (·.1)) E) id x = obBlk E' id y := by
    intro id x hx
    have hm : memN (post.map (·.1)) id = true := memN_of (List.mem_map.2 ⟨_, get_mem hx, rfl⟩)
    have h1 := MemTo_get hmem hx
    cases hy : get M id with
    | none => rw [hy] at h1; cases x <;> exact h1.elim
    | some y =>
      rw [hy] at h1
      refine ⟨y, rfl, h1, ?_⟩
      cases y with
      | cells cs =>
        cases x with
        | cells ds => simp [obBlk, Env.mix, Env.left, Env.frz, hm]
        | row e s xs => exact h1.elim
        | dead => exact h1.elim
        | mrow e s v xs => exact h1.elim
        | mp l => exact h1.elim
        | tc T ds => exact h1.elim
      | tc T cs =>
        cases x with
        | tc T' ds => simp [obBlk, Env.mix, Env.left, Env.frz, hm]
        | row e s xs => exact h1.elim
        | dead => exact h1.elim
        | mrow e s v xs => exact h1.elim
        | mp l => exact h1.elim
        | cells ds => exact h1.elim
      | dead => cases x <;> exact h1.elim
      | mrow e s v xs =>
        have h1' : Ob.mrow e s v xs = x := by cases x <;> exact h1
        subst h1'
        simp [obBlk, Env.mix, Env.left, Env.frz, hm]
      | mp l =>
        have h1' : Ob.mp l = x := by cases x <;> exact h1
        subst h1'
        simp [obBlk, Env.mix, Env.left, Env.frz, hm]
      | row e s xs =>
        have h1' : Ob.row e s xs = x := by cases x <;> exact h1
        subst h1'
        simp [obBlk, Env.mix, Env.left, Env.frz, hm]
  refine ⟨⟨hle, hE.step.size, fun b hb hn => hE.step.frame b hb fun ho => hn (hown b ho), fun b o v hv => ?_, hE.step.os, hE.step.tape, hE.step.output⟩, ⟨frz_imOK hE.inv.im, fun id x hx => ?_, fun i j x y b hx hy hxb hyb => ?_, by exact (hE.inv.gl.mono hL : GlOK (E'.left w' M (post.map (·.1))))⟩, fun j hj => ?_, fun p hp b hb => ?_⟩
  · have hv' : (E'.left w' M (post.map (·.1))).im b o = some v := hv
    by_cases hb : lblk E' M (post.map (·.1)) b
    · obtain ⟨id2, e, s, u, xs, h1, h2, h3⟩ := hb
      exact ((hE.bd id2 _ b h1 h3).imp (hown b) (fun h => h)).elim (fun h => .inr (.inr h)) fun h => .inr (.inl h)
    · rw [hLn b hb] at hv'
      exact (hE.step.new b o v hv').imp id (·.imp id (hown b))
  · have hg := hups id x hx
    have hm : memN (post.map (·.1)) id = true := memN_of (List.mem_map.2 ⟨_, get_mem hg, rfl⟩)
    obtain ⟨y, h1, h2, _⟩ := hblk id x hg
    have ho := hE.inv.ob id y h1
    cases y with
    | cells cs =>
      cases x with
      | cells ds =>
        obtain ⟨b, cc, T, g1, g2, g3, g4⟩ := ho
        exact ⟨b, cc, T, by simp only [Env.mix, hm]; exact g1, g2, ResL.rels hE.inv h2 g3, fun o => (hLn b (hLo id _ b h1 (memN_iff hm) (by simp [obBlk, g1])) o).trans (g4 o)⟩
      | row e s xs => exact h2.elim
      | dead => exact h2.elim
      | mrow e s v xs => exact h2.elim
      | mp l => exact h2.elim
      | tc T ds => exact h2.elim
    | tc T cs =>
      cases x with
      | tc T' ds =>
        obtain ⟨rfl, h2⟩ := h2
        obtain ⟨b, cc, g1, g2, g3, g4⟩ := ho
        exact ⟨b, cc, by simp only [Env.mix, hm]; exact g1, g2, ResL.rels hE.inv h2 g3, fun o => (hLn b (hLo id _ b h1 (memN_iff hm) (by simp [obBlk, g1])) o).trans (g4 o)⟩
      | row e s xs => exact h2.elim
      | dead => exact h2.elim
      | mrow e s v xs => exact h2.elim
      | mp l => exact h2.elim
      | cells ds => exact h2.elim
    | dead => cases x <;> exact h2.elim
    | mrow e s u xs =>
      have h1' : Ob.mrow e s u xs = x := by cases x <;> exact h2
      subst h1'
      refine ⟨fun n v hv => ?_, ?_⟩
      · simp only [Env.mix, hm] at hv
        exact ho.1 n v hv
      · simp only [Env.mix, hm]
        rcases ho.2 with h3 | ⟨b, c, cap, o1, o2, o3, o4, o5, o6, o7, o8⟩
        · exact .inl h3
        · exact .inr ⟨b, c, cap, o1, o2, o3, o4, o5, o6, rels_mono _ (show E'.pure.le (Env.pure (E'.left w' M (post.map (·.1)))) from hL.pure) o7, fun o => (hLn b (hLo id _ b h1 (memN_iff hm) (by simp [obBlk, o1, hdrBlk])) o).trans (o8 o)⟩
    | mp l =>
      have h1' : Ob.mp l = x := by cases x <;> exact h2
      subst h1'
      obtain ⟨b, es, ck, g1, g2, g3, g4⟩ := ho
      exact ⟨b, es, ck, by simp only [Env.mix, hm]; exact g1, g2, g3, fun o => (hLn b (hLo id _ b h1 (memN_iff hm) (by simp [obBlk, g1])) o).trans (g4 o)⟩
    | row e s xs =>
      have h1' : Ob.row e s xs = x := by cases x <;> exact h2
      subst h1'
      refine ⟨fun n v hv => ?_, ?_⟩
      · simp only [Env.mix, hm] at hv
        exact ⟨(ho.1 n v hv).1, show rel (.list s (xs.take n)) (Env.pure (E'.left w' M (post.map (·.1)))) v from rel_mono (.list s (xs.take n)) (E := E'.pure) hL.pure (ho.1 n v hv).2⟩
      · simp only [Env.mix, hm]
        rcases ho.2 with h3 | ⟨b, c, cap, o1, o2, o3, o4, o5, o6⟩
        · exact .inl h3
        · exact .inr ⟨b, c, cap, o1, o2, o3, o4, o5, fun o v hv => o6 o v ((hLn b (hLo id _ b h1 (memN_iff hm) (by simp [obBlk, o1, hdrBlk])) o).symm.trans hv)⟩
  · obtain ⟨x', h1, _, h3⟩ := hblk i x (hups i x hx)
    obtain ⟨y', h4, _, h6⟩ := hblk j y (hups j y hy)
    rw [h3] at hxb
    rw [h6] at hyb
    exact hE.inv.sep i j x' y' b h1 h4 hxb hyb
  · have hm : memN (post.map (·.1)) j = false := by
      cases hm : memN (post.map (·.1)) j with
      | false => rfl
      | true => exact absurd (memN_iff hm) hj
    refine ⟨by simp only [Env.mix, hm], by funext n; simp only [Env.mix, hm]⟩
  · have hg := get_nodup (nodupB_spec hnd) hp
    obtain ⟨y, h1, _, h3⟩ := hblk p.1 p.2 hg
    rw [h3] at hb
    exact (hE.bd p.1 y b h1 hb).imp (hown b) id
def FrOK (fr : Fr) (ds : List D) (m : Int) : Prop := ∀ t, gd fr t = gd (argsFr 0 ds) t ∨ (t = 100000 + maxLenG ∧ gd fr t = .ptr [.v (.int .i64 m)])
theorem pcall_gen {C : Ctx} (hC : C.OK) {f : FuncId} {fn : Func} {c : Code} {news : List Nat} {pre : Mem} {ds : List D} {out : Out} {n : Nat} {rs : List ResultVar}
    (hf : C.P.funcs[f]? = some fn) (hb : fn.body = some c) (hn : fn.ntmps = n) (hts : fn.results.toList = rs) (hlen : (match Nat.ble ds.length n with | true => Nat.ble n 99999 | false => false) = true)
    (hid : pre.all (fun p => Nat.ble 1000 p.1) = true) (hnm : fn.name ≠ "runtime.NumGoroutine") (fr0 : Int → Fr) (hfr : ∀ m, FrOK (fr0 m) ds m)
    (h : ∀ m : Int, awp C news n (fun d _ _ => ∃ e, out = .pan e ∧ (d = e ∧ within (pre.map (·.1)) e = true ∨ ∃ p, purify [] d = some (e, p))) c (funK C.L pre rs out) (fr0 m) pre) : PCall C.P f pre ds out := by
  refine ⟨⟨fn, hf, by rw [hb]; rfl, hnm⟩, ?_⟩
  intro E w vs hi hnew hr
  have hge := ge1000 hid
  obtain ⟨hlen, hsm⟩ : ds.length ≤ n ∧ n ≤ 99999 := by
    split at hlen
    · rename_i e; exact ⟨Nat.le_of_ble_eq_true e, Nat.le_of_ble_eq_true hlen⟩
    · cases hlen
  obtain ⟨m, hm⟩ := hi.gl
  have hvl : vs.length = ds.length := rels_length hr
  refine calls_of_wp hf hb ?_
  let B : Base := ⟨E, w, ownOf E (get pre) pre, fun k => k ∈ pre.map (·.1), n, []⟩
  have hs0 : St B (fr0 m) pre { tmps := vs.toArray ++ Array.replicate (fn.ntmps - vs.toArray.size) undef, defers := [] } w := by
    refine ⟨E, hi, fun t => ?_, by simp [B]; omega, hsm, rfl, StepOn.refl _ _ _ _, fun id x b hx hb => .inl ⟨(id, x), get_mem hx, x, hx, hb⟩⟩
    rcases hfr m t with e | ⟨e1, e2⟩
    · rw [e]
      have := argsFr_rel (E := E) 0 t hr
      simp only [Nat.zero_le, if_true, Nat.sub_zero] at this
      by_cases ht : 99999 ≤ t
      · have : gd (argsFr 0 ds) t = .bot := argsFr_none ds 0 t (by omega)
        rw [this]; trivial
      unfold tv
      rw [if_neg (by omega), if_neg (by omega)]
      have e : (vs.toArray ++ Array.replicate (fn.ntmps - vs.toArray.size) undef).getD t undef = vs.getD t undef := by
        simp only [Array.getD_eq_getD_getElem?, List.getD_eq_getElem?_getD]
        by_cases ht : t < vs.length
        · rw [Array.getElem?_append_left (by simpa using ht)]; simp
        · rw [Array.getElem?_append_right (by simp; omega), Array.getElem?_replicate, List.getElem?_eq_none (by omega)]
          split <;> rfl
      simp only [e]
      exact this
    · rw [e2, e1]
      unfold tv
      rw [if_neg (by omega), if_pos (by omega), Nat.add_sub_cancel_left]
      exact ⟨maxLenG, 0, rfl, ⟨_, hm, rfl⟩, trivial⟩
  refine awp_sound hC (B := B) hge c _ _ _ _ _ _ (h m) ?_ ?_ hs0
  · rintro d fr' M' x a w' ⟨e, rfl, he⟩ ⟨E', E2, hst, him, hx, hE2⟩
    refine ⟨hE2.defers, x, E'.mix (pre.map (·.1)) E, rfl, ⟨⟨hst.im, fun j b hb => ?_, fun j n v hv => ?_⟩, hst.size, hst.frame, hst.new, hst.os, hst.tape, hst.output⟩, him, ?_⟩
    · simp only [Env.mix]
      split
      · rename_i hm; exact hst.blk j (memN_iff hm) b hb
      · exact hb
    · simp only [Env.mix]
      split
      · rename_i hm; exact hst.hdr j (memN_iff hm) n v hv
      · exact hv
    · rcases he with ⟨rfl, h⟩ | ⟨p, h⟩
      · exact rel_mix d h hx
      · have h0 : p = [] := by
          have := (purify_rel d h).1
          cases p with
          | nil => rfl
          | cons q r => have := this q (by simp); cases this
        have := (purify_rel d h).2 E' (fun _ => none) w' x ⟨him, fun _ _ h => (by cases h), fun _ _ _ _ _ h => (by cases h), let ⟨m, hm⟩ := hi.gl; ⟨m, hst.im _ _ _ hm⟩⟩ (by subst h0; intro _ h; cases h) hx
        exact rel_pure (E := E'.mix _ E) this
  · intro e fr M a w' hk hs
    have main : RetK C.L pre rs out fr M → bodyPost C.P fn (CallPost E pre w out) .normal a w' := fun hRet => by
      obtain ⟨E', hE⟩ := id hs
      exact ⟨hE.defers, ret_end hC hts hnew hs hRet⟩
    cases e with
    | normal => exact main hk
    | ret => exact main hk
    | exit id => exact hk.elim
    | goto l => exact hk.elim
theorem pcall_of {C : Ctx} (hC : C.OK) {f : FuncId} {fn : Func} {c : Code} {news : List Nat} {pre : Mem} {ds : List D} {out : Out} {n : Nat} {rs : List ResultVar}
    (hf : C.P.funcs[f]? = some fn) (hb : fn.body = some c) (hn : fn.ntmps = n) (hts : fn.results.toList = rs) (hlen : (match Nat.ble ds.length n with | true => Nat.ble n 99999 | false => false) = true)
    (hid : pre.all (fun p => Nat.ble 1000 p.1) = true) (hnm : fn.name ≠ "runtime.NumGoroutine")
    (h : awp C news n (fun d _ _ => ∃ e, out = .pan e ∧ (d = e ∧ within (pre.map (·.1)) e = true ∨ ∃ p, purify [] d = some (e, p))) c (funK C.L pre rs out) (argsFr 0 ds) pre) : PCall C.P f pre ds out :=
  pcall_gen hC hf hb hn hts hlen hid hnm (fun _ => argsFr 0 ds) (fun _ _ => .inl rfl) fun _ => h
end Go.Dm
namespace Go.Dm
def TyRow (P : Program) (t : Nat) (x : Ty) : Prop := ∃ d i, P.underlying t = some d ∧ P.info? t = some i ∧ tkOf d = x.k ∧ i.size = x.size ∧ i.bytes = x.bytes ∧
    (x.zero ≠ [] → i.zero = some (if x.k.agg then .agg x.zero.toArray else x.zero.headD undef) ∧ x.zero.length = x.size)
def ZRow (x : Ty) : Prop := x.zero ≠ [] → x.k.agg = false → (x.zero.headD undef).cells = x.zero.toArray
def TyFrom (P : Program) : Nat → List Ty → Prop
  | _, [] => True
  | n, x :: r => (TyRow P n x ∧ ZRow x) ∧ TyFrom P (n + 1) r
theorem TyFrom_get {P : Program} : ∀ {L : List Ty} {n t : Nat} {x : Ty}, TyFrom P n L → nth L t = some x → TyRow P (n + t) x ∧ ZRow x
  | [], _, _, _, _, h => by cases h
  | a :: r, n, 0, x, ⟨h1, h2⟩, h => by simp [nth] at h; subst h; exact h1
  | a :: r, n, t + 1, x, ⟨h1, h2⟩, h => by
    have := TyFrom_get h2 (show nth r t = some x from h)
    rwa [show n + (t + 1) = n + 1 + t from by omega]
theorem TyFrom_ok {P : Program} {L : List Ty} (h : TyFrom P 0 L) : TyOK P L ∧ ZOK L := by
  refine ⟨fun t x ht => ?_, fun t x ht => (TyFrom_get h ht).2⟩
  have := (TyFrom_get h ht).1
  rwa [Nat.zero_add] at this
namespace Tryz
open Go.Proofs
def tys : List Ty := [
  ⟨.other, 1, 0, []⟩,
  ⟨.func, 1, 8, [Value.nilFunc]⟩,
  ⟨.int .i64, 1, 8, [Value.int IntKind.i64 0]⟩,
  ⟨.int .i64, 1, 8, [Value.int IntKind.i64 0]⟩,
  ⟨.bool, 1, 1, [Value.bool false]⟩,
  ⟨.int .u8, 1, 1, [Value.int IntKind.u8 0]⟩,
  ⟨.int .u8, 1, 1, [Value.int IntKind.u8 0]⟩,
  ⟨.struct [(0, 2), (1, 3), (2, 4), (3, 6)], 4, 24, [Value.int IntKind.i64 0, Value.int IntKind.i64 0, Value.bool false, Value.int IntKind.u8 0]⟩,
  ⟨.struct [(0, 2), (1, 3), (2, 4), (3, 6)], 4, 24, [Value.int IntKind.i64 0, Value.int IntKind.i64 0, Value.bool false, Value.int IntKind.u8 0]⟩,
  ⟨.str, 1, 16, [Value.string (ByteArray.mk #[])]⟩,
  ⟨.str, 1, 16, [Value.string (ByteArray.mk #[])]⟩,
  ⟨.str, 1, 16, [Value.string (ByteArray.mk #[])]⟩,
  ⟨.int .u64, 1, 8, [Value.int IntKind.u64 0]⟩,
  ⟨.struct [(0, 9), (1, 12)], 2, 24, [Value.string (ByteArray.mk #[]), Value.int IntKind.u64 0]⟩,
  ⟨.struct [(0, 9), (1, 12)], 2, 24, [Value.string (ByteArray.mk #[]), Value.int IntKind.u64 0]⟩,
  ⟨.ptr 231, 1, 8, [Value.pointer none]⟩,
  ⟨.ptr 234, 1, 8, [Value.pointer none]⟩,
  ⟨.ptr 241, 1, 8, [Value.pointer none]⟩,
  ⟨.struct [(0, 17)], 1, 8, [Value.pointer none]⟩,
  ⟨.struct [(0, 17)], 1, 8, [Value.pointer none]⟩,
  ⟨.iface, 1, 16, [Value.nilIface]⟩,
  ⟨.int .i32, 1, 4, [Value.int IntKind.i32 0]⟩,
  ⟨.slice 50, 1, 24, [Value.slice none 0 0]⟩,
  ⟨.slice 9, 1, 24, [Value.slice none 0 0]⟩,
  ⟨.slice 48, 1, 24, [Value.slice none 0 0]⟩,
  ⟨.struct [(0, 22), (1, 23), (2, 24), (3, 3)], 4, 80, [Value.slice none 0 0, Value.slice none 0 0, Value.slice none 0 0, Value.int IntKind.i64 0]⟩,
  ⟨.struct [(0, 22), (1, 23), (2, 24), (3, 3)], 4, 80, [Value.slice none 0 0, Value.slice none 0 0, Value.slice none 0 0, Value.int IntKind.i64 0]⟩,
  ⟨.func, 1, 8, [Value.nilFunc]⟩,
  ⟨.func, 1, 8, [Value.nilFunc]⟩,
  ⟨.func, 1, 8, [Value.nilFunc]⟩,
  ⟨.func, 1, 8, [Value.nilFunc]⟩,
  ⟨.func, 1, 8, [Value.nilFunc]⟩,
  ⟨.func, 1, 8, [Value.nilFunc]⟩,
  ⟨.slice 5, 1, 24, [Value.slice none 0 0]⟩,
  ⟨.cpx, 1, 16, [Value.complex FloatKind.f64 0 0]⟩,
  ⟨.int .i64, 1, 8, [Value.int IntKind.i64 0]⟩,
  ⟨.other, 1, 0, []⟩,
  ⟨.func, 1, 8, [Value.nilFunc]⟩,
  ⟨.other, 1, 0, []⟩,
  ⟨.func, 1, 8, [Value.nilFunc]⟩,
  ⟨.func, 1, 8, [Value.nilFunc]⟩,
  ⟨.other, 1, 0, []⟩,
  ⟨.func, 1, 8, [Value.nilFunc]⟩,
  ⟨.int .u32, 1, 4, [Value.int IntKind.u32 0]⟩,
  ⟨.other, 1, 0, []⟩,
  ⟨.func, 1, 8, [Value.nilFunc]⟩,
  ⟨.slice 3, 1, 24, [Value.slice none 0 0]⟩,
  ⟨.struct [(0, 3), (1, 46), (2, 3)], 3, 40, [Value.int IntKind.i64 0, Value.slice none 0 0, Value.int IntKind.i64 0]⟩,
  ⟨.struct [(0, 3), (1, 46), (2, 3)], 3, 40, [Value.int IntKind.i64 0, Value.slice none 0 0, Value.int IntKind.i64 0]⟩,
  ⟨.struct [(0, 9), (1, 3), (2, 3)], 3, 32, [Value.string (ByteArray.mk #[]), Value.int IntKind.i64 0, Value.int IntKind.i64 0]⟩,
  ⟨.struct [(0, 9), (1, 3), (2, 3)], 3, 32, [Value.string (ByteArray.mk #[]), Value.int IntKind.i64 0, Value.int IntKind.i64 0]⟩,
  ⟨.func, 1, 8, [Value.nilFunc]⟩,
  ⟨.func, 1, 8, [Value.nilFunc]⟩,
  ⟨.func, 1, 8, [Value.nilFunc]⟩,
  ⟨.func, 1, 8, [Value.nilFunc]⟩,
  ⟨.func, 1, 8, [Value.nilFunc]⟩,
  ⟨.func, 1, 8, [Value.nilFunc]⟩,
  ⟨.func, 1, 8, [Value.nilFunc]⟩,
  ⟨.func, 1, 8, [Value.nilFunc]⟩,
  ⟨.func, 1, 8, [Value.nilFunc]⟩,
  ⟨.func, 1, 8, [Value.nilFunc]⟩,
  ⟨.func, 1, 8, [Value.nilFunc]⟩,
  ⟨.func, 1, 8, [Value.nilFunc]⟩,
  ⟨.func, 1, 8, [Value.nilFunc]⟩,
  ⟨.slice 138, 1, 24, [Value.slice none 0 0]⟩,
  ⟨.slice 143, 1, 24, [Value.slice none 0 0]⟩,
  ⟨.struct [(0, 64), (1, 65)], 2, 48, [Value.slice none 0 0, Value.slice none 0 0]⟩,
  ⟨.struct [(0, 64), (1, 65)], 2, 48, [Value.slice none 0 0, Value.slice none 0 0]⟩,
  ⟨.other, 1, 0, []⟩,
  ⟨.func, 1, 8, [Value.nilFunc]⟩,
  ⟨.func, 1, 8, [Value.nilFunc]⟩,
  ⟨.func, 1, 8, [Value.nilFunc]⟩,
  ⟨.func, 1, 8, [Value.nilFunc]⟩,
  ⟨.func, 1, 8, [Value.nilFunc]⟩,
  ⟨.ptr 76, 1, 8, [Value.pointer none]⟩,
  ⟨.struct [(0, 74), (1, 33)], 2, 32, [Value.pointer none, Value.slice none 0 0]⟩,
  ⟨.struct [(0, 74), (1, 33)], 2, 32, [Value.pointer none, Value.slice none 0 0]⟩,
  ⟨.struct [(0, 76)], 2, 32, [Value.pointer none, Value.slice none 0 0]⟩,
  ⟨.struct [(0, 76)], 2, 32, [Value.pointer none, Value.slice none 0 0]⟩,
  ⟨.func, 1, 8, [Value.nilFunc]⟩,
  ⟨.slice 23, 1, 24, [Value.slice none 0 0]⟩,
  ⟨.func, 1, 8, [Value.nilFunc]⟩,
  ⟨.func, 1, 8, [Value.nilFunc]⟩,
  ⟨.func, 1, 8, [Value.nilFunc]⟩,
  ⟨.func, 1, 8, [Value.nilFunc]⟩,
  ⟨.func, 1, 8, [Value.nilFunc]⟩,
  ⟨.func, 1, 8, [Value.nilFunc]⟩,
  ⟨.func, 1, 8, [Value.nilFunc]⟩,
  ⟨.func, 1, 8, [Value.nilFunc]⟩,
  ⟨.func, 1, 8, [Value.nilFunc]⟩,
  ⟨.func, 1, 8, [Value.nilFunc]⟩,
  ⟨.func, 1, 8, [Value.nilFunc]⟩,
  ⟨.func, 1, 8, [Value.nilFunc]⟩,
  ⟨.slice 127, 1, 24, [Value.slice none 0 0]⟩,
  ⟨.other, 1, 0, []⟩,
  ⟨.func, 1, 8, [Value.nilFunc]⟩,
  ⟨.func, 1, 8, [Value.nilFunc]⟩,
  ⟨.struct [(0, 34), (1, 35)], 2, 24, [Value.complex FloatKind.f64 0 0, Value.int IntKind.i64 0]⟩,
  ⟨.struct [(0, 34), (1, 35)], 2, 24, [Value.complex FloatKind.f64 0 0, Value.int IntKind.i64 0]⟩,
  ⟨.other, 1, 0, []⟩,
  ⟨.ptr 104, 1, 8, [Value.pointer none]⟩,
  ⟨.map 9 3, 1, 8, [Value.map none]⟩,
  ⟨.slice 141, 1, 24, [Value.slice none 0 0]⟩,
  ⟨.struct [(0, 26), (4, 101), (5, 102), (6, 3)], 7, 120, [Value.slice none 0 0, Value.slice none 0 0, Value.slice none 0 0, Value.int IntKind.i64 0, Value.map none, Value.slice none 0 0, Value.int IntKind.i64 0]⟩,
  ⟨.struct [(0, 26), (4, 101), (5, 102), (6, 3)], 7, 120, [Value.slice none 0 0, Value.slice none 0 0, Value.slice none 0 0, Value.int IntKind.i64 0, Value.map none, Value.slice none 0 0, Value.int IntKind.i64 0]⟩,
  ⟨.func, 1, 8, [Value.nilFunc]⟩,
  ⟨.func, 1, 8, [Value.nilFunc]⟩,
  ⟨.func, 1, 8, [Value.nilFunc]⟩,
  ⟨.func, 1, 8, [Value.nilFunc]⟩,
  ⟨.ptr 78, 1, 8, [Value.pointer none]⟩,
  ⟨.iface, 1, 16, [Value.nilIface]⟩,
  ⟨.iface, 1, 16, [Value.nilIface]⟩,
  ⟨.other, 1, 0, []⟩,
  ⟨.func, 1, 8, [Value.nilFunc]⟩,
  ⟨.func, 1, 8, [Value.nilFunc]⟩,
  ⟨.func, 1, 8, [Value.nilFunc]⟩,
  ⟨.ptr 5, 1, 8, [Value.pointer none]⟩,
  ⟨.map 3 3, 1, 8, [Value.map none]⟩,
  ⟨.func, 1, 8, [Value.nilFunc]⟩,
  ⟨.func, 1, 8, [Value.nilFunc]⟩,
  ⟨.ptr 123, 1, 8, [Value.pointer none]⟩,
  ⟨.func, 1, 8, [Value.nilFunc]⟩,
  ⟨.struct [(0, 33), (1, 34)], 2, 40, [Value.slice none 0 0, Value.complex FloatKind.f64 0 0]⟩,
  ⟨.struct [(0, 33), (1, 34)], 2, 40, [Value.slice none 0 0, Value.complex FloatKind.f64 0 0]⟩,
  ⟨.func, 1, 8, [Value.nilFunc]⟩,
  ⟨.func, 1, 8, [Value.nilFunc]⟩,
  ⟨.struct [(0, 3), (1, 9), (2, 34)], 3, 40, [Value.int IntKind.i64 0, Value.string (ByteArray.mk #[]), Value.complex FloatKind.f64 0 0]⟩,
  ⟨.struct [(0, 3), (1, 9), (2, 34)], 3, 40, [Value.int IntKind.i64 0, Value.string (ByteArray.mk #[]), Value.complex FloatKind.f64 0 0]⟩,
  ⟨.other, 1, 0, []⟩,
  ⟨.func, 1, 8, [Value.nilFunc]⟩,
  ⟨.struct [(0, 34), (1, 35)], 2, 24, [Value.complex FloatKind.f64 0 0, Value.int IntKind.i64 0]⟩,
  ⟨.struct [(0, 34), (1, 35)], 2, 24, [Value.complex FloatKind.f64 0 0, Value.int IntKind.i64 0]⟩,
  ⟨.other, 1, 0, []⟩,
  ⟨.ptr 135, 1, 8, [Value.pointer none]⟩,
  ⟨.struct [(0, 93), (1, 34)], 2, 40, [Value.slice none 0 0, Value.complex FloatKind.f64 0 0]⟩,
  ⟨.struct [(0, 93), (1, 34)], 2, 40, [Value.slice none 0 0, Value.complex FloatKind.f64 0 0]⟩,
  ⟨.func, 1, 8, [Value.nilFunc]⟩,
  ⟨.struct [(0, 3), (1, 102)], 2, 32, [Value.int IntKind.i64 0, Value.slice none 0 0]⟩,
  ⟨.struct [(0, 3), (1, 102)], 2, 32, [Value.int IntKind.i64 0, Value.slice none 0 0]⟩,
  ⟨.func, 1, 8, [Value.nilFunc]⟩,
  ⟨.struct [(0, 9), (1, 34)], 2, 32, [Value.string (ByteArray.mk #[]), Value.complex FloatKind.f64 0 0]⟩,
  ⟨.struct [(0, 9), (1, 34)], 2, 32, [Value.string (ByteArray.mk #[]), Value.complex FloatKind.f64 0 0]⟩,
  ⟨.struct [(0, 141), (2, 102), (3, 141)], 5, 88, [Value.string (ByteArray.mk #[]), Value.complex FloatKind.f64 0 0, Value.slice none 0 0, Value.string (ByteArray.mk #[]), Value.complex FloatKind.f64 0 0]⟩,
  ⟨.struct [(0, 141), (2, 102), (3, 141)], 5, 88, [Value.string (ByteArray.mk #[]), Value.complex FloatKind.f64 0 0, Value.slice none 0 0, Value.string (ByteArray.mk #[]), Value.complex FloatKind.f64 0 0]⟩,
  ⟨.func, 1, 8, [Value.nilFunc]⟩,
  ⟨.func, 1, 8, [Value.nilFunc]⟩,
  ⟨.func, 1, 8, [Value.nilFunc]⟩,
  ⟨.ptr 149, 1, 8, [Value.pointer none]⟩,
  ⟨.struct [(0, 26), (4, 23), (5, 141), (7, 4), (8, 3), (9, 34), (10, 35)], 11, 176, [Value.slice none 0 0, Value.slice none 0 0, Value.slice none 0 0, Value.int IntKind.i64 0, Value.slice none 0 0, Value.string (ByteArray.mk #[]), Value.complex FloatKind.f64 0 0, Value.bool false, Value.int IntKind.i64 0, Value.complex FloatKind.f64 0 0, Value.int IntKind.i64 0]⟩,
  ⟨.struct [(0, 26), (4, 23), (5, 141), (7, 4), (8, 3), (9, 34), (10, 35)], 11, 176, [Value.slice none 0 0, Value.slice none 0 0, Value.slice none 0 0, Value.int IntKind.i64 0, Value.slice none 0 0, Value.string (ByteArray.mk #[]), Value.complex FloatKind.f64 0 0, Value.bool false, Value.int IntKind.i64 0, Value.complex FloatKind.f64 0 0, Value.int IntKind.i64 0]⟩,
  ⟨.func, 1, 8, [Value.nilFunc]⟩,
  ⟨.func, 1, 8, [Value.nilFunc]⟩,
  ⟨.arr 16 43, 16, 64, [Value.int IntKind.u32 0, Value.int IntKind.u32 0, Value.int IntKind.u32 0, Value.int IntKind.u32 0, Value.int IntKind.u32 0, Value.int IntKind.u32 0, Value.int IntKind.u32 0, Value.int IntKind.u32 0, Value.int IntKind.u32 0, Value.int IntKind.u32 0, Value.int IntKind.u32 0, Value.int IntKind.u32 0, Value.int IntKind.u32 0, Value.int IntKind.u32 0, Value.int IntKind.u32 0, Value.int IntKind.u32 0]⟩,
  ⟨.func, 1, 8, [Value.nilFunc]⟩,
  ⟨.int .u64, 1, 8, [Value.int IntKind.u64 0]⟩,
  ⟨.other, 1, 0, []⟩,
  ⟨.func, 1, 8, [Value.nilFunc]⟩,
  ⟨.func, 1, 8, [Value.nilFunc]⟩,
  ⟨.func, 1, 8, [Value.nilFunc]⟩,
  ⟨.func, 1, 8, [Value.nilFunc]⟩,
  ⟨.flt, 1, 8, [Value.float FloatKind.f64 0]⟩,
  ⟨.func, 1, 8, [Value.nilFunc]⟩,
  ⟨.func, 1, 8, [Value.nilFunc]⟩,
  ⟨.func, 1, 8, [Value.nilFunc]⟩,
  ⟨.func, 1, 8, [Value.nilFunc]⟩,
  ⟨.func, 1, 8, [Value.nilFunc]⟩,
  ⟨.func, 1, 8, [Value.nilFunc]⟩,
  ⟨.func, 1, 8, [Value.nilFunc]⟩,
  ⟨.func, 1, 8, [Value.nilFunc]⟩,
  ⟨.func, 1, 8, [Value.nilFunc]⟩,
  ⟨.func, 1, 8, [Value.nilFunc]⟩,
  ⟨.func, 1, 8, [Value.nilFunc]⟩,
  ⟨.func, 1, 8, [Value.nilFunc]⟩,
  ⟨.func, 1, 8, [Value.nilFunc]⟩,
  ⟨.func, 1, 8, [Value.nilFunc]⟩,
  ⟨.func, 1, 8, [Value.nilFunc]⟩,
  ⟨.func, 1, 8, [Value.nilFunc]⟩,
  ⟨.func, 1, 8, [Value.nilFunc]⟩,
  ⟨.func, 1, 8, [Value.nilFunc]⟩,
  ⟨.ptr 181, 1, 8, [Value.pointer none]⟩,
  ⟨.struct [(0, 93), (1, 34), (2, 34), (3, 35)], 4, 64, [Value.slice none 0 0, Value.complex FloatKind.f64 0 0, Value.complex FloatKind.f64 0 0, Value.int IntKind.i64 0]⟩,
  ⟨.struct [(0, 93), (1, 34), (2, 34), (3, 35)], 4, 64, [Value.slice none 0 0, Value.complex FloatKind.f64 0 0, Value.complex FloatKind.f64 0 0, Value.int IntKind.i64 0]⟩,
  ⟨.func, 1, 8, [Value.nilFunc]⟩,
  ⟨.func, 1, 8, [Value.nilFunc]⟩,
  ⟨.func, 1, 8, [Value.nilFunc]⟩,
  ⟨.other, 1, 8, []⟩,
  ⟨.func, 1, 8, [Value.nilFunc]⟩,
  ⟨.func, 1, 8, [Value.nilFunc]⟩,
  ⟨.int .i64, 1, 8, [Value.int IntKind.i64 0]⟩,
  ⟨.other, 1, 0, []⟩,
  ⟨.func, 1, 8, [Value.nilFunc]⟩,
  ⟨.func, 1, 8, [Value.nilFunc]⟩,
  ⟨.func, 1, 8, [Value.nilFunc]⟩,
  ⟨.func, 1, 8, [Value.nilFunc]⟩,
  ⟨.func, 1, 8, [Value.nilFunc]⟩,
  ⟨.func, 1, 8, [Value.nilFunc]⟩,
  ⟨.func, 1, 8, [Value.nilFunc]⟩,
  ⟨.int .u64, 1, 8, [Value.int IntKind.u64 0]⟩,
  ⟨.func, 1, 8, [Value.nilFunc]⟩,
  ⟨.func, 1, 8, [Value.nilFunc]⟩,
  ⟨.func, 1, 8, [Value.nilFunc]⟩,
  ⟨.func, 1, 8, [Value.nilFunc]⟩,
  ⟨.func, 1, 8, [Value.nilFunc]⟩,
  ⟨.slice 102, 1, 24, [Value.slice none 0 0]⟩,
  ⟨.func, 1, 8, [Value.nilFunc]⟩,
  ⟨.func, 1, 8, [Value.nilFunc]⟩,
  ⟨.func, 1, 8, [Value.nilFunc]⟩,
  ⟨.func, 1, 8, [Value.nilFunc]⟩,
  ⟨.func, 1, 8, [Value.nilFunc]⟩,
  ⟨.func, 1, 8, [Value.nilFunc]⟩,
  ⟨.func, 1, 8, [Value.nilFunc]⟩,
  ⟨.func, 1, 8, [Value.nilFunc]⟩,
  ⟨.int .u64, 1, 8, [Value.int IntKind.u64 0]⟩,
  ⟨.func, 1, 8, [Value.nilFunc]⟩,
  ⟨.func, 1, 8, [Value.nilFunc]⟩,
  ⟨.func, 1, 8, [Value.nilFunc]⟩,
  ⟨.ptr 3, 1, 8, [Value.pointer none]⟩,
  ⟨.func, 1, 8, [Value.nilFunc]⟩,
  ⟨.func, 1, 8, [Value.nilFunc]⟩,
  ⟨.func, 1, 8, [Value.nilFunc]⟩,
  ⟨.ptr 50, 1, 8, [Value.pointer none]⟩,
  ⟨.ptr 212, 1, 8, [Value.pointer none]⟩,
  ⟨.other, 1, 0, []⟩,
  ⟨.func, 1, 8, [Value.nilFunc]⟩,
  ⟨.other, 1, 0, []⟩,
  ⟨.func, 1, 8, [Value.nilFunc]⟩,
  ⟨.func, 1, 8, [Value.nilFunc]⟩,
  ⟨.func, 1, 8, [Value.nilFunc]⟩,
  ⟨.func, 1, 8, [Value.nilFunc]⟩,
  ⟨.func, 1, 8, [Value.nilFunc]⟩,
  ⟨.struct [(0, 17), (1, 17), (2, 17), (3, 9)], 4, 40, [Value.pointer none, Value.pointer none, Value.pointer none, Value.string (ByteArray.mk #[])]⟩,
  ⟨.struct [(0, 17), (1, 17), (2, 17), (3, 9)], 4, 40, [Value.pointer none, Value.pointer none, Value.pointer none, Value.string (ByteArray.mk #[])]⟩,
  ⟨.arr 0 16, 0, 0, []⟩,
  ⟨.struct [(0, 232)], 0, 0, []⟩,
  ⟨.struct [(0, 232)], 0, 0, []⟩,
  ⟨.int .u8, 1, 1, [Value.int IntKind.u8 0]⟩,
  ⟨.int .u8, 1, 1, [Value.int IntKind.u8 0]⟩,
  ⟨.func, 1, 8, [Value.nilFunc]⟩,
  ⟨.int .i32, 1, 4, [Value.int IntKind.i32 0]⟩,
  ⟨.int .i32, 1, 4, [Value.int IntKind.i32 0]⟩,
  ⟨.struct [(0, 12), (1, 12), (2, 43), (3, 235), (4, 5), (5, 5), (6, 236), (7, 237), (8, 116), (9, 238), (10, 239)], 11, 48, [Value.int IntKind.u64 0, Value.int IntKind.u64 0, Value.int IntKind.u32 0, Value.int IntKind.u8 0, Value.int IntKind.u8 0, Value.int IntKind.u8 0, Value.int IntKind.u8 0, Value.nilFunc, Value.pointer none, Value.int IntKind.i32 0, Value.int IntKind.i32 0]⟩,
  ⟨.struct [(0, 12), (1, 12), (2, 43), (3, 235), (4, 5), (5, 5), (6, 236), (7, 237), (8, 116), (9, 238), (10, 239)], 11, 48, [Value.int IntKind.u64 0, Value.int IntKind.u64 0, Value.int IntKind.u32 0, Value.int IntKind.u8 0, Value.int IntKind.u8 0, Value.int IntKind.u8 0, Value.int IntKind.u8 0, Value.nilFunc, Value.pointer none, Value.int IntKind.i32 0, Value.int IntKind.i32 0]⟩]
set_option maxRecDepth 100000 in
theorem tysOK : TyFrom Tryz.prog 0 tys :=
  ⟨⟨⟨_, _, Tryz.underlying0, Tryz.type0, rfl, rfl, rfl, fun h => absurd rfl h⟩, fun h => absurd rfl h⟩,
  ⟨⟨_, _, Tryz.underlying1, Tryz.type1, rfl, rfl, rfl, fun _ => ⟨rfl, rfl⟩⟩, fun _ _ => rfl⟩,
  ⟨⟨_, _, Tryz.underlying2, Tryz.type2, rfl, rfl, rfl, fun _ => ⟨rfl, rfl⟩⟩, fun _ _ => rfl⟩,
  ⟨⟨_, _, Tryz.underlying3, Tryz.type3, rfl, rfl, rfl, fun _ => ⟨rfl, rfl⟩⟩, fun _ _ => rfl⟩,
  ⟨⟨_, _, Tryz.underlying4, Tryz.type4, rfl, rfl, rfl, fun _ => ⟨rfl, rfl⟩⟩, fun _ _ => rfl⟩,
  ⟨⟨_, _, Tryz.underlying5, Tryz.type5, rfl, rfl, rfl, fun _ => ⟨rfl, rfl⟩⟩, fun _ _ => rfl⟩,
  ⟨⟨_, _, Tryz.underlying6, Tryz.type6, rfl, rfl, rfl, fun _ => ⟨rfl, rfl⟩⟩, fun _ _ => rfl⟩,
  ⟨⟨_, _, Tryz.underlying7, Tryz.type7, rfl, rfl, rfl, fun _ => ⟨rfl, rfl⟩⟩, fun _ h => by cases h⟩,
  ⟨⟨_, _, Tryz.underlying8, Tryz.type8, rfl, rfl, rfl, fun _ => ⟨rfl, rfl⟩⟩, fun _ h => by cases h⟩,
  ⟨⟨_, _, Tryz.underlying9, Tryz.type9, rfl, rfl, rfl, fun _ => ⟨rfl, rfl⟩⟩, fun _ _ => rfl⟩,
  ⟨⟨_, _, Tryz.underlying10, Tryz.type10, rfl, rfl, rfl, fun _ => ⟨rfl, rfl⟩⟩, fun _ _ => rfl⟩,
  ⟨⟨_, _, Tryz.underlying11, Tryz.type11, rfl, rfl, rfl, fun _ => ⟨rfl, rfl⟩⟩, fun _ _ => rfl⟩,
  ⟨⟨_, _, Tryz.underlying12, Tryz.type12, rfl, rfl, rfl, fun _ => ⟨rfl, rfl⟩⟩, fun _ _ => rfl⟩,
  ⟨⟨_, _, Tryz.underlying13, Tryz.type13, rfl, rfl, rfl, fun _ => ⟨rfl, rfl⟩⟩, fun _ h => by cases h⟩,
  ⟨⟨_, _, Tryz.underlying14, Tryz.type14, rfl, rfl, rfl, fun _ => ⟨rfl, rfl⟩⟩, fun _ h => by cases h⟩,
  ⟨⟨_, _, Tryz.underlying15, Tryz.type15, rfl, rfl, rfl, fun _ => ⟨rfl, rfl⟩⟩, fun _ _ => rfl⟩,
  ⟨⟨_, _, Tryz.underlying16, Tryz.type16, rfl, rfl, rfl, fun _ => ⟨rfl, rfl⟩⟩, fun _ _ => rfl⟩,
  ⟨⟨_, _, Tryz.underlying17, Tryz.type17, rfl, rfl, rfl, fun _ => ⟨rfl, rfl⟩⟩, fun _ _ => rfl⟩,
  ⟨⟨_, _, Tryz.underlying18, Tryz.type18, rfl, rfl, rfl, fun _ => ⟨rfl, rfl⟩⟩, fun _ h => by cases h⟩,
  ⟨⟨_, _, Tryz.underlying19, Tryz.type19, rfl, rfl, rfl, fun _ => ⟨rfl, rfl⟩⟩, fun _ h => by cases h⟩,
  ⟨⟨_, _, Tryz.underlying20, Tryz.type20, rfl, rfl, rfl, fun _ => ⟨rfl, rfl⟩⟩, fun _ _ => rfl⟩,
  ⟨⟨_, _, Tryz.underlying21, Tryz.type21, rfl, rfl, rfl, fun _ => ⟨rfl, rfl⟩⟩, fun _ _ => rfl⟩,
  ⟨⟨_, _, Tryz.underlying22, Tryz.type22, rfl, rfl, rfl, fun _ => ⟨rfl, rfl⟩⟩, fun _ _ => rfl⟩,
  ⟨⟨_, _, Tryz.underlying23, Tryz.type23, rfl, rfl, rfl, fun _ => ⟨rfl, rfl⟩⟩, fun _ _ => rfl⟩,
  ⟨⟨_, _, Tryz.underlying24, Tryz.type24, rfl, rfl, rfl, fun _ => ⟨rfl, rfl⟩⟩, fun _ _ => rfl⟩,
  ⟨⟨_, _, Tryz.underlying25, Tryz.type25, rfl, rfl, rfl, fun _ => ⟨rfl, rfl⟩⟩, fun _ h => by cases h⟩,
  ⟨⟨_, _, Tryz.underlying26, Tryz.type26, rfl, rfl, rfl, fun _ => ⟨rfl, rfl⟩⟩, fun _ h => by cases h⟩,
  ⟨⟨_, _, Tryz.underlying27, Tryz.type27, rfl, rfl, rfl, fun _ => ⟨rfl, rfl⟩⟩, fun _ _ => rfl⟩,
  ⟨⟨_, _, Tryz.underlying28, Tryz.type28, rfl, rfl, rfl, fun _ => ⟨rfl, rfl⟩⟩, fun _ _ => rfl⟩,
  ⟨⟨_, _, Tryz.underlying29, Tryz.type29, rfl, rfl, rfl, fun _ => ⟨rfl, rfl⟩⟩, fun _ _ => rfl⟩,
  ⟨⟨_, _, Tryz.underlying30, Tryz.type30, rfl, rfl, rfl, fun _ => ⟨rfl, rfl⟩⟩, fun _ _ => rfl⟩,
  ⟨⟨_, _, Tryz.underlying31, Tryz.type31, rfl, rfl, rfl, fun _ => ⟨rfl, rfl⟩⟩, fun _ _ => rfl⟩,
  ⟨⟨_, _, Tryz.underlying32, Tryz.type32, rfl, rfl, rfl, fun _ => ⟨rfl, rfl⟩⟩, fun _ _ => rfl⟩,
  ⟨⟨_, _, Tryz.underlying33, Tryz.type33, rfl, rfl, rfl, fun _ => ⟨rfl, rfl⟩⟩, fun _ _ => rfl⟩,
  ⟨⟨_, _, Tryz.underlying34, Tryz.type34, rfl, rfl, rfl, fun _ => ⟨rfl, rfl⟩⟩, fun _ _ => rfl⟩,
  ⟨⟨_, _, Tryz.underlying35, Tryz.type35, rfl, rfl, rfl, fun _ => ⟨rfl, rfl⟩⟩, fun _ _ => rfl⟩,
  ⟨⟨_, _, Tryz.underlying36, Tryz.type36, rfl, rfl, rfl, fun h => absurd rfl h⟩, fun h => absurd rfl h⟩,
  ⟨⟨_, _, Tryz.underlying37, Tryz.type37, rfl, rfl, rfl, fun _ => ⟨rfl, rfl⟩⟩, fun _ _ => rfl⟩,
  ⟨⟨_, _, Tryz.underlying38, Tryz.type38, rfl, rfl, rfl, fun h => absurd rfl h⟩, fun h => absurd rfl h⟩,
  ⟨⟨_, _, Tryz.underlying39, Tryz.type39, rfl, rfl, rfl, fun _ => ⟨rfl, rfl⟩⟩, fun _ _ => rfl⟩,
  ⟨⟨_, _, Tryz.underlying40, Tryz.type40, rfl, rfl, rfl, fun _ => ⟨rfl, rfl⟩⟩, fun _ _ => rfl⟩,
  ⟨⟨_, _, Tryz.underlying41, Tryz.type41, rfl, rfl, rfl, fun h => absurd rfl h⟩, fun h => absurd rfl h⟩,
  ⟨⟨_, _, Tryz.underlying42, Tryz.type42, rfl, rfl, rfl, fun _ => ⟨rfl, rfl⟩⟩, fun _ _ => rfl⟩,
  ⟨⟨_, _, Tryz.underlying43, Tryz.type43, rfl, rfl, rfl, fun _ => ⟨rfl, rfl⟩⟩, fun _ _ => rfl⟩,
  ⟨⟨_, _, Tryz.underlying44, Tryz.type44, rfl, rfl, rfl, fun h => absurd rfl h⟩, fun h => absurd rfl h⟩,
  ⟨⟨_, _, Tryz.underlying45, Tryz.type45, rfl, rfl, rfl, fun _ => ⟨rfl, rfl⟩⟩, fun _ _ => rfl⟩,
  ⟨⟨_, _, Tryz.underlying46, Tryz.type46, rfl, rfl, rfl, fun _ => ⟨rfl, rfl⟩⟩, fun _ _ => rfl⟩,
  ⟨⟨_, _, Tryz.underlying47, Tryz.type47, rfl, rfl, rfl, fun _ => ⟨rfl, rfl⟩⟩, fun _ h => by cases h⟩,
  ⟨⟨_, _, Tryz.underlying48, Tryz.type48, rfl, rfl, rfl, fun _ => ⟨rfl, rfl⟩⟩, fun _ h => by cases h⟩,
  ⟨⟨_, _, Tryz.underlying49, Tryz.type49, rfl, rfl, rfl, fun _ => ⟨rfl, rfl⟩⟩, fun _ h => by cases h⟩,
  ⟨⟨_, _, Tryz.underlying50, Tryz.type50, rfl, rfl, rfl, fun _ => ⟨rfl, rfl⟩⟩, fun _ h => by cases h⟩,
  ⟨⟨_, _, Tryz.underlying51, Tryz.type51, rfl, rfl, rfl, fun _ => ⟨rfl, rfl⟩⟩, fun _ _ => rfl⟩,
  ⟨⟨_, _, Tryz.underlying52, Tryz.type52, rfl, rfl, rfl, fun _ => ⟨rfl, rfl⟩⟩, fun _ _ => rfl⟩,
  ⟨⟨_, _, Tryz.underlying53, Tryz.type53, rfl, rfl, rfl, fun _ => ⟨rfl, rfl⟩⟩, fun _ _ => rfl⟩,
  ⟨⟨_, _, Tryz.underlying54, Tryz.type54, rfl, rfl, rfl, fun _ => ⟨rfl, rfl⟩⟩, fun _ _ => rfl⟩,
  ⟨⟨_, _, Tryz.underlying55, Tryz.type55, rfl, rfl, rfl, fun _ => ⟨rfl, rfl⟩⟩, fun _ _ => rfl⟩,
  ⟨⟨_, _, Tryz.underlying56, Tryz.type56, rfl, rfl, rfl, fun _ => ⟨rfl, rfl⟩⟩, fun _ _ => rfl⟩,
  ⟨⟨_, _, Tryz.underlying57, Tryz.type57, rfl, rfl, rfl, fun _ => ⟨rfl, rfl⟩⟩, fun _ _ => rfl⟩,
  ⟨⟨_, _, Tryz.underlying58, Tryz.type58, rfl, rfl, rfl, fun _ => ⟨rfl, rfl⟩⟩, fun _ _ => rfl⟩,
  ⟨⟨_, _, Tryz.underlying59, Tryz.type59, rfl, rfl, rfl, fun _ => ⟨rfl, rfl⟩⟩, fun _ _ => rfl⟩,
  ⟨⟨_, _, Tryz.underlying60, Tryz.type60, rfl, rfl, rfl, fun _ => ⟨rfl, rfl⟩⟩, fun _ _ => rfl⟩,
  ⟨⟨_, _, Tryz.underlying61, Tryz.type61, rfl, rfl, rfl, fun _ => ⟨rfl, rfl⟩⟩, fun _ _ => rfl⟩,
  ⟨⟨_, _, Tryz.underlying62, Tryz.type62, rfl, rfl, rfl, fun _ => ⟨rfl, rfl⟩⟩, fun _ _ => rfl⟩,
  ⟨⟨_, _, Tryz.underlying63, Tryz.type63, rfl, rfl, rfl, fun _ => ⟨rfl, rfl⟩⟩, fun _ _ => rfl⟩,
  ⟨⟨_, _, Tryz.underlying64, Tryz.type64, rfl, rfl, rfl, fun _ => ⟨rfl, rfl⟩⟩, fun _ _ => rfl⟩,
  ⟨⟨_, _, Tryz.underlying65, Tryz.type65, rfl, rfl, rfl, fun _ => ⟨rfl, rfl⟩⟩, fun _ _ => rfl⟩,
  ⟨⟨_, _, Tryz.underlying66, Tryz.type66, rfl, rfl, rfl, fun _ => ⟨rfl, rfl⟩⟩, fun _ h => by cases h⟩,
  ⟨⟨_, _, Tryz.underlying67, Tryz.type67, rfl, rfl, rfl, fun _ => ⟨rfl, rfl⟩⟩, fun _ h => by cases h⟩,
  ⟨⟨_, _, Tryz.underlying68, Tryz.type68, rfl, rfl, rfl, fun h => absurd rfl h⟩, fun h => absurd rfl h⟩,
  ⟨⟨_, _, Tryz.underlying69, Tryz.type69, rfl, rfl, rfl, fun _ => ⟨rfl, rfl⟩⟩, fun _ _ => rfl⟩,
  ⟨⟨_, _, Tryz.underlying70, Tryz.type70, rfl, rfl, rfl, fun _ => ⟨rfl, rfl⟩⟩, fun _ _ => rfl⟩,
  ⟨⟨_, _, Tryz.underlying71, Tryz.type71, rfl, rfl, rfl, fun _ => ⟨rfl, rfl⟩⟩, fun _ _ => rfl⟩,
  ⟨⟨_, _, Tryz.underlying72, Tryz.type72, rfl, rfl, rfl, fun _ => ⟨rfl, rfl⟩⟩, fun _ _ => rfl⟩,
  ⟨⟨_, _, Tryz.underlying73, Tryz.type73, rfl, rfl, rfl, fun _ => ⟨rfl, rfl⟩⟩, fun _ _ => rfl⟩,
  ⟨⟨_, _, Tryz.underlying74, Tryz.type74, rfl, rfl, rfl, fun _ => ⟨rfl, rfl⟩⟩, fun _ _ => rfl⟩,
  ⟨⟨_, _, Tryz.underlying75, Tryz.type75, rfl, rfl, rfl, fun _ => ⟨rfl, rfl⟩⟩, fun _ h => by cases h⟩,
  ⟨⟨_, _, Tryz.underlying76, Tryz.type76, rfl, rfl, rfl, fun _ => ⟨rfl, rfl⟩⟩, fun _ h => by cases h⟩,
  ⟨⟨_, _, Tryz.underlying77, Tryz.type77, rfl, rfl, rfl, fun _ => ⟨rfl, rfl⟩⟩, fun _ h => by cases h⟩,
  ⟨⟨_, _, Tryz.underlying78, Tryz.type78, rfl, rfl, rfl, fun _ => ⟨rfl, rfl⟩⟩, fun _ h => by cases h⟩,
  ⟨⟨_, _, Tryz.underlying79, Tryz.type79, rfl, rfl, rfl, fun _ => ⟨rfl, rfl⟩⟩, fun _ _ => rfl⟩,
  ⟨⟨_, _, Tryz.underlying80, Tryz.type80, rfl, rfl, rfl, fun _ => ⟨rfl, rfl⟩⟩, fun _ _ => rfl⟩,
  ⟨⟨_, _, Tryz.underlying81, Tryz.type81, rfl, rfl, rfl, fun _ => ⟨rfl, rfl⟩⟩, fun _ _ => rfl⟩,
  ⟨⟨_, _, Tryz.underlying82, Tryz.type82, rfl, rfl, rfl, fun _ => ⟨rfl, rfl⟩⟩, fun _ _ => rfl⟩,
  ⟨⟨_, _, Tryz.underlying83, Tryz.type83, rfl, rfl, rfl, fun _ => ⟨rfl, rfl⟩⟩, fun _ _ => rfl⟩,
  ⟨⟨_, _, Tryz.underlying84, Tryz.type84, rfl, rfl, rfl, fun _ => ⟨rfl, rfl⟩⟩, fun _ _ => rfl⟩,
  ⟨⟨_, _, Tryz.underlying85, Tryz.type85, rfl, rfl, rfl, fun _ => ⟨rfl, rfl⟩⟩, fun _ _ => rfl⟩,
  ⟨⟨_, _, Tryz.underlying86, Tryz.type86, rfl, rfl, rfl, fun _ => ⟨rfl, rfl⟩⟩, fun _ _ => rfl⟩,
  ⟨⟨_, _, Tryz.underlying87, Tryz.type87, rfl, rfl, rfl, fun _ => ⟨rfl, rfl⟩⟩, fun _ _ => rfl⟩,
  ⟨⟨_, _, Tryz.underlying88, Tryz.type88, rfl, rfl, rfl, fun _ => ⟨rfl, rfl⟩⟩, fun _ _ => rfl⟩,
  ⟨⟨_, _, Tryz.underlying89, Tryz.type89, rfl, rfl, rfl, fun _ => ⟨rfl, rfl⟩⟩, fun _ _ => rfl⟩,
  ⟨⟨_, _, Tryz.underlying90, Tryz.type90, rfl, rfl, rfl, fun _ => ⟨rfl, rfl⟩⟩, fun _ _ => rfl⟩,
  ⟨⟨_, _, Tryz.underlying91, Tryz.type91, rfl, rfl, rfl, fun _ => ⟨rfl, rfl⟩⟩, fun _ _ => rfl⟩,
  ⟨⟨_, _, Tryz.underlying92, Tryz.type92, rfl, rfl, rfl, fun _ => ⟨rfl, rfl⟩⟩, fun _ _ => rfl⟩,
  ⟨⟨_, _, Tryz.underlying93, Tryz.type93, rfl, rfl, rfl, fun _ => ⟨rfl, rfl⟩⟩, fun _ _ => rfl⟩,
  ⟨⟨_, _, Tryz.underlying94, Tryz.type94, rfl, rfl, rfl, fun h => absurd rfl h⟩, fun h => absurd rfl h⟩,
  ⟨⟨_, _, Tryz.underlying95, Tryz.type95, rfl, rfl, rfl, fun _ => ⟨rfl, rfl⟩⟩, fun _ _ => rfl⟩,
  ⟨⟨_, _, Tryz.underlying96, Tryz.type96, rfl, rfl, rfl, fun _ => ⟨rfl, rfl⟩⟩, fun _ _ => rfl⟩,
  ⟨⟨_, _, Tryz.underlying97, Tryz.type97, rfl, rfl, rfl, fun _ => ⟨rfl, rfl⟩⟩, fun _ h => by cases h⟩,
  ⟨⟨_, _, Tryz.underlying98, Tryz.type98, rfl, rfl, rfl, fun _ => ⟨rfl, rfl⟩⟩, fun _ h => by cases h⟩,
  ⟨⟨_, _, Tryz.underlying99, Tryz.type99, rfl, rfl, rfl, fun h => absurd rfl h⟩, fun h => absurd rfl h⟩,
  ⟨⟨_, _, Tryz.underlying100, Tryz.type100, rfl, rfl, rfl, fun _ => ⟨rfl, rfl⟩⟩, fun _ _ => rfl⟩,
  ⟨⟨_, _, Tryz.underlying101, Tryz.type101, rfl, rfl, rfl, fun _ => ⟨rfl, rfl⟩⟩, fun _ _ => rfl⟩,
  ⟨⟨_, _, Tryz.underlying102, Tryz.type102, rfl, rfl, rfl, fun _ => ⟨rfl, rfl⟩⟩, fun _ _ => rfl⟩,
  ⟨⟨_, _, Tryz.underlying103, Tryz.type103, rfl, rfl, rfl, fun _ => ⟨rfl, rfl⟩⟩, fun _ h => by cases h⟩,
  ⟨⟨_, _, Tryz.underlying104, Tryz.type104, rfl, rfl, rfl, fun _ => ⟨rfl, rfl⟩⟩, fun _ h => by cases h⟩,
  ⟨⟨_, _, Tryz.underlying105, Tryz.type105, rfl, rfl, rfl, fun _ => ⟨rfl, rfl⟩⟩, fun _ _ => rfl⟩,
  ⟨⟨_, _, Tryz.underlying106, Tryz.type106, rfl, rfl, rfl, fun _ => ⟨rfl, rfl⟩⟩, fun _ _ => rfl⟩,
  ⟨⟨_, _, Tryz.underlying107, Tryz.type107, rfl, rfl, rfl, fun _ => ⟨rfl, rfl⟩⟩, fun _ _ => rfl⟩,
  ⟨⟨_, _, Tryz.underlying108, Tryz.type108, rfl, rfl, rfl, fun _ => ⟨rfl, rfl⟩⟩, fun _ _ => rfl⟩,
  ⟨⟨_, _, Tryz.underlying109, Tryz.type109, rfl, rfl, rfl, fun _ => ⟨rfl, rfl⟩⟩, fun _ _ => rfl⟩,
  ⟨⟨_, _, Tryz.underlying110, Tryz.type110, rfl, rfl, rfl, fun _ => ⟨rfl, rfl⟩⟩, fun _ _ => rfl⟩,
  ⟨⟨_, _, Tryz.underlying111, Tryz.type111, rfl, rfl, rfl, fun _ => ⟨rfl, rfl⟩⟩, fun _ _ => rfl⟩,
  ⟨⟨_, _, Tryz.underlying112, Tryz.type112, rfl, rfl, rfl, fun h => absurd rfl h⟩, fun h => absurd rfl h⟩,
  ⟨⟨_, _, Tryz.underlying113, Tryz.type113, rfl, rfl, rfl, fun _ => ⟨rfl, rfl⟩⟩, fun _ _ => rfl⟩,
  ⟨⟨_, _, Tryz.underlying114, Tryz.type114, rfl, rfl, rfl, fun _ => ⟨rfl, rfl⟩⟩, fun _ _ => rfl⟩,
  ⟨⟨_, _, Tryz.underlying115, Tryz.type115, rfl, rfl, rfl, fun _ => ⟨rfl, rfl⟩⟩, fun _ _ => rfl⟩,
  ⟨⟨_, _, Tryz.underlying116, Tryz.type116, rfl, rfl, rfl, fun _ => ⟨rfl, rfl⟩⟩, fun _ _ => rfl⟩,
  ⟨⟨_, _, Tryz.underlying117, Tryz.type117, rfl, rfl, rfl, fun _ => ⟨rfl, rfl⟩⟩, fun _ _ => rfl⟩,
  ⟨⟨_, _, Tryz.underlying118, Tryz.type118, rfl, rfl, rfl, fun _ => ⟨rfl, rfl⟩⟩, fun _ _ => rfl⟩,
  ⟨⟨_, _, Tryz.underlying119, Tryz.type119, rfl, rfl, rfl, fun _ => ⟨rfl, rfl⟩⟩, fun _ _ => rfl⟩,
  ⟨⟨_, _, Tryz.underlying120, Tryz.type120, rfl, rfl, rfl, fun _ => ⟨rfl, rfl⟩⟩, fun _ _ => rfl⟩,
  ⟨⟨_, _, Tryz.underlying121, Tryz.type121, rfl, rfl, rfl, fun _ => ⟨rfl, rfl⟩⟩, fun _ _ => rfl⟩,
  ⟨⟨_, _, Tryz.underlying122, Tryz.type122, rfl, rfl, rfl, fun _ => ⟨rfl, rfl⟩⟩, fun _ h => by cases h⟩,
  ⟨⟨_, _, Tryz.underlying123, Tryz.type123, rfl, rfl, rfl, fun _ => ⟨rfl, rfl⟩⟩, fun _ h => by cases h⟩,
  ⟨⟨_, _, Tryz.underlying124, Tryz.type124, rfl, rfl, rfl, fun _ => ⟨rfl, rfl⟩⟩, fun _ _ => rfl⟩,
  ⟨⟨_, _, Tryz.underlying125, Tryz.type125, rfl, rfl, rfl, fun _ => ⟨rfl, rfl⟩⟩, fun _ _ => rfl⟩,
  ⟨⟨_, _, Tryz.underlying126, Tryz.type126, rfl, rfl, rfl, fun _ => ⟨rfl, rfl⟩⟩, fun _ h => by cases h⟩,
  ⟨⟨_, _, Tryz.underlying127, Tryz.type127, rfl, rfl, rfl, fun _ => ⟨rfl, rfl⟩⟩, fun _ h => by cases h⟩,
  ⟨⟨_, _, Tryz.underlying128, Tryz.type128, rfl, rfl, rfl, fun h => absurd rfl h⟩, fun h => absurd rfl h⟩,
  ⟨⟨_, _, Tryz.underlying129, Tryz.type129, rfl, rfl, rfl, fun _ => ⟨rfl, rfl⟩⟩, fun _ _ => rfl⟩,
  ⟨⟨_, _, Tryz.underlying130, Tryz.type130, rfl, rfl, rfl, fun _ => ⟨rfl, rfl⟩⟩, fun _ h => by cases h⟩,
  ⟨⟨_, _, Tryz.underlying131, Tryz.type131, rfl, rfl, rfl, fun _ => ⟨rfl, rfl⟩⟩, fun _ h => by cases h⟩,
  ⟨⟨_, _, Tryz.underlying132, Tryz.type132, rfl, rfl, rfl, fun h => absurd rfl h⟩, fun h => absurd rfl h⟩,
  ⟨⟨_, _, Tryz.underlying133, Tryz.type133, rfl, rfl, rfl, fun _ => ⟨rfl, rfl⟩⟩, fun _ _ => rfl⟩,
  ⟨⟨_, _, Tryz.underlying134, Tryz.type134, rfl, rfl, rfl, fun _ => ⟨rfl, rfl⟩⟩, fun _ h => by cases h⟩,
  ⟨⟨_, _, Tryz.underlying135, Tryz.type135, rfl, rfl, rfl, fun _ => ⟨rfl, rfl⟩⟩, fun _ h => by cases h⟩,
  ⟨⟨_, _, Tryz.underlying136, Tryz.type136, rfl, rfl, rfl, fun _ => ⟨rfl, rfl⟩⟩, fun _ _ => rfl⟩,
  ⟨⟨_, _, Tryz.underlying137, Tryz.type137, rfl, rfl, rfl, fun _ => ⟨rfl, rfl⟩⟩, fun _ h => by cases h⟩,
  ⟨⟨_, _, Tryz.underlying138, Tryz.type138, rfl, rfl, rfl, fun _ => ⟨rfl, rfl⟩⟩, fun _ h => by cases h⟩,
  ⟨⟨_, _, Tryz.underlying139, Tryz.type139, rfl, rfl, rfl, fun _ => ⟨rfl, rfl⟩⟩, fun _ _ => rfl⟩,
  ⟨⟨_, _, Tryz.underlying140, Tryz.type140, rfl, rfl, rfl, fun _ => ⟨rfl, rfl⟩⟩, fun _ h => by cases h⟩,
  ⟨⟨_, _, Tryz.underlying141, Tryz.type141, rfl, rfl, rfl, fun _ => ⟨rfl, rfl⟩⟩, fun _ h => by cases h⟩,
  ⟨⟨_, _, Tryz.underlying142, Tryz.type142, rfl, rfl, rfl, fun _ => ⟨rfl, rfl⟩⟩, fun _ h => by cases h⟩,
  ⟨⟨_, _, Tryz.underlying143, Tryz.type143, rfl, rfl, rfl, fun _ => ⟨rfl, rfl⟩⟩, fun _ h => by cases h⟩,
  ⟨⟨_, _, Tryz.underlying144, Tryz.type144, rfl, rfl, rfl, fun _ => ⟨rfl, rfl⟩⟩, fun _ _ => rfl⟩,
  ⟨⟨_, _, Tryz.underlying145, Tryz.type145, rfl, rfl, rfl, fun _ => ⟨rfl, rfl⟩⟩, fun _ _ => rfl⟩,
  ⟨⟨_, _, Tryz.underlying146, Tryz.type146, rfl, rfl, rfl, fun _ => ⟨rfl, rfl⟩⟩, fun _ _ => rfl⟩,
  ⟨⟨_, _, Tryz.underlying147, Tryz.type147, rfl, rfl, rfl, fun _ => ⟨rfl, rfl⟩⟩, fun _ _ => rfl⟩,
  ⟨⟨_, _, Tryz.underlying148, Tryz.type148, rfl, rfl, rfl, fun _ => ⟨rfl, rfl⟩⟩, fun _ h => by cases h⟩,
  ⟨⟨_, _, Tryz.underlying149, Tryz.type149, rfl, rfl, rfl, fun _ => ⟨rfl, rfl⟩⟩, fun _ h => by cases h⟩,
  ⟨⟨_, _, Tryz.underlying150, Tryz.type150, rfl, rfl, rfl, fun _ => ⟨rfl, rfl⟩⟩, fun _ _ => rfl⟩,
  ⟨⟨_, _, Tryz.underlying151, Tryz.type151, rfl, rfl, rfl, fun _ => ⟨rfl, rfl⟩⟩, fun _ _ => rfl⟩,
  ⟨⟨_, _, Tryz.underlying152, Tryz.type152, rfl, rfl, rfl, fun _ => ⟨rfl, rfl⟩⟩, fun _ h => by cases h⟩,
  ⟨⟨_, _, Tryz.underlying153, Tryz.type153, rfl, rfl, rfl, fun _ => ⟨rfl, rfl⟩⟩, fun _ _ => rfl⟩,
  ⟨⟨_, _, Tryz.underlying154, Tryz.type154, rfl, rfl, rfl, fun _ => ⟨rfl, rfl⟩⟩, fun _ _ => rfl⟩,
  ⟨⟨_, _, Tryz.underlying155, Tryz.type155, rfl, rfl, rfl, fun h => absurd rfl h⟩, fun h => absurd rfl h⟩,
  ⟨⟨_, _, Tryz.underlying156, Tryz.type156, rfl, rfl, rfl, fun _ => ⟨rfl, rfl⟩⟩, fun _ _ => rfl⟩,
  ⟨⟨_, _, Tryz.underlying157, Tryz.type157, rfl, rfl, rfl, fun _ => ⟨rfl, rfl⟩⟩, fun _ _ => rfl⟩,
  ⟨⟨_, _, Tryz.underlying158, Tryz.type158, rfl, rfl, rfl, fun _ => ⟨rfl, rfl⟩⟩, fun _ _ => rfl⟩,
  ⟨⟨_, _, Tryz.underlying159, Tryz.type159, rfl, rfl, rfl, fun _ => ⟨rfl, rfl⟩⟩, fun _ _ => rfl⟩,
  ⟨⟨_, _, Tryz.underlying160, Tryz.type160, rfl, rfl, rfl, fun _ => ⟨rfl, rfl⟩⟩, fun _ _ => rfl⟩,
  ⟨⟨_, _, Tryz.underlying161, Tryz.type161, rfl, rfl, rfl, fun _ => ⟨rfl, rfl⟩⟩, fun _ _ => rfl⟩,
  ⟨⟨_, _, Tryz.underlying162, Tryz.type162, rfl, rfl, rfl, fun _ => ⟨rfl, rfl⟩⟩, fun _ _ => rfl⟩,
  ⟨⟨_, _, Tryz.underlying163, Tryz.type163, rfl, rfl, rfl, fun _ => ⟨rfl, rfl⟩⟩, fun _ _ => rfl⟩,
  ⟨⟨_, _, Tryz.underlying164, Tryz.type164, rfl, rfl, rfl, fun _ => ⟨rfl, rfl⟩⟩, fun _ _ => rfl⟩,
  ⟨⟨_, _, Tryz.underlying165, Tryz.type165, rfl, rfl, rfl, fun _ => ⟨rfl, rfl⟩⟩, fun _ _ => rfl⟩,
  ⟨⟨_, _, Tryz.underlying166, Tryz.type166, rfl, rfl, rfl, fun _ => ⟨rfl, rfl⟩⟩, fun _ _ => rfl⟩,
  ⟨⟨_, _, Tryz.underlying167, Tryz.type167, rfl, rfl, rfl, fun _ => ⟨rfl, rfl⟩⟩, fun _ _ => rfl⟩,
  ⟨⟨_, _, Tryz.underlying168, Tryz.type168, rfl, rfl, rfl, fun _ => ⟨rfl, rfl⟩⟩, fun _ _ => rfl⟩,
  ⟨⟨_, _, Tryz.underlying169, Tryz.type169, rfl, rfl, rfl, fun _ => ⟨rfl, rfl⟩⟩, fun _ _ => rfl⟩,
  ⟨⟨_, _, Tryz.underlying170, Tryz.type170, rfl, rfl, rfl, fun _ => ⟨rfl, rfl⟩⟩, fun _ _ => rfl⟩,
  ⟨⟨_, _, Tryz.underlying171, Tryz.type171, rfl, rfl, rfl, fun _ => ⟨rfl, rfl⟩⟩, fun _ _ => rfl⟩,
  ⟨⟨_, _, Tryz.underlying172, Tryz.type172, rfl, rfl, rfl, fun _ => ⟨rfl, rfl⟩⟩, fun _ _ => rfl⟩,
  ⟨⟨_, _, Tryz.underlying173, Tryz.type173, rfl, rfl, rfl, fun _ => ⟨rfl, rfl⟩⟩, fun _ _ => rfl⟩,
  ⟨⟨_, _, Tryz.underlying174, Tryz.type174, rfl, rfl, rfl, fun _ => ⟨rfl, rfl⟩⟩, fun _ _ => rfl⟩,
  ⟨⟨_, _, Tryz.underlying175, Tryz.type175, rfl, rfl, rfl, fun _ => ⟨rfl, rfl⟩⟩, fun _ _ => rfl⟩,
  ⟨⟨_, _, Tryz.underlying176, Tryz.type176, rfl, rfl, rfl, fun _ => ⟨rfl, rfl⟩⟩, fun _ _ => rfl⟩,
  ⟨⟨_, _, Tryz.underlying177, Tryz.type177, rfl, rfl, rfl, fun _ => ⟨rfl, rfl⟩⟩, fun _ _ => rfl⟩,
  ⟨⟨_, _, Tryz.underlying178, Tryz.type178, rfl, rfl, rfl, fun _ => ⟨rfl, rfl⟩⟩, fun _ _ => rfl⟩,
  ⟨⟨_, _, Tryz.underlying179, Tryz.type179, rfl, rfl, rfl, fun _ => ⟨rfl, rfl⟩⟩, fun _ _ => rfl⟩,
  ⟨⟨_, _, Tryz.underlying180, Tryz.type180, rfl, rfl, rfl, fun _ => ⟨rfl, rfl⟩⟩, fun _ h => by cases h⟩,
  ⟨⟨_, _, Tryz.underlying181, Tryz.type181, rfl, rfl, rfl, fun _ => ⟨rfl, rfl⟩⟩, fun _ h => by cases h⟩,
  ⟨⟨_, _, Tryz.underlying182, Tryz.type182, rfl, rfl, rfl, fun _ => ⟨rfl, rfl⟩⟩, fun _ _ => rfl⟩,
  ⟨⟨_, _, Tryz.underlying183, Tryz.type183, rfl, rfl, rfl, fun _ => ⟨rfl, rfl⟩⟩, fun _ _ => rfl⟩,
  ⟨⟨_, _, Tryz.underlying184, Tryz.type184, rfl, rfl, rfl, fun _ => ⟨rfl, rfl⟩⟩, fun _ _ => rfl⟩,
  ⟨⟨_, _, Tryz.underlying185, Tryz.type185, rfl, rfl, rfl, fun h => absurd rfl h⟩, fun h => absurd rfl h⟩,
  ⟨⟨_, _, Tryz.underlying186, Tryz.type186, rfl, rfl, rfl, fun _ => ⟨rfl, rfl⟩⟩, fun _ _ => rfl⟩,
  ⟨⟨_, _, Tryz.underlying187, Tryz.type187, rfl, rfl, rfl, fun _ => ⟨rfl, rfl⟩⟩, fun _ _ => rfl⟩,
  ⟨⟨_, _, Tryz.underlying188, Tryz.type188, rfl, rfl, rfl, fun _ => ⟨rfl, rfl⟩⟩, fun _ _ => rfl⟩,
  ⟨⟨_, _, Tryz.underlying189, Tryz.type189, rfl, rfl, rfl, fun h => absurd rfl h⟩, fun h => absurd rfl h⟩,
  ⟨⟨_, _, Tryz.underlying190, Tryz.type190, rfl, rfl, rfl, fun _ => ⟨rfl, rfl⟩⟩, fun _ _ => rfl⟩,
  ⟨⟨_, _, Tryz.underlying191, Tryz.type191, rfl, rfl, rfl, fun _ => ⟨rfl, rfl⟩⟩, fun _ _ => rfl⟩,
  ⟨⟨_, _, Tryz.underlying192, Tryz.type192, rfl, rfl, rfl, fun _ => ⟨rfl, rfl⟩⟩, fun _ _ => rfl⟩,
  ⟨⟨_, _, Tryz.underlying193, Tryz.type193, rfl, rfl, rfl, fun _ => ⟨rfl, rfl⟩⟩, fun _ _ => rfl⟩,
  ⟨⟨_, _, Tryz.underlying194, Tryz.type194, rfl, rfl, rfl, fun _ => ⟨rfl, rfl⟩⟩, fun _ _ => rfl⟩,
  ⟨⟨_, _, Tryz.underlying195, Tryz.type195, rfl, rfl, rfl, fun _ => ⟨rfl, rfl⟩⟩, fun _ _ => rfl⟩,
  ⟨⟨_, _, Tryz.underlying196, Tryz.type196, rfl, rfl, rfl, fun _ => ⟨rfl, rfl⟩⟩, fun _ _ => rfl⟩,
  ⟨⟨_, _, Tryz.underlying197, Tryz.type197, rfl, rfl, rfl, fun _ => ⟨rfl, rfl⟩⟩, fun _ _ => rfl⟩,
  ⟨⟨_, _, Tryz.underlying198, Tryz.type198, rfl, rfl, rfl, fun _ => ⟨rfl, rfl⟩⟩, fun _ _ => rfl⟩,
  ⟨⟨_, _, Tryz.underlying199, Tryz.type199, rfl, rfl, rfl, fun _ => ⟨rfl, rfl⟩⟩, fun _ _ => rfl⟩,
  ⟨⟨_, _, Tryz.underlying200, Tryz.type200, rfl, rfl, rfl, fun _ => ⟨rfl, rfl⟩⟩, fun _ _ => rfl⟩,
  ⟨⟨_, _, Tryz.underlying201, Tryz.type201, rfl, rfl, rfl, fun _ => ⟨rfl, rfl⟩⟩, fun _ _ => rfl⟩,
  ⟨⟨_, _, Tryz.underlying202, Tryz.type202, rfl, rfl, rfl, fun _ => ⟨rfl, rfl⟩⟩, fun _ _ => rfl⟩,
  ⟨⟨_, _, Tryz.underlying203, Tryz.type203, rfl, rfl, rfl, fun _ => ⟨rfl, rfl⟩⟩, fun _ _ => rfl⟩,
  ⟨⟨_, _, Tryz.underlying204, Tryz.type204, rfl, rfl, rfl, fun _ => ⟨rfl, rfl⟩⟩, fun _ _ => rfl⟩,
  ⟨⟨_, _, Tryz.underlying205, Tryz.type205, rfl, rfl, rfl, fun _ => ⟨rfl, rfl⟩⟩, fun _ _ => rfl⟩,
  ⟨⟨_, _, Tryz.underlying206, Tryz.type206, rfl, rfl, rfl, fun _ => ⟨rfl, rfl⟩⟩, fun _ _ => rfl⟩,
  ⟨⟨_, _, Tryz.underlying207, Tryz.type207, rfl, rfl, rfl, fun _ => ⟨rfl, rfl⟩⟩, fun _ _ => rfl⟩,
  ⟨⟨_, _, Tryz.underlying208, Tryz.type208, rfl, rfl, rfl, fun _ => ⟨rfl, rfl⟩⟩, fun _ _ => rfl⟩,
  ⟨⟨_, _, Tryz.underlying209, Tryz.type209, rfl, rfl, rfl, fun _ => ⟨rfl, rfl⟩⟩, fun _ _ => rfl⟩,
  ⟨⟨_, _, Tryz.underlying210, Tryz.type210, rfl, rfl, rfl, fun _ => ⟨rfl, rfl⟩⟩, fun _ _ => rfl⟩,
  ⟨⟨_, _, Tryz.underlying211, Tryz.type211, rfl, rfl, rfl, fun _ => ⟨rfl, rfl⟩⟩, fun _ _ => rfl⟩,
  ⟨⟨_, _, Tryz.underlying212, Tryz.type212, rfl, rfl, rfl, fun _ => ⟨rfl, rfl⟩⟩, fun _ _ => rfl⟩,
  ⟨⟨_, _, Tryz.underlying213, Tryz.type213, rfl, rfl, rfl, fun _ => ⟨rfl, rfl⟩⟩, fun _ _ => rfl⟩,
  ⟨⟨_, _, Tryz.underlying214, Tryz.type214, rfl, rfl, rfl, fun _ => ⟨rfl, rfl⟩⟩, fun _ _ => rfl⟩,
  ⟨⟨_, _, Tryz.underlying215, Tryz.type215, rfl, rfl, rfl, fun _ => ⟨rfl, rfl⟩⟩, fun _ _ => rfl⟩,
  ⟨⟨_, _, Tryz.underlying216, Tryz.type216, rfl, rfl, rfl, fun _ => ⟨rfl, rfl⟩⟩, fun _ _ => rfl⟩,
  ⟨⟨_, _, Tryz.underlying217, Tryz.type217, rfl, rfl, rfl, fun _ => ⟨rfl, rfl⟩⟩, fun _ _ => rfl⟩,
  ⟨⟨_, _, Tryz.underlying218, Tryz.type218, rfl, rfl, rfl, fun _ => ⟨rfl, rfl⟩⟩, fun _ _ => rfl⟩,
  ⟨⟨_, _, Tryz.underlying219, Tryz.type219, rfl, rfl, rfl, fun _ => ⟨rfl, rfl⟩⟩, fun _ _ => rfl⟩,
  ⟨⟨_, _, Tryz.underlying220, Tryz.type220, rfl, rfl, rfl, fun _ => ⟨rfl, rfl⟩⟩, fun _ _ => rfl⟩,
  ⟨⟨_, _, Tryz.underlying221, Tryz.type221, rfl, rfl, rfl, fun _ => ⟨rfl, rfl⟩⟩, fun _ _ => rfl⟩,
  ⟨⟨_, _, Tryz.underlying222, Tryz.type222, rfl, rfl, rfl, fun h => absurd rfl h⟩, fun h => absurd rfl h⟩,
  ⟨⟨_, _, Tryz.underlying223, Tryz.type223, rfl, rfl, rfl, fun _ => ⟨rfl, rfl⟩⟩, fun _ _ => rfl⟩,
  ⟨⟨_, _, Tryz.underlying224, Tryz.type224, rfl, rfl, rfl, fun h => absurd rfl h⟩, fun h => absurd rfl h⟩,
  ⟨⟨_, _, Tryz.underlying225, Tryz.type225, rfl, rfl, rfl, fun _ => ⟨rfl, rfl⟩⟩, fun _ _ => rfl⟩,
  ⟨⟨_, _, Tryz.underlying226, Tryz.type226, rfl, rfl, rfl, fun _ => ⟨rfl, rfl⟩⟩, fun _ _ => rfl⟩,
  ⟨⟨_, _, Tryz.underlying227, Tryz.type227, rfl, rfl, rfl, fun _ => ⟨rfl, rfl⟩⟩, fun _ _ => rfl⟩,
  ⟨⟨_, _, Tryz.underlying228, Tryz.type228, rfl, rfl, rfl, fun _ => ⟨rfl, rfl⟩⟩, fun _ _ => rfl⟩,
  ⟨⟨_, _, Tryz.underlying229, Tryz.type229, rfl, rfl, rfl, fun _ => ⟨rfl, rfl⟩⟩, fun _ _ => rfl⟩,
  ⟨⟨_, _, Tryz.underlying230, Tryz.type230, rfl, rfl, rfl, fun _ => ⟨rfl, rfl⟩⟩, fun _ h => by cases h⟩,
  ⟨⟨_, _, Tryz.underlying231, Tryz.type231, rfl, rfl, rfl, fun _ => ⟨rfl, rfl⟩⟩, fun _ h => by cases h⟩,
  ⟨⟨_, _, Tryz.underlying232, Tryz.type232, rfl, rfl, rfl, fun h => absurd rfl h⟩, fun h => absurd rfl h⟩,
  ⟨⟨_, _, Tryz.underlying233, Tryz.type233, rfl, rfl, rfl, fun h => absurd rfl h⟩, fun h => absurd rfl h⟩,
  ⟨⟨_, _, Tryz.underlying234, Tryz.type234, rfl, rfl, rfl, fun h => absurd rfl h⟩, fun h => absurd rfl h⟩,
  ⟨⟨_, _, Tryz.underlying235, Tryz.type235, rfl, rfl, rfl, fun _ => ⟨rfl, rfl⟩⟩, fun _ _ => rfl⟩,
  ⟨⟨_, _, Tryz.underlying236, Tryz.type236, rfl, rfl, rfl, fun _ => ⟨rfl, rfl⟩⟩, fun _ _ => rfl⟩,
  ⟨⟨_, _, Tryz.underlying237, Tryz.type237, rfl, rfl, rfl, fun _ => ⟨rfl, rfl⟩⟩, fun _ _ => rfl⟩,
  ⟨⟨_, _, Tryz.underlying238, Tryz.type238, rfl, rfl, rfl, fun _ => ⟨rfl, rfl⟩⟩, fun _ _ => rfl⟩,
  ⟨⟨_, _, Tryz.underlying239, Tryz.type239, rfl, rfl, rfl, fun _ => ⟨rfl, rfl⟩⟩, fun _ _ => rfl⟩,
  ⟨⟨_, _, Tryz.underlying240, Tryz.type240, rfl, rfl, rfl, fun _ => ⟨rfl, rfl⟩⟩, fun _ h => by cases h⟩,
  ⟨⟨_, _, Tryz.underlying241, Tryz.type241, rfl, rfl, rfl, fun _ => ⟨rfl, rfl⟩⟩, fun _ h => by cases h⟩,
  trivial⟩
end Tryz
end Go.Dm
namespace Go.Dm
def ModeAt (E : Env) : Option D → FrameMode → FrameMode → Value → Prop
  | none, u, u', x => u = .returning ∧ u' = .returning ∧ x = .nilIface
  | some d, u, u', x => u = .panicking [⟨x, false, false⟩] ∧ u' = .panicking [⟨x, true, false⟩] ∧ rel d E x
def DCall (P : Program) (f : FuncId) (m : Option D) (pre : Mem) (ds : List D) (post : Mem) : Prop :=
  FnOK P f ∧ post.map (·.1) = pre.map (·.1) ∧ ∀ (E : Env) (w : World) (vs : List Value) (u u' : FrameMode) (x : Value), Inv E (get pre) w → rels ds E vs → ModeAt E m u u' x →
    CallsD P f vs.toArray u w fun e u'' w' => ∃ v E', e = .returned v ∧ u'' = u' ∧ Done E E' (get pre) post w w'
def recD : Option D → D
  | none => .v .nilIface
  | some d => d
theorem execOp_recover {P : Program} {ρ : Operand → Value} {w : World} {dst : Option Tmp} {ty : TypeId} {pos : String} {after : Array Edge} {guard : Option (Nat × Bool)} :
    (execOp ρ ⟨dst, .call ⟨.builtin .recover, #[], #[]⟩, ty, pos, after, guard⟩).run P w = .ok .recover w := rfl
theorem execOp_assign {P : Program} {ρ : Operand → Value} {w : World} {x : Operand} {dst : Option Tmp} {ty : TypeId} {pos : String} {after : Array Edge} {guard : Option (Nat × Bool)} :
    (execOp ρ ⟨dst, .assign x, ty, pos, after, guard⟩).run P w = .ok (.value (ρ x)) w := rfl
theorem wpOpsS_cons {P : Program} {ops : Array Oper} {Q : Exit → Act → List Frame → World → Prop} {i : Nat} {rest : List Nat} {a : Act} {cs : List Frame} {w : World} {o : Oper} (ho : ops[i]? = some o) (hg : o.guard = none)
    (h : match (execOp a.eval o).run P w with
      | .ok .recover w' => match recoverD cs with
        | some (v, cs') => wpOpsS P ops Q rest (a.put o.dst v) cs' w'
        | none => wpOpsS P ops Q rest (a.put o.dst .nilIface) cs w'
      | r => o.upon P a (fun a' w' => wpOpsS P ops Q rest a' cs w') (fun e a' w' => Q e a' cs w') r) : wpOpsS P ops Q (i :: rest) a cs w := by
  simp only [wpOpsS, ho]
  rw [if_pos (by simp [Region.wanted, hg])]
  exact h
theorem dcall_of {C : Ctx} (hC : C.OK) {f : FuncId} {fn : Func} {rest : Code} {news : List Nat} {m : Option D} {pre post : Mem} {ds : List D} {n id t s : Nat} {t1 t2 : TypeId} {p1 p2 : String} {a1 a2 : Array Edge}
    (hf : C.P.funcs[f]? = some fn) (hb : fn.body = some (.seq (.region id #[⟨some t, .call ⟨.builtin .recover, #[], #[]⟩, t1, p1, a1, none⟩, ⟨some s, .assign (.tmp t), t2, p2, a2, none⟩] false) rest)) (hn : fn.ntmps = n) (hts : fn.results.toList = [])
    (hlen : (match Nat.ble ds.length n with | true => Nat.ble n 99999 | false => false) = true) (ht : (match Nat.blt t n with | true => Nat.blt s n | false => false) = true)
    (hid : pre.all (fun p => Nat.ble 1000 p.1) = true) (hpp : post.map (·.1) = pre.map (·.1)) (hnm : fn.name ≠ "runtime.NumGoroutine")
    (h : awp C news n (fun _ _ _ => False) rest (funK C.L pre [] (.ret (.tup []) post)) ((s, recD m) :: (t, recD m) :: argsFr 0 ds) pre) : DCall C.P f m pre ds post := by
  refine ⟨⟨fn, hf, by rw [hb]; rfl, hnm⟩, hpp, ?_⟩
  intro E w vs u u' x hi hr hm
  have hge := ge1000 hid
  obtain ⟨hlen, hsm⟩ : ds.length ≤ n ∧ n ≤ 99999 := by
    split at hlen
    · rename_i e; exact ⟨Nat.le_of_ble_eq_true e, Nat.le_of_ble_eq_true hlen⟩
    · cases hlen
  obtain ⟨htn, hsn⟩ : t < n ∧ s < n := by
    split at ht
    · rename_i e; exact ⟨by simpa using e, by simpa using ht⟩
    · cases ht
  have hvl : vs.length = ds.length := rels_length hr
  have hrec : rel (recD m) E x := by
    cases m with
    | none => exact hm.2.2
    | some d => exact hm.2.2
  refine callsD_of_wpS hf hb fun c₀ cs hc => ?_
  refine wpS_seq (wpS_region ?_)
  let A : Act := { tmps := vs.toArray ++ Array.replicate (fn.ntmps - vs.toArray.size) undef, defers := [] }
  let B : Base := ⟨E, w, ownOf E (get pre) pre, fun k => k ∈ pre.map (·.1), n, []⟩
  have hs0 : StE B (gd (argsFr 0 ds)) (get pre) E A w := by
    refine ⟨hi, fun q => ?_, by simp [B, A]; omega, hsm, rfl, StepOn.refl _ _ _ _, fun id x b hx hb => .inl ⟨(id, x), get_mem hx, x, hx, hb⟩⟩
    have := argsFr_rel (E := E) 0 q hr
    simp only [Nat.zero_le, if_true, Nat.sub_zero] at this
    by_cases hq : 99999 ≤ q
    · have : gd (argsFr 0 ds) q = .bot := argsFr_none ds 0 q (by omega)
      rw [this]; trivial
    unfold tv
    rw [if_neg (by omega), if_neg (by omega)]
    have e : A.tmps.getD q undef = vs.getD q undef := by
      simp only [A, Array.getD_eq_getD_getElem?, List.getD_eq_getElem?_getD]
      by_cases ht : q < vs.length
      · rw [Array.getElem?_append_left (by simpa using ht)]; simp
      · rw [Array.getElem?_append_right (by simp; omega), Array.getElem?_replicate, List.getElem?_eq_none (by omega)]
        split <;> rfl
    rw [e]
    exact this
  have hs1 : StE B (gd ((t, recD m) :: argsFr 0 ds)) (get pre) E (A.put (some t) x) w := by
    have := hs0.done (dst := some t) (v := x) (d := recD m) (fun k hk => by injection hk with hk; subst hk; exact htn) (.nil hi) hrec
    rw [upds_nil, ← gd_putD] at this; exact this
  have hs2 : StE B (gd ((s, recD m) :: (t, recD m) :: argsFr 0 ds)) (get pre) E ((A.put (some t) x).put (some s) x) w := by
    have := hs1.done (dst := some s) (v := x) (d := recD m) (fun k hk => by injection hk with hk; subst hk; exact hsn) (.nil hs1.inv) hrec
    rw [upds_nil, ← gd_putD] at this; exact this
  have hev : (A.put (some t) x).eval (.tmp t) = x := by
    have : t < A.tmps.size := by have := hs0.size; simp [B] at this; omega
    simp [Act.eval, Act.put, Array.getD_eq_getD_getElem?, this]
  have fin : ∀ cs', cs' = { c₀ with mode := u' } :: cs → rest.wpS C.P (bodyPostS C.P fn c₀ cs fun e u'' w' => ∃ v E', e = .returned v ∧ u'' = u' ∧ Done E E' (get pre) post w w') ((A.put (some t) x).put (some s) x) cs' w := by
    intro cs' hcs
    refine wpS_of_wp ?_
    refine awp_sound hC (B := B) hge rest _ _ _ _ _ _ h (fun _ _ _ _ _ _ h => h.elim) ?_ ⟨E, hs2⟩
    intro e fr M a w' hk hs
    have key : RetK C.L pre [] (.ret (.tup []) post) fr M → bodyPostS C.P fn c₀ cs (fun e u'' w' => ∃ v E', e = .returned v ∧ u'' = u' ∧ Done E E' (get pre) post w w') .normal a cs' w' := by
      intro hRet
      obtain ⟨v, h1, v', E', h2, h3, _⟩ := ret_end hC (out := .ret (.tup []) post) hts (fun j hj => by
        obtain ⟨h4, h5⟩ := hj
        rw [hpp] at h5
        obtain ⟨y, hy⟩ := get_some_mem h5
        rw [h4] at hy; cases hy) hs hRet
      obtain ⟨E'', hE⟩ := hs
      exact ⟨hE.defers, u', hcs, v, h1, v', E', h2, rfl, h3⟩
    cases e with
    | normal => exact key hk
    | ret => exact key hk
    | exit id => exact hk.elim
    | goto l => exact hk.elim
  show wpOpsS _ _ _ [0, 1] _ _ _
  have w2 : ∀ cs', cs' = { c₀ with mode := u' } :: cs → wpOpsS C.P #[⟨some t, .call ⟨.builtin .recover, #[], #[]⟩, t1, p1, a1, none⟩, ⟨some s, .assign (.tmp t), t2, p2, a2, none⟩] (Exit.thenS (rest.wpS C.P (bodyPostS C.P fn c₀ cs fun e u'' w' => ∃ v E', e = .returned v ∧ u'' = u' ∧ Done E E' (get pre) post w w')) (bodyPostS C.P fn c₀ cs fun e u'' w' => ∃ v E', e = .returned v ∧ u'' = u' ∧ Done E E' (get pre) post w w')) [1] (A.put (some t) x) cs' w := by
    intro cs' hcs
    refine wpOpsS_cons (o := ⟨some s, .assign (.tmp t), t2, p2, a2, none⟩) rfl rfl ?_
    rw [execOp_assign]
    simp only [Oper.upon_value, hev, wpOpsS]
    exact fin cs' hcs
  refine wpOpsS_cons (o := ⟨some t, .call ⟨.builtin .recover, #[], #[]⟩, t1, p1, a1, none⟩) rfl rfl ?_
  rw [execOp_recover]
  simp only
  cases m with
  | none =>
    obtain ⟨hu, hu', hx⟩ := hm
    have : recoverD (c₀ :: cs) = none := by simp [recoverD, hc, hu]
    rw [this]
    subst hx
    exact w2 (c₀ :: cs) (by rw [hu', ← hu, ← hc])
  | some d =>
    obtain ⟨hu, hu', hx⟩ := hm
    have : recoverD (c₀ :: cs) = some (x, { c₀ with mode := u' } :: cs) := by simp [recoverD, hc, hu, hu']
    rw [this]
    exact w2 _ rfl
structure DefEnd (C : Ctx) (g : FuncId) (m : Option D) (pre : Mem) (rs : List ResultVar) (out : Out) (fr : Fr) (M : Mem) : Prop where
  ex : ∃ cds p q, gd fr 99999 = .fn (.func g) cds ∧ DCall C.P g m p cds q ∧ wThere M p ∧ RetK C.L pre rs out fr (q ++ M)
theorem DefEnd.to {C : Ctx} {g : FuncId} {m : Option D} {pre : Mem} {rs : List ResultVar} {out : Out} {fr : Fr} {M : Mem} {cds : List D} {p q : Mem} (h : DCall C.P g m p cds q) (h0 : gd fr 99999 = .fn (.func g) cds) (h1 : wThere M p) (h2 : RetK C.L pre rs out fr (q ++ M)) : DefEnd C g m pre rs out fr M := ⟨cds, p, q, h0, h, h1, h2⟩
structure DefPan (C : Ctx) (g : FuncId) (pre : Mem) (rs : List ResultVar) (out : Out) (d : D) (fr : Fr) (M : Mem) : Prop where
  fl : flat d = true
  en : DefEnd C g (some d) pre rs out fr M
def defKK (C : Ctx) (g : FuncId) (pre : Mem) (rs : List ResultVar) (out : Out) : KK
  | .normal, fr, M => DefEnd C g none pre rs out fr M
  | .ret, fr, M => DefEnd C g none pre rs out fr M
  | _, _, _ => False
def defK (C : Ctx) (news : List Nat) (n : Nat) (g : FuncId) (t : Tmp) (caps : List Operand) (rest : Code) (pre : Mem) (rs : List ResultVar) (out : Out) : KK
  | .normal, fr, M => awp C news n (DefPan C g pre rs out) rest (defKK C g pre rs out) ((99999, .fn (.func g) (evs fr caps)) :: (t, .fn (.func g) (evs fr caps)) :: fr) M
  | _, _, _ => False
theorem pcall_defer {C : Ctx} (hC : C.OK) {f : FuncId} {fn : Func} {c0 rest : Code} {news : List Nat} {pre : Mem} {ds : List D} {out : Out} {n : Nat} {rs : List ResultVar} {id t g : Nat} {caps : Array Operand} {t1 t2 : TypeId} {p1 p2 : String} {a1 a2 : Array Edge}
    (hf : C.P.funcs[f]? = some fn) (hb : fn.body = some (.seq c0 (.seq (.region id #[⟨some t, .makeFunc (.func g) #[] caps, t1, p1, a1, none⟩, ⟨none, .defer ⟨.value (.tmp t), #[], #[]⟩, t2, p2, a2, none⟩] false) rest))) (hn : fn.ntmps = n) (hts : fn.results.toList = rs)
    (hlen : (match Nat.ble ds.length n with | true => Nat.ble n 99999 | false => false) = true) (ht : Nat.blt t n = true) (hid : pre.all (fun p => Nat.ble 1000 p.1) = true) (hnm : fn.name ≠ "runtime.NumGoroutine")
    (h : awp C news n (fun _ _ _ => False) c0 (defK C news n g t caps.toList rest pre rs out) (argsFr 0 ds) pre) : PCall C.P f pre ds out := by
  refine ⟨⟨fn, hf, by rw [hb]; rfl, hnm⟩, ?_⟩
  intro E w vs hi hnew hr
  have hge := ge1000 hid
  obtain ⟨hlen, hsm⟩ : ds.length ≤ n ∧ n ≤ 99999 := by
    split at hlen
    · rename_i e; exact ⟨Nat.le_of_ble_eq_true e, Nat.le_of_ble_eq_true hlen⟩
    · cases hlen
  have htn : t < n := by simpa using ht
  have hvl : vs.length = ds.length := rels_length hr
  refine calls_of_wp_defers hf hb ?_
  let B : Base := ⟨E, w, ownOf E (get pre) pre, fun k => k ∈ pre.map (·.1), n, []⟩
  have hs0 : St B (argsFr 0 ds) pre { tmps := vs.toArray ++ Array.replicate (fn.ntmps - vs.toArray.size) undef, defers := [] } w := by
    refine ⟨E, hi, fun t => ?_, by simp [B]; omega, hsm, rfl, StepOn.refl _ _ _ _, fun id x b hx hb => .inl ⟨(id, x), get_mem hx, x, hx, hb⟩⟩
    have := argsFr_rel (E := E) 0 t hr
    simp only [Nat.zero_le, if_true, Nat.sub_zero] at this
    by_cases ht : 99999 ≤ t
    · have : gd (argsFr 0 ds) t = .bot := argsFr_none ds 0 t (by omega)
      rw [this]; trivial
    unfold tv
    rw [if_neg (by omega), if_neg (by omega)]
    have e : (vs.toArray ++ Array.replicate (fn.ntmps - vs.toArray.size) undef).getD t undef = vs.getD t undef := by
      simp only [Array.getD_eq_getD_getElem?, List.getD_eq_getElem?_getD]
      by_cases ht : t < vs.length
      · rw [Array.getElem?_append_left (by simpa using ht)]; simp
      · rw [Array.getElem?_append_right (by simp; omega), Array.getElem?_replicate, List.getElem?_eq_none (by omega)]
        split <;> rfl
    simp only [e]
    exact this
  refine wp_seq (awp_sound hC (B := B) hge c0 _ _ _ _ _ _ h (fun _ _ _ _ _ _ h => h.elim) (fun e fr M a w' hk hs => ?_) hs0)
  cases e with
  | exit id => exact hk.elim
  | ret => exact hk.elim
  | goto l => exact hk.elim
  | normal =>
    obtain ⟨E1, hE1⟩ := hs
    have hcaps : rels (evs fr caps.toList) E1 (caps.toList.map a.eval) := rels_evs _ fun x hx => hE1.ev (sl := gd fr) x
    obtain ⟨cv, hcv⟩ : ∃ cv, cv = (caps.toList.map a.eval).toArray := ⟨_, rfl⟩
    let v : Value := .func (.func g) #[] cv
    let d0 : Deferred := ⟨.fn (.func g) cv, #[]⟩
    let A : Act := { (a.put (some t) v) with defers := [d0] }
    have hds : a.defers = [] := hE1.defers
    have htA : (a.put (some t) v).eval (.tmp t) = v := by
      have : t < a.tmps.size := by rw [hE1.size]; exact htn
      simp [Act.eval, Act.put, Array.getD_eq_getD_getElem?, this]
    let B2 : Base := ⟨E, w, ownOf E (get pre) pre, fun k => k ∈ pre.map (·.1), n, [d0]⟩
    have hst1 : StE B (gd ((t, .fn (.func g) (evs fr caps.toList)) :: fr)) (get M) E1 (a.put (some t) v) w' := by
      have := hE1.done (dst := some t) (v := v) (d := .fn (.func g) (evs fr caps.toList)) (fun k hk => by injection hk with hk; subst hk; exact htn) (.nil hE1.inv) ⟨_, by simp only [v, hcv], hcaps⟩
      rw [upds_nil, ← gd_putD] at this; exact this
    have hst2 : StE B2 (gd ((99999, .fn (.func g) (evs fr caps.toList)) :: (t, .fn (.func g) (evs fr caps.toList)) :: fr)) (get M) E1 A w' := by
      refine ⟨hst1.inv, fun q => ?_, hst1.size, hst1.small, rfl, hst1.step, hst1.bd⟩
      unfold gd
      rw [get_cons]
      by_cases hq : 99999 = q
      · subst hq
        rw [if_pos rfl]
        exact ⟨_, by unfold tv; rw [if_pos rfl, ← hcv]; rfl, hcaps⟩
      · rw [if_neg hq]
        have := hst1.frm q
        unfold tv at this ⊢
        rw [if_neg (Ne.symm hq)] at this ⊢
        exact this
    have leave : ∀ (m : Option D) (fr : Fr) (M : Mem) (E2 : Env) (a : Act) (w' : World) (u u' : FrameMode) (x : Value), StE B2 (gd fr) (get M) E2 a w' → DefEnd C g m pre rs out fr M → ModeAt E2 m u u' x → u ≠ .run → settle u' = .returning →
        Leaves C.P fn a.tmps (CallPost E pre w out) a.defers u w' := by
      intro m fr M E2 a w' u u' x hE ⟨cds, p, q, h1, ⟨⟨gn, hg1, hg2, hg3⟩, hqp, hc⟩, h3, h4⟩ hm hu hset
      have hdf : a.defers = [d0] := hE.defers
      have h5 := hE.frm 99999
      rw [h1] at h5
      unfold tv at h5
      rw [if_pos rfl, hdf] at h5
      obtain ⟨vs2, h6, h7⟩ := h5
      have h6' : cv = vs2.toArray := by simp only [dv, d0] at h6; injection h6
      have hsub : ∀ id x, get p id = some x → get M id = some x := fun id x hx => wThere_spec h3 (id, x) (get_mem hx)
      have hcall := hc E2 w' vs2 u u' x (hE.inv.sub hsub) h7 hm
      rw [hdf]
      refine leaves_cons (f := g) (args := vs2.toArray) hu ?_ (CallsD.mono hcall ?_)
      · simp only [invoke]
        rw [run_callFunc hg1 hg2 hg3, h6']
        simp
      · rintro e u'' w'' ⟨v, E3, rfl, rfl, hd⟩
        simp only
        rw [hset]
        have hd2 := hd.frame hE.inv hsub
        have hE3 := hE.done (dst := none) (v := v) (d := .bot) (fun k hk => by cases hk) hd2 trivial
        have hs3 : St B2 fr (q ++ M) a w'' := ⟨E3, by rw [get_append]; exact hE3⟩
        exact ret_end hC hts hnew hs3 h4
    refine wp_seq (wp_region_list ?_)
    show wpList C.P _ _ [_, _] a w'
    unfold wpList
    rw [if_pos (by simp [Region.wanted])]
    refine .inl ?_
    unfold Oper.wp
    have e1 : (execOp a.eval ⟨some t, .makeFunc (.func g) #[] caps, t1, p1, a1, none⟩).run C.P w' = .ok (.value v) w' := by
      have : Array.map a.eval caps = (List.map a.eval caps.toList).toArray := by apply Array.ext'; simp
      simp [execOp, Instr.makeFunc, v, hcv, this]
    rw [e1]
    simp only [Oper.upon_value]
    unfold wpList
    rw [if_pos (by simp [Region.wanted])]
    refine .inl ?_
    unfold Oper.wp
    have e2 : (execOp (a.put (some t) v).eval ⟨none, .defer ⟨.value (.tmp t), #[], #[]⟩, t2, p2, a2, none⟩).run C.P w' = .ok (.defer d0) w' := by
      simp [execOp, resolve, htA, v, Deferred.ofValue, d0]
    rw [e2]
    simp only [Oper.upon_defer]
    unfold wpList
    have eA : ({ (a.put (some t) v) with defers := d0 :: (a.put (some t) v).defers } : Act).put none undef = A := by
      have : (a.put (some t) v).defers = [] := hds
      simp [Act.put, A, this]
      exact hds
    rw [eA]
    refine awp_sound hC (B := B2) hge rest _ _ _ _ _ _ hk ?_ (fun e fr M a w'' hk hs => ?_) ⟨E1, hst2⟩
    · rintro d fr M x a w'' ⟨hfl, hen⟩ ⟨E', E2, h1, h2, h3, h4⟩
      exact leave (some d) fr M E2 a w'' _ (.panicking [⟨x, true, false⟩]) x h4 hen ⟨rfl, rfl, flat_rel d hfl h3⟩ (by simp) rfl
    · obtain ⟨E2, hE⟩ := hs
      cases e with
      | normal => exact leave none fr M E2 a w'' .returning .returning .nilIface hE hk ⟨rfl, rfl, rfl⟩ (by simp) rfl
      | ret => exact leave none fr M E2 a w'' .returning .returning .nilIface hE hk ⟨rfl, rfl, rfl⟩ (by simp) rfl
      | exit id => exact hk.elim
      | goto l => exact hk.elim
end Go.Dm
namespace Go.Dm
def swN (i j k : Nat) : Nat := match Nat.beq k i with
  | true => j
  | false => match Nat.beq k j with
    | true => i
    | false => k
theorem swN_eq (i j k : Nat) : swN i j k = if k = i then j else if k = j then i else k := by
  unfold swN
  cases h : Nat.beq k i with
  | true => rw [if_pos (beq_eq h)]
  | false =>
    rw [if_neg (beq_ne h)]
    cases h' : Nat.beq k j with
    | true => rw [if_pos (beq_eq h')]
    | false => rw [if_neg (beq_ne h')]
theorem swN_swN (i j k : Nat) : swN i j (swN i j k) = k := by
  rw [swN_eq, swN_eq]
  split
  · split at * <;> (try split at *) <;> omega
  · split at * <;> (try split at *) <;> omega
mutual
def swD (i j : Nat) : D → D
  | .ref k o => .ref (swN i j k) o
  | .sl k s n => .sl (swN i j k) s n
  | .row k n => .row (swN i j k) n
  | .rp k n s q o => .rp (swN i j k) n s q o
  | .mp k => .mp (swN i j k)
  | .agg cs => .agg (swL i j cs)
  | .tup cs => .tup (swL i j cs)
  | .fn f cs => .fn f (swL i j cs)
  | .iface t d => .iface t (swD i j d)
  | .bot => .bot
  | .v x => .v x
  | .list s xs => .list s xs
  | .ptr cs => .ptr cs
def swL (i j : Nat) : List D → List D
  | [] => []
  | d :: ds => swD i j d :: swL i j ds
end
def Env.sw (E : Env) (i j : Nat) : Env := ⟨E.im, fun k => E.blk (swN i j k), fun k => E.hdr (swN i j k)⟩
theorem Env.sw_sw (E : Env) (i j : Nat) : (E.sw i j).sw i j = E := by
  unfold Env.sw
  simp only [swN_swN]
theorem sw_blk (E : Env) (i j k : Nat) : (E.sw i j).blk (swN i j k) = E.blk k := by simp [Env.sw, swN_swN]
theorem sw_hdr (E : Env) (i j k : Nat) : (E.sw i j).hdr (swN i j k) = E.hdr k := by simp [Env.sw, swN_swN]
mutual
theorem rel_sw (i j : Nat) : ∀ (d : D) {E : Env} {y : Value}, rel (swD i j d) E y ↔ rel d (E.sw i j) y
  | .bot, _, _ => Iff.rfl
  | .v _, _, _ => Iff.rfl
  | .list _ _, _, _ => Iff.rfl
  | .ptr _, _, _ => Iff.rfl
  | .ref _ _, _, _ => Iff.rfl
  | .sl _ _ _, _, _ => Iff.rfl
  | .row _ _, _, _ => Iff.rfl
  | .rp _ _ _ _ _, _, _ => Iff.rfl
  | .mp _, _, _ => Iff.rfl
  | .agg cs, _, _ => ⟨fun ⟨vs, h1, h2⟩ => ⟨vs, h1, (rels_sw i j cs).1 h2⟩, fun ⟨vs, h1, h2⟩ => ⟨vs, h1, (rels_sw i j cs).2 h2⟩⟩
  | .tup cs, _, _ => ⟨fun ⟨vs, h1, h2⟩ => ⟨vs, h1, (rels_sw i j cs).1 h2⟩, fun ⟨vs, h1, h2⟩ => ⟨vs, h1, (rels_sw i j cs).2 h2⟩⟩
  | .fn _ cs, _, _ => ⟨fun ⟨vs, h1, h2⟩ => ⟨vs, h1, (rels_sw i j cs).1 h2⟩, fun ⟨vs, h1, h2⟩ => ⟨vs, h1, (rels_sw i j cs).2 h2⟩⟩
  | .iface _ d, _, _ => ⟨fun ⟨x, h1, h2⟩ => ⟨x, h1, (rel_sw i j d).1 h2⟩, fun ⟨x, h1, h2⟩ => ⟨x, h1, (rel_sw i j d).2 h2⟩⟩
theorem rels_sw (i j : Nat) : ∀ (ds : List D) {E : Env} {vs : List Value}, rels (swL i j ds) E vs ↔ rels ds (E.sw i j) vs
  | [], _, _ => Iff.rfl
  | d :: ds, _, _ => ⟨fun ⟨v, ws, h1, h2, h3⟩ => ⟨v, ws, h1, (rel_sw i j d).1 h2, (rels_sw i j ds).1 h3⟩, fun ⟨v, ws, h1, h2, h3⟩ => ⟨v, ws, h1, (rel_sw i j d).2 h2, (rels_sw i j ds).2 h3⟩⟩
end
def swOb (i j : Nat) : Ob → Ob
  | .cells ds => .cells (swL i j ds)
  | .row e s xs => .row e s xs
  | .mrow e s v xs => .mrow e s v xs
  | .mp l => .mp l
  | .tc T ds => .tc T (swL i j ds)
  | .dead => .dead
def swM (i j : Nat) : Mem → Mem
  | [] => []
  | (k, x) :: r => (swN i j k, swOb i j x) :: swM i j r
theorem swN_iff (i j a b : Nat) : swN i j a = b ↔ a = swN i j b := ⟨fun h => by rw [← h, swN_swN], fun h => by rw [h, swN_swN]⟩
theorem get_swM (i j : Nat) : ∀ (M : Mem) (k : Nat), get (swM i j M) k = (get M (swN i j k)).map (swOb i j)
  | [], _ => rfl
  | (q, x) :: r, k => by
    simp only [swM, get_cons, swN_iff i j q k, get_swM i j r k]
    split <;> rfl
theorem upds_swM (i j : Nat) {N N' : Nat → Option Ob} (h : ∀ k, N k = (N' (swN i j k)).map (swOb i j)) : ∀ (M : Mem) (k : Nat), upds N (swM i j M) k = (upds N' M (swN i j k)).map (swOb i j)
  | [], k => h k
  | (q, x) :: r, k => by
    simp only [swM, upds_cons, swN_iff i j q k, upds_swM i j h r k]
    split <;> rfl
theorem obBlk_sw (i j : Nat) {E : Env} {id : Nat} (x : Ob) : obBlk E id (swOb i j x) = obBlk (E.sw i j) (swN i j id) x := by
  cases x <;> simp [obBlk, swOb, sw_blk, sw_hdr]
theorem ObOK_sw (i j : Nat) {E : Env} {id : Nat} {w : World} (x : Ob) : ObOK E id w (swOb i j x) ↔ ObOK (E.sw i j) (swN i j id) w x := by
  cases x with
  | cells ds => simp only [swOb, ObOK, sw_blk, rels_sw]; rfl
  | row e s xs =>
    simp only [swOb, ObOK, sw_hdr]
    exact Iff.rfl
  | dead => exact Iff.rfl
  | mrow e s v xs => simp only [swOb, ObOK, sw_hdr]; exact Iff.rfl
  | mp l => simp only [swOb, ObOK, sw_blk]; rfl
  | tc T ds => simp only [swOb, ObOK, sw_blk, rels_sw]; rfl
theorem map_some_iff {f : Ob → Ob} {o : Option Ob} {y : Ob} : o.map f = some y ↔ ∃ x, o = some x ∧ f x = y := by cases o <;> simp
theorem Inv_sw (i j : Nat) {E : Env} {N N' : Nat → Option Ob} {w : World} (hN : ∀ k, N k = (N' (swN i j k)).map (swOb i j)) (h : Inv E N w) : Inv (E.sw i j) N' w := by
  have up : ∀ k x, N' k = some x → N (swN i j k) = some (swOb i j x) := fun k x hx => by rw [hN, swN_swN, hx]; rfl
  refine ⟨h.im, fun id x hx => ?_, fun p q x y b hx hy hxb hyb => ?_, h.gl⟩
  · have := (ObOK_sw i j x).1 (h.ob _ _ (up id x hx))
    rwa [swN_swN] at this
  · have e := h.sep (swN i j p) (swN i j q) _ _ b (up p x hx) (up q y hy) (by rw [obBlk_sw, swN_swN]; exact hxb) (by rw [obBlk_sw, swN_swN]; exact hyb)
    have := congrArg (swN i j) e
    rwa [swN_swN, swN_swN] at this
theorem swOb_swOb (i j : Nat) (x : Ob) : swOb i j (swOb i j x) = x := by
  have key : (∀ d : D, swD i j (swD i j d) = d) ∧ ∀ ds : List D, swL i j (swL i j ds) = ds := by
    constructor
    · exact fun d => sw2 d
    · exact fun ds => sw2L ds
  cases x <;> simp [swOb, key.2]
where
  sw2 : ∀ d : D, swD i j (swD i j d) = d
    | .ref k o => by simp [swD, swN_swN]
    | .sl k s n => by simp [swD, swN_swN]
    | .row k n => by simp [swD, swN_swN]
    | .rp k n s q o => by simp [swD, swN_swN]
    | .mp k => by simp [swD, swN_swN]
    | .agg cs => by simp [swD, sw2L cs]
    | .tup cs => by simp [swD, sw2L cs]
    | .fn f cs => by simp [swD, sw2L cs]
    | .iface t d => by simp [swD, sw2 d]
    | .bot => rfl
    | .v _ => rfl
    | .list _ _ => rfl
    | .ptr _ => rfl
  sw2L : ∀ ds : List D, swL i j (swL i j ds) = ds
    | [] => rfl
    | d :: ds => by simp [swL, sw2 d, sw2L ds]
theorem mem_swM (i j : Nat) : ∀ {M : Mem} {p : Nat × Ob}, p ∈ swM i j M ↔ ∃ q ∈ M, p = (swN i j q.1, swOb i j q.2)
  | [], p => by simp [swM]
  | (k, x) :: r, p => by
    simp only [swM, List.mem_cons, mem_swM i j (M := r)]
    constructor
    · rintro (h | ⟨q, h1, h2⟩)
      · exact ⟨(k, x), .inl rfl, h⟩
      · exact ⟨q, .inr h1, h2⟩
    · rintro ⟨q, h1 | h1, h2⟩
      · subst h1; exact .inl h2
      · exact .inr ⟨q, h1, h2⟩
theorem keys_swM (i j : Nat) (M : Mem) (k : Nat) : k ∈ (swM i j M).map (·.1) ↔ swN i j k ∈ M.map (·.1) := by
  simp only [List.mem_map]
  constructor
  · rintro ⟨p, hp, rfl⟩
    obtain ⟨q, hq, rfl⟩ := (mem_swM i j).1 hp
    exact ⟨q, hq, by rw [swN_swN]⟩
  · rintro ⟨q, hq, e⟩
    exact ⟨(swN i j q.1, swOb i j q.2), (mem_swM i j).2 ⟨q, hq, rfl⟩, by rw [e, swN_swN]⟩
theorem ownOf_sw (i j : Nat) {E : Env} {N N' : Nat → Option Ob} (hN : ∀ k, N k = (N' (swN i j k)).map (swOb i j)) (M : Mem) (b : Nat) : ownOf E N (swM i j M) b ↔ ownOf (E.sw i j) N' M b := by
  constructor
  · rintro ⟨p, hp, x, h1, h2⟩
    obtain ⟨q, hq, rfl⟩ := (mem_swM i j).1 hp
    rw [hN, swN_swN, map_some_iff] at h1
    obtain ⟨y, h3, rfl⟩ := h1
    exact ⟨q, hq, y, h3, by rw [obBlk_sw, swN_swN] at h2; exact h2⟩
  · rintro ⟨q, hq, y, h1, h2⟩
    exact ⟨_, (mem_swM i j).2 ⟨q, hq, rfl⟩, swOb i j y, by rw [hN, swN_swN, h1]; rfl, by rw [obBlk_sw, swN_swN]; exact h2⟩
def swO (i j : Nat) : Out → Out
  | .ret d post => .ret (swD i j d) (swM i j post)
  | .pan d => .pan (swD i j d)
theorem PCall.swap {P : Program} {f : FuncId} {pre : Mem} {ds : List D} {out : Out} (i j : Nat) (h : PCall P f pre ds out) : PCall P f (swM i j pre) (swL i j ds) (swO i j out) := by
  refine ⟨h.1, fun E w vs hi hnew hr => ?_⟩
  have hN : ∀ k, get (swM i j pre) k = (get pre (swN i j k)).map (swOb i j) := get_swM i j pre
  have hc := h.2 (E.sw i j) w vs (Inv_sw i j hN hi) (fun k hk => ?_) ((rels_sw i j ds).1 hr)
  · refine Calls.mono hc fun e w' he => ?_
    cases out with
    | ret d post =>
      obtain ⟨v, E', rfl, hd, hv⟩ := he
      have hN2 : ∀ k, upds (get pre) post k = (upds (get (swM i j pre)) (swM i j post) (swN i j k)).map (swOb i j) := by
        intro k
        rw [upds_swM i j hN post, swN_swN]
        cases upds (get pre) post k <;> simp [swOb_swOb]
      refine ⟨v, E'.sw i j, rfl, ⟨⟨⟨hd.st.le.im, fun k b hb => ?_, fun k n u hu => ?_⟩, hd.st.size, fun b hb hn => hd.st.frame b hb fun ho => hn ((ownOf_sw i j hN post b).2 ho), fun b o u hu => (hd.st.new b o u hu).imp id (·.imp id (ownOf_sw i j hN post b).2), hd.st.os, hd.st.tape, hd.st.output⟩, Inv_sw i j hN2 hd.inv, fun k hk => ?_, fun p hp b hb => ?_⟩, ?_⟩
      · exact hd.st.le.blk (swN i j k) b (by rw [sw_blk]; exact hb)
      · exact hd.st.le.hdr (swN i j k) n u (by rw [sw_hdr]; exact hu)
      · rw [keys_swM] at hk
        obtain ⟨h1, h2⟩ := hd.ids _ hk
        exact ⟨h1.trans (sw_blk E i j k), h2.trans (sw_hdr E i j k)⟩
      · obtain ⟨q, hq, rfl⟩ := (mem_swM i j).1 hp
        rw [obBlk_sw, Env.sw_sw, swN_swN] at hb
        exact (hd.bd q hq b hb).imp (ownOf_sw i j hN post b).2 id
      · exact (rel_sw i j d).2 (by rw [Env.sw_sw]; exact hv)
    | pan d =>
      obtain ⟨x, E', rfl, hst, him, hx⟩ := he
      refine ⟨x, E'.sw i j, rfl, ⟨⟨hst.le.im, fun k b hb => ?_, fun k n u hu => ?_⟩, hst.size, fun b hb hn => hst.frame b hb fun ho => hn ((ownOf_sw i j hN pre b).2 ho), fun b o u hu => (hst.new b o u hu).imp id (·.imp id (ownOf_sw i j hN pre b).2), hst.os, hst.tape, hst.output⟩, him, ?_⟩
      · exact hst.le.blk (swN i j k) b (by rw [sw_blk]; exact hb)
      · exact hst.le.hdr (swN i j k) n u (by rw [sw_hdr]; exact hu)
      · exact (rel_sw i j d).2 (by rw [Env.sw_sw]; exact hx)
  · cases out with
    | pan d => exact hk.elim
    | ret d post =>
      have := hnew (swN i j k) ⟨by rw [hN, swN_swN, hk.1]; rfl, by show _ ∈ (swM i j post).map (·.1); rw [keys_swM, swN_swN]; exact hk.2⟩
      exact ⟨this.1, this.2⟩
end Go.Dm
namespace Go.Dm
def NilRow (x : Ob) : Prop := (∃ e s, x = .row e s []) ∨ ∃ e s, x = .mrow e s 0 []
theorem Inv.ghost {E : Env} {M : Mem} {w : World} {k o c : Nat} {x : Ob} {ds : List D} (h : Inv E (get M) w) (hb : E.blk k = none) (hd : ∀ n, E.hdr k n = none) (hN : get M k = none) (hg : get M o = some (.cells ds)) (h1 : ds[c]? = some (.v (.slice none 0 0))) (hx : NilRow x) :
    Inv (E.nilRow k) (get ((k, x) :: (o, .cells (splice ds c [.row k 0])) :: M)) w := by
  have hko : k ≠ o := by intro e; subst e; rw [hN] at hg; cases hg
  have le := nilRow_le hd
  have hh : ∀ j, j ≠ k → (E.nilRow k).hdr j = E.hdr j := fun j hj => by funext n; simp [Env.nilRow, hj]
  have hnew : obBlk (E.nilRow k) k x = none := by rcases hx with ⟨e, s, rfl⟩ | ⟨e, s, rfl⟩ <;> simp [obBlk, Env.nilRow, hdrBlk]
  have hob : ∀ id y, get M id = some y → ObOK (E.nilRow k) id w y := by
    intro id y hy
    have hne : id ≠ k := by intro e; subst e; rw [hN] at hy; cases hy
    refine (h.ob id y hy).keep (w := w) (E' := E.nilRow k) (own := fun _ => False) ⟨le, Nat.le_refl _, fun _ _ _ => rfl, fun b o v hv => .inl hv, rfl, rfl, rfl⟩ (fun _ _ h => h) fun n v hv => ?_
    rw [hh id hne] at hv; exact hv
  have hbk : ∀ id y, get M id = some y → obBlk (E.nilRow k) id y = obBlk E id y := fun id y hy => obBlk_le le (h.ob id y hy)
  have key : ∀ id z, get ((k, x) :: (o, .cells (splice ds c [.row k 0])) :: M) id = some z → (id = k ∧ z = x) ∨ ∃ y, get M id = some y ∧ obBlk (E.nilRow k) id z = obBlk E id y ∧ (z = y ∨ (id = o ∧ z = .cells (splice ds c [.row k 0]))) := by
    intro id z hz
    rw [get_cons] at hz
    split at hz
    · rename_i e'; injection hz with hz; exact .inl ⟨e'.symm, hz.symm⟩
    · rw [get_cons] at hz
      split at hz
      · rename_i e'
        subst e'
        injection hz with hz; subst hz
        refine .inr ⟨_, hg, ?_, .inr ⟨rfl, rfl⟩⟩
        have := hbk o _ hg
        simpa [obBlk] using this
      · exact .inr ⟨z, hz, hbk id z hz, .inl rfl⟩
  refine ⟨h.im, fun id z hz => ?_, fun i j y z b hy hz hyb hzb => ?_, h.gl⟩
  · rcases key id z hz with ⟨rfl, rfl⟩ | ⟨y, hy, _, rfl | ⟨rfl, rfl⟩⟩
    · rcases hx with ⟨e, s, rfl⟩ | ⟨e, s, rfl⟩
      · refine ⟨fun n v hv => ?_, .inl ⟨by simp [Env.nilRow], rfl⟩⟩
        simp only [Env.nilRow, if_true] at hv
        split at hv
        · rename_i e'; subst e'; injection hv with hv; subst hv
          exact ⟨Nat.le_refl _, none, 0, rfl, Nat.le_refl _, fun h => absurd rfl h⟩
        · cases hv
      · refine ⟨fun n v hv => ?_, .inl ⟨by simp [Env.nilRow], rfl⟩⟩
        simp only [Env.nilRow, if_true] at hv
        split at hv
        · rename_i e'; omega
        · cases hv
    · exact hob id z hy
    · obtain ⟨b, cc, T, g1, g2, g3, g4⟩ := hob id _ hg
      refine ⟨b, cc, T, g1, g2, ?_, g4⟩
      have hc : cc.toList[c]? = some (.slice none 0 0) := by
        obtain ⟨v, hv1, hv2⟩ := rels_get g3 h1
        have : v = .slice none 0 0 := hv2
        rw [hv1, this]
      have := rels_splice (cs := [.row k 0]) (vs := [.slice none 0 0]) g3 ⟨_, [], rfl, ⟨by simp [Env.nilRow], rfl⟩, rfl⟩ c
      rwa [splice_self hc] at this
  · rcases key i y hy with ⟨rfl, rfl⟩ | ⟨y', hy', ey, _⟩
    · rw [hnew] at hyb; cases hyb
    · rcases key j z hz with ⟨rfl, rfl⟩ | ⟨z', hz', ez, _⟩
      · rw [hnew] at hzb; cases hzb
      · rw [ey] at hyb; rw [ez] at hzb
        exact h.sep i j y' z' b hy' hz' hyb hzb
def GhostOK (k o : Nat) : Out → Prop
  | .ret _ post => k ∈ post.map (·.1) ∧ o ∈ post.map (·.1)
  | .pan d => flat d = true
theorem PCall.ghost {P : Program} {f : FuncId} {pre0 : Mem} {ds args : List D} {out : Out} {x : Ob} (k o c : Nat) (h : PCall P f ((k, x) :: (o, .cells (splice ds c [.row k 0])) :: pre0) args out)
    (hx : NilRow x) (h1 : ds[c]? = some (.v (.slice none 0 0))) (h2 : occM k ((o, .cells ds) :: pre0) = false) (h3 : occs k args = false) (h4 : GhostOK k o out) : PCall P f ((o, .cells ds) :: pre0) args out := by
  refine ⟨h.1, fun E w vs hi hnew hr => ?_⟩
  have hN : get ((o, .cells ds) :: pre0) k = none := (occM_get h2).1
  have hko : k ≠ o := by intro e; subst e; rw [get_cons, if_pos rfl] at hN; cases hN
  have hN0 : get pre0 k = none := by rw [get_cons, if_neg (Ne.symm hko)] at hN; exact hN
  let E0 := E.forget k
  have i0 : Inv E0 (get ((o, .cells ds) :: pre0)) w := hi.forget h2
  have hb0 : E0.blk k = none := by simp [E0, Env.forget]
  have hd0 : ∀ n, E0.hdr k n = none := fun n => by simp [E0, Env.forget]
  have i1 := i0.ghost hb0 hd0 hN (o := o) (c := c) (by rw [get_cons, if_pos rfl]) h1 hx
  have eg : get ((k, x) :: (o, .cells (splice ds c [.row k 0])) :: (o, .cells ds) :: pre0) = get ((k, x) :: (o, .cells (splice ds c [.row k 0])) :: pre0) := by
    funext j
    simp only [get_cons]
    split
    · rfl
    · split <;> rfl
  rw [eg] at i1
  let E1 := E0.nilRow k
  have le01 : E0.le E1 := nilRow_le hd0
  have e1b : ∀ j, j ≠ k → E1.blk j = E.blk j := fun j hj => by simp [E1, E0, Env.nilRow, Env.forget, hj]
  have e1h : ∀ j, j ≠ k → E1.hdr j = E.hdr j := fun j hj => by funext n; simp [E1, E0, Env.nilRow, Env.forget, hj]
  have hob1 : ∀ j y, j ≠ k → obBlk E1 j y = obBlk E j y := fun j y hj => by cases y <;> simp [obBlk, e1b j hj, e1h j hj]
  have hxk : obBlk E1 k x = none := by rcases hx with ⟨e, s, rfl⟩ | ⟨e, s, rfl⟩ <;> simp [obBlk, E1, Env.nilRow, hdrBlk]
  have own1 : ∀ (post : Mem) b, ownOf E1 (get ((k, x) :: (o, .cells (splice ds c [.row k 0])) :: pre0)) post b → ownOf E (get ((o, .cells ds) :: pre0)) post b := by
    rintro post b ⟨p, hp, y, hy, hyb⟩
    by_cases hpk : p.1 = k
    · rw [get_cons, if_pos hpk.symm] at hy
      injection hy with hy; subst hy
      rw [hpk, hxk] at hyb; cases hyb
    · rw [get_cons, if_neg (Ne.symm hpk), get_cons] at hy
      rw [hob1 _ _ hpk] at hyb
      refine ⟨p, hp, ?_⟩
      rw [get_cons]
      by_cases hpo : o = p.1
      · rw [if_pos hpo] at hy ⊢
        injection hy with hy; subst hy
        exact ⟨_, rfl, by simpa [obBlk] using hyb⟩
      · rw [if_neg hpo] at hy ⊢
        exact ⟨y, hy, hyb⟩
  have hc := h.2 E1 w vs i1 (fun j hj => ?_) (rels_mono _ le01 (rels_forget _ h3 hr))
  · refine Calls.mono hc fun e w' he => ?_
    cases out with
    | ret d post =>
      obtain ⟨v, E', rfl, hd, hv⟩ := he
      obtain ⟨hpk, hpo⟩ := h4
      obtain ⟨hbk, hhk⟩ := hnew k ⟨hN, hpk⟩
      have leE : E.le E1 := by
        refine ⟨fun _ _ _ h => h, fun j b hb => ?_, fun j n u hu => ?_⟩
        · rw [e1b j (by intro e; subst e; rw [hbk] at hb; cases hb)]; exact hb
        · rw [e1h j (by intro e; subst e; rw [hhk] at hu; cases hu)]; exact hu
      refine ⟨v, E', rfl, ⟨⟨leE.trans hd.st.le, hd.st.size, fun b hb hn => hd.st.frame b hb fun ho => hn (own1 _ _ ho), fun b q u hu => (hd.st.new b q u hu).imp id (·.imp id (own1 _ _)), hd.st.os, hd.st.tape, hd.st.output⟩, hd.inv.sub fun id y hy => ?_, fun j hj => ?_, fun p hp b hb => (hd.bd p hp b hb).imp (own1 _ _) id⟩, hv⟩
      · rw [upds_eq] at hy ⊢
        cases hgp : get post id with
        | some z => rw [hgp] at hy; exact hy
        | none =>
          rw [hgp] at hy
          simp only at hy ⊢
          have hik : k ≠ id := by intro e; subst e; exact get_none_mem hgp hpk
          have hio : o ≠ id := by intro e; subst e; exact get_none_mem hgp hpo
          rw [get_cons, if_neg hio] at hy
          rw [get_cons, if_neg hik, get_cons, if_neg hio]; exact hy
      · have hjk : j ≠ k := by intro e; subst e; exact hj hpk
        obtain ⟨g1, g2⟩ := hd.ids j hj
        exact ⟨g1.trans (e1b j hjk), g2.trans (e1h j hjk)⟩
    | pan d =>
      obtain ⟨y, E', rfl, hst, him, hy⟩ := he
      have own2 : ∀ b, ownOf E1 (get ((k, x) :: (o, .cells (splice ds c [.row k 0])) :: pre0)) ((k, x) :: (o, .cells (splice ds c [.row k 0])) :: pre0) b → ownOf E (get ((o, .cells ds) :: pre0)) ((o, .cells ds) :: pre0) b := by
        intro b hb
        obtain ⟨p, hp, z, hz, hzb⟩ := own1 _ b hb
        simp only [List.mem_cons] at hp
        rcases hp with rfl | rfl | hp
        · exfalso
          simp only at hz
          rw [hN] at hz; cases hz
        · exact ⟨(o, .cells ds), by simp, z, hz, hzb⟩
        · exact ⟨p, by simp [hp], z, hz, hzb⟩
      refine ⟨y, ⟨E'.im, E.blk, E.hdr⟩, rfl, ⟨⟨hst.le.im, fun _ _ h => h, fun _ _ _ h => h⟩, hst.size, fun b hb hn => hst.frame b hb fun ho => hn (own2 b ho), fun b q u hu => (hst.new b q u hu).imp id (·.imp id (own2 b)), hst.os, hst.tape, hst.output⟩, him, flat_rel d h4 hy⟩
  · cases out with
    | pan d => exact hj.elim
    | ret d post =>
      obtain ⟨j1, j2⟩ := hj
      have hjk : k ≠ j := by intro e; subst e; rw [get_cons, if_pos rfl] at j1; cases j1
      rw [get_cons, if_neg hjk, get_cons] at j1
      have hjo : o ≠ j := by intro e; subst e; rw [if_pos rfl] at j1; cases j1
      rw [if_neg hjo] at j1
      obtain ⟨g1, g2⟩ := hnew j ⟨by rw [get_cons, if_neg hjo]; exact j1, j2⟩
      exact ⟨by rw [e1b j (Ne.symm hjk)]; exact g1, fun n => by rw [e1h j (Ne.symm hjk)]; exact g2 n⟩
theorem swM_keys (i j : Nat) : ∀ M : Mem, (swM i j M).map (·.1) = (M.map (·.1)).map (swN i j)
  | [] => rfl
  | (k, x) :: r => by simp [swM, swM_keys i j r]
theorem Done.swap {E E' : Env} {pre post : Mem} {w w' : World} (i j : Nat) (hd : Done (E.sw i j) E' (get pre) post w w') : Done E (E'.sw i j) (get (swM i j pre)) (swM i j post) w w' := by
  have hN : ∀ k, get (swM i j pre) k = (get pre (swN i j k)).map (swOb i j) := get_swM i j pre
  have hN2 : ∀ k, upds (get pre) post k = (upds (get (swM i j pre)) (swM i j post) (swN i j k)).map (swOb i j) := by
    intro k
    rw [upds_swM i j hN post, swN_swN]
    cases upds (get pre) post k <;> simp [swOb_swOb]
  refine ⟨⟨⟨hd.st.le.im, fun k b hb => ?_, fun k n u hu => ?_⟩, hd.st.size, fun b hb hn => hd.st.frame b hb fun ho => hn ((ownOf_sw i j hN post b).2 ho), fun b o u hu => (hd.st.new b o u hu).imp id (·.imp id (ownOf_sw i j hN post b).2), hd.st.os, hd.st.tape, hd.st.output⟩, Inv_sw i j hN2 hd.inv, fun k hk => ?_, fun p hp b hb => ?_⟩
  · exact hd.st.le.blk (swN i j k) b (by rw [sw_blk]; exact hb)
  · exact hd.st.le.hdr (swN i j k) n u (by rw [sw_hdr]; exact hu)
  · rw [keys_swM] at hk
    obtain ⟨h1, h2⟩ := hd.ids _ hk
    exact ⟨h1.trans (sw_blk E i j k), h2.trans (sw_hdr E i j k)⟩
  · obtain ⟨q, hq, rfl⟩ := (mem_swM i j).1 hp
    rw [obBlk_sw, Env.sw_sw, swN_swN] at hb
    exact (hd.bd q hq b hb).imp (ownOf_sw i j hN post b).2 id
def swOp (i j : Nat) : Option D → Option D
  | none => none
  | some d => some (swD i j d)
theorem DCall.swap {P : Program} {f : FuncId} {m : Option D} {pre post : Mem} {ds : List D} (i j : Nat) (h : DCall P f m pre ds post) : DCall P f (swOp i j m) (swM i j pre) (swL i j ds) (swM i j post) := by
  obtain ⟨h1, h2, h3⟩ := h
  refine ⟨h1, by rw [swM_keys, swM_keys, h2], fun E w vs u u' x hi hr hm => ?_⟩
  have hc := h3 (E.sw i j) w vs u u' x (Inv_sw i j (get_swM i j pre) hi) ((rels_sw i j ds).1 hr) (by
    cases m with
    | none => exact hm
    | some d => exact ⟨hm.1, hm.2.1, (rel_sw i j d).1 hm.2.2⟩)
  refine CallsD.mono hc ?_
  rintro e u'' w' ⟨v, E', h4, h5, hd⟩
  exact ⟨v, E'.sw i j, h4, h5, hd.swap i j⟩
end Go.Dm
namespace Go.Dm
def str (l : List UInt8) : Value := .string ⟨l.toArray⟩
theorem strEq_iff {a b : List UInt8} : strEq ⟨a.toArray⟩ ⟨b.toArray⟩ = true ↔ a = b := by
  simp [strEq, ByteArray.toList_eq]
theorem strEq_ff {a b : List UInt8} : strEq ⟨a.toArray⟩ ⟨b.toArray⟩ = false ↔ a ≠ b := by
  rw [← Bool.not_eq_true, Ne, not_congr strEq_iff]
theorem KI.i64 {K : Kont} {n : Int} (c : Int) (e : n = c) (h : -9223372036854775808 ≤ c ∧ c ≤ 9223372036854775807) (hK : KV K (.int .i64 c)) : KI K .i64 (IntKind.i64.wrap n) := by
  subst e
  exact ⟨by rw [IntWalk.i64_in n h]; exact hK⟩
theorem KI.u8 {K : Kont} {n : Int} (c : Int) (e : n = c) (h : 0 ≤ c ∧ c ≤ 255) (hK : KV K (.int .u8 c)) : KI K .u8 (IntKind.u8.wrap n) := by
  subst e
  refine ⟨?_⟩
  have : IntKind.u8.wrap n = n := by
    simp only [IntKind.wrap, IntKind.bits, IntKind.signed]
    simp
    omega
  rw [this]; exact hK
theorem byD_get {b : List UInt8} {j : Nat} {c : UInt8} (h : b[j]? = some c) : (byD b)[j]? = some [.v (.int .u8 c.toNat)] := by simp [byD, h]
theorem byD_cut (b : List UInt8) (l h : Nat) : ((byD b).take h).drop l = byD ((b.take h).drop l) := by simp [byD]
theorem IdxG.by {n : Int} {b : List UInt8} {C : List D → Prop} (j : Nat) (c : UInt8) (h1 : n = (j : Int)) (h2 : b[j]? = some c) (h : C [.v (.int .u8 c.toNat)]) : IdxG n (byD b) C := .to j _ h1 (byD_get h2) h
theorem CutL.by {b : List UInt8} {pre : List (Nat × Ob)} {l h : Nat} {K : Kont} (b' : List UInt8) (h1 : l ≤ h) (h2 : h ≤ b.length) (e : (b.take h).drop l = b') (hK : K (.ret (.list 1 (byD b')) []) pre) : CutL 1 (byD b) pre l h K :=
  .to _ h1 (by rw [byD_length]; exact h2) (by rw [byD_cut, e]) hK
theorem StrG.by {b : List UInt8} {pre : List (Nat × Ob)} {K : Kont} (h : K (.ret (.v (str b)) []) pre) : StrG (byD b) pre K := .to b rfl h
theorem decT {p : Prop} [Decidable p] (h : decide p = true) : p := of_decide_eq_true h
theorem decF {p : Prop} [Decidable p] (h : decide p = false) : ¬ p := of_decide_eq_false h
theorem notT {b : Bool} (h : (!b) = true) : b = false := by cases b <;> simp_all
theorem notF {b : Bool} (h : (!b) = false) : b = true := by cases b <;> simp_all
end Go.Dm
namespace Go.Dm
def seqB (C : Ctx) (news : List Nat) (ops : List Oper) (Qp : D → Fr → Mem → Prop) (o : Oper) (ih : Fr → Mem → List (Nat × Bool) → (Fr → Mem → Prop) → Prop) (fr : Fr) (M : Mem) (dec : List (Nat × Bool)) (K : Fr → Mem → Prop) : Prop :=
  let run := fun (fr : Fr) (dec : List (Nat × Bool)) => opW C fr M news o fun out pre => match out with
    | .ret d post => match freshB fr M (newIds pre post) with
      | true => ih (putD o.dst d fr) (post ++ M) (delO o.dst dec) K
      | false => False
    | .pan d => Qp d fr (delM pre M)
  let skip := fun (fr : Fr) (dec : List (Nat × Bool)) => ih (putD o.dst (.v undef) fr) M (delO o.dst dec) K
  match o.guard with
  | none => run fr dec
  | some (g, want) => match nth ops g with
    | some og => match og.dst with
      | some t => match get dec t with
        | some b => match b == want with
          | true => run fr dec
          | false => skip fr dec
        | none => match gd fr t with
          | .v (.bool b) => Split b (match want with | true => run ((t, .v (.bool true)) :: fr) ((t, true) :: dec) | false => skip ((t, .v (.bool true)) :: fr) ((t, true) :: dec))
            (match want with | true => skip ((t, .v (.bool false)) :: fr) ((t, false) :: dec) | false => run ((t, .v (.bool false)) :: fr) ((t, false) :: dec))
          | .v (.tuple _) => skip fr dec
          | _ => False
      | none => False
    | none => False
noncomputable def seqR (C : Ctx) (news : List Nat) (ops : List Oper) (Qp : D → Fr → Mem → Prop) (l : List Oper) : Fr → Mem → List (Nat × Bool) → (Fr → Mem → Prop) → Prop :=
  List.rec (motive := fun _ => Fr → Mem → List (Nat × Bool) → (Fr → Mem → Prop) → Prop) (fun fr M _ K => K fr M) (fun o _ ih => seqB C news ops Qp o ih) l
theorem seqR_eq (C : Ctx) (news : List Nat) (ops : List Oper) (Qp : D → Fr → Mem → Prop) : ∀ l, seqR C news ops Qp l = seqW C news ops Qp l
  | [] => by funext fr M dec K; rfl
  | o :: os => by
    funext fr M dec K
    show seqB C news ops Qp o (seqR C news ops Qp os) fr M dec K = _
    rw [seqR_eq C news ops Qp os]
    rfl
def drawB (C : Ctx) (news : List Nat) (ops : List Oper) (Qp : D → Fr → Mem → Prop) (o : Oper) (ih : Nat → Fr → Mem → List (Nat × Bool) → List Nat → List Foot → (Fr → Mem → List Nat → List Foot → Prop) → Prop)
    (i : Nat) (fr : Fr) (M : Mem) (dec : List (Nat × Bool)) (dead : List Nat) (fp : List Foot) (K : Fr → Mem → List Nat → List Foot → Prop) : Prop :=
  match anyIn (edges o) dead with
  | true => ih (i + 1) (putD o.dst .bot fr) M (delO o.dst dec) (i :: dead) (fp ++ [([], [])]) K
  | false =>
    let run := fun (fr : Fr) (dec : List (Nat × Bool)) => opW C fr M news o fun out pre => match out with
      | .ret d post => match subN (newIds pre post) (regNews news [o]) with
        | true => ih (i + 1) (putD o.dst d fr) (post ++ M) (delO o.dst dec) dead (fp ++ [foot pre post]) K
        | false => False
      | .pan d => Qp d [] [] ∧ ih (i + 1) (putD o.dst .bot fr) M (delO o.dst dec) (i :: dead) (fp ++ [(pre.map (·.1), pre.map (·.1))]) K
    let skip := fun (fr : Fr) (dec : List (Nat × Bool)) => ih (i + 1) (putD o.dst (.v undef) fr) M (delO o.dst dec) dead (fp ++ [([], [])]) K
    match o.guard with
    | none => run fr dec
    | some (g, want) => match nth ops g with
      | some og => match og.dst with
        | some t => match get dec t with
          | some b => match b == want with
            | true => run fr dec
            | false => skip fr dec
          | none => match gd fr t with
            | .v (.bool b) => Split b (match want with | true => run ((t, .v (.bool true)) :: fr) ((t, true) :: dec) | false => skip ((t, .v (.bool true)) :: fr) ((t, true) :: dec))
              (match want with | true => skip ((t, .v (.bool false)) :: fr) ((t, false) :: dec) | false => run ((t, .v (.bool false)) :: fr) ((t, false) :: dec))
            | .v (.tuple _) => skip fr dec
            | _ => False
        | none => False
      | none => False
noncomputable def drawR (C : Ctx) (news : List Nat) (ops : List Oper) (Qp : D → Fr → Mem → Prop) (l : List Oper) : Nat → Fr → Mem → List (Nat × Bool) → List Nat → List Foot → (Fr → Mem → List Nat → List Foot → Prop) → Prop :=
  List.rec (motive := fun _ => Nat → Fr → Mem → List (Nat × Bool) → List Nat → List Foot → (Fr → Mem → List Nat → List Foot → Prop) → Prop) (fun _ fr M _ dead fp K => K fr M dead fp) (fun o _ ih => drawB C news ops Qp o ih) l
theorem drawR_eq (C : Ctx) (news : List Nat) (ops : List Oper) (Qp : D → Fr → Mem → Prop) : ∀ l, drawR C news ops Qp l = drawW C news ops Qp l
  | [] => by funext i fr M dec dead fp K; rfl
  | o :: os => by
    funext i fr M dec dead fp K
    show drawB C news ops Qp o (drawR C news ops Qp os) i fr M dec dead fp K = _
    rw [drawR_eq C news ops Qp os]
    rfl
def regB (C : Ctx) (news : List Nat) (n : Nat) (Qp : D → Fr → Mem → Prop) (ops : Array Oper) (draw : Bool) (K : KK) (fr : Fr) (M : Mem) : Prop :=
  match dstOK n ops.toList with
  | true => match draw with
    | false => seqR C news ops.toList Qp ops.toList fr M [] (K .normal)
    | true => match regOK n news ops.toList fr M with
      | true => drawR C news ops.toList Qp ops.toList 0 fr M [] [] [] fun fr' M' dead fps => chk ops.toList fps = true ∧ (match dead with | [] => K .normal fr' M' | _ => True)
      | false => False
  | false => False
def condB (c : Operand) (X Y : KK → Fr → Mem → Prop) (K : KK) (fr : Fr) (M : Mem) : Prop := match ev fr c with
  | .v (.bool b) => Split b (X K (setc fr c true) M) (Y K (setc fr c false) M)
  | _ => False
noncomputable def awpR (C : Ctx) (news : List Nat) (n : Nat) (Qp : D → Fr → Mem → Prop) (rec : Code → KK → Fr → Mem → Prop) (c : Code) : KK → Fr → Mem → Prop :=
  Code.rec (motive := fun _ => KK → Fr → Mem → Prop)
    (fun K fr M => K .normal fr M)
    (fun _ ops draw K fr M => regB C news n Qp ops draw K fr M)
    (fun _ _ X Y K fr M => X (thenK (Y K) K) fr M)
    (fun c _ _ X Y K fr M => condB c X Y K fr M)
    (fun id _ X K fr M => X (blockK id K) fr M)
    (fun _ X K fr M => LoopW X K fr M)
    (fun _ _ _ _ _ _ _ _ _ => False)
    (fun id K fr M => K (.exit id) fr M)
    (fun x _ K fr M => ScopeW rec x K fr M)
    (fun _ K fr M => K .normal fr M)
    (fun l K fr M => K (.goto l) fr M)
    (fun K fr M => K .ret fr M)
    (fun _ _ _ _ => False) c
theorem awpR_eq (C : Ctx) (news : List Nat) (n : Nat) (Qp : D → Fr → Mem → Prop) (rec : Code → KK → Fr → Mem → Prop) : ∀ c, awpR C news n Qp rec c = awpS C news n Qp rec c
  | .skip | .label _ | .exit _ | .goto _ | .ret | .refuse _ | .rangeFunc .. | .scope _ => by funext K fr M; rfl
  | .region _ ops draw => by
    funext K fr M
    show regB C news n Qp ops draw K fr M = _
    unfold regB
    rw [seqR_eq, drawR_eq]
    rfl
  | .seq x y => by
    funext K fr M
    show awpR C news n Qp rec x (thenK (awpR C news n Qp rec y K) K) fr M = _
    rw [awpR_eq C news n Qp rec x, awpR_eq C news n Qp rec y]
    rfl
  | .cond c x y => by
    funext K fr M
    show condB c (awpR C news n Qp rec x) (awpR C news n Qp rec y) K fr M = _
    rw [awpR_eq C news n Qp rec x, awpR_eq C news n Qp rec y]
    rfl
  | .block id x => by
    funext K fr M
    show awpR C news n Qp rec x (blockK id K) fr M = _
    rw [awpR_eq C news n Qp rec x]
    rfl
  | .loop x => by
    funext K fr M
    show LoopW (awpR C news n Qp rec x) K fr M = _
    rw [awpR_eq C news n Qp rec x]
    rfl
noncomputable def awq (C : Ctx) (news : List Nat) (n : Nat) (Qp : D → Fr → Mem → Prop) (c : Code) (K : KK) (fr : Fr) (M : Mem) : Prop :=
  awpR C news n Qp (awpR C news n Qp fun _ _ _ _ => False) c K fr M
theorem awq_eq (C : Ctx) (news : List Nat) (n : Nat) (Qp : D → Fr → Mem → Prop) : awq C news n Qp = awp C news n Qp := by
  funext c K fr M
  unfold awq awp
  rw [awpR_eq, show awpR C news n Qp (fun _ _ _ _ => False) = awpS C news n Qp (fun _ _ _ _ => False) from funext (awpR_eq _ _ _ _ _)]
theorem pcall_ofR {C : Ctx} (hC : C.OK) {f : FuncId} {fn : Func} {c : Code} {news : List Nat} {pre : Mem} {ds : List D} {out : Out} {n : Nat} {rs : List ResultVar}
    (hf : C.P.funcs[f]? = some fn) (hb : fn.body = some c) (hn : fn.ntmps = n) (hts : fn.results.toList = rs) (hlen : (match Nat.ble ds.length n with | true => Nat.ble n 99999 | false => false) = true)
    (hid : pre.all (fun p => Nat.ble 1000 p.1) = true) (hnm : fn.name ≠ "runtime.NumGoroutine")
    (h : awq C news n (fun d _ _ => ∃ e, out = .pan e ∧ (d = e ∧ within (pre.map (·.1)) e = true ∨ ∃ p, purify [] d = some (e, p))) c (funK C.L pre rs out) (argsFr 0 ds) pre) : PCall C.P f pre ds out :=
  pcall_of hC hf hb hn hts hlen hid hnm (by rw [← awq_eq]; exact h)
theorem sM {b : Bool} {X Y : Prop} (x : b = true → X) (y : b = false → Y) : Split b X Y := .mk x y
theorem xB {a b : Nat} {Q : Prop} (q : Q) (h : Nat.ble a b = true := by rfl) : a ≤ b ∧ Q := ⟨Nat.le_of_ble_eq_true h, q⟩
theorem xY {b : Bool} {X Y : Prop} (x : X) (h : b = true := by rfl) : Split b X Y := .yes h x
theorem xN {b : Bool} {X Y : Prop} (y : Y) (h : b = false := by rfl) : Split b X Y := .no h y
theorem xC {ops : List Oper} {fps : List Foot} {Q : Prop} (q : Q) (h : chk ops fps = true := by kernel_rfl) : chk ops fps = true ∧ Q := ⟨h, q⟩
theorem xI {P Q : Prop} (q : Q) (h : P := by rfl) : P ∧ Q := ⟨h, q⟩
end Go.Dm
namespace Go.Dm.Tryz
open Go.Proofs
noncomputable def cx : Ctx := ⟨Tryz.prog, tys⟩
theorem mixed : Tryz.prog.follows .mixedOrders = true := by kernel_rfl
theorem cxOK : cx.OK := ⟨(TyFrom_ok tysOK).1, (TyFrom_ok tysOK).2, mixed⟩
end Go.Dm.Tryz
namespace Go.Dm
def letterS (c : Int) : Bool := decide (c = 95) || (decide (97 ≤ bitsV .or .u8 c 32) && decide (bitsV .or .u8 c 32 ≤ 122))
def innerS (c : Int) : Bool := letterS c || decide (c = 46) || (decide (48 ≤ c) && decide (c ≤ 57))
def NameS (s : List UInt8) : Bool := match s with
  | [] => false
  | c :: _ => decide (s.length ≤ 20) && (letterS c.toNat && s.all (fun c => innerS c.toNat))
theorem all_upto {α : Type} {p : α → Bool} {s : List α} (h : ∀ (k : Nat) (hk : k < s.length), p s[k] = true) : s.all p = true := by
  rw [List.all_eq_true]
  intro x hx
  obtain ⟨k, hk, rfl⟩ := List.mem_iff_getElem.1 hx
  exact h k hk
theorem all_not {α : Type} {p : α → Bool} {s : List α} (k : Nat) (hk : k < s.length) (h : p s[k] = false) : s.all p = false := by
  rw [← Bool.not_eq_true, List.all_eq_true]
  intro hh
  rw [hh s[k] (List.getElem_mem hk)] at h
  cases h
namespace Tryz
open Go.Proofs
theorem lexLetter (c : Int) : PCall Tryz.prog 57 [] [.v (.int .u8 c)] (.ret (.v (.bool (letterS c))) []) := by
  refine pcall_of (news := []) cxOK Tryz.func57 rfl Tryz.ntmps57 rfl rfl rfl (by decide) ?_
  repeat' ((conv => whnf); first | exact trivial | refine xB ?_ | refine xY ?_ | refine xN ?_ | refine sM ?_ ?_ <;> intro _ | refine KI.to _ rfl ?_ | refine xC ?_ | refine And.intro ?_ ?_ | exact Or.inl ⟨rfl, rfl⟩)
  all_goals (conv => whnf)
  all_goals (simp_all [letterS]; try omega)
theorem lexInner (c : Int) : PCall Tryz.prog 58 [] [.v (.int .u8 c)] (.ret (.v (.bool (innerS c))) []) := by
  refine pcall_of (news := []) cxOK Tryz.func58 rfl Tryz.ntmps58 rfl rfl rfl (by decide) ?_
  conv => whnf
  refine call0 (lexLetter _) ?_
  repeat' ((conv => whnf); first | exact trivial | refine xB ?_ | refine xY ?_ | refine xN ?_ | refine sM ?_ ?_ <;> intro _ | refine KI.to _ rfl ?_ | refine xC ?_ | refine And.intro ?_ ?_ | exact Or.inl ⟨rfl, rfl⟩)
  all_goals (conv => whnf)
  all_goals (simp_all [innerS]; try omega)
theorem lexName (s : List UInt8) : PCall Tryz.prog 29 [] [.v (str s)] (.ret (.v (.bool (NameS s))) []) := by
  refine pcall_of (news := []) cxOK Tryz.func29 rfl Tryz.ntmps29 rfl rfl rfl (by decide) ?_
  repeat' ((conv => whnf); first | exact trivial | refine xB ?_ | refine xY ?_ | refine xN ?_ | refine sM ?_ ?_ <;> intro _ | refine KI.to _ rfl ?_ | refine xC ?_ | refine And.intro ?_ ?_ | exact Or.inl ⟨rfl, rfl⟩)
  all_goals (conv => whnf)
  · rename_i h
    have := strEq_iff.1 h
    subst this; rfl
  · rename_i h0 h
    cases s with
    | nil => rfl
    | cons c s =>
      have h' : ((c :: s).length : Int) > 20 := of_decide_eq_true h
      have : ¬ (c :: s).length ≤ 20 := by omega
      simp only [NameS, decide_eq_false this, Bool.false_and]
  rename_i h0 h
  have h0 := strEq_ff.1 h0
  cases s with
  | nil => exact absurd rfl h0
  | cons c s =>
  have hl : (c :: s).length ≤ 20 := by
    have : ¬ (((c :: s).length : Int) > 20) := of_decide_eq_false h
    omega
  refine ChrG.to 0 c rfl rfl ?_
  conv => whnf
  refine call0 (lexLetter _) ?_
  repeat' ((conv => whnf); first | exact trivial | refine xB ?_ | refine xY ?_ | refine xN ?_ | refine sM ?_ ?_ <;> intro _ | refine xC ?_ | refine And.intro ?_ ?_ | exact Or.inl ⟨rfl, rfl⟩ | exact rfl)
  all_goals (conv => whnf)
  · rename_i h1
    have h1 : letterS c.toNat = false := by simpa using h1
    simp only [NameS, h1, Bool.false_and, Bool.and_false]
  rename_i hlet
  have hlet : letterS c.toNat = true := by simpa using hlet
  refine LoopW.to (ι := Nat) (fun i => i ≤ (c :: s).length ∧ ∀ k (hk : k < (c :: s).length), k < i → innerS (c :: s)[k].toNat = true) (fun i => (c :: s).length - i)
    (fun i => [(0, .v (str (c :: s))), (18, .v (.int .i64 (c :: s).length)), (19, .v (.int .i64 i))]) (fun _ => []) [] 0 ⟨Nat.zero_le _, fun k _ h => by omega⟩ ⟨⟨rfl, rfl, rfl, trivial⟩, trivial⟩ ?_
  rintro i ⟨hi, hk⟩
  repeat' ((conv => whnf); first | exact trivial | refine xB ?_ | refine xY ?_ | refine xN ?_ | refine sM ?_ ?_ <;> intro _ | refine xC ?_ | refine And.intro ?_ ?_ | exact Or.inl ⟨rfl, rfl⟩ | exact rfl)
  all_goals (conv => whnf)
  · rename_i hlt
    have hlt : i < (c :: s).length := by have := of_decide_eq_true hlt; omega
    refine ChrG.to i (c :: s)[i] rfl (by simp) ?_
    conv => whnf
    refine call0 (lexInner _) ?_
    repeat' ((conv => whnf); first | exact trivial | refine xB ?_ | refine xY ?_ | refine xN ?_ | refine sM ?_ ?_ <;> intro _ | refine xC ?_ | refine And.intro ?_ ?_ | exact Or.inl ⟨rfl, rfl⟩ | exact rfl)
    all_goals (conv => whnf)
    · rename_i h1
      have h1 : innerS (c :: s)[i].toNat = false := by simpa using h1
      simp only [NameS, all_not (p := fun c : UInt8 => innerS c.toNat) i hlt h1, Bool.and_false]
    · rename_i h1
      have h1 : innerS (c :: s)[i].toNat = true := by simpa using h1
      refine KI.i64 ((i + 1 : Nat) : Int) (by simp) (by omega) ?_
      conv => whnf
      refine NextG.to (i + 1) ⟨by omega, fun k hk1 hk2 => ?_⟩ (by omega) ⟨⟨rfl, rfl, rfl, trivial⟩, trivial⟩
      by_cases e : k = i
      · subst e; exact h1
      · exact hk k hk1 (by omega)
  · rename_i hlt
    have hlt : i = (c :: s).length := by have := of_decide_eq_false hlt; omega
    have := all_upto (p := fun c : UInt8 => innerS c.toNat) (s := c :: s) fun k h => hk k h (by omega)
    simp only [NameS, decide_eq_true hl, hlet, this, Bool.true_and]
end Tryz
end Go.Dm
namespace Go.Dm
theorem run_indexByteEmpty {P : Program} {w : World} (a : Addr) (c : Nat) (cv : Int) :
    (Extern.BytealgIndexByte.indexByte #[.slice (some a) 0 c, .int .u8 cv]).run P w = .ok (.int .i64 (-1)) w := by
  have hs := Lib.run_indexByteNil (P := P) w 0 0 cv
  exact hs
theorem list_by {b : List UInt8} {E : Env} {v : Value} (h : rel (.list 1 (byD b)) E v) : ∃ a cap, v = .slice a b.length cap ∧ b.length ≤ cap ∧ (b ≠ [] → ∃ k o, a = some ⟨k, o, none⟩ ∧ ∀ i, i < b.length → E.im k (o + i) = some (.int .u8 ((b.map fun c => (c.toNat : Int)).getD i 0))) := by
  obtain ⟨a, cap, h1, h2, h3⟩ := h
  rw [byD_length] at h1 h2
  refine ⟨a, cap, h1, h2, fun hne => ?_⟩
  obtain ⟨k, o, h4, h5⟩ := h3 (by intro e; apply hne; cases b with | nil => rfl | cons _ _ => simp [byD] at e)
  exact ⟨k, o, h4, fun i hi => relRow_byD h5 i hi⟩
theorem bytesOf_nat (b : List UInt8) : Lib.bytesOf (b.map fun c => (c.toNat : Int)) = b := by
  simp [Lib.bytesOf, List.map_map, Function.comp_def]
namespace Tryz
open Go.Proofs
theorem eIndexByte {g : D} (b : List UInt8) (c : UInt8) : ECall Tryz.prog g 153 [.list 1 (byD b), .v (.int .u8 c.toNat)] (.v (.int .i64 (Lib.indexByte b c))) := by
  intro E w vs hi _ ⟨v, ws, e1, h1, u, ws', e2, h2, e3⟩
  subst e1; subst e2; subst e3
  obtain ⟨a, cap, rfl, h4, h5⟩ := list_by h1
  obtain rfl : u = _ := h2
  have hrun : (Extern.BytealgIndexByte.indexByte #[.slice a b.length cap, .int .u8 c.toNat]).run Tryz.prog w = .ok (.int .i64 (Lib.indexByte b c)) w := by
    cases b with
    | nil =>
      cases a with
      | none => exact Lib.run_indexByteNil w 0 cap _
      | some a => exact run_indexByteEmpty a cap _
    | cons d b =>
      obtain ⟨k, o, rfl, h6⟩ := h5 (by simp)
      have := Lib.run_indexByteSlice (P := Tryz.prog) w k o (d :: b).length cap ((d :: b).map fun c => (c.toNat : Int)) (by simp) (fun i hi' => hi _ _ _ (h6 i hi')) c.toNat
      rw [bytesOf_nat] at this
      have e : ((c.toNat : Nat) : Int).toNat.toUInt8 = c := by simp
      rw [e] at this
      exact this
  refine ⟨_, ?_, rfl⟩
  rw [run_callFunc_extern Tryz.func153 (by kernel_rfl) (by kernel_rfl) (by kernel_rfl) (e := Extern.BytealgIndexByte.indexByte) (by kernel_rfl)]
  show Result.andThen (Sem.run Tryz.prog (Extern.BytealgIndexByte.indexByte #[.slice a b.length cap, .int .u8 c.toNat]) w) _ = _
  rw [hrun]
  rfl
theorem bytesIndexByte (b : List UInt8) (c : UInt8) : PCall Tryz.prog 111 [] [.list 1 (byD b), .v (.int .u8 c.toNat)] (.ret (.v (.int .i64 (Lib.indexByte b c))) []) := by
  refine pcall_of (news := []) cxOK Tryz.func111 rfl Tryz.ntmps111 rfl rfl rfl (by decide) ?_
  conv => whnf
  exact callE (eIndexByte b c) rfl
theorem bytesEqual (a b : List UInt8) : PCall Tryz.prog 154 [] [.list 1 (byD a), .list 1 (byD b)] (.ret (.v (.bool (decide (a = b)))) []) := by
  refine pcall_of (news := []) cxOK Tryz.func154 rfl Tryz.ntmps154 rfl rfl rfl (by decide) ?_
  conv => whnf
  refine StrG.by ?_
  conv => whnf
  refine StrG.by ?_
  conv => whnf
  refine congrArg Value.bool ?_
  by_cases h : a = b
  · rw [decide_eq_true h]; exact strEq_iff.2 h
  · rw [decide_eq_false h]; exact strEq_ff.2 h
theorem bytesHasPrefix (a b : List UInt8) : PCall Tryz.prog 112 [] [.list 1 (byD a), .list 1 (byD b)] (.ret (.v (.bool (b.isPrefixOf a))) []) := by
  refine pcall_of (news := []) cxOK Tryz.func112 rfl Tryz.ntmps112 rfl rfl rfl (by decide) ?_
  repeat' ((conv => whnf); first | exact trivial | refine xB ?_ | refine xY ?_ | refine xN ?_ | refine sM ?_ ?_ <;> intro _ | refine xC ?_ | refine And.intro ?_ ?_ | exact Or.inl ⟨rfl, rfl⟩ | exact rfl)
  all_goals (conv => whnf)
  · rename_i h
    have h := decT h
    rw [byD_length, byD_length] at h
    refine BndG.to b.length (by rw [byD_length]) ?_
    refine CutL.by (a.take b.length) (Nat.zero_le _) (by omega) rfl ?_
    conv => whnf
    refine call0 (bytesEqual _ _) ?_
    conv => whnf
    refine congrArg Value.bool ?_
    show (bif true then decide (a.take b.length = b) else false) = _
    rw [cond_true]
    rw [Bool.eq_iff_iff, decide_eq_true_eq, List.isPrefixOf_iff_prefix, List.prefix_iff_eq_take]
    exact eq_comm
  · rename_i h
    have h := decF h
    rw [byD_length, byD_length] at h
    refine congrArg Value.bool ?_
    show false = _
    symm
    rw [← Bool.not_eq_true, List.isPrefixOf_iff_prefix]
    intro hp
    have := hp.length_le
    omega
end Tryz
end Go.Dm
