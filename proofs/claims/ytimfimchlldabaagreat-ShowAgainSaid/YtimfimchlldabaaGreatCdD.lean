/- Texts of one proof, joined by a program of this claim's: a semantic evaluator for the walks; the contracts of the functions; the plain laws. -/
import Derived.Laws.StructEq
import Derived.Carry
import Derived.OpenShut
import Derived.ChangeSame
import Derived.Deep.Slices
import Derived.Shelf.Strings.Builder1
import Derived.Shelf.Strings.OnBuilder
import Derived.Ground.Names2Prog
import Derived.Test.YtimfimchlldabaaGreatProg
import Derived.Shelf.SlIter.Sorted
import Derived.Shelf.Abstract
import Derived.WalkKit
import Derived.OwnWalkIn
import Derived.TacticsInMore
import Derived.RegionIn
import Derived.Lib.SlicesCompact
import Derived.LoopNIn
import Derived.LoopIn
import Derived.Test.YtimfimchlldabaaGreatCdC
set_option linter.all false
namespace Go.Dm
def sameS (g h : GramS) : Bool := decide (g.terms = h.terms) && (decide (g.nons = h.nons) && (decide (g.rules = h.rules) && decide (g.start = h.start)))
theorem strEq_dec (a b : List UInt8) : strEq ⟨a.toArray⟩ ⟨b.toArray⟩ = decide (a = b) := by
  by_cases h : a = b
  · rw [decide_eq_true h, strEq_iff.2 h]
  · rw [decide_eq_false h, strEq_ff.2 h]
namespace Tryz
open Go.Proofs
def termV (t : TermS) : Value := .agg #[str t.name, .int .i64 t.level, .int .i64 t.assoc]
theorem rel_termV {t : TermS} {E : Env} {v : Value} (h : rel (.agg (termCells t)) E v) : v = termV t := by
  obtain ⟨vs, rfl, x, r1, rfl, h1, y, r2, rfl, h2, z, r3, rfl, h3, h4⟩ := h
  cases h4
  obtain rfl : x = _ := h1
  obtain rfl : y = _ := h2
  obtain rfl : z = _ := h3
  rfl
theorem run_termFields (d : Nat) (w : World) (s t : TermS) : (Op.eqFields (d + 1) #[str s.name, .int .i64 s.level, .int .i64 s.assoc] #[str t.name, .int .i64 t.level, .int .i64 t.assoc]
    [⟨ "Name", 9, 0, false, "", "", 0⟩, ⟨ "Level", 3, 1, false, "", "", 16⟩, ⟨ "Assoc", 3, 2, false, "", "", 24⟩]).run Tryz.prog w = .ok (decide (s = t)) w := by
  have hs : ∀ (xs : Array Value) i v w, xs[i]? = some v → (part 9 xs i).run Tryz.prog w = .ok v w := fun xs i v w h => by simp [part, Tryz.isAgg9, h]
  have hi : ∀ (xs : Array Value) i v w, xs[i]? = some v → (part 3 xs i).run Tryz.prog w = .ok v w := fun xs i v w h => by simp [part, Tryz.isAgg3, h]
  have e1 : (Op.equalIn (d + 1) 9 (str s.name) (str t.name)).run Tryz.prog w = .ok (decide (s.name = t.name)) w := by
    have := run_equalIn_string (P := Tryz.prog) w d 9 ⟨s.name.toArray⟩ ⟨t.name.toArray⟩ Tryz.underlying9
    have h2 : (ByteArray.toList ⟨s.name.toArray⟩ == ByteArray.toList ⟨t.name.toArray⟩) = decide (s.name = t.name) := by rw [← strEq_dec]; rfl
    rw [h2] at this
    exact this
  have e2 : ∀ a b : Int, (Op.equalIn (d + 1) 3 (.int .i64 a) (.int .i64 b)).run Tryz.prog w = .ok (a == b) w := fun a b => run_equalIn_int w d 3 .i64 .i64 a b Tryz.underlying3
  obtain ⟨n1, l1, a1⟩ := s
  obtain ⟨n2, l2, a2⟩ := t
  simp only at e1
  simp only [Op.eqFields]
  rw [if_pos (by decide)]
  simp only [Sem.run_bind]
  rw [hs _ 0 (str n1) w rfl]
  simp only [Result.andThen_ok]
  rw [hs _ 0 (str n2) w rfl]
  simp only [Result.andThen_ok]
  rw [e1]
  simp only [Result.andThen_ok]
  by_cases h1 : n1 = n2
  · subst h1
    rw [decide_eq_true rfl]
    rw [if_neg (by simp), if_pos (by decide)]
    simp only [Sem.run_bind]
    rw [hi _ 1 (.int .i64 l1) w rfl]
    simp only [Result.andThen_ok]
    rw [hi _ 1 (.int .i64 l2) w rfl]
    simp only [Result.andThen_ok]
    rw [e2]
    simp only [Result.andThen_ok]
    by_cases h2 : l1 = l2
    · subst h2
      rw [if_neg (by simp), if_pos (by decide)]
      simp only [Sem.run_bind]
      rw [hi _ 2 (.int .i64 a1) w rfl]
      simp only [Result.andThen_ok]
      rw [hi _ 2 (.int .i64 a2) w rfl]
      simp only [Result.andThen_ok]
      rw [e2]
      simp only [Result.andThen_ok]
      by_cases h3 : a1 = a2
      · subst h3
        rw [if_neg (by simp)]
        simp
      · rw [if_pos (by simpa using h3)]
        simp [h3]
    · rw [if_pos (by simpa using h2)]
      simp [h2]
  · rw [if_pos (by simpa using h1)]
    simp [h1]
theorem run_termEq (w : World) (s t : TermS) : (Op.equalIn 10000 50 (termV s) (termV t)).run Tryz.prog w = .ok (decide (s = t)) w := by
  have hf : Program.fieldsOf Tryz.prog 50 = #[⟨ "Name", 9, 0, false, "", "", 0⟩, ⟨ "Level", 3, 1, false, "", "", 16⟩, ⟨ "Assoc", 3, 2, false, "", "", 24⟩] := by
    simp only [Program.fieldsOf, Tryz.underlying50]
  unfold termV
  rw [run_equalIn_agg w 9999 50 _ _ (by rw [hf]; exact Tryz.underlying50) Tryz.stoodInHeld50, hf]
  exact run_termFields 9998 w s t
theorem bs_termNe (s t : TermS) {x y : Operand} : BinSem Tryz.prog .neq 50 x y (.agg (termCells s)) (.agg (termCells t)) (.v (.bool (!decide (s = t)))) := by
  intro E w u v hu hv
  rw [rel_termV hu, rel_termV hv]
  refine ⟨run_eqGuard_agg w .neq 50 x y _ _ Tryz.eqGuardType50, .bool (!decide (s = t)), ?_, rfl⟩
  unfold termV
  rw [run_neq_struct]
  have := run_termEq w s t
  unfold termV at this
  rw [this]
  rfl
end Tryz
end Go.Dm
namespace Go.Dm
namespace Tryz
open Go.Proofs
set_option maxHeartbeats 4000000 in
theorem builderSymbol (b : BS) (r : RefS) (hb : BOK b) : PCall Tryz.prog 127 (builderM b) [.ref 1000 0, .agg (refCells r)] (exO cWr (fun p => .ret (.v (.int .i64 p.1)) (builderM p.2)) (symB b r)) := by
  have hb' := hb
  obtain ⟨b1, b2, b3, b4, b5⟩ := hb'
  generalize hR : symB b r = R
  have hrg := strIx_range b.nons r.text
  refine pcall_of (news := []) cxOK Tryz.func127 rfl Tryz.ntmps127 rfl rfl rfl (by decide) ?_
  repeat' ((conv => whnf); first | refine xB ?_ | refine xC ?_ | refine xI ?_ | refine xY ?_ | refine xN ?_ | refine sM ?_ ?_ <;> intro _)
  all_goals (conv => whnf)
  refine callZ (nonsFrz b (str r.text) rfl) (strsIndex b.nons r.text (by omega)) rfl ?_
  repeat' ((conv => whnf); first | refine xB ?_ | refine xC ?_ | refine xI ?_ | refine xY ?_ | refine xN ?_ | refine sM ?_ ?_ <;> intro _)
  all_goals (conv => whnf)
  · rename_i hs
    have hs : decide (strIx b.nons r.text ≥ 0) = true := hs
    obtain rfl : R = .ok (-1 - strIx b.nons r.text, b) := by rw [← hR]; simp only [symB, hs]
    refine call0 (cfgNon (strIx b.nons r.text) (by unfold i64; omega)) ?_
    repeat' ((conv => whnf); first | exact trivial | refine xB ?_ | refine xY ?_ | refine xN ?_ | refine sM ?_ ?_ <;> intro _ | refine xC ?_ | refine And.intro ?_ ?_ | exact Or.inl ⟨rfl, rfl⟩ | exact rfl)
    all_goals (conv => whnf)
  rename_i hs
  have hs : decide (strIx b.nons r.text ≥ 0) = false := hs
  refine callZ (gramFrz b (str r.text) rfl rfl rfl) (cfgTerminal b.terms _ _ _ r.text (by omega)) rfl ?_
  repeat' ((conv => whnf); first | refine xB ?_ | refine xC ?_ | refine xI ?_ | refine xY ?_ | refine xN ?_ | refine sM ?_ ?_ <;> intro _)
  all_goals (conv => whnf)
  · rename_i ht
    have ht : decide (termIx b.terms r.text < 0) = true := ht
    refine call0 (lexLiteral r.text) ?_
    repeat' ((conv => whnf); first | refine xB ?_ | refine xC ?_ | refine xI ?_ | refine xY ?_ | refine xN ?_ | refine sM ?_ ?_ <;> intro _)
    all_goals (conv => whnf)
    · rename_i hl he
      have hl : LiteralS r.text = false := by
        have h : (bif true then !LiteralS r.text else false) = true := hl
        exact notT h
      have he : strEq ⟨r.text.toArray⟩ ⟨errorW.toArray⟩ = false := by
        have h : (bif true then !strEq ⟨r.text.toArray⟩ ⟨errorW.toArray⟩ else false) = true := he
        exact notT h
      rw [strEq_dec] at he
      obtain rfl : R = .error (r.at', 6) := by rw [← hR]; simp only [symB, hs, ht, hl, he]; rfl
      refine call0 (cfgRefuse r 6) ?_
      conv => whnf
      exact ⟨_, rfl, Or.inl ⟨rfl, rfl⟩⟩
    · rename_i hl he
      have he : strEq ⟨r.text.toArray⟩ ⟨errorW.toArray⟩ = true := by
        have h : (bif true then !strEq ⟨r.text.toArray⟩ ⟨errorW.toArray⟩ else false) = false := he
        exact notF h
      rw [strEq_dec] at he
      have hc : (decide (termIx b.terms r.text < 0) && (!LiteralS r.text && !decide (r.text = errorW))) = false := by rw [he]; simp
      cases hp : addS b r with
      | error w =>
        obtain rfl : R = .error w := by rw [← hR]; simp only [symB, hs, hc]; exact hp
        refine callM (addBad hp hb) ⟨rfl, rfl, rfl, rfl, rfl, rfl, trivial⟩ rfl ?_
        conv => whnf
        exact ⟨_, rfl, Or.inl ⟨rfl, rfl⟩⟩
      | ok p =>
        obtain rfl : R = .ok p := by rw [← hR]; simp only [symB, hs, hc]; exact hp
        refine callM (addOk hp hb) ⟨rfl, rfl, rfl, rfl, rfl, rfl, trivial⟩ rfl ?_
        repeat' ((conv => whnf); first | exact trivial | refine xB ?_ | refine xY ?_ | refine xN ?_ | refine sM ?_ ?_ <;> intro _ | refine xC ?_ | refine And.intro ?_ ?_ | exact Or.inl ⟨rfl, rfl⟩ | exact rfl)
        all_goals (conv => whnf)
    · rename_i hl
      have hl : LiteralS r.text = true := by
        have h : (bif true then !LiteralS r.text else false) = false := hl
        exact notF h
      have hc : (decide (termIx b.terms r.text < 0) && (!LiteralS r.text && !decide (r.text = errorW))) = false := by rw [hl]; simp
      cases hp : addS b r with
      | error w =>
        obtain rfl : R = .error w := by rw [← hR]; simp only [symB, hs, hc]; exact hp
        refine callM (addBad hp hb) ⟨rfl, rfl, rfl, rfl, rfl, rfl, trivial⟩ rfl ?_
        conv => whnf
        exact ⟨_, rfl, Or.inl ⟨rfl, rfl⟩⟩
      | ok p =>
        obtain rfl : R = .ok p := by rw [← hR]; simp only [symB, hs, hc]; exact hp
        refine callM (addOk hp hb) ⟨rfl, rfl, rfl, rfl, rfl, rfl, trivial⟩ rfl ?_
        repeat' ((conv => whnf); first | exact trivial | refine xB ?_ | refine xY ?_ | refine xN ?_ | refine sM ?_ ?_ <;> intro _ | refine xC ?_ | refine And.intro ?_ ?_ | exact Or.inl ⟨rfl, rfl⟩ | exact rfl)
        all_goals (conv => whnf)
  · rename_i ht
    have ht : decide (termIx b.terms r.text < 0) = false := ht
    have hc : (decide (termIx b.terms r.text < 0) && (!LiteralS r.text && !decide (r.text = errorW))) = false := by rw [ht]; rfl
    cases hp : addS b r with
    | error w =>
      obtain rfl : R = .error w := by rw [← hR]; simp only [symB, hs, hc]; exact hp
      refine callM (addBad hp hb) ⟨rfl, rfl, rfl, rfl, rfl, rfl, trivial⟩ rfl ?_
      conv => whnf
      exact ⟨_, rfl, Or.inl ⟨rfl, rfl⟩⟩
    | ok p =>
      obtain rfl : R = .ok p := by rw [← hR]; simp only [symB, hs, hc]; exact hp
      refine callM (addOk hp hb) ⟨rfl, rfl, rfl, rfl, rfl, rfl, trivial⟩ rfl ?_
      repeat' ((conv => whnf); first | exact trivial | refine xB ?_ | refine xY ?_ | refine xN ?_ | refine sM ?_ ?_ <;> intro _ | refine xC ?_ | refine And.intro ?_ ?_ | exact Or.inl ⟨rfl, rfl⟩ | exact rfl)
      all_goals (conv => whnf)
end Tryz
end Go.Dm
namespace Go.Dm
def withSym (x : RuleS) (s : Int) : RuleS := ⟨x.left, x.right ++ [s], match decide (s ≥ 0) with | true => s | false => x.prec⟩
def rightsB : BS → RuleS → Nat → List RefS → Except Wr (BS × RuleS)
  | b, x, _, [] => .ok (b, x)
  | b, x, i, r :: rs => match namedS r.text with
    | false => .error (r.at', 3)
    | true => match decide (i = 6) with
      | true => .error (r.at', 5)
      | false => match symB b r with
        | .error w => .error w
        | .ok p => rightsB p.2 (withSym x p.1) (i + 1) rs
def precB (b : BS) (x : RuleS) (r : RefS) : Except Wr (BS × RuleS) := match decide (r.text = []) with
  | true => .ok (b, x)
  | false => match namedS r.text with
    | false => .error (r.at', 3)
    | true => match symB b r with
      | .error w => .error w
      | .ok p => match decide (p.1 < 0) with
        | true => .error (r.at', 6)
        | false => .ok (p.2, ⟨x.left, x.right, p.1⟩)
def prodB (b : BS) (p : ProdS) : Except Wr BS := match decide (b.rules.length = 40) with
  | true => .error (p.left.at', 5)
  | false => match rightsB b ⟨strIx b.nons p.left.text, [], -1⟩ 0 p.right with
    | .error w => .error w
    | .ok q => match precB q.1 q.2 p.prec with
      | .error w => .error w
      | .ok s => .ok { s.1 with rules := s.1.rules ++ [s.2] }
theorem rulesD_snoc (l : List RuleS) (x : RuleS) : rulesD (l ++ [x]) = rulesD l ++ [[.v (.int .i64 x.left), .list 1 ((ksD x.right).take x.right.length), .v (.int .i64 x.prec)]] := by
  unfold rulesD
  rw [List.map_append]
  have : (ksD x.right).take x.right.length = ksD x.right := take_map_all _ _
  rw [this]; rfl
theorem rightsB_ok : ∀ (rs : List RefS) {b : BS} {x : RuleS} {i : Nat} {q : BS × RuleS}, BOK b → rightsB b x i rs = .ok q → BOK q.1 ∧ q.1.rules = b.rules ∧ q.1.nons = b.nons
  | [], b, x, i, q, hb, h => by injection h with h; subst h; exact ⟨hb, rfl, rfl⟩
  | r :: rs, b, x, i, q, hb, h => by
    simp only [rightsB] at h
    split at h
    · cases h
    · split at h
      · cases h
      · cases hs : symB b r with
        | error w => rw [hs] at h; cases h
        | ok p =>
          rw [hs] at h
          obtain ⟨h1, h2, h3, _⟩ := symB_ok hb hs
          obtain ⟨h4, h5, h6⟩ := rightsB_ok rs h1 h
          exact ⟨h4, h5.trans h2, h6.trans h3⟩
theorem precB_ok {b : BS} {x : RuleS} {r : RefS} {q : BS × RuleS} (hb : BOK b) (h : precB b x r = .ok q) : BOK q.1 ∧ q.1.rules = b.rules ∧ q.1.nons = b.nons := by
  unfold precB at h
  split at h
  · injection h with h; subst h; exact ⟨hb, rfl, rfl⟩
  · split at h
    · cases h
    · cases hs : symB b r with
      | error w => rw [hs] at h; cases h
      | ok p =>
        rw [hs] at h
        obtain ⟨h1, h2, h3, _⟩ := symB_ok hb hs
        simp only at h
        split at h
        · cases h
        · injection h with h; subst h; exact ⟨h1, h2, h3⟩
theorem prodB_ok {b c : BS} {p : ProdS} (hb : BOK b) (h : prodB b p = .ok c) : BOK c ∧ c.nons = b.nons := by
  unfold prodB at h
  split at h
  · cases h
  · rename_i hl
    have hl := decF hl
    cases hq : rightsB b ⟨strIx b.nons p.left.text, [], -1⟩ 0 p.right with
    | error w => rw [hq] at h; cases h
    | ok q =>
      rw [hq] at h
      obtain ⟨h1, h2, h3⟩ := rightsB_ok _ hb hq
      cases hs : precB q.1 q.2 p.prec with
      | error w => simp only [hs] at h; cases h
      | ok s =>
        simp only [hs] at h
        obtain ⟨⟨q1, q2, q3, q4, q5⟩, h5, h6⟩ := precB_ok h1 hs
        injection h with h; subst h
        obtain ⟨_, _, q3', _, _⟩ := hb
        refine ⟨⟨q1, q2, ?_, q4, q5⟩, h6.trans h3⟩
        have : s.1.rules.length = b.rules.length := by rw [h5, h2]
        simp only [List.length_append, List.length_cons, List.length_nil]; omega
namespace Tryz
open Go.Proofs
theorem symOk {b : BS} {r : RefS} {p : Int × BS} (h : symB b r = .ok p) (hb : BOK b) : PCall Tryz.prog 127 (builderM b) [.ref 1000 0, .agg (refCells r)] (.ret (.v (.int .i64 p.1)) (builderM p.2)) := by
  have := builderSymbol b r hb
  rwa [h] at this
theorem symBad {b : BS} {r : RefS} {w : Wr} (h : symB b r = .error w) (hb : BOK b) : PCall Tryz.prog 127 (builderM b) [.ref 1000 0, .agg (refCells r)] (.pan (cWr w)) := by
  have := builderSymbol b r hb
  rwa [h] at this
structure RtSt where
  i : Nat
  c : BS
  x : RuleS
set_option maxHeartbeats 4000000 in
theorem builderProd (b : BS) (p : ProdS) (hb : BOK b) (hn : p.right.length ≤ 4000) : PCall Tryz.prog 96 (builderM b) [.ref 1000 0, .agg (prodCells p)] (exO cWr (fun p => .ret (.tup []) (builderM p)) (prodB b p)) := by
  have hb' := hb
  obtain ⟨b1, b2, b3, b4, b5⟩ := hb'
  generalize hR : prodB b p = R
  generalize hQ : rightsB b ⟨strIx b.nons p.left.text, [], -1⟩ 0 p.right = Q
  refine pcall_of (news := [4, 6]) cxOK Tryz.func96 rfl Tryz.ntmps96 rfl rfl rfl (by decide) ?_
  repeat' ((conv => whnf); first | refine xB ?_ | refine xY ?_ | refine xN ?_ | refine sM ?_ ?_ <;> intro _)
  all_goals (conv => whnf)
  refine ⟨Nat.le_of_eq (rules_len _).symm, ?_⟩
  repeat' ((conv => whnf); first | refine xB ?_ | refine xC ?_ | refine xI ?_ | refine xY ?_ | refine xN ?_ | refine sM ?_ ?_ <;> intro _)
  all_goals (conv => whnf)
  · rename_i hl
    have hl : (b.rules.length : Int) = 40 := decT hl
    have hl : decide (b.rules.length = 40) = true := decide_eq_true (by omega)
    obtain rfl : R = .error (p.left.at', 5) := by rw [← hR]; simp only [prodB, hl]
    refine call0 (cfgRefuse p.left 5) ?_
    conv => whnf
    exact ⟨_, rfl, Or.inl ⟨rfl, rfl⟩⟩
  rename_i hl
  have hl : ¬ (b.rules.length : Int) = 40 := decF hl
  have hl40 : b.rules.length < 40 := by omega
  have hl2 : decide (b.rules.length = 40) = false := decide_eq_false (by omega)
  have hR1 : ∀ w, Q = .error w → R = .error w := fun w hw => by rw [← hR]; simp only [prodB, hl2, hQ, hw]
  have hR2 : ∀ q w, Q = .ok q → precB q.1 q.2 p.prec = .error w → R = .error w := fun q w hw hp => by rw [← hR]; simp only [prodB, hl2, hQ, hw, hp]
  have hR3 : ∀ q s, Q = .ok q → precB q.1 q.2 p.prec = .ok s → R = .ok { s.1 with rules := s.1.rules ++ [s.2] } := fun q s hw hp => by rw [← hR]; simp only [prodB, hl2, hQ, hw, hp]
  clear hR
  refine callZ (nonsFrz b (str p.left.text) rfl) (strsIndex b.nons p.left.text (by omega)) rfl ?_
  repeat' ((conv => whnf); first | refine xB ?_ | refine xC ?_ | refine xI ?_ | refine xY ?_ | refine xN ?_ | refine sM ?_ ?_ <;> intro _)
  all_goals (conv => whnf)
  refine LoopW.to (ι := RtSt) (fun s => (s.i ≤ p.right.length ∧ rightsB s.c s.x s.i (p.right.drop s.i) = Q ∧ s.x.right.length = s.i) ∧ BOK s.c ∧ s.c.rules.length < 40) (fun s => p.right.length - s.i)
    (fun s => [(0, .ref 1000 0), (3, .ptr (prodCells p)), (4, .ref 4 0), (29, .list 2 (p.right.map refCells)), (30, .v (.int .i64 p.right.length)), (31, .v (.int .i64 s.i))])
    (fun s => (4, .cells [.v (.int .i64 s.x.left), .row 90 s.x.right.length, .v (.int .i64 s.x.prec)]) :: (90, .row 3 1 (ksD s.x.right)) :: builderM s.c) [⟨90, 3, 1, 1004001⟩] ⟨0, b, ⟨strIx b.nons p.left.text, [], -1⟩⟩ ⟨⟨Nat.zero_le _, hQ, rfl⟩, hb, hl40⟩
    ⟨rfl, rfl, ⟨rfl, rfl, rfl, rfl, congrArg (fun k : Nat => D.v (.int .i64 (k : Int))) (ref_len p.right), rfl, trivial⟩, rfl, rfl, rfl, rfl, rfl, rfl, rfl, rfl, trivial⟩ ?_
  rintro ⟨i, c, x⟩ ⟨⟨h1, h2, h2x⟩, h3, h4⟩
  simp only at h1 h2 h2x h3 h4
  repeat' ((conv => whnf); first | refine xB ?_ | refine xC ?_ | refine xI ?_ | refine xY ?_ | refine xN ?_ | refine sM ?_ ?_ <;> intro _)
  all_goals (conv => whnf)
  · rename_i h
    have h : (i : Int) < p.right.length := decT h
    have hi : i < p.right.length := by omega
    have hg := List.getElem?_eq_getElem hi
    rw [List.drop_eq_getElem_cons hi] at h2
    refine IdxG.to i (refCells p.right[i]) rfl (by simp [hg]) ?_
    repeat' ((conv => whnf); first | refine xB ?_ | refine xC ?_ | refine xI ?_ | refine xY ?_ | refine xN ?_ | refine sM ?_ ?_ <;> intro _)
    all_goals (conv => whnf)
    refine call0 (cfgNamed p.right[i].text) ?_
    repeat' ((conv => whnf); first | refine xB ?_ | refine xC ?_ | refine xI ?_ | refine xY ?_ | refine xN ?_ | refine sM ?_ ?_ <;> intro _)
    all_goals (conv => whnf)
    · rename_i hnm
      have hnm : namedS p.right[i].text = false := notT hnm
      obtain rfl := hR1 (p.right[i].at', 3) (by rw [← h2]; simp only [rightsB, hnm])
      refine call0 (cfgRefuse p.right[i] 3) ?_
      conv => whnf
      exact ⟨_, rfl, Or.inl ⟨rfl, rfl⟩⟩
    · rename_i hnm h6
      have hnm : namedS p.right[i].text = true := notF hnm
      have h6 : (i : Int) = 6 := decT h6
      have h6 : decide (i = 6) = true := decide_eq_true (by omega)
      obtain rfl := hR1 (p.right[i].at', 5) (by rw [← h2]; simp only [rightsB, hnm, h6])
      refine call0 (cfgRefuse p.right[i] 5) ?_
      conv => whnf
      exact ⟨_, rfl, Or.inl ⟨rfl, rfl⟩⟩
    · rename_i hnm h6
      have hnm : namedS p.right[i].text = true := notF hnm
      have h6 : ¬ (i : Int) = 6 := decF h6
      have h6 : decide (i = 6) = false := decide_eq_false (by omega)
      cases hs : symB c p.right[i] with
      | error w =>
        obtain rfl := hR1 w (by rw [← h2]; simp only [rightsB, hnm, h6, hs])
        refine callM (symBad hs h3) ⟨rfl, rfl, rfl, rfl, rfl, rfl, trivial⟩ rfl ?_
        conv => whnf
        exact ⟨_, rfl, Or.inl ⟨rfl, rfl⟩⟩
      | ok q =>
        simp only [rightsB, hnm, h6, hs] at h2
        obtain ⟨k1, k2, k3, k4, k5⟩ := symB_ok h3 hs
        refine callM (symOk hs h3) ⟨rfl, rfl, rfl, rfl, rfl, rfl, trivial⟩ rfl ?_
        repeat' ((conv => whnf); first | refine xB ?_ | refine xC ?_ | refine xI ?_ | refine xY ?_ | refine xN ?_ | refine sM ?_ ?_ <;> intro _)
        all_goals (conv => whnf)
        have ha : (x.right ++ [q.1]).length = x.right.length + 1 := by simp
        refine AppG.row1 (ksD (x.right ++ [q.1])) (ksD_length _).symm rfl ?_ (by decide) ⟨rfl, ?_, ?_⟩
        · rw [ksD_length]; simp only; omega
        · unfold ksD; rw [List.map_append]; rfl
        repeat' ((conv => whnf); first | refine xB ?_ | refine xC ?_ | refine xI ?_ | refine xY ?_ | refine xN ?_ | refine sM ?_ ?_ <;> intro _)
        all_goals (conv => whnf)
        · rename_i hq
          have hq : decide (q.1 ≥ 0) = true := hq
          refine KI.i64 ((i + 1 : Nat) : Int) (by simp) (by omega) ?_
          repeat' ((conv => whnf); first | refine xB ?_ | refine xC ?_ | refine xI ?_ | refine xY ?_ | refine xN ?_ | refine sM ?_ ?_ <;> intro _)
          all_goals (conv => whnf)
          refine NextG.to ⟨i + 1, q.2, withSym x q.1⟩ ⟨⟨by simp only; omega, h2, by simp only [withSym]; omega⟩, k1, by rw [k2]; exact h4⟩ (by simp only; omega) ⟨⟨rfl, rfl, rfl, rfl, rfl, rfl, trivial⟩, ?_, rfl, rfl, rfl, rfl, rfl, rfl, rfl, trivial⟩
          simp only [withSym, hq, ha]
          rfl
        · rename_i hq
          have hq : decide (q.1 ≥ 0) = false := hq
          refine KI.i64 ((i + 1 : Nat) : Int) (by simp) (by omega) ?_
          repeat' ((conv => whnf); first | refine xB ?_ | refine xC ?_ | refine xI ?_ | refine xY ?_ | refine xN ?_ | refine sM ?_ ?_ <;> intro _)
          all_goals (conv => whnf)
          refine NextG.to ⟨i + 1, q.2, withSym x q.1⟩ ⟨⟨by simp only; omega, h2, by simp only [withSym]; omega⟩, k1, by rw [k2]; exact h4⟩ (by simp only; omega) ⟨⟨rfl, rfl, rfl, rfl, rfl, rfl, trivial⟩, ?_, rfl, rfl, rfl, rfl, rfl, rfl, rfl, trivial⟩
          simp only [withSym, hq, ha]
          rfl
  · rename_i h hpe
    have h : ¬ (i : Int) < p.right.length := decF h
    have hi : i = p.right.length := by omega
    rw [hi, List.drop_length] at h2
    have hq : Q = .ok (c, x) := h2.symm
    have hpe : strEq ⟨p.prec.text.toArray⟩ ⟨([] : List UInt8).toArray⟩ = false := notT hpe
    rw [strEq_dec] at hpe
    refine call0 (cfgNamed p.prec.text) ?_
    repeat' ((conv => whnf); first | refine xB ?_ | refine xC ?_ | refine xI ?_ | refine xY ?_ | refine xN ?_ | refine sM ?_ ?_ <;> intro _)
    all_goals (conv => whnf)
    · rename_i hnm
      have hnm : namedS p.prec.text = false := notT hnm
      obtain rfl := hR2 _ (p.prec.at', 3) hq (by simp only [precB, hpe, hnm])
      refine call0 (cfgRefuse p.prec 3) ?_
      conv => whnf
      exact ⟨_, rfl, Or.inl ⟨rfl, rfl⟩⟩
    rename_i hnm
    have hnm : namedS p.prec.text = true := notF hnm
    cases hs : symB c p.prec with
    | error w =>
      obtain rfl := hR2 _ w hq (by simp only [precB, hpe, hnm, hs])
      refine callM (symBad hs h3) ⟨rfl, rfl, rfl, rfl, rfl, rfl, trivial⟩ rfl ?_
      conv => whnf
      exact ⟨_, rfl, Or.inl ⟨rfl, rfl⟩⟩
    | ok q =>
      obtain ⟨k1, k2, k3, k4, k5⟩ := symB_ok h3 hs
      refine callM (symOk hs h3) ⟨rfl, rfl, rfl, rfl, rfl, rfl, trivial⟩ rfl ?_
      repeat' ((conv => whnf); first | refine xB ?_ | refine xC ?_ | refine xI ?_ | refine xY ?_ | refine xN ?_ | refine sM ?_ ?_ <;> intro _)
      all_goals (conv => whnf)
      · rename_i hz
        have hz : decide (q.1 < 0) = true := hz
        obtain rfl := hR2 _ (p.prec.at', 6) hq (by simp only [precB, hpe, hnm, hs, hz])
        refine call0 (cfgRefuse p.prec 6) ?_
        conv => whnf
        exact ⟨_, rfl, Or.inl ⟨rfl, rfl⟩⟩
      · rename_i hz
        have hz : decide (q.1 < 0) = false := hz
        obtain rfl := hR3 _ (q.2, ⟨x.left, x.right, q.1⟩) hq (by simp only [precB, hpe, hnm, hs, hz])
        have hcl : q.2.rules.length < 40 := by rw [k2]; exact h4
        have ha : (q.2.rules ++ [RuleS.mk x.left x.right q.1]).length = q.2.rules.length + 1 := by simp
        refine AppG.row1 (rulesD (q.2.rules ++ [RuleS.mk x.left x.right q.1])) (rules_len _).symm rfl ?_ (by decide) ⟨rfl, ?_, ?_⟩
        · rw [rules_len]; first | omega | (simp only; omega)
        · exact rulesD_snoc _ _
        repeat' ((conv => whnf); first | refine xB ?_ | refine xC ?_ | refine xI ?_ | refine xY ?_ | refine xN ?_ | refine sM ?_ ?_ <;> intro _)
        all_goals (conv => whnf)
        refine ⟨trivial, ⟨Or.inl ⟨rfl, rfl⟩, Or.inl ⟨rfl, rfl⟩, Or.inl ⟨congrArg (D.row 1003) ha.symm, rfl⟩, Or.inl ⟨rfl, rfl⟩, Or.inl ⟨rfl, rfl⟩, Or.inl ⟨rfl, rfl⟩, Or.inl ⟨rfl, rfl⟩, trivial⟩, rfl, rfl, rfl, rfl, rfl, trivial⟩
  · rename_i h hpe
    have h : ¬ (i : Int) < p.right.length := decF h
    have hi : i = p.right.length := by omega
    rw [hi, List.drop_length] at h2
    have hq : Q = .ok (c, x) := h2.symm
    have hpe : strEq ⟨p.prec.text.toArray⟩ ⟨([] : List UInt8).toArray⟩ = true := notF hpe
    rw [strEq_dec] at hpe
    obtain rfl := hR3 _ (c, x) hq (by simp only [precB, hpe])
    have hcl : c.rules.length < 40 := h4
    have ha : (c.rules ++ [x]).length = c.rules.length + 1 := by simp
    refine AppG.row1 (rulesD (c.rules ++ [x])) (rules_len _).symm rfl ?_ (by decide) ⟨rfl, ?_, ?_⟩
    · rw [rules_len]; first | omega | (simp only; omega)
    · exact rulesD_snoc _ _
    repeat' ((conv => whnf); first | refine xB ?_ | refine xC ?_ | refine xI ?_ | refine xY ?_ | refine xN ?_ | refine sM ?_ ?_ <;> intro _)
    all_goals (conv => whnf)
    refine ⟨trivial, ⟨Or.inl ⟨rfl, rfl⟩, Or.inl ⟨rfl, rfl⟩, Or.inl ⟨congrArg (D.row 1003) ha.symm, rfl⟩, Or.inl ⟨rfl, rfl⟩, Or.inl ⟨rfl, rfl⟩, Or.inl ⟨rfl, rfl⟩, Or.inl ⟨rfl, rfl⟩, trivial⟩, rfl, rfl, rfl, rfl, rfl, trivial⟩
end Tryz
end Go.Dm
namespace Go.Dm
def declsB : BS → List DeclS → Except Wr BS
  | b, [] => .ok b
  | b, d :: ds => match declB b d with
    | .error w => .error w
    | .ok c => declsB c ds
def leftsB : BS → List ProdS → Except Wr BS
  | b, [] => .ok b
  | b, p :: ps => match leftB b p.left with
    | .error w => .error w
    | .ok c => leftsB c ps
def prodsB : BS → List ProdS → Except Wr BS
  | b, [] => .ok b
  | b, p :: ps => match prodB b p with
    | .error w => .error w
    | .ok c => prodsB c ps
def startsB : BS → List RefS → Except Wr BS
  | b, [] => .ok b
  | b, r :: rs => match decide (strIx b.nons r.text < 0) with
    | true => .error (r.at', 8)
    | false => startsB { b with start := strIx b.nons r.text } rs
def endB (b : BS) : Except Wr BS := match decide (b.rules.length = 0) with
  | true => .error (none, 8)
  | false => .ok b
def gramB (b : BS) (s : SourceS) : Except Wr BS := match declsB b s.decls with
  | .error w => .error w
  | .ok b1 => match leftsB b1 s.prods with
    | .error w => .error w
    | .ok b2 => match prodsB b2 s.prods with
      | .error w => .error w
      | .ok b3 => match startsB b3 b3.starts with
        | .error w => .error w
        | .ok b4 => endB b4
def SourceOK (s : SourceS) : Prop := s.decls.length ≤ 4000 ∧ (∀ d ∈ s.decls, (3 ≤ d.kind ∧ d.kind ≤ 7) ∧ d.names.length ≤ 4000) ∧ s.prods.length ≤ 4000 ∧ ∀ p ∈ s.prods, p.right.length ≤ 4000
structure SrSt where
  i : Nat
  st : Int
def SrSt.of (s : SrSt) (b : BS) : BS := { b with start := s.st }
theorem startsB_bad {b : BS} {r : RefS} {rs : List RefS} (h : decide (strIx b.nons r.text < 0) = true) : startsB b (r :: rs) = .error (r.at', 8) := by simp only [startsB, h]
theorem startsB_go {b : BS} {r : RefS} {rs : List RefS} (h : decide (strIx b.nons r.text < 0) = false) : startsB b (r :: rs) = startsB { b with start := strIx b.nons r.text } rs := by simp only [startsB, h]
theorem endB_bad {b : BS} (h : decide (b.rules.length = 0) = true) : endB b = .error (none, 8) := by simp only [endB, h]
theorem endB_go {b : BS} (h : decide (b.rules.length = 0) = false) : endB b = .ok b := by simp only [endB, h]
theorem IxT.starts {l : List RefS} {n : Nat} (h : n < l.length) : (List.take l.length (l.map refCells))[n]? = some (refCells l[n]) := by
  rw [List.getElem?_take_of_lt h, List.getElem?_map, List.getElem?_eq_getElem h]; rfl
namespace Tryz
open Go.Proofs
theorem declOkB {b c : BS} {d : DeclS} (h : declB b d = .ok c) (hb : BOK b) (hl : b.levels + 1 ≤ 4000) (hk : 3 ≤ d.kind ∧ d.kind ≤ 7) (hn : d.names.length ≤ 4000) : PCall Tryz.prog 94 (builderM b) [.ref 1000 0, .agg (declCells d)] (.ret (.tup []) (builderM c)) := by
  have := builderDecl b d hb hl hk hn
  rwa [h] at this
theorem declBadB {b : BS} {w : Wr} {d : DeclS} (h : declB b d = .error w) (hb : BOK b) (hl : b.levels + 1 ≤ 4000) (hk : 3 ≤ d.kind ∧ d.kind ≤ 7) (hn : d.names.length ≤ 4000) : PCall Tryz.prog 94 (builderM b) [.ref 1000 0, .agg (declCells d)] (.pan (cWr w)) := by
  have := builderDecl b d hb hl hk hn
  rwa [h] at this
theorem leftOk {b c : BS} {r : RefS} (h : leftB b r = .ok c) (hb : BOK b) : PCall Tryz.prog 95 (builderM b) [.ref 1000 0, .agg (refCells r)] (.ret (.tup []) (builderM c)) := by
  have := builderLeft b r hb
  rwa [h] at this
theorem leftBad {b : BS} {w : Wr} {r : RefS} (h : leftB b r = .error w) (hb : BOK b) : PCall Tryz.prog 95 (builderM b) [.ref 1000 0, .agg (refCells r)] (.pan (cWr w)) := by
  have := builderLeft b r hb
  rwa [h] at this
theorem prodOk {b c : BS} {p : ProdS} (h : prodB b p = .ok c) (hb : BOK b) (hn : p.right.length ≤ 4000) : PCall Tryz.prog 96 (builderM b) [.ref 1000 0, .agg (prodCells p)] (.ret (.tup []) (builderM c)) := by
  have := builderProd b p hb hn
  rwa [h] at this
theorem prodBad {b : BS} {w : Wr} {p : ProdS} (h : prodB b p = .error w) (hb : BOK b) (hn : p.right.length ≤ 4000) : PCall Tryz.prog 96 (builderM b) [.ref 1000 0, .agg (prodCells p)] (.pan (cWr w)) := by
  have := builderProd b p hb hn
  rwa [h] at this
def zGram : Ob := .cells [nilD, nilD, nilD, .v (.int .i64 0)]
def gramR (b : BS) : D := .agg [.row 1001 b.terms.length, .row 1002 b.nons.length, .row 1003 b.rules.length, .v (.int .i64 b.start)]
set_option maxHeartbeats 8000000 in
theorem builderGrammar (b : BS) (s : SourceS) (hb : BOK b) (hl0 : b.levels + s.decls.length ≤ 4000) (hs : SourceOK s) : PCall Tryz.prog 70 (builderM b) [.ref 1000 0, .agg (sourceCells s)] (exO cWr (fun p => .ret (gramR p) (builderM p)) (gramB b s)) := by
  obtain ⟨ds, ps⟩ := s
  obtain ⟨hs1, hs2, hs3, hs4⟩ := hs
  simp only at hl0 hs1 hs2 hs3 hs4
  generalize hR : gramB b ⟨ds, ps⟩ = R
  generalize hQ1 : declsB b ds = Q1
  have hR1 : ∀ w, Q1 = .error w → R = .error w := fun w hw => by rw [← hR]; simp only [gramB, hQ1, hw]
  have hR2 : ∀ b1 w, Q1 = .ok b1 → leftsB b1 ps = .error w → R = .error w := fun b1 w hw h2 => by rw [← hR]; simp only [gramB, hQ1, hw, h2]
  have hR3 : ∀ b1 b2 w, Q1 = .ok b1 → leftsB b1 ps = .ok b2 → prodsB b2 ps = .error w → R = .error w := fun b1 b2 w hw h2 h3 => by rw [← hR]; simp only [gramB, hQ1, hw, h2, h3]
  have hR4 : ∀ b1 b2 b3 w, Q1 = .ok b1 → leftsB b1 ps = .ok b2 → prodsB b2 ps = .ok b3 → startsB b3 b3.starts = .error w → R = .error w := fun b1 b2 b3 w hw h2 h3 h4 => by rw [← hR]; simp only [gramB, hQ1, hw, h2, h3, h4]
  have hR5 : ∀ b1 b2 b3 b4, Q1 = .ok b1 → leftsB b1 ps = .ok b2 → prodsB b2 ps = .ok b3 → startsB b3 b3.starts = .ok b4 → R = endB b4 := fun b1 b2 b3 b4 hw h2 h3 h4 => by rw [← hR]; simp only [gramB, hQ1, hw, h2, h3, h4]
  clear hR
  refine pcall_of (news := [4, 6, 8, 10, 12]) cxOK Tryz.func70 rfl Tryz.ntmps70 rfl rfl rfl (by decide) ?_
  repeat' ((conv => whnf); first | refine xB ?_ | refine xC ?_ | refine xI ?_ | refine xY ?_ | refine xN ?_ | refine sM ?_ ?_ <;> intro _)
  all_goals (conv => whnf)
  refine LoopW.to (ι := NmSt) (fun s => s.i ≤ ds.length ∧ declsB s.c (ds.drop s.i) = Q1 ∧ BOK s.c ∧ s.c.levels + (ds.length - s.i) ≤ 4000) (fun s => ds.length - s.i)
    (fun s => [(0, .ref 1000 0), (3, .ptr (sourceCells ⟨ds, ps⟩)), (4, .ref 4 0), (14, .list 2 (ds.map declCells)), (15, .v (.int .i64 ds.length)), (16, .v (.int .i64 s.i))]) (fun s => (4, zGram) :: builderM s.c) [] ⟨0, b⟩ ⟨Nat.zero_le _, hQ1, hb, by simp only; omega⟩
    ⟨⟨rfl, rfl, rfl, rfl, congrArg (fun k : Nat => D.v (.int .i64 (k : Int))) (decl_len ds), rfl, trivial⟩, rfl, rfl, rfl, rfl, rfl, rfl, rfl, trivial⟩ ?_
  rintro ⟨i, c⟩ ⟨h1, h2, h3, h4⟩
  simp only at h1 h2 h3 h4
  repeat' ((conv => whnf); first | refine xB ?_ | refine xC ?_ | refine xI ?_ | refine xY ?_ | refine xN ?_ | refine sM ?_ ?_ <;> intro _)
  all_goals (conv => whnf)
  · rename_i h
    have h : (i : Int) < ds.length := decT h
    have hi : i < ds.length := by omega
    have hg := List.getElem?_eq_getElem hi
    have hm := hs2 ds[i] (List.getElem_mem hi)
    rw [List.drop_eq_getElem_cons hi] at h2
    refine IdxG.to i (declCells ds[i]) rfl (by simp [hg]) ?_
    repeat' ((conv => whnf); first | refine xB ?_ | refine xC ?_ | refine xI ?_ | refine xY ?_ | refine xN ?_ | refine sM ?_ ?_ <;> intro _)
    all_goals (conv => whnf)
    cases hd : declB c ds[i] with
    | error w =>
      obtain rfl := hR1 w (by rw [← h2]; simp only [declsB, hd])
      refine callM (declBadB hd h3 (by omega) hm.1 hm.2) ⟨rfl, rfl, rfl, rfl, rfl, rfl, trivial⟩ rfl ?_
      conv => whnf
      exact ⟨_, rfl, Or.inl ⟨rfl, rfl⟩⟩
    | ok c' =>
      simp only [declsB, hd] at h2
      obtain ⟨k1, k2⟩ := declB_ok h3 (by omega) hd
      refine callM (declOkB hd h3 (by omega) hm.1 hm.2) ⟨rfl, rfl, rfl, rfl, rfl, rfl, trivial⟩ rfl ?_
      repeat' ((conv => whnf); first | refine xB ?_ | refine xC ?_ | refine xI ?_ | refine xY ?_ | refine xN ?_ | refine sM ?_ ?_ <;> intro _)
      all_goals (conv => whnf)
      refine KI.i64 ((i + 1 : Nat) : Int) (by simp) (by omega) ?_
      repeat' ((conv => whnf); first | refine xB ?_ | refine xC ?_ | refine xI ?_ | refine xY ?_ | refine xN ?_ | refine sM ?_ ?_ <;> intro _)
      all_goals (conv => whnf)
      refine NextG.to ⟨i + 1, c'⟩ ⟨by simp only; omega, h2, k1, by simp only; omega⟩ (by simp only; omega) ⟨⟨rfl, rfl, rfl, rfl, rfl, rfl, trivial⟩, rfl, rfl, rfl, rfl, rfl, rfl, rfl, trivial⟩
  rename_i h
  have h : ¬ (i : Int) < ds.length := decF h
  have hi : i = ds.length := by omega
  rw [hi, List.drop_length] at h2
  have hq1 : Q1 = .ok c := h2.symm
  have hc1 := h3
  clear h1 h2 h h4
  generalize hQ2 : leftsB c ps = Q2
  refine LoopW.to (ι := NmSt) (fun s => s.i ≤ ps.length ∧ leftsB s.c (ps.drop s.i) = Q2 ∧ BOK s.c) (fun s => ps.length - s.i)
    (fun s => [(0, .ref 1000 0), (3, .ptr (sourceCells ⟨ds, ps⟩)), (4, .ref 4 0), (25, .list 5 (ps.map prodCells)), (26, .v (.int .i64 ps.length)), (27, .v (.int .i64 s.i))]) (fun s => (4, zGram) :: builderM s.c) [] ⟨0, c⟩ ⟨Nat.zero_le _, hQ2, hc1⟩
    ⟨⟨rfl, rfl, rfl, rfl, congrArg (fun k : Nat => D.v (.int .i64 (k : Int))) (prod_len ps), rfl, trivial⟩, rfl, rfl, rfl, rfl, rfl, rfl, rfl, trivial⟩ ?_
  rintro ⟨j, c2⟩ ⟨h1, h2, h3⟩
  simp only at h1 h2 h3
  repeat' ((conv => whnf); first | refine xB ?_ | refine xC ?_ | refine xI ?_ | refine xY ?_ | refine xN ?_ | refine sM ?_ ?_ <;> intro _)
  all_goals (conv => whnf)
  · rename_i h
    have h : (j : Int) < ps.length := decT h
    have hi : j < ps.length := by omega
    have hg := List.getElem?_eq_getElem hi
    rw [List.drop_eq_getElem_cons hi] at h2
    refine IdxG.to j (prodCells ps[j]) rfl (by simp [hg]) ?_
    repeat' ((conv => whnf); first | refine xB ?_ | refine xC ?_ | refine xI ?_ | refine xY ?_ | refine xN ?_ | refine sM ?_ ?_ <;> intro _)
    all_goals (conv => whnf)
    cases hd : leftB c2 ps[j].left with
    | error w =>
      obtain rfl := hR2 c w hq1 (by rw [hQ2, ← h2]; simp only [leftsB, hd])
      refine callM (leftBad hd h3) ⟨rfl, rfl, rfl, rfl, rfl, rfl, trivial⟩ rfl ?_
      conv => whnf
      exact ⟨_, rfl, Or.inl ⟨rfl, rfl⟩⟩
    | ok c' =>
      simp only [leftsB, hd] at h2
      refine callM (leftOk hd h3) ⟨rfl, rfl, rfl, rfl, rfl, rfl, trivial⟩ rfl ?_
      repeat' ((conv => whnf); first | refine xB ?_ | refine xC ?_ | refine xI ?_ | refine xY ?_ | refine xN ?_ | refine sM ?_ ?_ <;> intro _)
      all_goals (conv => whnf)
      refine KI.i64 ((j + 1 : Nat) : Int) (by simp) (by omega) ?_
      repeat' ((conv => whnf); first | refine xB ?_ | refine xC ?_ | refine xI ?_ | refine xY ?_ | refine xN ?_ | refine sM ?_ ?_ <;> intro _)
      all_goals (conv => whnf)
      refine NextG.to ⟨j + 1, c'⟩ ⟨by simp only; omega, h2, leftB_ok h3 hd⟩ (by simp only; omega) ⟨⟨rfl, rfl, rfl, rfl, rfl, rfl, trivial⟩, rfl, rfl, rfl, rfl, rfl, rfl, rfl, trivial⟩
  rename_i h
  have h : ¬ (j : Int) < ps.length := decF h
  have hi : j = ps.length := by omega
  rw [hi, List.drop_length] at h2
  have hq2 : leftsB c ps = .ok c2 := hQ2.trans h2.symm
  have hc2 := h3
  clear h1 h2 h hQ2
  generalize hQ3 : prodsB c2 ps = Q3
  refine LoopW.to (ι := NmSt) (fun s => s.i ≤ ps.length ∧ prodsB s.c (ps.drop s.i) = Q3 ∧ BOK s.c) (fun s => ps.length - s.i)
    (fun s => [(0, .ref 1000 0), (4, .ref 4 0), (37, .list 5 (ps.map prodCells)), (38, .v (.int .i64 ps.length)), (39, .v (.int .i64 s.i))]) (fun s => (4, zGram) :: builderM s.c) [] ⟨0, c2⟩ ⟨Nat.zero_le _, hQ3, hc2⟩
    ⟨⟨rfl, rfl, rfl, congrArg (fun k : Nat => D.v (.int .i64 (k : Int))) (prod_len ps), rfl, trivial⟩, rfl, rfl, rfl, rfl, rfl, rfl, rfl, trivial⟩ ?_
  rintro ⟨k, c3⟩ ⟨h1, h2, h3⟩
  simp only at h1 h2 h3
  repeat' ((conv => whnf); first | refine xB ?_ | refine xC ?_ | refine xI ?_ | refine xY ?_ | refine xN ?_ | refine sM ?_ ?_ <;> intro _)
  all_goals (conv => whnf)
  · rename_i h
    have h : (k : Int) < ps.length := decT h
    have hi : k < ps.length := by omega
    have hg := List.getElem?_eq_getElem hi
    have hm := hs4 ps[k] (List.getElem_mem hi)
    rw [List.drop_eq_getElem_cons hi] at h2
    refine IdxG.to k (prodCells ps[k]) rfl (by simp [hg]) ?_
    repeat' ((conv => whnf); first | refine xB ?_ | refine xC ?_ | refine xI ?_ | refine xY ?_ | refine xN ?_ | refine sM ?_ ?_ <;> intro _)
    all_goals (conv => whnf)
    cases hd : prodB c3 ps[k] with
    | error w =>
      obtain rfl := hR3 c c2 w hq1 hq2 (by rw [hQ3, ← h2]; simp only [prodsB, hd])
      refine callM (prodBad hd h3 hm) ⟨rfl, rfl, rfl, rfl, rfl, rfl, trivial⟩ rfl ?_
      conv => whnf
      exact ⟨_, rfl, Or.inl ⟨rfl, rfl⟩⟩
    | ok c' =>
      simp only [prodsB, hd] at h2
      refine callM (prodOk hd h3 hm) ⟨rfl, rfl, rfl, rfl, rfl, rfl, trivial⟩ rfl ?_
      repeat' ((conv => whnf); first | refine xB ?_ | refine xC ?_ | refine xI ?_ | refine xY ?_ | refine xN ?_ | refine sM ?_ ?_ <;> intro _)
      all_goals (conv => whnf)
      refine KI.i64 ((k + 1 : Nat) : Int) (by simp) (by omega) ?_
      repeat' ((conv => whnf); first | refine xB ?_ | refine xC ?_ | refine xI ?_ | refine xY ?_ | refine xN ?_ | refine sM ?_ ?_ <;> intro _)
      all_goals (conv => whnf)
      refine NextG.to ⟨k + 1, c'⟩ ⟨by simp only; omega, h2, (prodB_ok h3 hd).1⟩ (by simp only; omega) ⟨⟨rfl, rfl, rfl, rfl, rfl, trivial⟩, rfl, rfl, rfl, rfl, rfl, rfl, rfl, trivial⟩
  rename_i h
  have h : ¬ (k : Int) < ps.length := decF h
  have hi : k = ps.length := by omega
  rw [hi, List.drop_length] at h2
  have hq3 : prodsB c2 ps = .ok c3 := hQ3.trans h2.symm
  have hc3 := h3
  clear h1 h2 h hQ3
  refine ⟨Nat.le_of_eq (ref_len _).symm, ?_⟩
  repeat' ((conv => whnf); first | refine xB ?_ | refine xC ?_ | refine xI ?_ | refine xY ?_ | refine xN ?_ | refine sM ?_ ?_ <;> intro _)
  all_goals (conv => whnf)
  generalize hQ4 : startsB c3 c3.starts = Q4
  obtain ⟨d1, d2, d3, d4, d5⟩ := hc3
  have hc3 : BOK c3 := ⟨d1, d2, d3, d4, d5⟩
  refine LoopW.to (ι := SrSt) (fun s => s.i ≤ c3.starts.length ∧ startsB (s.of c3) (c3.starts.drop s.i) = Q4) (fun s => c3.starts.length - s.i)
    (fun s => [(0, .ref 1000 0), (4, .ref 4 0), (50, .row 1005 c3.starts.length), (51, .v (.int .i64 c3.starts.length)), (52, .v (.int .i64 s.i))]) (fun s => (4, zGram) :: builderM (s.of c3)) [] ⟨0, c3.start⟩ ⟨Nat.zero_le _, hQ4⟩
    ⟨⟨rfl, rfl, rfl, rfl, rfl, trivial⟩, rfl, rfl, rfl, rfl, rfl, rfl, rfl, trivial⟩ ?_
  rintro ⟨n, st⟩ ⟨h1, h2⟩
  simp only at h1 h2
  repeat' ((conv => whnf); first | refine xB ?_ | refine xC ?_ | refine xI ?_ | refine xY ?_ | refine xN ?_ | refine sM ?_ ?_ <;> intro _)
  all_goals (conv => whnf)
  · rename_i h
    have h : (n : Int) < c3.starts.length := decT h
    have hi : n < c3.starts.length := by omega
    have hg := List.getElem?_eq_getElem hi
    rw [List.drop_eq_getElem_cons hi] at h2
    refine IdxG.to n (refCells c3.starts[n]) rfl (IxT.starts hi) ?_
    repeat' ((conv => whnf); first | refine xB ?_ | refine xC ?_ | refine xI ?_ | refine xY ?_ | refine xN ?_ | refine sM ?_ ?_ <;> intro _)
    all_goals (conv => whnf)
    refine callZ (nonsFrz c3 (str c3.starts[n].text) rfl) (strsIndex c3.nons c3.starts[n].text (by omega)) rfl ?_
    repeat' ((conv => whnf); first | refine xB ?_ | refine xC ?_ | refine xI ?_ | refine xY ?_ | refine xN ?_ | refine sM ?_ ?_ <;> intro _)
    all_goals (conv => whnf)
    · rename_i hz
      have hz : decide (strIx c3.nons c3.starts[n].text < 0) = true := hz
      obtain rfl := hR4 c c2 c3 (c3.starts[n].at', 8) hq1 hq2 hq3 (by rw [hQ4, ← h2]; exact startsB_bad (b := (SrSt.mk n st).of c3) hz)
      refine call0 (cfgRefuse c3.starts[n] 8) ?_
      conv => whnf
      exact ⟨_, rfl, Or.inl ⟨rfl, rfl⟩⟩
    · rename_i hz
      have hz : decide (strIx c3.nons c3.starts[n].text < 0) = false := hz
      have h2 : startsB ((SrSt.mk (n + 1) (strIx c3.nons c3.starts[n].text)).of c3) (c3.starts.drop (n + 1)) = Q4 := by rw [← h2]; exact (startsB_go (b := (SrSt.mk n st).of c3) hz).symm
      refine KI.i64 ((n + 1 : Nat) : Int) (by simp) (by omega) ?_
      repeat' ((conv => whnf); first | refine xB ?_ | refine xC ?_ | refine xI ?_ | refine xY ?_ | refine xN ?_ | refine sM ?_ ?_ <;> intro _)
      all_goals (conv => whnf)
      refine NextG.to ⟨n + 1, strIx c3.nons c3.starts[n].text⟩ ⟨by simp only; omega, h2⟩ (by simp only; omega) ⟨⟨rfl, rfl, rfl, rfl, rfl, trivial⟩, rfl, rfl, rfl, rfl, rfl, rfl, rfl, trivial⟩
  rename_i h
  have h : ¬ (n : Int) < c3.starts.length := decF h
  have hi : n = c3.starts.length := by omega
  rw [hi, List.drop_length] at h2
  have hq4 : startsB c3 c3.starts = .ok ((SrSt.mk n st).of c3) := hQ4.trans h2.symm
  have hRe := hR5 c c2 c3 _ hq1 hq2 hq3 hq4
  refine ⟨Nat.le_of_eq (rules_len _).symm, ?_⟩
  repeat' ((conv => whnf); first | refine xB ?_ | refine xC ?_ | refine xI ?_ | refine xY ?_ | refine xN ?_ | refine sM ?_ ?_ <;> intro _)
  all_goals (conv => whnf)
  · rename_i hz
    have hz : (c3.rules.length : Int) = 0 := decT hz
    have hz : decide (c3.rules.length = 0) = true := decide_eq_true (by omega)
    obtain rfl : R = .error (none, 8) := by rw [hRe]; exact endB_bad (b := (SrSt.mk n st).of c3) hz
    refine call0 (cfgRefuse ⟨[], none⟩ 8) ?_
    conv => whnf
    exact ⟨_, rfl, Or.inl ⟨rfl, rfl⟩⟩
  · rename_i hz
    have hz : ¬ (c3.rules.length : Int) = 0 := decF hz
    have hz : decide (c3.rules.length = 0) = false := decide_eq_false (by omega)
    obtain rfl : R = .ok ((SrSt.mk n st).of c3) := by rw [hRe]; exact endB_go (b := (SrSt.mk n st).of c3) hz
    repeat' ((conv => whnf); first | refine xB ?_ | refine xY ?_ | refine xN ?_ | refine sM ?_ ?_ <;> intro _)
    all_goals (conv => whnf)
    repeat' ((conv => whnf); first | exact trivial | refine xB ?_ | refine xY ?_ | refine xN ?_ | refine sM ?_ ?_ <;> intro _ | refine xC ?_ | refine And.intro ?_ ?_ | exact Or.inl ⟨rfl, rfl⟩ | exact rfl)
    all_goals (conv => whnf)
end Tryz
end Go.Dm
namespace Go.Dm
theorem ownOf_same {E : Env} {pre pre' : Mem} (hg : get pre = get pre') (hm : ∀ p, p ∈ pre ↔ p ∈ pre') : ownOf E (get pre) pre = ownOf E (get pre') pre' := by
  funext b
  unfold ownOf
  rw [hg]
  apply propext
  constructor
  · rintro ⟨p, h1, h2⟩; exact ⟨p, (hm p).1 h1, h2⟩
  · rintro ⟨p, h1, h2⟩; exact ⟨p, (hm p).2 h1, h2⟩
theorem PCall.same {P : Program} {f : FuncId} {pre pre' : Mem} {ds : List D} {out : Out} (h : PCall P f pre ds out) (hg : get pre = get pre') (hm : ∀ p, p ∈ pre ↔ p ∈ pre') : PCall P f pre' ds out := by
  refine ⟨h.1, fun E w vs hi hnew hr => ?_⟩
  have hc := h.2 E w vs (by rw [hg]; exact hi) (fun j hj => hnew j (by cases out <;> simpa only [isNew, hg] using hj)) hr
  refine Calls.mono hc fun e w' he => ?_
  cases out with
  | ret d post => simpa only [CallPost, hg] using he
  | pan d => simpa only [CallPost, ownOf_same (E := E) hg hm] using he
theorem get_comm (a b : Nat × Ob) (M : Mem) (hne : a.1 ≠ b.1) : ∀ p : Mem, get (p ++ a :: b :: M) = get (p ++ b :: a :: M)
  | [] => by
    funext k
    obtain ⟨i, x⟩ := a
    obtain ⟨j, y⟩ := b
    simp only at hne
    simp only [List.nil_append, get_cons]
    by_cases h1 : i = k
    · have : j ≠ k := fun e => hne (h1.trans e.symm)
      rw [if_pos h1, if_neg this, if_pos h1]
    · by_cases h2 : j = k
      · rw [if_neg h1, if_pos h2, if_pos h2]
      · rw [if_neg h1, if_neg h2, if_neg h2, if_neg h1]
  | c :: p => by
    funext k
    obtain ⟨i, x⟩ := c
    simp only [List.cons_append, get_cons, get_comm a b M hne p]
theorem PCall.comm {P : Program} {f : FuncId} {a b : Nat × Ob} {M : Mem} {ds : List D} {out : Out} (p : Mem) (hne : a.1 ≠ b.1) (h : PCall P f (p ++ a :: b :: M) ds out) : PCall P f (p ++ b :: a :: M) ds out :=
  h.same (get_comm a b M hne p) fun q => by
    simp only [List.mem_append, List.mem_cons]
    exact or_congr Iff.rfl ⟨fun h => h.elim (.inr ∘ .inl) (·.elim .inl (.inr ∘ .inr)), fun h => h.elim (.inr ∘ .inl) (·.elim .inl (.inr ∘ .inr))⟩
end Go.Dm
namespace Go.Dm
def b0 : BS := ⟨[], [], [], 0, [], [], 0⟩
def gramOf (b : BS) : GramS := ⟨b.terms, b.nons, b.rules, b.start⟩
def buildS (s : SourceS) : Except Wr GramS := match gramB b0 s with
  | .error w => .error w
  | .ok b => .ok (gramOf b)
theorem b0_ok : BOK b0 := ⟨Nat.zero_le _, Nat.zero_le _, Nat.zero_le _, Nat.zero_le _, Nat.zero_le _⟩
def zGramD : D := .agg [nilD, nilD, nilD, .v (.int .i64 0)]
def buildD (r : Except Wr GramS) : D := outT gramD zGramD r
namespace Tryz
open Go.Proofs
theorem buildClosure (w : Wr) : DCall Tryz.prog 69 (some (cWr w)) [(1006, .cells [.v (.int .i64 0)]), (1005, .cells [.v noPl]), (1004, .cells [nilD, nilD, nilD, .v (.int .i64 0)])] [.ref 1004 0, .ref 1005 0, .ref 1006 0]
    [(1006, .cells [.v (.int .i64 w.2)]), (1005, .cells [.v (plO w.1)]), (1004, .cells [nilD, nilD, nilD, .v (.int .i64 0)])] := by
  refine dcall_of (news := [4]) cxOK Tryz.func69 rfl Tryz.ntmps69 rfl rfl rfl rfl rfl (by decide) ?_
  repeat' ((conv => whnf); first | refine xB ?_ | refine xY ?_ | refine xN ?_ | refine sM ?_ ?_ <;> intro _)
  all_goals (conv => whnf)
  refine BinG.to (.v (.bool true)) (bs_ifaceNe Tryz.underlying20) ?_
  repeat' ((conv => whnf); first | refine xB ?_ | refine xY ?_ | refine xN ?_ | refine sM ?_ ?_ <;> intro _)
  all_goals (conv => whnf)
  refine ⟨rfl, ?_⟩
  repeat' ((conv => whnf); first | exact trivial | refine xB ?_ | refine xY ?_ | refine xN ?_ | refine sM ?_ ?_ <;> intro _ | refine xC ?_ | refine And.intro ?_ ?_ | exact Or.inl ⟨rfl, rfl⟩ | exact rfl)
  all_goals (conv => whnf)
def gramM (b : BS) : Mem := [(1001, .mrow 50 3 b.terms.length (termsD b.terms)), (1002, .row 9 1 (strsD b.nons)), (1003, .row 48 3 (rulesD b.rules))]
theorem buildClosure0 (b : BS) : DCall Tryz.prog 69 none ((1006, .cells [.v (.int .i64 0)]) :: (1005, .cells [.v noPl]) :: (1004, .cells [.row 1001 b.terms.length, .row 1002 b.nons.length, .row 1003 b.rules.length, .v (.int .i64 b.start)]) :: gramM b) [.ref 1004 0, .ref 1005 0, .ref 1006 0]
    ((1006, .cells [.v (.int .i64 0)]) :: (1005, .cells [.v noPl]) :: (1004, .cells [.row 1001 b.terms.length, .row 1002 b.nons.length, .row 1003 b.rules.length, .v (.int .i64 b.start)]) :: gramM b) := by
  refine dcall_of (news := [4]) cxOK Tryz.func69 rfl Tryz.ntmps69 rfl rfl rfl rfl rfl (by decide) ?_
  repeat' ((conv => whnf); first | refine xB ?_ | refine xY ?_ | refine xN ?_ | refine sM ?_ ?_ <;> intro _)
  all_goals (conv => whnf)
  refine BinG.to (.v (.bool false)) (bs_nilNe Tryz.underlying20) ?_
  repeat' ((conv => whnf); first | exact trivial | refine xB ?_ | refine xY ?_ | refine xN ?_ | refine sM ?_ ?_ <;> intro _ | refine xC ?_ | refine And.intro ?_ ?_ | exact Or.inl ⟨rfl, rfl⟩ | exact rfl)
  all_goals (conv => whnf)
def begM : Mem := [(1000, .cells [nilD, nilD, nilD, .v (.int .i64 0), .mp 1004, nilD, .v (.int .i64 0)]), (1004, .mp [])]
theorem ghostOK0 {k : Nat} {s : SourceS} (hk : k = 1001 ∨ k = 1002 ∨ k = 1003 ∨ k = 1005) : GhostOK k 1000 (exO cWr (fun p => .ret (gramR p) (builderM p)) (gramB b0 s)) := by
  cases gramB b0 s with
  | ok p => rcases hk with rfl | rfl | rfl | rfl <;> exact ⟨by simp [builderM], by simp [builderM]⟩
  | error w => rfl
theorem builderGrammar0 (s : SourceS) (hs : SourceOK s) : PCall Tryz.prog 70 begM [.ref 1000 0, .agg (sourceCells s)] (exO cWr (fun p => .ret (gramR p) (builderM p)) (gramB b0 s)) := by
  have h := builderGrammar b0 s b0_ok (by have := hs.1; simp only [b0]; omega) hs
  have h1 := PCall.comm [] (by decide) h
  have h1 := PCall.ghost (ds := [nilD, .row 1002 0, .row 1003 0, .v (.int .i64 0), .mp 1004, .row 1005 0, .v (.int .i64 0)]) 1001 1000 0 h1 (.inr ⟨_, _, rfl⟩) rfl rfl rfl (ghostOK0 (.inl rfl))
  have h1 := PCall.comm [] (by decide) h1
  have h1 := PCall.ghost (ds := [nilD, nilD, .row 1003 0, .v (.int .i64 0), .mp 1004, .row 1005 0, .v (.int .i64 0)]) 1002 1000 1 h1 (.inl ⟨_, _, rfl⟩) rfl rfl rfl (ghostOK0 (.inr (.inl rfl)))
  have h1 := PCall.comm [] (by decide) h1
  have h1 := PCall.ghost (ds := [nilD, nilD, nilD, .v (.int .i64 0), .mp 1004, .row 1005 0, .v (.int .i64 0)]) 1003 1000 2 h1 (.inl ⟨_, _, rfl⟩) rfl rfl rfl (ghostOK0 (.inr (.inr (.inl rfl))))
  have h1 := PCall.comm [_] (by decide) h1
  have h1 := PCall.comm [] (by decide) h1
  have h1 := PCall.ghost (ds := [nilD, nilD, nilD, .v (.int .i64 0), .mp 1004, nilD, .v (.int .i64 0)]) 1005 1000 5 h1 (.inl ⟨_, _, rfl⟩) rfl rfl rfl (ghostOK0 (.inr (.inr (.inr rfl))))
  exact h1
set_option maxHeartbeats 4000000 in
theorem cfgBuild (s : SourceS) (hs : SourceOK s) : PCall Tryz.prog 40 [] [.agg (sourceCells s)] (.ret (buildD (buildS s)) []) := by
  have hg := builderGrammar0 s hs
  refine pcall_defer (news := [2, 3, 4, 7, 9]) cxOK Tryz.func40 rfl Tryz.ntmps40 rfl rfl rfl rfl (by decide) ?_
  repeat' ((conv => whnf); first | refine xB ?_ | refine xY ?_ | refine xN ?_ | refine sM ?_ ?_ <;> intro _)
  all_goals (conv => whnf)
  cases h : gramB b0 s with
  | error w =>
    rw [h] at hg
    rw [show buildS s = .error w from by simp only [buildS, h]]
    refine callM ((((((hg.swap 1000 9).swap 1004 7).swap 1001 21).swap 1002 22).swap 1003 23).swap 1005 25) ⟨rfl, rfl, trivial⟩ rfl ?_
    conv => whnf
    refine ⟨rfl, DefEnd.to ((((buildClosure w).swap 1006 4).swap 1005 3).swap 1004 2) rfl ⟨rfl, rfl, rfl, trivial⟩ ?_⟩
    repeat' ((conv => whnf); first | exact trivial | refine xB ?_ | refine xY ?_ | refine xN ?_ | refine sM ?_ ?_ <;> intro _ | refine xC ?_ | refine And.intro ?_ ?_ | exact Or.inl ⟨rfl, rfl⟩ | exact rfl)
    all_goals (conv => whnf)
  | ok b =>
    rw [h] at hg
    rw [show buildS s = .ok (gramOf b) from by simp only [buildS, h]]
    refine callM ((((((hg.swap 1000 9).swap 1004 7).swap 1001 21).swap 1002 22).swap 1003 23).swap 1005 25) ⟨rfl, rfl, trivial⟩ rfl ?_
    repeat' ((conv => whnf); first | refine xB ?_ | refine xC ?_ | refine xI ?_ | refine xY ?_ | refine xN ?_ | refine sM ?_ ?_ <;> intro _)
    all_goals (conv => whnf)
    refine DefEnd.to ((((((buildClosure0 b).swap 1006 4).swap 1005 3).swap 1004 2).swap 1001 21).swap 1002 22 |>.swap 1003 23) rfl ⟨rfl, rfl, rfl, rfl, rfl, rfl, trivial⟩ ?_
    repeat' ((conv => whnf); first | refine xB ?_ | refine xY ?_ | refine xN ?_ | refine sM ?_ ?_ <;> intro _)
    all_goals (conv => whnf)
    refine ⟨Or.inr (Or.inr ⟨_, FrzTo.agg (.cons (.mrow rfl rfl) (.cons (.row rfl (take_map_all _ _)) (.cons (.row rfl (take_map_all _ _)) (.cons .v .nil)))), rfl⟩), ?_⟩
    repeat' ((conv => whnf); first | exact trivial | refine xB ?_ | refine xY ?_ | refine xN ?_ | refine sM ?_ ?_ <;> intro _ | refine xC ?_ | refine And.intro ?_ ?_ | exact Or.inl ⟨rfl, rfl⟩ | exact rfl)
    all_goals (conv => whnf)
end Tryz
end Go.Dm
namespace Go.Dm
def readS (b : List UInt8) : Except Wr GramS := match parseS b with
  | .error w => .error w
  | .ok s => buildS s
def DeclOK (d : DeclS) : Prop := (3 ≤ d.kind ∧ d.kind ≤ 7) ∧ d.names.length ≤ 4000
theorem declS_ok {l : List TokP} {e : Nat × Nat} {p : DeclS × List TokP} (hl : l.length ≤ 4000) (h : declS l e = .ok p) : DeclOK p.1 := by
  have h0 := (declS_len h).2
  have hk : 3 ≤ kindS l ∧ kindS l ≤ 7 := by
    unfold declS at h
    cases l with
    | nil => simp [takeS] at h
    | cons t r =>
      simp only [takeS] at h
      split at h
      · cases h
      · rename_i hx
        split at hx
        · rename_i hc
          simp at hc
          simp only [kindS]
          omega
        · cases hx
  refine ⟨?_, by omega⟩
  unfold declS at h
  cases ht : takeS l e [3, 4, 5, 6, 7] with
  | error w => rw [ht] at h; cases h
  | ok a =>
    rw [ht] at h
    simp only at h
    split at h
    · cases hq : takeS a.2 e [1] with
      | error w => rw [hq] at h; cases h
      | ok q => rw [hq] at h; injection h with h; subst h; exact hk
    · cases hq : takeS a.2 e [1, 2] with
      | error w => rw [hq] at h; cases h
      | ok q => rw [hq] at h; injection h with h; subst h; exact hk
theorem declsGo_ok : ∀ (n : Nat) (l : List TokP) (e : Nat × Nat) (acc : List DeclS) {p : List DeclS × List TokP}, l.length ≤ 4000 → (∀ d ∈ acc, DeclOK d) → declsGo n l e acc = .ok p → (∀ d ∈ p.1, DeclOK d) ∧ p.1.length + p.2.length ≤ acc.length + l.length
  | 0, l, e, acc, p, hl, ha, h => by injection h with h; subst h; exact ⟨ha, Nat.le_refl _⟩
  | n + 1, l, e, acc, p, hl, ha, h => by
    simp only [declsGo] at h
    split at h
    · injection h with h; subst h; exact ⟨ha, Nat.le_refl _⟩
    · cases hd : declS l e with
      | error w => rw [hd] at h; cases h
      | ok q =>
        rw [hd] at h
        have h1 := declS_len hd
        have h2 := declS_ok hl hd
        obtain ⟨h3, h4⟩ := declsGo_ok n q.2 e _ (by omega) (fun d hm => by
          rcases List.mem_append.1 hm with hm | hm
          · exact ha d hm
          · rw [List.mem_singleton.1 hm]; exact h2) h
        refine ⟨h3, ?_⟩
        simp only [List.length_append, List.length_cons, List.length_nil] at h4
        omega
def ProdOK (p : ProdS) : Prop := p.right.length ≤ 4000
theorem groupGo_ok : ∀ (n : Nat) (left : RefS) (l : List TokP) (e : Nat × Nat) (acc : List ProdS) {p : List ProdS × List TokP}, l.length ≤ 4000 → (∀ d ∈ acc, ProdOK d) → groupGo n left l e acc = .ok p → ∀ d ∈ p.1, ProdOK d
  | 0, _, l, e, acc, p, hl, ha, h => by injection h with h; subst h; exact ha
  | n + 1, left, l, e, acc, p, hl, ha, h => by
    have hr := refsS_len l
    have hx : ∀ q : RefS, ∀ d ∈ acc ++ [⟨left, (refsS l).1, q⟩], ProdOK d := fun q d hm => by
      rcases List.mem_append.1 hm with hm | hm
      · exact ha d hm
      · rw [List.mem_singleton.1 hm]; unfold ProdOK; simp only; omega
    simp only [groupGo] at h
    cases hp : precS (refsS l).2 e with
    | error w => rw [hp] at h; cases h
    | ok q =>
      rw [hp] at h
      have h1 := precS_len hp
      simp only at h
      split at h
      · cases hq : takeS q.2 e [11] with
        | error w => rw [hq] at h; cases h
        | ok r =>
          rw [hq] at h
          have := takeS_len hq
          exact groupGo_ok n left r.2 e _ (by omega) (hx _) h
      · cases hq : takeS q.2 e [12] with
        | error w => rw [hq] at h; cases h
        | ok r => rw [hq] at h; injection h with h; subst h; exact hx _
theorem groupS_ok {l : List TokP} {e : Nat × Nat} {p : List ProdS × List TokP} (hl : l.length ≤ 4000) (h : groupS l e = .ok p) : ∀ d ∈ p.1, ProdOK d := by
  unfold groupS at h
  cases ht : takeS l e [1] with
  | error w => rw [ht] at h; cases h
  | ok a =>
    have h1 := takeS_len ht
    rw [ht] at h
    simp only at h
    cases hq : takeS a.2 e [10] with
    | error w => rw [hq] at h; cases h
    | ok q =>
      have h2 := takeS_len hq
      rw [hq] at h
      exact groupGo_ok _ _ _ _ _ (by omega) (by simp) h
theorem groupsGo_ok : ∀ (n : Nat) (l : List TokP) (e : Nat × Nat) (acc : List ProdS) {p : List ProdS × List TokP}, l.length ≤ 4000 → (∀ d ∈ acc, ProdOK d) → groupsGo n l e acc = .ok p → (∀ d ∈ p.1, ProdOK d) ∧ p.1.length + p.2.length ≤ acc.length + l.length
  | 0, l, e, acc, p, hl, ha, h => by injection h with h; subst h; exact ⟨ha, Nat.le_refl _⟩
  | n + 1, l, e, acc, p, hl, ha, h => by
    simp only [groupsGo] at h
    split at h
    · injection h with h; subst h; exact ⟨ha, Nat.le_refl _⟩
    · cases hd : groupS l e with
      | error w => rw [hd] at h; cases h
      | ok q =>
        rw [hd] at h
        have h1 := groupS_len hd
        have h2 := groupS_ok hl hd
        obtain ⟨h3, h4⟩ := groupsGo_ok n q.2 e _ (by omega) (fun d hm => by
          rcases List.mem_append.1 hm with hm | hm
          · exact ha d hm
          · exact h2 d hm) h
        refine ⟨h3, ?_⟩
        simp only [List.length_append] at h4
        omega
theorem sourceS_ok {l : List TokP} {e : Nat × Nat} {p : SourceS × List TokP} (hl : l.length ≤ 4000) (h : sourceS l e = .ok p) : SourceOK p.1 := by
  unfold sourceS at h
  cases hd : declsGo (l.length + 1) l e [] with
  | error w => rw [hd] at h; cases h
  | ok a =>
    obtain ⟨a1, a2⟩ := declsGo_ok _ _ _ _ hl (by simp) hd
    rw [hd] at h
    simp only [List.length_nil] at a2 h
    cases ht : takeS a.2 e [9] with
    | error w => rw [ht] at h; cases h
    | ok q =>
      have t1 := takeS_len ht
      rw [ht] at h
      simp only at h
      cases hg : groupS q.2 e with
      | error w => rw [hg] at h; cases h
      | ok g =>
        have g1 := groupS_len hg
        have g2 := groupS_ok (by omega) hg
        rw [hg] at h
        simp only at h
        cases hh : groupsGo (g.2.length + 1) g.2 e g.1 with
        | error w => rw [hh] at h; cases h
        | ok k =>
          obtain ⟨k1, k2⟩ := groupsGo_ok _ _ _ _ (by omega) g2 hh
          rw [hh] at h
          simp only at h
          cases hl : lastS k.2 e with
          | error w => rw [hl] at h; cases h
          | ok z =>
            rw [hl] at h
            injection h with h; subst h
            exact ⟨by simp only; omega, a1, by simp only; omega, k1⟩
theorem ofS_ok {l : List TokP} {e : Nat × Nat} {s : SourceS} (hl : l.length ≤ 4000) (h : ofS l e = .ok s) : SourceOK s := by
  unfold ofS at h
  cases hs : sourceS l e with
  | error w => rw [hs] at h; cases h
  | ok p => rw [hs] at h; injection h with h; subst h; exact sourceS_ok hl hs
def NZ {α : Type} : Except Wr α → Prop
  | .error w => w.2 ≠ 0
  | .ok _ => True
theorem takeS_nz (l : List TokP) (e : Nat × Nat) (ks : List Int) : NZ (takeS l e ks) := by
  cases l with
  | nil => simp [takeS, NZ]
  | cons t r => simp only [takeS]; split <;> simp [NZ]
theorem declS_nz (l : List TokP) (e : Nat × Nat) : NZ (declS l e) := by
  unfold declS
  have h := takeS_nz l e [3, 4, 5, 6, 7]
  cases ht : takeS l e [3, 4, 5, 6, 7] with
  | error w => rw [ht] at h; exact h
  | ok a =>
    simp only
    split
    · have h := takeS_nz a.2 e [1]
      cases hq : takeS a.2 e [1] with
      | error w => rw [hq] at h; exact h
      | ok q => trivial
    · have h := takeS_nz a.2 e [1, 2]
      cases hq : takeS a.2 e [1, 2] with
      | error w => rw [hq] at h; exact h
      | ok q => trivial
theorem precS_nz (l : List TokP) (e : Nat × Nat) : NZ (precS l e) := by
  unfold precS
  split
  · have h := takeS_nz l e [8]
    cases hq : takeS l e [8] with
    | error w => rw [hq] at h; exact h
    | ok q => exact takeS_nz _ _ _
  · trivial
theorem groupGo_nz : ∀ (n : Nat) (left : RefS) (l : List TokP) (e : Nat × Nat) (acc : List ProdS), NZ (groupGo n left l e acc)
  | 0, _, _, _, _ => trivial
  | n + 1, left, l, e, acc => by
    simp only [groupGo]
    have h := precS_nz (refsS l).2 e
    cases hp : precS (refsS l).2 e with
    | error w => rw [hp] at h; exact h
    | ok q =>
      simp only
      split
      · have h := takeS_nz q.2 e [11]
        cases hq : takeS q.2 e [11] with
        | error w => rw [hq] at h; exact h
        | ok r => exact groupGo_nz _ _ _ _ _
      · have h := takeS_nz q.2 e [12]
        cases hq : takeS q.2 e [12] with
        | error w => rw [hq] at h; exact h
        | ok r => trivial
theorem groupS_nz (l : List TokP) (e : Nat × Nat) : NZ (groupS l e) := by
  unfold groupS
  have h := takeS_nz l e [1]
  cases ht : takeS l e [1] with
  | error w => rw [ht] at h; exact h
  | ok a =>
    simp only
    have h := takeS_nz a.2 e [10]
    cases hq : takeS a.2 e [10] with
    | error w => rw [hq] at h; exact h
    | ok q => exact groupGo_nz _ _ _ _ _
theorem declsGo_nz : ∀ (n : Nat) (l : List TokP) (e : Nat × Nat) (acc : List DeclS), NZ (declsGo n l e acc)
  | 0, _, _, _ => trivial
  | n + 1, l, e, acc => by
    simp only [declsGo]
    split
    · trivial
    · have h := declS_nz l e
      cases hd : declS l e with
      | error w => rw [hd] at h; exact h
      | ok q => exact declsGo_nz _ _ _ _
theorem groupsGo_nz : ∀ (n : Nat) (l : List TokP) (e : Nat × Nat) (acc : List ProdS), NZ (groupsGo n l e acc)
  | 0, _, _, _ => trivial
  | n + 1, l, e, acc => by
    simp only [groupsGo]
    split
    · trivial
    · have h := groupS_nz l e
      cases hd : groupS l e with
      | error w => rw [hd] at h; exact h
      | ok q => exact groupsGo_nz _ _ _ _
theorem lastS_nz (l : List TokP) (e : Nat × Nat) : NZ (lastS l e) := by
  unfold lastS endS
  split
  · rename_i w hw
    split at hw
    · have h := takeS_nz l e [9]
      cases hq : takeS l e [9] with
      | error w => rw [hq] at h hw; injection hw with hw; subst hw; exact h
      | ok q => rw [hq] at hw; cases hw
    · cases hw
  · split
    · trivial
    · rename_i t r _
      have h := takeS_nz (t :: r) e []
      cases hq : takeS (t :: r) e [] with
      | error w => rw [hq] at h; exact h
      | ok q => trivial
theorem sourceS_nz (l : List TokP) (e : Nat × Nat) : NZ (sourceS l e) := by
  unfold sourceS
  have h := declsGo_nz (l.length + 1) l e []
  cases hd : declsGo (l.length + 1) l e [] with
  | error w => rw [hd] at h; exact h
  | ok a =>
    simp only
    have h := takeS_nz a.2 e [9]
    cases ht : takeS a.2 e [9] with
    | error w => rw [ht] at h; exact h
    | ok q =>
      simp only
      have h := groupS_nz q.2 e
      cases hg : groupS q.2 e with
      | error w => rw [hg] at h; exact h
      | ok g =>
        simp only
        have h := groupsGo_nz (g.2.length + 1) g.2 e g.1
        cases hh : groupsGo (g.2.length + 1) g.2 e g.1 with
        | error w => rw [hh] at h; exact h
        | ok k =>
          simp only
          have h := lastS_nz k.2 e
          cases hl : lastS k.2 e with
          | error w => rw [hl] at h; exact h
          | ok z => trivial
theorem ofS_nz (l : List TokP) (e : Nat × Nat) : NZ (ofS l e) := by
  unfold ofS
  have h := sourceS_nz l e
  cases hs : sourceS l e with
  | error w => rw [hs] at h; exact h
  | ok p => trivial
namespace Tryz
open Go.Proofs
theorem parseS_nz (b : List UInt8) : NZ (parseS b) := by
  rcases tokensS_e b with ⟨l, p, ht⟩ | ⟨p, e, he, ht⟩
  · rw [show parseS b = ofS l p from by simp only [parseS, ht]]
    exact ofS_nz _ _
  · rw [show parseS b = .error (p, e) from by simp only [parseS, ht]]
    exact he
theorem parseS_ok {b : List UInt8} {s : SourceS} (h : parseS b = .ok s) : SourceOK s := by
  rcases tokensS_e b with ⟨l, p, ht⟩ | ⟨p, e, he, ht⟩
  · rw [show parseS b = ofS l p from by simp only [parseS, ht]] at h
    exact ofS_ok (tokensS_len (b := b) (l := l) (by rw [ht])) h
  · have hp : parseS b = .error (p, e) := by simp only [parseS, ht]
    rw [hp] at h; cases h
theorem cfgRead (b : List UInt8) : PCall Tryz.prog 17 [] [.list 1 (byD b)] (.ret (buildD (readS b)) []) := by
  have hp := yaccParse b
  cases h : parseS b with
  | error w =>
    have hz : w.2 ≠ 0 := by have := parseS_nz b; rwa [h] at this
    rw [h] at hp
    rw [show readS b = .error w from by simp only [readS, h]]
    refine pcall_of (news := [2, 5]) cxOK Tryz.func17 rfl Tryz.ntmps17 rfl rfl rfl (by decide) ?_
    repeat' ((conv => whnf); first | refine xB ?_ | refine xY ?_ | refine xN ?_ | refine sM ?_ ?_ <;> intro _)
    all_goals (conv => whnf)
    refine call0 hp ?_
    repeat' ((conv => whnf); first | refine xB ?_ | refine xC ?_ | refine xI ?_ | refine xY ?_ | refine xN ?_ | refine sM ?_ ?_ <;> intro _)
    all_goals (conv => whnf)
    · repeat' ((conv => whnf); first | exact trivial | refine xB ?_ | refine xY ?_ | refine xN ?_ | refine sM ?_ ?_ <;> intro _ | refine xC ?_ | refine And.intro ?_ ?_ | exact Or.inl ⟨rfl, rfl⟩ | exact rfl)
      all_goals (conv => whnf)
    · rename_i h
      have := notF h
      simp at this
      exact absurd this hz
  | ok s =>
    have hb := cfgBuild s (parseS_ok h)
    rw [h] at hp
    rw [show readS b = buildS s from by simp only [readS, h]]
    generalize buildS s = R at *
    refine pcall_of (news := [2, 5]) cxOK Tryz.func17 rfl Tryz.ntmps17 rfl rfl rfl (by decide) ?_
    repeat' ((conv => whnf); first | refine xB ?_ | refine xY ?_ | refine xN ?_ | refine sM ?_ ?_ <;> intro _)
    all_goals (conv => whnf)
    refine call0 hp ?_
    repeat' ((conv => whnf); first | refine xB ?_ | refine xC ?_ | refine xI ?_ | refine xY ?_ | refine xN ?_ | refine sM ?_ ?_ <;> intro _)
    all_goals (conv => whnf)
    refine call0 hb ?_
    cases R with
    | ok g =>
      repeat' ((conv => whnf); first | exact trivial | refine xB ?_ | refine xY ?_ | refine xN ?_ | refine sM ?_ ?_ <;> intro _ | refine xC ?_ | refine And.intro ?_ ?_ | exact Or.inl ⟨rfl, rfl⟩ | exact rfl)
      all_goals (conv => whnf)
    | error w =>
      repeat' ((conv => whnf); first | exact trivial | refine xB ?_ | refine xY ?_ | refine xN ?_ | refine sM ?_ ?_ <;> intro _ | refine xC ?_ | refine And.intro ?_ ?_ | exact Or.inl ⟨rfl, rfl⟩ | exact rfl)
      all_goals (conv => whnf)
end Tryz
end Go.Dm
namespace Go.Dm
def greatS (g : GramS) : Bool := decide (g.terms.length > 40) || decide (g.nons.length > 40) || decide (g.rules.length > 60) || g.rules.any fun r => decide (r.right.length > 20)
namespace Tryz
open Go.Proofs
theorem nameOf_no {g : GramS} {s : Int} (h : hasS g s = false) : nameOf g s = [] := by simp only [nameOf, h]
theorem nameOf_non {g : GramS} {s : Int} (h : hasS g s = true) (hs : s < 0) : ∃ h2 : (-1 - s).toNat < g.nons.length, nameOf g s = g.nons[(-1 - s).toNat] := by
  have e : decide (s < 0) = true := decide_eq_true hs
  simp only [hasS, e] at h
  have h2 : (-1 - s).toNat < g.nons.length := by have := decT h; omega
  refine ⟨h2, ?_⟩
  have hh : hasS g s = true := by simp only [hasS, e, h]
  simp only [nameOf, hh, e]
  rw [List.getD_eq_getElem?_getD, List.getElem?_eq_getElem h2]; rfl
theorem nameOf_term {g : GramS} {s : Int} (h : hasS g s = true) (hs : ¬ s < 0) : ∃ h2 : s.toNat < g.terms.length, nameOf g s = g.terms[s.toNat].name := by
  have e : decide (s < 0) = false := decide_eq_false hs
  simp only [hasS, e] at h
  have h2 : s.toNat < g.terms.length := by have := decT h; omega
  refine ⟨h2, ?_⟩
  have hh : hasS g s = true := by simp only [hasS, e, h]
  simp only [nameOf, hh, e]
  rw [List.getElem?_eq_getElem h2]
theorem cfgName (g : GramS) (s : Int) (h : i64 s) (hg : i64 g.terms.length ∧ i64 g.nons.length) : PCall Tryz.prog 11 [] [gramD g, .v (.int .i64 s)] (.ret (.v (str (nameOf g s))) []) := by
  generalize hR : nameOf g s = R
  refine pcall_of (news := []) cxOK Tryz.func11 rfl Tryz.ntmps11 rfl rfl rfl (by decide) ?_
  repeat' ((conv => whnf); first | refine xB ?_ | refine xC ?_ | refine xI ?_ | refine xY ?_ | refine xN ?_ | refine sM ?_ ?_ <;> intro _)
  all_goals (conv => whnf)
  refine call0 (cfgHas g s h hg) ?_
  repeat' ((conv => whnf); first | refine xB ?_ | refine xC ?_ | refine xI ?_ | refine xY ?_ | refine xN ?_ | refine sM ?_ ?_ <;> intro _)
  all_goals (conv => whnf)
  · rename_i hh
    have hh : hasS g s = false := notT hh
    obtain rfl : R = [] := by rw [← hR]; exact nameOf_no hh
    exact rfl
  · rename_i hh hs
    have hh : hasS g s = true := notF hh
    have hs : s < 0 := decT hs
    obtain ⟨h2, h3⟩ := nameOf_non hh hs
    rw [h3] at hR
    subst hR
    refine call0 (cfgNon s (by unfold i64 at *; omega)) ?_
    repeat' ((conv => whnf); first | refine xB ?_ | refine xC ?_ | refine xI ?_ | refine xY ?_ | refine xN ?_ | refine sM ?_ ?_ <;> intro _)
    all_goals (conv => whnf)
    refine IdxG.to (-1 - s).toNat (strC g.nons[(-1 - s).toNat]) (by omega) (strs_get (List.getElem?_eq_getElem h2)) ?_
    repeat' ((conv => whnf); first | exact trivial | refine xB ?_ | refine xY ?_ | refine xN ?_ | refine sM ?_ ?_ <;> intro _ | refine xC ?_ | refine And.intro ?_ ?_ | exact Or.inl ⟨rfl, rfl⟩ | exact rfl)
    all_goals (conv => whnf)
  · rename_i hh hs
    have hh : hasS g s = true := notF hh
    have hs : ¬ s < 0 := decF hs
    obtain ⟨h2, h3⟩ := nameOf_term hh hs
    rw [h3] at hR
    subst hR
    refine IdxG.to s.toNat (termCells g.terms[s.toNat]) (by omega) (terms_get (List.getElem?_eq_getElem h2)) ?_
    repeat' ((conv => whnf); first | exact trivial | refine xB ?_ | refine xY ?_ | refine xN ?_ | refine sM ?_ ?_ <;> intro _ | refine xC ?_ | refine And.intro ?_ ?_ | exact Or.inl ⟨rfl, rfl⟩ | exact rfl)
    all_goals (conv => whnf)
end Tryz
end Go.Dm
namespace Go.Dm
def gramCells (g : GramS) : List D := [.list 3 (termsD g.terms), .list 1 (strsD g.nons), .list 3 (rulesD g.rules), .v (.int .i64 g.start)]
namespace Tryz
open Go.Proofs
end Tryz
end Go.Dm
namespace Go.Dm
namespace Tryz
open Go.Proofs
end Tryz
end Go.Dm
namespace Go.Dm
namespace Tryz
open Go.Proofs
end Tryz
end Go.Dm
namespace Go.Dm
namespace Tryz
open Go.Proofs
end Tryz
end Go.Dm
namespace Go.Dm
namespace Tryz
open Go.Proofs
theorem refInts (a b : List Int) (ha : a.length < 9223372036854775808) (hb : b.length < 9223372036854775808) : PCall Tryz.prog 38 [] [.list 1 (ksD a), .list 1 (ksD b)] (.ret (.v (.bool (decide (a = b)))) []) := by
  generalize hR : decide (a = b) = R
  refine pcall_ofR (news := []) cxOK Tryz.func38 rfl Tryz.ntmps38 rfl rfl rfl (by decide) ?_
  repeat' ((conv => whnf); first | refine xB ?_ | refine xY ?_ | refine xN ?_ | refine sM ?_ ?_ <;> intro _)
  all_goals (conv => whnf)
  · rename_i h
    have h : ¬ (((ksD a).length : Int) = ((ksD b).length : Int)) := decF (notT h)
    rw [ksD_length, ksD_length] at h
    obtain rfl : R = false := by rw [← hR]; exact decide_eq_false (fun e => h (by rw [e]))
    exact rfl
  · rename_i h
    have h : (((ksD a).length : Int) = ((ksD b).length : Int)) := decT (notF h)
    rw [ksD_length, ksD_length] at h
    refine LoopW.to (ι := Nat) (fun i => i ≤ a.length ∧ ∀ q, q < i → a[q]? = b[q]?) (fun i => a.length - i)
      (fun i => [(0, .list 1 (ksD a)), (1, .list 1 (ksD b)), (5, .v (.int .i64 i))]) (fun _ => []) [] 0 ⟨Nat.zero_le _, fun q h => by omega⟩ ⟨⟨rfl, rfl, rfl, trivial⟩, trivial⟩ ?_
    rintro i ⟨h1, h2⟩
    repeat' ((conv => whnf); first | refine xB ?_ | refine xY ?_ | refine xN ?_ | refine sM ?_ ?_ <;> intro _)
    all_goals (conv => whnf)
    · rename_i h3
      have h3 : (i : Int) < ((ksD a).length : Int) := decT h3
      rw [ksD_length] at h3
      have hi : i < a.length := by omega
      have hj : i < b.length := by omega
      have hga := List.getElem?_eq_getElem hi
      have hgb := List.getElem?_eq_getElem hj
      refine IdxG.to i [D.v (.int .i64 a[i])] rfl (ksD_get hga) ?_
      repeat' ((conv => whnf); first | refine xB ?_ | refine xY ?_ | refine xN ?_ | refine sM ?_ ?_ <;> intro _)
      all_goals (conv => whnf)
      refine IdxG.to i [D.v (.int .i64 b[i])] rfl (ksD_get hgb) ?_
      repeat' ((conv => whnf); first | refine xB ?_ | refine xC ?_ | refine xI ?_ | refine xY ?_ | refine xN ?_ | refine sM ?_ ?_ <;> intro _)
      all_goals (conv => whnf)
      · rename_i h4
        have h4 : (!decide (a[i] = b[i])) = true := h4
        have h4 := decF (notT h4)
        obtain rfl : R = false := by
          rw [← hR]
          refine decide_eq_false fun e => h4 ?_
          have := congrArg (fun l => l[i]?) e
          simp only [hga, hgb] at this
          injection this
        exact rfl
      · rename_i h4
        have h4 : (!decide (a[i] = b[i])) = false := h4
        have h4 := decT (notF h4)
        refine KI.i64 ((i + 1 : Nat) : Int) (by simp) (by omega) ?_
        repeat' ((conv => whnf); first | refine xB ?_ | refine xY ?_ | refine xN ?_ | refine sM ?_ ?_ <;> intro _)
        all_goals (conv => whnf)
        refine NextG.to (i + 1) ⟨by omega, fun q hq => ?_⟩ (by omega) ⟨⟨rfl, rfl, rfl, trivial⟩, trivial⟩
        by_cases hqi : q < i
        · exact h2 q hqi
        · obtain rfl : q = i := by omega
          rw [hga, hgb, h4]
    · rename_i h3
      have h3 : ¬ (i : Int) < ((ksD a).length : Int) := decF h3
      rw [ksD_length] at h3
      obtain rfl : R = true := by
        rw [← hR]
        refine decide_eq_true (List.ext_getElem? fun q => ?_)
        by_cases hq : q < i
        · exact h2 q hq
        · rw [List.getElem?_eq_none (by omega), List.getElem?_eq_none (by omega)]
      exact rfl
end Tryz
end Go.Dm
namespace Go.Dm
theorem upto_ne {α : Type} {a b : List α} {i : Nat} (hi : i < a.length) (hj : i < b.length) (h : a[i] ≠ b[i]) : a ≠ b := by
  intro e; subst e; exact h rfl
theorem upto_ext {α : Type} {a b : List α} {i : Nat} (h : ∀ q, q < i → a[q]? = b[q]?) (hi : i < a.length) (hj : i < b.length) (e : a[i] = b[i]) : ∀ q, q < i + 1 → a[q]? = b[q]? := by
  intro q hq
  by_cases hqi : q < i
  · exact h q hqi
  · obtain rfl : q = i := by omega
    rw [List.getElem?_eq_getElem hi, List.getElem?_eq_getElem hj, e]
theorem upto_eq {α : Type} {a b : List α} {i : Nat} (h : ∀ q, q < i → a[q]? = b[q]?) (hi : a.length ≤ i) (hl : a.length = b.length) : a = b := by
  refine List.ext_getElem? fun q => ?_
  by_cases hq : q < i
  · exact h q hq
  · rw [List.getElem?_eq_none (by omega), List.getElem?_eq_none (by omega)]
theorem same_no {g h : GramS} (e : g.terms ≠ h.terms ∨ g.nons ≠ h.nons ∨ g.rules ≠ h.rules ∨ g.start ≠ h.start) : sameS g h = false := by
  unfold sameS
  rcases e with e | e | e | e <;> rw [decide_eq_false e] <;> simp
theorem same_yes {g h : GramS} (e1 : g.terms = h.terms) (e2 : g.nons = h.nons) (e3 : g.rules = h.rules) (e4 : g.start = h.start) : sameS g h = true := by
  unfold sameS
  rw [decide_eq_true e1, decide_eq_true e2, decide_eq_true e3, decide_eq_true e4]; rfl
theorem rule_ext {a b : RuleS} (h1 : a.left = b.left) (h2 : a.prec = b.prec) (h3 : a.right = b.right) : a = b := by
  obtain ⟨l, r, p⟩ := a
  obtain ⟨l', r', p'⟩ := b
  simp only at h1 h2 h3
  rw [h1, h2, h3]
namespace Tryz
open Go.Proofs
theorem refSame (g h : GramS) (hg : g.terms.length < 9223372036854775808 ∧ g.nons.length < 9223372036854775808 ∧ g.rules.length < 9223372036854775808 ∧ ∀ r ∈ g.rules, r.right.length < 9223372036854775808) (hh : h.terms.length < 9223372036854775808 ∧ h.nons.length < 9223372036854775808 ∧ h.rules.length < 9223372036854775808 ∧ ∀ r ∈ h.rules, r.right.length < 9223372036854775808) :
    PCall Tryz.prog 16 [] [gramD g, gramD h] (.ret (.v (.bool (sameS g h))) []) := by
  obtain ⟨g1, g2, g3, g4⟩ := hg
  obtain ⟨h1, h2, h3, h4⟩ := hh
  generalize hR : sameS g h = R
  refine pcall_ofR (news := [8, 9]) cxOK Tryz.func16 rfl Tryz.ntmps16 rfl rfl rfl (by decide) ?_
  repeat' ((conv => whnf); first | refine xB ?_ | refine xY ?_ | refine xN ?_ | refine sM ?_ ?_ <;> intro _)
  all_goals (conv => whnf)
  · rename_i k
    have k : ¬ (((termsD g.terms).length : Int) = ((termsD h.terms).length : Int)) := decF (notT k)
    rw [terms_len, terms_len] at k
    obtain rfl : R = false := by rw [← hR]; exact same_no (.inl fun e => k (by rw [e]))
    exact rfl
  · rename_i k
    have k : ¬ (((strsD g.nons).length : Int) = ((strsD h.nons).length : Int)) := decF (notT k)
    rw [strs_len, strs_len] at k
    obtain rfl : R = false := by rw [← hR]; exact same_no (.inr (.inl fun e => k (by rw [e])))
    exact rfl
  · rename_i k
    have k : ¬ (((rulesD g.rules).length : Int) = ((rulesD h.rules).length : Int)) := decF (notT k)
    rw [rules_len, rules_len] at k
    obtain rfl : R = false := by rw [← hR]; exact same_no (.inr (.inr (.inl fun e => k (by rw [e]))))
    exact rfl
  · rename_i k
    have k : ¬ (g.start = h.start) := decF (notT k)
    obtain rfl : R = false := by rw [← hR]; exact same_no (.inr (.inr (.inr k)))
    exact rfl
  rename_i k1 k2 k3 k4
  have k1 : (((termsD g.terms).length : Int) = ((termsD h.terms).length : Int)) := decT (notF k1)
  have k2 : (((strsD g.nons).length : Int) = ((strsD h.nons).length : Int)) := decT (notF k2)
  have k3 : (((rulesD g.rules).length : Int) = ((rulesD h.rules).length : Int)) := decT (notF k3)
  have k4 : g.start = h.start := decT (notF k4)
  rw [terms_len, terms_len] at k1
  rw [strs_len, strs_len] at k2
  rw [rules_len, rules_len] at k3
  refine LoopW.to (ι := Nat) (fun i => i ≤ g.terms.length ∧ ∀ q, q < i → g.terms[q]? = h.terms[q]?) (fun i => g.terms.length - i)
    (fun i => [(2, .ptr (gramCells g)), (3, .ptr (gramCells h)), (5, .v (.int .i64 i))]) (fun _ => []) [] 0 ⟨Nat.zero_le _, fun q h => by omega⟩ ⟨⟨rfl, rfl, rfl, trivial⟩, trivial⟩ ?_
  rintro i ⟨a1, i2⟩
  repeat' ((conv => whnf); first | refine xB ?_ | refine xY ?_ | refine xN ?_ | refine sM ?_ ?_ <;> intro _)
  all_goals (conv => whnf)
  · rename_i a3
    have a3 : (i : Int) < ((termsD g.terms).length : Int) := decT a3
    rw [terms_len] at a3
    have hi : i < g.terms.length := by omega
    have hj : i < h.terms.length := by omega
    refine IdxG.to i (termCells g.terms[i]) rfl (terms_get (List.getElem?_eq_getElem hi)) ?_
    repeat' ((conv => whnf); first | refine xB ?_ | refine xY ?_ | refine xN ?_ | refine sM ?_ ?_ <;> intro _)
    all_goals (conv => whnf)
    refine IdxG.to i (termCells h.terms[i]) rfl (terms_get (List.getElem?_eq_getElem hj)) ?_
    repeat' ((conv => whnf); first | refine xB ?_ | refine xY ?_ | refine xN ?_ | refine sM ?_ ?_ <;> intro _)
    all_goals (conv => whnf)
    refine BinG.to (.v (.bool (!decide (g.terms[i] = h.terms[i])))) (bs_termNe g.terms[i] h.terms[i]) ?_
    repeat' ((conv => whnf); first | refine xB ?_ | refine xC ?_ | refine xI ?_ | refine xY ?_ | refine xN ?_ | refine sM ?_ ?_ <;> intro _)
    all_goals (conv => whnf)
    · rename_i a4
      have a4 : (!decide (g.terms[i] = h.terms[i])) = true := a4
      have a4 := decF (notT a4)
      obtain rfl : R = false := by rw [← hR]; exact same_no (.inl (upto_ne hi hj a4))
      exact rfl
    · rename_i a4
      have a4 : (!decide (g.terms[i] = h.terms[i])) = false := a4
      have a4 := decT (notF a4)
      refine KI.i64 ((i + 1 : Nat) : Int) (by simp) (by omega) ?_
      repeat' ((conv => whnf); first | refine xB ?_ | refine xY ?_ | refine xN ?_ | refine sM ?_ ?_ <;> intro _)
      all_goals (conv => whnf)
      exact NextG.to (i + 1) ⟨by omega, upto_ext i2 hi hj a4⟩ (by omega) ⟨⟨rfl, rfl, rfl, trivial⟩, trivial⟩
  rename_i a3
  have a3 : ¬ (i : Int) < ((termsD g.terms).length : Int) := decF a3
  rw [terms_len] at a3
  have e1 : g.terms = h.terms := upto_eq i2 (by omega) (by omega)
  refine LoopW.to (ι := Nat) (fun i => i ≤ g.nons.length ∧ ∀ q, q < i → g.nons[q]? = h.nons[q]?) (fun i => g.nons.length - i)
    (fun i => [(2, .ptr (gramCells g)), (3, .ptr (gramCells h)), (6, .v (.int .i64 i))]) (fun _ => []) [] 0 ⟨Nat.zero_le _, fun q h => by omega⟩ ⟨⟨rfl, rfl, rfl, trivial⟩, trivial⟩ ?_
  rintro j ⟨a1, j2⟩
  repeat' ((conv => whnf); first | refine xB ?_ | refine xY ?_ | refine xN ?_ | refine sM ?_ ?_ <;> intro _)
  all_goals (conv => whnf)
  · rename_i a3
    have a3 : (j : Int) < ((strsD g.nons).length : Int) := decT a3
    rw [strs_len] at a3
    have hi : j < g.nons.length := by omega
    have hj : j < h.nons.length := by omega
    refine IdxG.to j (strC g.nons[j]) rfl (strs_get (List.getElem?_eq_getElem hi)) ?_
    repeat' ((conv => whnf); first | refine xB ?_ | refine xY ?_ | refine xN ?_ | refine sM ?_ ?_ <;> intro _)
    all_goals (conv => whnf)
    refine IdxG.to j (strC h.nons[j]) rfl (strs_get (List.getElem?_eq_getElem hj)) ?_
    repeat' ((conv => whnf); first | refine xB ?_ | refine xC ?_ | refine xI ?_ | refine xY ?_ | refine xN ?_ | refine sM ?_ ?_ <;> intro _)
    all_goals (conv => whnf)
    · rename_i a4
      have a4 : g.nons[j] ≠ h.nons[j] := strEq_ff.1 (notT a4)
      obtain rfl : R = false := by rw [← hR]; exact same_no (.inr (.inl (upto_ne hi hj a4)))
      exact rfl
    · rename_i a4
      have a4 : g.nons[j] = h.nons[j] := strEq_iff.1 (notF a4)
      refine KI.i64 ((j + 1 : Nat) : Int) (by simp) (by omega) ?_
      repeat' ((conv => whnf); first | refine xB ?_ | refine xY ?_ | refine xN ?_ | refine sM ?_ ?_ <;> intro _)
      all_goals (conv => whnf)
      exact NextG.to (j + 1) ⟨by omega, upto_ext j2 hi hj a4⟩ (by omega) ⟨⟨rfl, rfl, rfl, trivial⟩, trivial⟩
  rename_i a3
  have a3 : ¬ (j : Int) < ((strsD g.nons).length : Int) := decF a3
  rw [strs_len] at a3
  have e2 : g.nons = h.nons := upto_eq j2 (by omega) (by omega)
  refine LoopW.to (ι := Nat) (fun i => i ≤ g.rules.length ∧ ∀ q, q < i → g.rules[q]? = h.rules[q]?) (fun i => g.rules.length - i)
    (fun i => [(2, .ptr (gramCells g)), (3, .ptr (gramCells h)), (7, .v (.int .i64 i))]) (fun _ => []) [] 0 ⟨Nat.zero_le _, fun q h => by omega⟩ ⟨⟨rfl, rfl, rfl, trivial⟩, trivial⟩ ?_
  rintro l ⟨a1, l2⟩
  repeat' ((conv => whnf); first | refine xB ?_ | refine xY ?_ | refine xN ?_ | refine sM ?_ ?_ <;> intro _)
  all_goals (conv => whnf)
  · rename_i a3
    have a3 : (l : Int) < ((rulesD g.rules).length : Int) := decT a3
    rw [rules_len] at a3
    have hi : l < g.rules.length := by omega
    have hj : l < h.rules.length := by omega
    refine IdxG.to l (ruleCells g.rules[l]) rfl (rules_get (List.getElem?_eq_getElem hi)) ?_
    repeat' ((conv => whnf); first | refine xB ?_ | refine xY ?_ | refine xN ?_ | refine sM ?_ ?_ <;> intro _)
    all_goals (conv => whnf)
    refine IdxG.to l (ruleCells h.rules[l]) rfl (rules_get (List.getElem?_eq_getElem hj)) ?_
    have hne : (¬ g.rules[l].left = h.rules[l].left ∨ ¬ g.rules[l].prec = h.rules[l].prec ∨ ¬ g.rules[l].right = h.rules[l].right) → R = false := fun e => by
      rw [← hR]; refine same_no (.inr (.inr (.inl (upto_ne hi hj fun e' => ?_)))); rw [e'] at e; simp at e
    repeat' ((conv => whnf); first | refine xB ?_ | refine xC ?_ | refine xI ?_ | refine xY ?_ | refine xN ?_ | refine sM ?_ ?_ <;> intro _)
    all_goals (conv => whnf)
    · rename_i b1
      have b1 : (!decide (g.rules[l].left = h.rules[l].left)) = true := b1
      obtain rfl := hne (.inl (decF (notT b1)))
      exact rfl
    · rename_i b1 b2
      have b2 : (!decide (g.rules[l].prec = h.rules[l].prec)) = true := b2
      obtain rfl := hne (.inr (.inl (decF (notT b2))))
      exact rfl
    rename_i b1 b2
    have b1 : (!decide (g.rules[l].left = h.rules[l].left)) = false := b1
    have b2 : (!decide (g.rules[l].prec = h.rules[l].prec)) = false := b2
    refine call0 (refInts g.rules[l].right h.rules[l].right (by have := g4 _ (List.getElem_mem hi); omega) (by have := h4 _ (List.getElem_mem hj); omega)) ?_
    repeat' ((conv => whnf); first | refine xB ?_ | refine xC ?_ | refine xI ?_ | refine xY ?_ | refine xN ?_ | refine sM ?_ ?_ <;> intro _)
    all_goals (conv => whnf)
    · rename_i b3
      have b3 : (!decide (g.rules[l].right = h.rules[l].right)) = true := b3
      obtain rfl := hne (.inr (.inr (decF (notT b3))))
      exact rfl
    · rename_i b3
      have b3 : (!decide (g.rules[l].right = h.rules[l].right)) = false := b3
      have a4 : g.rules[l] = h.rules[l] := rule_ext (decT (notF b1)) (decT (notF b2)) (decT (notF b3))
      refine KI.i64 ((l + 1 : Nat) : Int) (by simp) (by omega) ?_
      repeat' ((conv => whnf); first | refine xB ?_ | refine xY ?_ | refine xN ?_ | refine sM ?_ ?_ <;> intro _)
      all_goals (conv => whnf)
      exact NextG.to (l + 1) ⟨by omega, upto_ext l2 hi hj a4⟩ (by omega) ⟨⟨rfl, rfl, rfl, trivial⟩, trivial⟩
  rename_i a3
  have a3 : ¬ (l : Int) < ((rulesD g.rules).length : Int) := decF a3
  rw [rules_len] at a3
  have e3 : g.rules = h.rules := upto_eq l2 (by omega) (by omega)
  obtain rfl : R = true := by rw [← hR]; exact same_yes e1 e2 e3 k4
  exact rfl
end Tryz
end Go.Dm
namespace Go.Dm
def idxAll {α : Type} (p : Nat → α → Bool) : Nat → List α → Bool
  | _, [] => true
  | i, x :: r => match p i x with
    | true => idxAll p (i + 1) r
    | false => false
theorem idxAll_go {α : Type} {p : Nat → α → Bool} {i : Nat} {l : List α} {R : Bool} (hi : i < l.length) (h : p i l[i] = true) (k : idxAll p i (l.drop i) = R) : idxAll p (i + 1) (l.drop (i + 1)) = R := by
  rw [List.drop_eq_getElem_cons hi] at k
  simpa only [idxAll, h] using k
theorem idxAll_bad {α : Type} {p : Nat → α → Bool} {i : Nat} {l : List α} {R : Bool} (hi : i < l.length) (h : p i l[i] = false) (k : idxAll p i (l.drop i) = R) : R = false := by
  rw [List.drop_eq_getElem_cons hi] at k
  simp only [idxAll, h] at k
  exact k.symm
theorem idxAll_end {α : Type} {p : Nat → α → Bool} {i : Nat} {l : List α} {R : Bool} (hi : i = l.length) (k : idxAll p i (l.drop i) = R) : R = true := by
  rw [hi, List.drop_length] at k
  exact k.symm
structure LvSt where
  i : Nat
  s : Int
namespace Tryz
open Go.Proofs
end Tryz
end Go.Dm
namespace Go.Dm
def symOne (g : GramS) (p : Int) (_ : Nat) (s : Int) : Bool := hasS g s && !(decide (s ≥ 0) && decide (p = -1))
def ruleR (g : GramS) (r : RuleS) : Bool := !decide ((r.right.length : Int) > 6) && (!decide (r.prec < -1) && (!decide (r.prec ≥ (g.terms.length : Int)) && idxAll (symOne g r.prec) 0 r.right))
namespace Tryz
open Go.Proofs
end Tryz
end Go.Dm
namespace Go.Dm
namespace Tryz
open Go.Proofs
end Tryz
end Go.Dm
namespace Go.Dm
structure GOK (g : GramS) : Prop where
  t : g.terms.length < 9223372036854775808
  n : g.nons.length < 9223372036854775808
  r : g.rules.length < 9223372036854775808
  tn : ∀ t ∈ g.terms, t.name.length < 9223372036854775808
  nn : ∀ s ∈ g.nons, s.length < 9223372036854775808
  rr : ∀ r ∈ g.rules, r.right.length < 9223372036854775808
  rs : ∀ r ∈ g.rules, ∀ s ∈ r.right, i64 s
namespace Tryz
open Go.Proofs
end Tryz
end Go.Dm
namespace Go.Dm
theorem idx_any {α : Type} {p q : α → Bool} {n : Nat → α → Bool} (hn : ∀ i s, n i s = q s) (hp : ∀ s, p s = !q s) : ∀ (l : List α) (i j : Nat), decide (idxS p l i ≥ 0) = !idxAll n j l
  | [], i, j => rfl
  | x :: r, i, j => by
    have ih := idx_any hn hp r (i + 1) (j + 1)
    have h1 := hn j x
    have h2 := hp x
    cases h : q x with
    | true =>
      rw [h] at h1 h2
      simp only [idxS, idxAll, h1, h2, Bool.not_true]
      exact ih
    | false =>
      rw [h] at h1 h2
      simp only [idxS, idxAll, h1, h2, Bool.not_false]
      exact decide_eq_true (by omega)
namespace Tryz
open Go.Proofs
theorem rule1 (g : GramS) (r : RuleS) (s : Int) (h : i64 s) (hg : GOK g) : PCall Tryz.prog 60 [] [.v (.int .i64 s), .ptr (gramCells g), .ptr (ruleCells r)] (.ret (.v (.bool (!symOne g r.prec 0 s))) []) := by
  generalize hR : (!symOne g r.prec 0 s) = R
  have g1 := hg.t
  have g2 := hg.n
  refine pcall_ofR (news := []) cxOK Tryz.func60 rfl Tryz.ntmps60 rfl rfl rfl (by decide) ?_
  repeat' ((conv => whnf); first | refine xB ?_ | refine xY ?_ | refine xN ?_ | refine sM ?_ ?_ <;> intro _)
  all_goals (conv => whnf)
  refine call0 (cfgHas g s h (by unfold i64; omega)) ?_
  repeat' ((conv => whnf); first | refine xB ?_ | refine xY ?_ | refine xN ?_ | refine sM ?_ ?_ <;> intro _)
  all_goals (conv => whnf)
  · rename_i b1
    have b1 : hasS g s = false := notT b1
    obtain rfl : R = true := by rw [← hR]; unfold symOne; rw [b1]; rfl
    exact rfl
  · rename_i b1 b2
    have b1 : hasS g s = true := notF b1
    have b2 : decide (s ≥ 0) = true := b2
    obtain rfl : R = decide (r.prec = -1) := by rw [← hR]; unfold symOne; rw [b1, b2]; simp
    exact rfl
  · rename_i b1 b2
    have b1 : hasS g s = true := notF b1
    have b2 : decide (s ≥ 0) = false := b2
    obtain rfl : R = false := by rw [← hR]; unfold symOne; rw [b1, b2]; rfl
    exact rfl
theorem symsIndex (g : GramS) (r : RuleS) (l : List Int) (hs : ∀ s ∈ l, i64 s) (hl : l.length < 9223372036854775808) (hg : GOK g) : PCall Tryz.prog 84 [] [.list 1 (ksD l), .fn (.func 60) [.ptr (gramCells g), .ptr (ruleCells r)]] (.ret (.v (.int .i64 (idxS (fun s => !symOne g r.prec 0 s) l 0))) []) := by
  generalize hR : idxS (fun s => !symOne g r.prec 0 s) l 0 = R
  refine pcall_ofR (news := []) cxOK Tryz.func84 rfl Tryz.ntmps84 rfl rfl rfl (by decide) ?_
  repeat' ((conv => whnf); first | refine xB ?_ | refine xY ?_ | refine xN ?_ | refine sM ?_ ?_ <;> intro _)
  all_goals (conv => whnf)
  refine LoopW.to (ι := Nat) (fun i => i ≤ l.length ∧ (∀ q, q < i → ∀ c, l[q]? = some c → (!symOne g r.prec 0 c) = false)) (fun i => l.length - i)
    (fun i => [(0, .list 1 (ksD l)), (1, .fn (.func 60) [.ptr (gramCells g), .ptr (ruleCells r)]), (7, .v (.int .i64 l.length)), (8, .v (.int .i64 i))]) (fun _ => []) [] 0 ⟨Nat.zero_le _, fun q h => by omega⟩ ⟨⟨rfl, rfl, congrArg (fun k : Nat => D.v (.int .i64 (k : Int))) (ksD_length l), rfl, trivial⟩, trivial⟩ ?_
  rintro i ⟨h1, h2⟩
  repeat' ((conv => whnf); first | refine xB ?_ | refine xY ?_ | refine xN ?_ | refine sM ?_ ?_ <;> intro _)
  all_goals (conv => whnf)
  · rename_i h
    have h : (i : Int) < l.length := decT h
    have hi : i < l.length := by omega
    have hg' := List.getElem?_eq_getElem hi
    refine IdxG.to i [D.v (.int .i64 l[i])] rfl (ksD_get hg') ?_
    repeat' ((conv => whnf); first | refine xB ?_ | refine xY ?_ | refine xN ?_ | refine sM ?_ ?_ <;> intro _)
    all_goals (conv => whnf)
    refine call0 (rule1 g r l[i] (hs _ (List.getElem_mem hi)) hg) ?_
    repeat' ((conv => whnf); first | refine xB ?_ | refine xY ?_ | refine xN ?_ | refine sM ?_ ?_ <;> intro _)
    all_goals (conv => whnf)
    · rename_i h3
      have h3 : (!symOne g r.prec 0 l[i]) = true := h3
      obtain rfl : R = i := by rw [← hR]; exact idxS_at h2 hg' h3
      exact rfl
    · rename_i h3
      have h3 : (!symOne g r.prec 0 l[i]) = false := h3
      refine KI.i64 ((i + 1 : Nat) : Int) (by simp) (by omega) ?_
      repeat' ((conv => whnf); first | refine xB ?_ | refine xY ?_ | refine xN ?_ | refine sM ?_ ?_ <;> intro _)
      all_goals (conv => whnf)
      exact NextG.to (i + 1) ⟨by omega, idx_ext h2 hi h3⟩ (by omega) ⟨⟨rfl, rfl, rfl, rfl, trivial⟩, trivial⟩
  · rename_i h
    have h : ¬ (i : Int) < l.length := decF h
    obtain rfl : i = l.length := by omega
    obtain rfl : R = -1 := by rw [← hR]; exact idxS_no h2
    exact rfl
theorem symsContains (g : GramS) (r : RuleS) (l : List Int) (hs : ∀ s ∈ l, i64 s) (hl : l.length < 9223372036854775808) (hg : GOK g) : PCall Tryz.prog 59 [] [.list 1 (ksD l), .fn (.func 60) [.ptr (gramCells g), .ptr (ruleCells r)]] (.ret (.v (.bool (decide (idxS (fun s => !symOne g r.prec 0 s) l 0 ≥ 0)))) []) := by
  refine pcall_ofR (news := []) cxOK Tryz.func59 rfl Tryz.ntmps59 rfl rfl rfl (by decide) ?_
  repeat' ((conv => whnf); first | refine xB ?_ | refine xY ?_ | refine xN ?_ | refine sM ?_ ?_ <;> intro _)
  all_goals (conv => whnf)
  refine call0 (symsIndex g r l hs hl hg) ?_
  repeat' ((conv => whnf); first | exact trivial | refine xB ?_ | refine xY ?_ | refine xN ?_ | refine sM ?_ ?_ <;> intro _ | refine xC ?_ | refine And.intro ?_ ?_ | exact Or.inl ⟨rfl, rfl⟩ | exact rfl)
  all_goals (conv => whnf)
theorem cfgRule (g : GramS) (r : RuleS) (hs : ∀ s ∈ r.right, i64 s) (hl : r.right.length < 9223372036854775808) (hg : GOK g) : PCall Tryz.prog 30 [] [gramD g, .agg (ruleCells r)] (.ret (.v (.bool (ruleR g r))) []) := by
  generalize hR : ruleR g r = R
  have g1 := hg.t
  refine pcall_ofR (news := []) cxOK Tryz.func30 rfl Tryz.ntmps30 rfl rfl rfl (by decide) ?_
  repeat' ((conv => whnf); first | refine xB ?_ | refine xY ?_ | refine xN ?_ | refine sM ?_ ?_ <;> intro _)
  all_goals (conv => whnf)
  · rename_i h
    have h : decide (((ksD r.right).length : Int) > 6) = true := h
    rw [ksD_length] at h
    obtain rfl : R = false := by rw [← hR]; unfold ruleR; rw [h]; rfl
    exact rfl
  rename_i h
  have h : decide (((ksD r.right).length : Int) > 6) = false := h
  rw [ksD_length] at h
  refine KI.i64 ((g.terms.length : Int) - 1) (by rw [terms_len]) (by omega) ?_
  repeat' ((conv => whnf); first | refine xB ?_ | refine xY ?_ | refine xN ?_ | refine sM ?_ ?_ <;> intro _)
  all_goals (conv => whnf)
  refine call0 (cfgWithin r.prec (-1) ((g.terms.length : Int) - 1)) ?_
  repeat' ((conv => whnf); first | refine xB ?_ | refine xY ?_ | refine xN ?_ | refine sM ?_ ?_ <;> intro _)
  all_goals (conv => whnf)
  · rename_i h2
    have h2 : (decide (r.prec ≥ -1) && decide (r.prec ≤ (g.terms.length : Int) - 1)) = false := notT h2
    obtain rfl : R = false := by
      rw [← hR]; unfold ruleR
      rcases Bool.and_eq_false_iff.1 h2 with h2 | h2
      · rw [decide_eq_true (show r.prec < -1 by have := decF h2; omega)]; simp
      · rw [decide_eq_true (show r.prec ≥ (g.terms.length : Int) by have := decF h2; omega)]; simp
    exact rfl
  · rename_i h2
    have h2 : (decide (r.prec ≥ -1) && decide (r.prec ≤ (g.terms.length : Int) - 1)) = true := notF h2
    rw [Bool.and_eq_true] at h2
    obtain ⟨h2, h3⟩ := h2
    have hR : idxAll (symOne g r.prec) 0 r.right = R := by
      rw [← hR]; unfold ruleR
      rw [h, decide_eq_false (show ¬ r.prec < -1 by have := decT h2; omega), decide_eq_false (show ¬ r.prec ≥ (g.terms.length : Int) by have := decT h3; omega)]; rfl
    refine call0 (symsContains g r r.right hs hl hg) ?_
    repeat' ((conv => whnf); first | refine xB ?_ | refine xY ?_ | refine xN ?_ | refine sM ?_ ?_ <;> intro _)
    all_goals (conv => whnf)
    have e := idx_any (p := fun s => !symOne g r.prec 0 s) (q := symOne g r.prec 0) (n := symOne g r.prec) (fun _ _ => rfl) (fun _ => rfl) r.right 0 0
    rw [e, hR]
    cases R <;> rfl
theorem rightOne (s : List UInt8) : PCall Tryz.prog 28 [] [.v (str s)] (.ret (.v (.bool (!NameS s))) []) := by
  refine pcall_ofR (news := []) cxOK Tryz.func28 rfl Tryz.ntmps28 rfl rfl rfl (by decide) ?_
  repeat' ((conv => whnf); first | refine xB ?_ | refine xY ?_ | refine xN ?_ | refine sM ?_ ?_ <;> intro _)
  all_goals (conv => whnf)
  refine call0 (lexName s) ?_
  repeat' ((conv => whnf); first | exact trivial | refine xB ?_ | refine xY ?_ | refine xN ?_ | refine sM ?_ ?_ <;> intro _ | refine xC ?_ | refine And.intro ?_ ?_ | exact Or.inl ⟨rfl, rfl⟩ | exact rfl)
  all_goals (conv => whnf)
end Tryz
end Go.Dm
namespace Go.Dm
def namesAll (l : List (List UInt8)) : Bool := idxAll (fun _ s => NameS s) 0 l
namespace Tryz
open Go.Proofs
theorem namesIndex (l : List (List UInt8)) (hl : l.length < 9223372036854775808) : PCall Tryz.prog 56 [] [.list 1 (strsD l), .fn (.func 28) []] (.ret (.v (.int .i64 (idxS (fun s => !NameS s) l 0))) []) := by
  generalize hR : idxS (fun s => !NameS s) l 0 = R
  refine pcall_ofR (news := []) cxOK Tryz.func56 rfl Tryz.ntmps56 rfl rfl rfl (by decide) ?_
  repeat' ((conv => whnf); first | refine xB ?_ | refine xY ?_ | refine xN ?_ | refine sM ?_ ?_ <;> intro _)
  all_goals (conv => whnf)
  refine LoopW.to (ι := Nat) (fun i => i ≤ l.length ∧ (∀ q, q < i → ∀ c, l[q]? = some c → (!NameS c) = false)) (fun i => l.length - i)
    (fun i => [(0, .list 1 (strsD l)), (1, .fn (.func 28) []), (7, .v (.int .i64 l.length)), (8, .v (.int .i64 i))]) (fun _ => []) [] 0 ⟨Nat.zero_le _, fun q h => by omega⟩ ⟨⟨rfl, rfl, congrArg (fun k : Nat => D.v (.int .i64 (k : Int))) (strs_len l), rfl, trivial⟩, trivial⟩ ?_
  rintro i ⟨h1, h2⟩
  repeat' ((conv => whnf); first | refine xB ?_ | refine xY ?_ | refine xN ?_ | refine sM ?_ ?_ <;> intro _)
  all_goals (conv => whnf)
  · rename_i h
    have h : (i : Int) < l.length := decT h
    have hi : i < l.length := by omega
    have hg' := List.getElem?_eq_getElem hi
    refine IdxG.to i (strC l[i]) rfl (strs_get hg') ?_
    repeat' ((conv => whnf); first | refine xB ?_ | refine xY ?_ | refine xN ?_ | refine sM ?_ ?_ <;> intro _)
    all_goals (conv => whnf)
    refine call0 (rightOne l[i]) ?_
    repeat' ((conv => whnf); first | refine xB ?_ | refine xY ?_ | refine xN ?_ | refine sM ?_ ?_ <;> intro _)
    all_goals (conv => whnf)
    · rename_i h3
      have h3 : (!NameS l[i]) = true := h3
      obtain rfl : R = i := by rw [← hR]; exact idxS_at h2 hg' h3
      exact rfl
    · rename_i h3
      have h3 : (!NameS l[i]) = false := h3
      refine KI.i64 ((i + 1 : Nat) : Int) (by simp) (by omega) ?_
      repeat' ((conv => whnf); first | refine xB ?_ | refine xY ?_ | refine xN ?_ | refine sM ?_ ?_ <;> intro _)
      all_goals (conv => whnf)
      exact NextG.to (i + 1) ⟨by omega, idx_ext h2 hi h3⟩ (by omega) ⟨⟨rfl, rfl, rfl, rfl, trivial⟩, trivial⟩
  · rename_i h
    have h : ¬ (i : Int) < l.length := decF h
    obtain rfl : i = l.length := by omega
    obtain rfl : R = -1 := by rw [← hR]; exact idxS_no h2
    exact rfl
theorem namesContains (l : List (List UInt8)) (hl : l.length < 9223372036854775808) : PCall Tryz.prog 27 [] [.list 1 (strsD l), .fn (.func 28) []] (.ret (.v (.bool (!namesAll l))) []) := by
  have e := idx_any (p := fun s => !NameS s) (q := NameS) (n := fun _ s => NameS s) (fun _ _ => rfl) (fun _ => rfl) l 0 0
  rw [show (!namesAll l) = decide (idxS (fun s => !NameS s) l 0 ≥ 0) from e.symm]
  refine pcall_ofR (news := []) cxOK Tryz.func27 rfl Tryz.ntmps27 rfl rfl rfl (by decide) ?_
  repeat' ((conv => whnf); first | refine xB ?_ | refine xY ?_ | refine xN ?_ | refine sM ?_ ?_ <;> intro _)
  all_goals (conv => whnf)
  refine call0 (namesIndex l hl) ?_
  repeat' ((conv => whnf); first | exact trivial | refine xB ?_ | refine xY ?_ | refine xN ?_ | refine sM ?_ ?_ <;> intro _ | refine xC ?_ | refine And.intro ?_ ?_ | exact Or.inl ⟨rfl, rfl⟩ | exact rfl)
  all_goals (conv => whnf)
end Tryz
end Go.Dm
namespace Go.Dm
def iGet (m : List (Int × Int)) (k : Int) : Int := match m with
  | [] => 0
  | (a, b) :: r => match decide (k = a) with
    | true => b
    | false => iGet r k
def iHas (m : List (Int × Int)) (k : Int) : Bool := match m with
  | [] => false
  | (a, _) :: r => match decide (k = a) with
    | true => true
    | false => iHas r k
def iPut (m : List (Int × Int)) (k v : Int) : List (Int × Int) := match m with
  | [] => [(k, v)]
  | (a, b) :: r => match decide (k = a) with
    | true => (k, v) :: r
    | false => (a, b) :: iPut r k v
def iMap (m : List (Int × Int)) : List (Value × Value) := m.map fun p => (.int .i64 p.1, .int .i64 p.2)
def levsGo : List (Int × Int) → Int → List TermS → Bool
  | m, top, [] => decide ((m.length : Int) = top)
  | m, top, t :: r => match decide (t.level = 0) with
    | true => levsGo m top r
    | false => match !decide (iGet m t.level = 0) && !decide (iGet m t.level = t.assoc) with
      | true => false
      | false => levsGo (iPut m t.level t.assoc) (if t.level > top then t.level else top) r
theorem levsGo_skip {m : List (Int × Int)} {top : Int} {t : TermS} {r : List TermS} (h : decide (t.level = 0) = true) : levsGo m top (t :: r) = levsGo m top r := by simp only [levsGo, h]
theorem levsGo_bad {m : List (Int × Int)} {top : Int} {t : TermS} {r : List TermS} (h : decide (t.level = 0) = false) (h2 : (!decide (iGet m t.level = 0) && !decide (iGet m t.level = t.assoc)) = true) : levsGo m top (t :: r) = false := by simp only [levsGo, h, h2]
theorem levsGo_go {m : List (Int × Int)} {top : Int} {t : TermS} {r : List TermS} (h : decide (t.level = 0) = false) (h2 : (!decide (iGet m t.level = 0) && !decide (iGet m t.level = t.assoc)) = false) : levsGo m top (t :: r) = levsGo (iPut m t.level t.assoc) (if t.level > top then t.level else top) r := by simp only [levsGo, h, h2]
structure MpSt where
  i : Nat
  m : List (Int × Int)
  top : Int
theorem iGet_no {m : List (Int × Int)} {k : Int} (h : iHas m k = false) : iGet m k = 0 := by
  induction m with
  | nil => rfl
  | cons p r ih =>
    obtain ⟨a, b⟩ := p
    cases e : decide (k = a) with
    | true => simp only [iHas, e] at h; cases h
    | false => simp only [iHas, e] at h; simp only [iGet, e]; exact ih h
theorem find_int (m : List (Int × Int)) (k : Int) : findL (.int .i64) (.int .i64 k) (iMap m) = some (if iHas m k then some (.int .i64 (iGet m k)) else none) := by
  induction m with
  | nil => rfl
  | cons p r ih =>
    obtain ⟨a, b⟩ := p
    show (match sameTK (.int .i64) (Value.int .i64 k) (.int .i64 a) with | some true => some (some (Value.int .i64 b)) | some false => findL (.int .i64) (.int .i64 k) (iMap r) | none => none) = _
    have e : sameTK (.int .i64) (Value.int .i64 k) (.int .i64 a) = some (decide (k = a)) := rfl
    rw [e]
    cases h : decide (k = a) with
    | true => simp only [iHas, iGet, h]; rfl
    | false => simp only [iHas, iGet, h]; exact ih
theorem put_int (m : List (Int × Int)) (k v : Int) : putL (.int .i64) (.int .i64 k) (.int .i64 v) (iMap m) = some (iMap (iPut m k v)) := by
  induction m with
  | nil => rfl
  | cons p r ih =>
    obtain ⟨a, b⟩ := p
    show (match sameTK (.int .i64) (Value.int .i64 k) (.int .i64 a) with | some true => some ((Value.int .i64 k, Value.int .i64 v) :: iMap r) | some false => (match putL (.int .i64) (.int .i64 k) (.int .i64 v) (iMap r) with | some l => some ((Value.int .i64 a, Value.int .i64 b) :: l) | none => none) | none => none) = _
    have e : sameTK (.int .i64) (Value.int .i64 k) (.int .i64 a) = some (decide (k = a)) := rfl
    rw [e]
    cases h : decide (k = a) with
    | true => simp only [iPut, h]; rfl
    | false => simp only [iPut, h, ih]; rfl
namespace Tryz
open Go.Proofs
theorem cfgLevels (l : List TermS) (hl : l.length < 9223372036854775808) : PCall Tryz.prog 52 [] [.list 3 (termsD l)] (.ret (.v (.bool (levsGo [] 0 l))) []) := by
  generalize hR : levsGo [] 0 l = R
  refine pcall_ofR (news := [6, 8]) cxOK Tryz.func52 rfl Tryz.ntmps52 rfl rfl rfl (by decide) ?_
  repeat' ((conv => whnf); first | refine xB ?_ | refine xC ?_ | refine xI ?_ | refine xY ?_ | refine xN ?_ | refine sM ?_ ?_ <;> intro _)
  all_goals (conv => whnf)
  refine LoopW.to (ι := MpSt) (fun s => s.i ≤ l.length ∧ levsGo s.m s.top (l.drop s.i) = R) (fun s => l.length - s.i)
    (fun s => [(3, .mp 8), (4, .v (.int .i64 s.top)), (9, .list 3 (termsD l)), (10, .v (.int .i64 l.length)), (11, .v (.int .i64 s.i))]) (fun s => [(8, .mp (iMap s.m))]) [] ⟨0, [], 0⟩ ⟨Nat.zero_le _, hR⟩ ⟨⟨rfl, rfl, rfl, congrArg (fun k : Nat => D.v (.int .i64 (k : Int))) (terms_len l), rfl, trivial⟩, rfl, trivial⟩ ?_
  rintro ⟨i, m, top⟩ ⟨h1, h2⟩
  simp only at h1 h2
  repeat' ((conv => whnf); first | refine xB ?_ | refine xC ?_ | refine xI ?_ | refine xY ?_ | refine xN ?_ | refine sM ?_ ?_ <;> intro _)
  all_goals (conv => whnf)
  · rename_i h
    have h : (i : Int) < l.length := decT h
    have hi : i < l.length := by omega
    rw [List.drop_eq_getElem_cons hi] at h2
    refine IdxG.to i (termCells l[i]) rfl (terms_get (List.getElem?_eq_getElem hi)) ?_
    generalize ht : l[i] = t at *
    repeat' ((conv => whnf); first | refine xB ?_ | refine xC ?_ | refine xI ?_ | refine xY ?_ | refine xN ?_ | refine sM ?_ ?_ <;> intro _)
    all_goals (conv => whnf)
    · rename_i b1
      have b1 : decide (t.level = 0) = true := b1
      have h2 := (levsGo_skip b1).symm.trans h2
      refine KI.i64 ((i + 1 : Nat) : Int) (by simp) (by omega) ?_
      repeat' ((conv => whnf); first | refine xB ?_ | refine xC ?_ | refine xI ?_ | refine xY ?_ | refine xN ?_ | refine sM ?_ ?_ <;> intro _)
      all_goals (conv => whnf)
      exact NextG.to ⟨i + 1, m, top⟩ ⟨by simp only; omega, h2⟩ (by simp only; omega) ⟨⟨rfl, rfl, rfl, rfl, rfl, trivial⟩, rfl, trivial⟩
    rename_i b1
    have b1 : decide (t.level = 0) = false := b1
    cases hh : iHas m t.level with
    | true =>
      refine LkG.to (some (.int .i64 (iGet m t.level))) (by rw [find_int, hh]; rfl) ?_
      repeat' ((conv => whnf); first | refine xB ?_ | refine xC ?_ | refine xI ?_ | refine xY ?_ | refine xN ?_ | refine sM ?_ ?_ <;> intro _)
      all_goals (conv => whnf)
      · rename_i b2 b3
        have b2 : (!decide (iGet m t.level = 0)) = true := b2
        have b3 : (!decide (iGet m t.level = t.assoc)) = true := b3
        obtain rfl : R = false := ((levsGo_bad b1 (by rw [b2, b3]; rfl)).symm.trans h2).symm
        exact rfl
      · rename_i b2 b3
        have b3 : (!decide (iGet m t.level = t.assoc)) = false := b3
        have h2 := (levsGo_go b1 (by rw [b3, Bool.and_false])).symm.trans h2
        refine UpG.to (iMap (iPut m t.level t.assoc)) (put_int _ _ _) ?_
        repeat' ((conv => whnf); first | refine xB ?_ | refine xC ?_ | refine xI ?_ | refine xY ?_ | refine xN ?_ | refine sM ?_ ?_ <;> intro _)
        all_goals (conv => whnf)
        refine KI.to (if t.level > top then t.level else top) rfl ?_
        repeat' ((conv => whnf); first | refine xB ?_ | refine xC ?_ | refine xI ?_ | refine xY ?_ | refine xN ?_ | refine sM ?_ ?_ <;> intro _)
        all_goals (conv => whnf)
        refine KI.i64 ((i + 1 : Nat) : Int) (by simp) (by omega) ?_
        repeat' ((conv => whnf); first | refine xB ?_ | refine xC ?_ | refine xI ?_ | refine xY ?_ | refine xN ?_ | refine sM ?_ ?_ <;> intro _)
        all_goals (conv => whnf)
        exact NextG.to ⟨i + 1, iPut m t.level t.assoc, if t.level > top then t.level else top⟩ ⟨by simp only; omega, h2⟩ (by simp only; omega) ⟨⟨rfl, rfl, rfl, rfl, rfl, trivial⟩, rfl, trivial⟩
      · rename_i b2
        have b2 : (!decide (iGet m t.level = 0)) = false := b2
        have h2 := (levsGo_go b1 (by rw [b2, Bool.false_and])).symm.trans h2
        refine UpG.to (iMap (iPut m t.level t.assoc)) (put_int _ _ _) ?_
        repeat' ((conv => whnf); first | refine xB ?_ | refine xC ?_ | refine xI ?_ | refine xY ?_ | refine xN ?_ | refine sM ?_ ?_ <;> intro _)
        all_goals (conv => whnf)
        refine KI.to (if t.level > top then t.level else top) rfl ?_
        repeat' ((conv => whnf); first | refine xB ?_ | refine xC ?_ | refine xI ?_ | refine xY ?_ | refine xN ?_ | refine sM ?_ ?_ <;> intro _)
        all_goals (conv => whnf)
        refine KI.i64 ((i + 1 : Nat) : Int) (by simp) (by omega) ?_
        repeat' ((conv => whnf); first | refine xB ?_ | refine xC ?_ | refine xI ?_ | refine xY ?_ | refine xN ?_ | refine sM ?_ ?_ <;> intro _)
        all_goals (conv => whnf)
        exact NextG.to ⟨i + 1, iPut m t.level t.assoc, if t.level > top then t.level else top⟩ ⟨by simp only; omega, h2⟩ (by simp only; omega) ⟨⟨rfl, rfl, rfl, rfl, rfl, trivial⟩, rfl, trivial⟩
    | false =>
      refine LkG.to none (by rw [find_int, hh]; rfl) ?_
      repeat' ((conv => whnf); first | refine xB ?_ | refine xC ?_ | refine xI ?_ | refine xY ?_ | refine xN ?_ | refine sM ?_ ?_ <;> intro _)
      all_goals (conv => whnf)
      have h2 := (levsGo_go b1 (by rw [iGet_no hh]; rfl)).symm.trans h2
      refine UpG.to (iMap (iPut m t.level t.assoc)) (put_int _ _ _) ?_
      repeat' ((conv => whnf); first | refine xB ?_ | refine xC ?_ | refine xI ?_ | refine xY ?_ | refine xN ?_ | refine sM ?_ ?_ <;> intro _)
      all_goals (conv => whnf)
      refine KI.to (if t.level > top then t.level else top) rfl ?_
      repeat' ((conv => whnf); first | refine xB ?_ | refine xC ?_ | refine xI ?_ | refine xY ?_ | refine xN ?_ | refine sM ?_ ?_ <;> intro _)
      all_goals (conv => whnf)
      refine KI.i64 ((i + 1 : Nat) : Int) (by simp) (by omega) ?_
      repeat' ((conv => whnf); first | refine xB ?_ | refine xC ?_ | refine xI ?_ | refine xY ?_ | refine xN ?_ | refine sM ?_ ?_ <;> intro _)
      all_goals (conv => whnf)
      exact NextG.to ⟨i + 1, iPut m t.level t.assoc, if t.level > top then t.level else top⟩ ⟨by simp only; omega, h2⟩ (by simp only; omega) ⟨⟨rfl, rfl, rfl, rfl, rfl, trivial⟩, rfl, trivial⟩
  · rename_i h
    have h : ¬ (i : Int) < l.length := decF h
    rw [show i = l.length by omega, List.drop_length] at h2
    obtain rfl : R = decide ((m.length : Int) = top) := h2.symm
    have e : (iMap m).length = m.length := by simp [iMap]
    show Value.bool (decide (((iMap m).length : Int) = top)) = _
    rw [e]
end Tryz
end Go.Dm
namespace Go.Dm
def termC (t : TermS) : Bool := namedS t.name && ((decide (t.level ≥ 0) && decide (t.level ≤ 24)) && ((decide (t.assoc ≥ 0) && decide (t.assoc ≤ 3)) && decide (decide (t.level = 0) = decide (t.assoc = 0))))
def termsC (l : List TermS) : Bool := idxAll (fun _ t => termC t) 0 l && (decide ((l.length : Int) ≤ 24) && levsGo [] 0 l)
namespace Tryz
open Go.Proofs
theorem cfgTerms (l : List TermS) (hl : l.length < 9223372036854775808) : PCall Tryz.prog 24 [] [.list 3 (termsD l)] (.ret (.v (.bool (termsC l))) []) := by
  generalize hR : termsC l = R
  generalize hQ : idxAll (fun _ t => termC t) 0 l = Q
  refine pcall_ofR (news := [4]) cxOK Tryz.func24 rfl Tryz.ntmps24 rfl rfl rfl (by decide) ?_
  repeat' ((conv => whnf); first | refine xB ?_ | refine xC ?_ | refine xI ?_ | refine xY ?_ | refine xN ?_ | refine sM ?_ ?_ <;> intro _)
  all_goals (conv => whnf)
  refine LoopW.to (ι := Nat) (fun i => i ≤ l.length ∧ idxAll (fun _ t => termC t) i (l.drop i) = Q) (fun i => l.length - i)
    (fun i => [(0, .list 3 (termsD l)), (5, .list 3 (termsD l)), (6, .v (.int .i64 l.length)), (7, .v (.int .i64 i))]) (fun _ => []) [] 0 ⟨Nat.zero_le _, hQ⟩ ⟨⟨rfl, rfl, congrArg (fun k : Nat => D.v (.int .i64 (k : Int))) (terms_len l), rfl, trivial⟩, trivial⟩ ?_
  rintro i ⟨h1, h2⟩
  repeat' ((conv => whnf); first | refine xB ?_ | refine xC ?_ | refine xI ?_ | refine xY ?_ | refine xN ?_ | refine sM ?_ ?_ <;> intro _)
  all_goals (conv => whnf)
  · rename_i h
    have h : (i : Int) < l.length := decT h
    have hi : i < l.length := by omega
    have hno : termC l[i] = false → R = false := fun e => by
      have := idxAll_bad (p := fun _ t => termC t) hi e h2
      rw [← hR]; unfold termsC; rw [hQ, this]; rfl
    have hgo : termC l[i] = true → idxAll (fun _ t => termC t) (i + 1) (l.drop (i + 1)) = Q := fun e => idxAll_go (p := fun _ t => termC t) hi e h2
    refine IdxG.to i (termCells l[i]) rfl (terms_get (List.getElem?_eq_getElem hi)) ?_
    generalize ht : l[i] = t at *
    repeat' ((conv => whnf); first | refine xB ?_ | refine xC ?_ | refine xI ?_ | refine xY ?_ | refine xN ?_ | refine sM ?_ ?_ <;> intro _)
    all_goals (conv => whnf)
    refine call0 (cfgNamed t.name) ?_
    repeat' ((conv => whnf); first | refine xB ?_ | refine xC ?_ | refine xI ?_ | refine xY ?_ | refine xN ?_ | refine sM ?_ ?_ <;> intro _)
    all_goals (conv => whnf)
    · rename_i b1
      have b1 : namedS t.name = false := notT b1
      obtain rfl := hno (by unfold termC; rw [b1]; rfl)
      exact rfl
    rename_i b1
    have b1 : namedS t.name = true := notF b1
    refine call0 (cfgWithin t.level 0 24) ?_
    repeat' ((conv => whnf); first | refine xB ?_ | refine xC ?_ | refine xI ?_ | refine xY ?_ | refine xN ?_ | refine sM ?_ ?_ <;> intro _)
    all_goals (conv => whnf)
    · rename_i b2
      have b2 : (decide (t.level ≥ 0) && decide (t.level ≤ 24)) = false := notT b2
      obtain rfl := hno (by unfold termC; rw [b2]; simp)
      exact rfl
    rename_i b2
    have b2 : (decide (t.level ≥ 0) && decide (t.level ≤ 24)) = true := notF b2
    refine call0 (cfgWithin t.assoc 0 3) ?_
    repeat' ((conv => whnf); first | refine xB ?_ | refine xC ?_ | refine xI ?_ | refine xY ?_ | refine xN ?_ | refine sM ?_ ?_ <;> intro _)
    all_goals (conv => whnf)
    · rename_i b3
      have b3 : (decide (t.assoc ≥ 0) && decide (t.assoc ≤ 3)) = false := notT b3
      obtain rfl := hno (by unfold termC; rw [b3]; simp)
      exact rfl
    · rename_i b3 b4
      have b4 : (!decide (decide (t.level = 0) = decide (t.assoc = 0))) = true := b4
      obtain rfl := hno (by unfold termC; rw [notT b4]; simp)
      exact rfl
    · rename_i b3 b4
      have b3 : (decide (t.assoc ≥ 0) && decide (t.assoc ≤ 3)) = true := notF b3
      have b4 : (!decide (decide (t.level = 0) = decide (t.assoc = 0))) = false := b4
      have h2 := hgo (by unfold termC; rw [b1, b2, b3, notF b4]; rfl)
      refine KI.i64 ((i + 1 : Nat) : Int) (by simp) (by omega) ?_
      repeat' ((conv => whnf); first | refine xB ?_ | refine xC ?_ | refine xI ?_ | refine xY ?_ | refine xN ?_ | refine sM ?_ ?_ <;> intro _)
      all_goals (conv => whnf)
      exact NextG.to (i + 1) ⟨by omega, h2⟩ (by omega) ⟨⟨rfl, rfl, rfl, rfl, trivial⟩, trivial⟩
  · rename_i h h5
    have h : ¬ (i : Int) < l.length := decF h
    obtain rfl := idxAll_end (by omega) h2
    have h5 : decide (((termsD l).length : Int) ≤ 24) = true := h5
    rw [terms_len] at h5
    refine call0 (cfgLevels l hl) ?_
    repeat' ((conv => whnf); first | refine xB ?_ | refine xC ?_ | refine xI ?_ | refine xY ?_ | refine xN ?_ | refine sM ?_ ?_ <;> intro _)
    all_goals (conv => whnf)
    obtain rfl : R = levsGo [] 0 l := by rw [← hR]; unfold termsC; rw [hQ, h5]; rfl
    exact rfl
  · rename_i h h5
    have h : ¬ (i : Int) < l.length := decF h
    obtain rfl := idxAll_end (by omega) h2
    have h5 : decide (((termsD l).length : Int) ≤ 24) = false := h5
    rw [terms_len] at h5
    obtain rfl : R = false := by rw [← hR]; unfold termsC; rw [hQ, h5]; rfl
    exact rfl
end Tryz
end Go.Dm
namespace Go.Dm
theorem sameS_self (g : GramS) : sameS g g = true := same_yes rfl rfl rfl rfl
theorem great_no {g : GramS} (h : greatS g = false) : g.terms.length ≤ 40 ∧ g.nons.length ≤ 40 ∧ g.rules.length ≤ 60 ∧ ∀ r ∈ g.rules, r.right.length ≤ 20 := by
  unfold greatS at h
  simp only [Bool.or_eq_false_iff, decide_eq_false_iff_not, List.any_eq_false, decide_eq_true_eq] at h
  obtain ⟨⟨⟨h1, h2⟩, h3⟩, h4⟩ := h
  exact ⟨by omega, by omega, by omega, fun r hr => by have := h4 r hr; omega⟩
theorem great_ok {g : GramS} (h : greatS g = false) (h1 : ∀ t ∈ g.terms, t.name.length < 9223372036854775808) (h2 : ∀ s ∈ g.nons, s.length < 9223372036854775808) (h3 : ∀ r ∈ g.rules, ∀ s ∈ r.right, i64 s) : GOK g := by
  obtain ⟨a, b, c, d⟩ := great_no h
  exact ⟨by omega, by omega, by omega, h1, h2, fun r hr => by have := d r hr; omega, h3⟩
theorem strIx_own {l : List (List UInt8)} {i : Nat} (hi : i < l.length) : strIx l l[i] = i ↔ ∀ q, (h : q < i) → l[q]'(by omega) ≠ l[i] := by
  unfold strIx
  constructor
  · intro h q hq e
    have hx : idxS (fun x => decide (l[i] = x)) l 0 ≤ q := by
      have key : ∀ (l : List (List UInt8)) (s : List UInt8) (k q : Nat), l[q]? = some s → idxS (fun x => decide (s = x)) l k ≤ (q + k : Nat) := by
        intro l
        induction l with
        | nil => intro s k q h; simp at h
        | cons x r ih =>
          intro s k q h
          cases q with
          | zero =>
            simp only [List.getElem?_cons_zero, Option.some.injEq] at h
            subst h
            simp [idxS]
          | succ q =>
            simp only [List.getElem?_cons_succ] at h
            simp only [idxS]
            split
            · omega
            · have := ih s (k + 1) q h
              omega
      have := key l l[i] 0 q (by rw [List.getElem?_eq_getElem (show q < l.length by omega), e])
      simpa using this
    rw [h] at hx
    omega
  · intro h
    refine idxS_at (fun q hq c hc => ?_) (List.getElem?_eq_getElem hi) (by simp)
    have h' := h q hq
    rw [List.getElem?_eq_getElem (show q < l.length by omega)] at hc
    injection hc with hc
    subst hc
    exact decide_eq_false (fun e => h' e.symm)
end Go.Dm
namespace Go.Dm
def seenC (g : GramS) : Int → List RuleS → Bool
  | s, [] => decide (s = (g.nons.length : Int))
  | s, r :: rs => match (decide (r.left ≥ 0) && decide (r.left ≤ s)) && ruleR g r with
    | true => seenC g (if r.left + 1 > s then r.left + 1 else s) rs
    | false => false
end Go.Dm
namespace Go.Dm
theorem idxAll_iff {α : Type} {p : Nat → α → Bool} : ∀ (l : List α) (i : Nat), idxAll p i l = true ↔ ∀ q, (h : q < l.length) → p (i + q) l[q] = true
  | [], i => by simp [idxAll]
  | x :: r, i => by
    have ih := idxAll_iff (p := p) r (i + 1)
    cases h : p i x with
    | false =>
      rw [show idxAll p i (x :: r) = false from by simp only [idxAll, h]]
      constructor
      · intro e; cases e
      intro e
      have := e 0 (by simp)
      simp only [Nat.add_zero, List.getElem_cons_zero] at this
      rw [h] at this; cases this
    | true =>
      rw [show idxAll p i (x :: r) = idxAll p (i + 1) r from by simp only [idxAll, h], ih]
      constructor
      · intro e q hq
        cases q with
        | zero => simpa using h
        | succ q =>
          have := e q (by simp at hq; omega)
          rw [show i + (q + 1) = i + 1 + q by omega]
          simpa using this
      · intro e q hq
        have := e (q + 1) (by simp; omega)
        rw [show i + (q + 1) = i + 1 + q by omega] at this
        simpa using this
end Go.Dm
namespace Go.Dm
theorem idxS_none {α : Type} {p : α → Bool} : ∀ (l : List α) (k : Nat), idxS p l k < 0 ↔ ∀ x ∈ l, p x = false
  | [], k => by simp [idxS]
  | x :: r, k => by
    have ih := idxS_none (p := p) r (k + 1)
    cases h : p x with
    | true =>
      rw [show idxS p (x :: r) k = (k : Int) from by simp only [idxS, h]]
      constructor
      · intro e; omega
      · intro e; have := e x (by simp); rw [h] at this; cases this
    | false =>
      rw [show idxS p (x :: r) k = idxS p r (k + 1) from by simp only [idxS, h], ih]
      simp [h]
theorem termIx_none (l : List TermS) (s : List UInt8) : termIx l s < 0 ↔ ∀ t ∈ l, t.name ≠ s := by
  unfold termIx
  rw [idxS_none]
  simp
theorem strIx_none (l : List (List UInt8)) (s : List UInt8) : strIx l s < 0 ↔ ∀ x ∈ l, s ≠ x := by
  unfold strIx
  rw [idxS_none]
  simp
end Go.Dm
namespace Go.Dm
theorem termIx_map (l : List TermS) (s : List UInt8) : termIx l s = strIx (l.map TermS.name) s := by
  have key : ∀ (l : List TermS) (k : Nat), idxS (fun t : TermS => decide (t.name = s)) l k = idxS (fun x => decide (s = x)) (l.map TermS.name) k := by
    intro l
    induction l with
    | nil => intro k; rfl
    | cons t r ih =>
      intro k
      by_cases h : t.name = s
      · simp [idxS, h]
      · have h' : ¬ s = t.name := fun e => h e.symm
        simp only [idxS, List.map_cons, decide_eq_false h, decide_eq_false h']
        exact ih (k + 1)
  exact key l 0
end Go.Dm
namespace Go.Dm
theorem own_nodup (l : List (List UInt8)) : (∀ i, (h : i < l.length) → strIx l l[i] = i) ↔ l.Nodup := by
  unfold List.Nodup
  rw [List.pairwise_iff_getElem]
  constructor
  · intro h i j hi hj hij
    exact (strIx_own hj).1 (h j hj) i hij
  · intro h i hi
    exact (strIx_own hi).2 fun q hq => h q i (by omega) hi hq
end Go.Dm
namespace Go.Dm
theorem keys_le : ∀ (n : Nat) (l : List Int), l.Nodup → (∀ k ∈ l, 1 ≤ k ∧ k ≤ n) → l.length ≤ n ∧ (l.length = n → ∀ k : Int, 1 ≤ k → k ≤ n → k ∈ l)
  | 0, l, hd, h => by
    cases l with
    | nil => exact ⟨Nat.le_refl _, fun _ k h1 h2 => by omega⟩
    | cons x r => have := h x (by simp); omega
  | n + 1, l, hd, h => by
    by_cases hm : ((n : Int) + 1) ∈ l
    · have ih := keys_le n (l.erase ((n : Int) + 1)) (hd.erase _) (fun k hk => by
        rw [hd.mem_erase_iff] at hk
        have := h k hk.2
        have := hk.1
        omega)
      rw [List.length_erase_of_mem hm] at ih
      have hp : 0 < l.length := List.length_pos_of_mem hm
      refine ⟨by omega, fun e k h1 h2 => ?_⟩
      by_cases hk : k = (n : Int) + 1
      · rw [hk]; exact hm
      · exact List.mem_of_mem_erase (ih.2 (by omega) k h1 (by omega))
    · have ih := keys_le n l hd (fun k hk => by
        have := h k hk
        have : k ≠ (n : Int) + 1 := fun e => hm (e ▸ hk)
        omega)
      exact ⟨by omega, fun e => by omega⟩
theorem keys_ge : ∀ (n : Nat) (l : List Int), l.Nodup → (∀ k : Int, 1 ≤ k → k ≤ n → k ∈ l) → n ≤ l.length
  | 0, l, hd, h => Nat.zero_le _
  | n + 1, l, hd, h => by
    have hm : ((n : Int) + 1) ∈ l := h _ (by omega) (by omega)
    have ih := keys_ge n (l.erase ((n : Int) + 1)) (hd.erase _) (fun k h1 h2 => by
      rw [hd.mem_erase_iff]
      exact ⟨by omega, h k h1 (by omega)⟩)
    rw [List.length_erase_of_mem hm] at ih
    have hp : 0 < l.length := List.length_pos_of_mem hm
    omega
theorem iGet_put (m : List (Int × Int)) (k v j : Int) : iGet (iPut m k v) j = if j = k then v else iGet m j := by
  induction m with
  | nil =>
    by_cases h : j = k
    · simp [iPut, iGet, h]
    · simp [iPut, iGet, h]
  | cons p r ih =>
    obtain ⟨a, b⟩ := p
    by_cases h : k = a
    · subst h
      by_cases h2 : j = k
      · simp [iPut, iGet, h2]
      · simp [iPut, iGet, h2]
    · by_cases h2 : j = a
      · have : ¬ a = k := fun e => h e.symm
        simp [iPut, iGet, h, h2, this]
      · simp only [iPut, decide_eq_false h, iGet, decide_eq_false h2]
        exact ih
theorem iKeys_put (m : List (Int × Int)) (k v j : Int) : j ∈ (iPut m k v).map (·.1) ↔ j = k ∨ j ∈ m.map (·.1) := by
  induction m with
  | nil => simp [iPut]
  | cons p r ih =>
    obtain ⟨a, b⟩ := p
    by_cases h : k = a
    · subst h; simp [iPut]
    · simp only [iPut, decide_eq_false h, List.map_cons, List.mem_cons]
      rw [ih]
      constructor
      · rintro (h | h | h) <;> simp [h]
      · rintro (h | h | h) <;> simp [h]
theorem iNodup_put (m : List (Int × Int)) (k v : Int) (h : (m.map (·.1)).Nodup) : ((iPut m k v).map (·.1)).Nodup := by
  induction m with
  | nil => simp [iPut]
  | cons p r ih =>
    obtain ⟨a, b⟩ := p
    rw [List.map_cons, List.nodup_cons] at h
    by_cases hk : k = a
    · subst hk; simp only [iPut, decide_true, List.map_cons, List.nodup_cons]; exact h
    · simp only [iPut, decide_eq_false hk, List.map_cons, List.nodup_cons]
      refine ⟨fun hm => ?_, ih h.2⟩
      rw [iKeys_put] at hm
      rcases hm with hm | hm
      · exact hk hm.symm
      · exact h.1 hm
structure LvInv (m : List (Int × Int)) (top : Int) : Prop where
  nd : (m.map (·.1)).Nodup
  bd : ∀ k ∈ m.map (·.1), 1 ≤ k ∧ k ≤ top ∧ iGet m k ≠ 0
  tp : 0 ≤ top
  tm : top = 0 ∨ top ∈ m.map (·.1)
theorem LvInv.put {m : List (Int × Int)} {top lv a : Int} (h : LvInv m top) (h1 : 1 ≤ lv) (h2 : a ≠ 0) : LvInv (iPut m lv a) (if lv > top then lv else top) := by
  refine ⟨iNodup_put _ _ _ h.nd, fun k hk => ?_, by have := h.tp; split <;> omega, ?_⟩
  · rw [iGet_put]
    rw [iKeys_put] at hk
    by_cases e : k = lv
    · rw [if_pos e]
      refine ⟨by omega, ?_, h2⟩
      split <;> omega
    · rw [if_neg e]
      have := h.bd k (by rcases hk with hk | hk; exact absurd hk e; exact hk)
      refine ⟨this.1, ?_, this.2.2⟩
      split <;> omega
  · right
    rw [iKeys_put]
    by_cases e : lv > top
    · rw [if_pos e]; exact .inl rfl
    · rw [if_neg e]
      rcases h.tm with h3 | h3
      · omega
      · exact .inr h3
def LvAgree (m : List (Int × Int)) (l : List TermS) : Prop :=
  (∀ t ∈ l, t.level ≠ 0 → iGet m t.level ≠ 0 → iGet m t.level = t.assoc) ∧ ∀ t ∈ l, ∀ u ∈ l, t.level ≠ 0 → t.level = u.level → t.assoc = u.assoc
def LvFull (m : List (Int × Int)) (l : List TermS) : Prop :=
  ∀ k n : Int, 1 ≤ k → k ≤ n → (n ∈ m.map (·.1) ∨ ∃ t ∈ l, t.level = n) → k ∈ m.map (·.1) ∨ ∃ t ∈ l, t.level = k
theorem levsGo_iff : ∀ (l : List TermS) (m : List (Int × Int)) (top : Int), LvInv m top → (∀ t ∈ l, 0 ≤ t.level ∧ (t.level ≠ 0 → t.assoc ≠ 0)) → (levsGo m top l = true ↔ LvAgree m l ∧ LvFull m l)
  | [], m, top, hi, hl => by
    show decide ((m.length : Int) = top) = true ↔ _
    rw [decide_eq_true_iff]
    have hlen : (m.map (·.1)).length = m.length := List.length_map _
    obtain ⟨n, hn⟩ := Int.eq_ofNat_of_zero_le hi.tp
    subst hn
    have h1 := keys_le n (m.map (·.1)) hi.nd (fun k hk => ⟨(hi.bd k hk).1, (hi.bd k hk).2.1⟩)
    rw [hlen] at h1
    constructor
    · intro e
      refine ⟨⟨fun t ht => by simp at ht, fun t ht => by simp at ht⟩, fun k j hk hj hx => .inl (h1.2 (by omega) k hk ?_)⟩
      rcases hx with hx | ⟨t, ht, _⟩
      · have := (hi.bd j hx).2.1; omega
      · simp at ht
    · rintro ⟨_, hf⟩
      have h2 := keys_ge n (m.map (·.1)) hi.nd (fun k hk hkn => by
        rcases hi.tm with h3 | h3
        · omega
        · rcases hf k n hk hkn (.inl h3) with h4 | ⟨t, ht, _⟩
          · exact h4
          · simp at ht)
      rw [hlen] at h2
      omega
  | t :: l, m, top, hi, hl => by
    have hl' : ∀ t ∈ l, 0 ≤ t.level ∧ (t.level ≠ 0 → t.assoc ≠ 0) := fun u hu => hl u (by simp [hu])
    have ht := hl t (by simp)
    by_cases h0 : t.level = 0
    · rw [levsGo_skip (decide_eq_true h0), levsGo_iff l m top hi hl']
      constructor
      · rintro ⟨⟨a1, a2⟩, f⟩
        refine ⟨⟨fun u hu hu0 => ?_, fun u hu v hv hu0 huv => ?_⟩, fun k n hk hn hx => ?_⟩
        · simp only [List.mem_cons] at hu
          rcases hu with rfl | hu
          · exact absurd h0 hu0
          · exact a1 u hu hu0
        · simp only [List.mem_cons] at hu hv
          rcases hu with rfl | hu
          · exact absurd h0 hu0
          · rcases hv with rfl | hv
            · omega
            · exact a2 u hu v hv hu0 huv
        · have : n ∈ m.map (·.1) ∨ ∃ t ∈ l, t.level = n := by
            rcases hx with hx | ⟨u, hu, e⟩
            · exact .inl hx
            · simp only [List.mem_cons] at hu
              rcases hu with rfl | hu
              · omega
              · exact .inr ⟨u, hu, e⟩
          rcases f k n hk hn this with h | ⟨u, hu, e⟩
          · exact .inl h
          · exact .inr ⟨u, by simp [hu], e⟩
      · rintro ⟨⟨a1, a2⟩, f⟩
        refine ⟨⟨fun u hu => a1 u (by simp [hu]), fun u hu v hv => a2 u (by simp [hu]) v (by simp [hv])⟩, fun k n hk hn hx => ?_⟩
        have : n ∈ m.map (·.1) ∨ ∃ u ∈ t :: l, u.level = n := by
          rcases hx with hx | ⟨u, hu, e⟩
          · exact .inl hx
          · exact .inr ⟨u, by simp [hu], e⟩
        rcases f k n hk hn this with h | ⟨u, hu, e⟩
        · exact .inl h
        · simp only [List.mem_cons] at hu
          rcases hu with rfl | hu
          · omega
          · exact .inr ⟨u, hu, e⟩
    · have ha := ht.2 h0
      by_cases hb : iGet m t.level ≠ 0 ∧ iGet m t.level ≠ t.assoc
      · rw [levsGo_bad (decide_eq_false h0) (by simp [hb.1, hb.2])]
        constructor
        · intro e; cases e
        · rintro ⟨⟨a1, _⟩, _⟩
          exact absurd (a1 t (by simp) h0 hb.1) hb.2
      · have hb' : iGet m t.level = 0 ∨ iGet m t.level = t.assoc := by
          by_cases e : iGet m t.level = 0
          · exact .inl e
          · exact .inr (by by_cases e2 : iGet m t.level = t.assoc; exact e2; exact absurd ⟨e, e2⟩ hb)
        have hcond : (!decide (iGet m t.level = 0) && !decide (iGet m t.level = t.assoc)) = false := by rcases hb' with e | e <;> simp [e]
        rw [levsGo_go (decide_eq_false h0) hcond, levsGo_iff l _ _ (hi.put (by omega) ha) hl']
        constructor
        · rintro ⟨⟨a1, a2⟩, f⟩
          have same : ∀ u ∈ l, t.level = u.level → t.assoc = u.assoc := fun u hu e => by
            have := a1 u hu (by omega)
            rw [iGet_put, if_pos e.symm] at this
            exact this ha
          refine ⟨⟨fun u hu hu0 hne => ?_, fun u hu v hv hu0 huv => ?_⟩, fun k n hk hn hx => ?_⟩
          · simp only [List.mem_cons] at hu
            rcases hu with rfl | hu
            · exact hb'.resolve_left hne
            · by_cases e : u.level = t.level
              · rw [e]; rw [e] at hne
                exact (hb'.resolve_left hne).trans (same u hu e.symm)
              · have := a1 u hu hu0
                rw [iGet_put, if_neg e] at this
                exact this hne
          · simp only [List.mem_cons] at hu hv
            rcases hu with rfl | hu
            · rcases hv with rfl | hv
              · rfl
              · exact same v hv huv
            · rcases hv with rfl | hv
              · exact (same u hu huv.symm).symm
              · exact a2 u hu v hv hu0 huv
          · have : n ∈ (iPut m t.level t.assoc).map (·.1) ∨ ∃ t ∈ l, t.level = n := by
              rcases hx with hx | ⟨u, hu, e⟩
              · exact .inl ((iKeys_put _ _ _ _).2 (.inr hx))
              · simp only [List.mem_cons] at hu
                rcases hu with rfl | hu
                · exact .inl ((iKeys_put _ _ _ _).2 (.inl e.symm))
                · exact .inr ⟨u, hu, e⟩
            rcases f k n hk hn this with h | ⟨u, hu, e⟩
            · rcases (iKeys_put _ _ _ _).1 h with h | h
              · exact .inr ⟨t, by simp, h.symm⟩
              · exact .inl h
            · exact .inr ⟨u, by simp [hu], e⟩
        · rintro ⟨⟨a1, a2⟩, f⟩
          refine ⟨⟨fun u hu hu0 hne => ?_, fun u hu v hv => a2 u (by simp [hu]) v (by simp [hv])⟩, fun k n hk hn hx => ?_⟩
          · rw [iGet_put] at hne ⊢
            by_cases e : u.level = t.level
            · rw [if_pos e]
              exact a2 t (by simp) u (by simp [hu]) h0 e.symm
            · rw [if_neg e] at hne ⊢
              exact a1 u (by simp [hu]) hu0 hne
          · have : n ∈ m.map (·.1) ∨ ∃ u ∈ t :: l, u.level = n := by
              rcases hx with hx | ⟨u, hu, e⟩
              · rcases (iKeys_put _ _ _ _).1 hx with h | h
                · exact .inr ⟨t, by simp, h.symm⟩
                · exact .inl h
              · exact .inr ⟨u, by simp [hu], e⟩
            rcases f k n hk hn this with h | ⟨u, hu, e⟩
            · exact .inl ((iKeys_put _ _ _ _).2 (.inr h))
            · simp only [List.mem_cons] at hu
              rcases hu with rfl | hu
              · exact .inl ((iKeys_put _ _ _ _).2 (.inl e.symm))
              · exact .inr ⟨u, hu, e⟩
end Go.Dm
namespace Go.Dm
def namesOf (g : GramS) : List (List UInt8) := g.nons ++ g.terms.map TermS.name
def withinS (n a b : Int) : Bool := decide (n ≥ a) && decide (n ≤ b)
def rightC (g : GramS) : Bool := termsC g.terms && (withinS g.nons.length 1 16 && (withinS g.rules.length 1 40 && (decide (namesOf g).Nodup && (withinS g.start 0 (g.nons.length - 1) && (namesAll g.nons && seenC g 0 g.rules)))))
def TermP (t : TermS) : Prop := namedS t.name = true ∧ (0 ≤ t.level ∧ t.level ≤ 24) ∧ (0 ≤ t.assoc ∧ t.assoc ≤ 3) ∧ (t.level = 0 ↔ t.assoc = 0)
theorem termC_iff (t : TermS) : termC t = true ↔ TermP t := by
  unfold termC TermP
  simp only [Bool.and_eq_true, decide_eq_true_iff, decide_eq_decide, ge_iff_le]
theorem terms_own (l : List TermS) : (∀ i, (h : i < l.length) → termIx l l[i].name = i) ↔ (l.map TermS.name).Nodup := by
  rw [← own_nodup]
  constructor
  · intro h i hi
    rw [List.length_map] at hi
    have := h i hi
    rw [termIx_map] at this
    rw [List.getElem_map]
    exact this
  · intro h i hi
    have := h i (by rw [List.length_map]; exact hi)
    rw [List.getElem_map] at this
    rw [termIx_map]
    exact this
end Go.Dm
namespace Go.Dm
open Go.RowKit
theorem pcall_below {P : Program} {f : FuncId} {ds : List D} {d : D} (hf : FnOK P f)
    (h : ∀ (E : Env) (w : World) (vs : List Value), ImOK E w → GlOK E → rels ds E vs → ∃ v, rel d E v ∧ Calls P f vs.toArray w fun e w' => e = .returned v ∧ Below w.heap.size w w') : PCall P f [] ds (.ret d []) := by
  refine ⟨hf, fun E w vs hi hnew hr => ?_⟩
  obtain ⟨v, h1, h2⟩ := h E w vs hi.im hi.gl hr
  refine Calls.mono h2 fun e w' he => ?_
  obtain ⟨rfl, hb⟩ := he
  refine ⟨v, E, rfl, ⟨⟨.refl E, hb.size, fun b hlt _ => hb.block b hlt, fun b o u hu => .inl hu, hb.os, hb.tape, hb.output⟩, ⟨fun b o u hu => ?_, fun id x hx => ?_, fun i j x y b hx => ?_, hi.gl⟩, fun _ _ => ⟨rfl, rfl⟩, fun _ hp => (by cases hp)⟩, h1⟩
  · have hc := hi.im b o u hu
    rw [cell_same (hb.block b (cell_lt hc))]; exact hc
  · cases hx
  · cases hx
theorem pcall_newrow {P : Program} {f : FuncId} {ds : List D} {id : Nat} {et : TypeId} {s : Nat} (hs : 0 < s) {xs : List (List D)} (hx : ∀ r ∈ xs, r.length = s) (hf : FnOK P f)
    (h : ∀ (E : Env) (w : World) (vs : List Value), ImOK E w → GlOK E → rels ds E vs → ∃ us, rels xs.flatten E.pure us ∧
      Calls P f vs.toArray w fun e w' => ∃ v, e = .returned v ∧ w'.ownsRow w.heap.size et s v xs.length us ∧ Below w.heap.size w w') :
    PCall P f [] ds (.ret (.row id xs.length) [(id, .row et s xs)]) := by
  refine ⟨hf, fun E w vs hi hnew hr => ?_⟩
  obtain ⟨us, hus, h2⟩ := h E w vs hi.im hi.gl hr
  refine Calls.mono h2 fun e w' he => ?_
  obtain ⟨v, rfl, hown, hb⟩ := he
  obtain ⟨n2, n3⟩ := hnew id ⟨rfl, by simp⟩
  have keep : ∀ b o u, E.im b o = some u → w'.cell? ⟨b, o, none⟩ = some u := fun b o u hu => by
    have hc := hi.im b o u hu
    rw [cell_same (hb.block b (cell_lt hc))]; exact hc
  -- what is known from now on
  have fin : ∀ (b m : Nat), (∀ o, o < m → w.heap.size ≤ b) → (∀ o u, o < m → us[o]? = some u → w'.cell? ⟨b, o, none⟩ = some u) →
      (∀ E' : Env, E.le E' → (∀ k, k < m → E'.im b k = us[k]?) → (∀ o u, E'.im b o = some u → o < m ∨ E.im b o = some u) → E'.hdr id xs.length = some v → (∀ q u, E'.hdr id q = some u → q = xs.length ∧ u = v) → ObOK E' id w' (.row et s xs) ∧ (∀ k, obBlk E' id (.row et s xs) = some k → w.heap.size ≤ k)) →
      v.oneCell' = true → CallPost E [] w (.ret (.row id xs.length) [(id, .row et s xs)]) (.returned v) w' := by
    intro b m hge hcell hob hone
    have hlt : ∀ k o u, E.im k o = some u → ¬ (k = b ∧ o < m) := fun k o u hu ⟨e1, e2⟩ => by
      have := cell_lt (hi.im k o u hu)
      have := hge o e2
      omega
    have le : E.le (E.grow b id xs.length m v us) := by
      refine ⟨fun k o u hu => ?_, fun _ _ h => h, fun j q u hu => ?_⟩
      · show (if k = b ∧ o < m then us[o]? else E.im k o) = some u
        rw [if_neg (hlt k o u hu)]; exact hu
      · show (if j = id ∧ q = xs.length then some v else E.hdr j q) = some u
        rw [if_neg (by rintro ⟨rfl, _⟩; rw [n3] at hu; cases hu)]; exact hu
    have hd : (E.grow b id xs.length m v us).hdr id xs.length = some v := by
      show (if id = id ∧ xs.length = xs.length then some v else _) = _
      rw [if_pos ⟨rfl, rfl⟩]
    obtain ⟨ho1, ho2⟩ := hob (E.grow b id xs.length m v us) le (fun k hk => by
      show (if b = b ∧ k < m then us[k]? else _) = _
      rw [if_pos ⟨rfl, hk⟩]) (fun o u hu => by
      have hu' : (if b = b ∧ o < m then us[o]? else E.im b o) = some u := hu
      by_cases ho : o < m
      · exact .inl ho
      · rw [if_neg (fun x => ho x.2)] at hu'; exact .inr hu') hd (fun q u hu => by
      have hu' : (if id = id ∧ q = xs.length then some v else E.hdr id q) = some u := hu
      by_cases hq : q = xs.length
      · rw [if_pos ⟨rfl, hq⟩] at hu'; injection hu' with hu'; exact ⟨hq, hu'.symm⟩
      · rw [if_neg (fun x => hq x.2), n3] at hu'; cases hu')
    refine ⟨v, E.grow b id xs.length m v us, rfl, ⟨⟨le, hb.size, fun k hk _ => hb.block k hk, fun k o u hu => ?_, hb.os, hb.tape, hb.output⟩, ⟨fun k o u hu => ?_, fun j y hy => ?_, fun i j x y k hx' hy' hxb hyb => ?_, hi.gl.mono le⟩, fun j hj => ⟨rfl, ?_⟩, fun p hp k hk => ?_⟩, hd, hone⟩
    · have hu' : (if k = b ∧ o < m then us[o]? else E.im k o) = some u := hu
      split at hu'
      · rename_i hk; obtain ⟨rfl, hk⟩ := hk; exact .inr (.inl (hge o hk))
      · exact .inl hu'
    · have hu' : (if k = b ∧ o < m then us[o]? else E.im k o) = some u := hu
      split at hu'
      · rename_i hk; obtain ⟨rfl, hk⟩ := hk; exact hcell o u hk hu'
      · exact keep k o u hu'
    · rw [upds_cons, upds_nil] at hy
      split at hy
      · rename_i e'; subst e'; injection hy with hy; subst hy; exact ho1
      · cases hy
    · rw [upds_cons, upds_nil] at hx' hy'
      split at hx'
      · rename_i e1
        split at hy'
        · rename_i e2; exact e1.symm.trans e2
        · cases hy'
      · cases hx'
    · funext q
      show (if j = id ∧ q = xs.length then some v else E.hdr j q) = _
      rw [if_neg (by rintro ⟨rfl, _⟩; exact hj (by simp))]
    · simp only [List.mem_singleton] at hp
      subst hp
      exact .inr (ho2 k hk)
  have hul : us.length = xs.length * s := by
    have := rels_length hus
    rw [flatten_len hx] at this
    exact this
  rcases hown.2 with ⟨rfl, hn⟩ | ⟨g, cap, cur, rfl, hg, hgb, hn, hm, hsz, htk⟩
  · have hxs : xs = [] := List.eq_nil_of_length_eq_zero hn
    refine fin 0 0 (fun o ho => by omega) (fun o u ho => by omega) (fun E' le _ _ hd hq => ⟨⟨fun q u hu => ?_, .inl ⟨?_, hxs⟩⟩, fun k hk => ?_⟩) rfl
    · obtain ⟨rfl, rfl⟩ := hq q u hu
      rw [List.take_length, hxs]
      exact ⟨Nat.le_refl _, none, 0, rfl, Nat.le_refl _, fun h => absurd rfl h⟩
    · rw [hd]
    · simp only [obBlk, hd, hdrBlk] at hk
      cases hk
  · have hcl : ∀ o u, o < xs.length * s → us[o]? = some u → w'.cell? ⟨g, o, none⟩ = some u := fun o u ho hu => by
      rw [← htk, List.getElem?_take_of_lt ho] at hu
      simp only [World.cell?, hgb]
      rw [← Array.getElem?_toList]
      exact hu
    refine fin g (xs.length * s) (fun o ho => hg) hcl (fun E' le hk ho hd hq => ⟨⟨fun q u hu => ?_, .inr ⟨g, cur, cap, hd, hgb, hsz, hn, hm, fun o u hu => ?_⟩⟩, fun k hk => ?_⟩) rfl
    · obtain ⟨rfl, rfl⟩ := hq q u hu
      refine ⟨Nat.le_refl _, some ⟨g, 0, none⟩, cap, by rw [List.take_length], by rw [List.take_length]; exact hn, fun _ => ⟨g, 0, rfl, ?_⟩⟩
      rw [List.take_length]
      exact relRow_of hx (rels_mono _ le.pure hus) fun k hk' => by simp only [Env.pure, Nat.zero_add]; exact hk k (by omega)
    · rcases ho o u hu with h3 | h3
      · exact h3
      · have := cell_lt (hi.im _ _ _ h3); omega
    · simp only [obBlk, hd, hdrBlk] at hk
      injection hk with hk
      omega
end Go.Dm
namespace Go.Dm
open Go.RowKit Go.ChangeShapes Go.WideShapes
def envOf (w : World) : Env := ⟨fun b o => w.cell? ⟨b, o, none⟩, fun _ => none, fun _ _ => none⟩
theorem envOf_inv {w : World} (h : ∃ m : Int, w.cell? ⟨maxLenG, 0, none⟩ = some (.int .i64 m)) : Inv (envOf w) (get []) w :=
  ⟨fun b o v hv => hv, fun id x hx => (by cases hx), fun i j x y b hx => (by cases hx), h⟩
theorem law_calls {P : Program} {f : FuncId} {args : Array Value} {W : World} {ds : List D} {d : D} (hPC : PCall P f [] ds (.ret d [])) (hrel : rels ds (envOf W) args.toList) (hgl : ∃ m : Int, W.cell? ⟨maxLenG, 0, none⟩ = some (.int .i64 m)) :
    Calls P f args W fun e W' => ∃ v E', e = .returned v ∧ rel d E' v ∧ Below W.heap.size W W' := by
  have := hPC.2 (envOf W) W args.toList (envOf_inv hgl) (fun j hj => ⟨rfl, fun _ => rfl⟩) hrel
  rw [show args.toList.toArray = args by simp] at this
  refine this.mono ?_
  rintro e W' ⟨v, E', rfl, hd, hr⟩
  refine ⟨v, E', rfl, hr, hd.st.os, hd.st.tape, hd.st.output, hd.st.size, fun k hk => hd.st.frame k hk ?_⟩
  rintro ⟨p, hp, _⟩
  cases hp
theorem trodAll_below {H : Type} {enc : TypeId × Value → H} {P : Program} (hl : laidOutB P = true) {W W' : World} (hb : Below W.heap.size W W') : ∀ {ts : List TypeId} {vs : List Value} {ds : List (DataW H)} {ps : List MemPlace},
    (∀ t ∈ ts, P.readableRec t = true ∧ t < P.types.size) → DataW.TrodAll enc P W 0 (fun _ => true) true ts vs ds ps → (∀ x ∈ ps, x.block < W.heap.size) → DataW.TrodAll enc P W' 0 (fun b => decide (b < W.heap.size)) true ts vs ds ps
  | [], [], [], _, _, h, _ => h
  | t :: ts, v :: vs, d :: ds, _, ht, ⟨p, q, h1, h2, e⟩, hlt =>
    ⟨p, q, Below.trod hl (ht t (by simp)).1 (ht t (by simp)).2 h1 hb (fun x hx => hlt x (by rw [e]; exact List.mem_append_left _ hx)),
      trodAll_below hl hb (fun u hu => ht u (by simp [hu])) h2 (fun x hx => hlt x (by rw [e]; exact List.mem_append_right _ hx)), e⟩
  | [], [], _ :: _, _, _, h, _ => h.elim
  | [], _ :: _, _, _, _, h, _ => h.elim
  | _ :: _, [], _, _, _, h, _ => h.elim
  | _ :: _, _ :: _, [], _, _, h, _ => h.elim
theorem keptBut_below {W W' : World} (hb : Below W.heap.size W W') (may : MemPlace → Prop) : W.keptBut W' may := by
  refine ⟨hb.os, hb.output, fun i hi => ?_⟩
  rw [hb.block i hi]
  cases W.heap[i]? with
  | none => rfl
  | some o => cases o <;> first | rfl | exact ⟨rfl, rfl, rfl, fun _ _ => rfl⟩ | exact .inr ⟨rfl, rfl⟩
theorem law_post {H : Type} {enc : TypeId × Value → H} {P : Program} {fn : Func} {s : ChangeSpec} {W W' : World} {args : Array Value} {ds gs : List (DataW H)} {before : List MemPlace} (hl : laidOutB P = true) (ht : ∀ t ∈ fn.params.toList, P.readableRec t = true ∧ t < P.types.size)
    (hv : s.vars = []) (hs : s.fn H ds = { results := [.lit (.bool true)], args := ds }) {tb : TypeId} (hres : fn.resultTypes = #[tb]) (htb : P.underlying tb = some .bool) (hW : DataW.Whole enc P fn.params.toList s.vars false W args.toList ds gs before) (hb : Below W.heap.size W W') :
    s.post enc P fn false true false false W args (.bool true) W' := by
  have hlt : ∀ p ∈ before, p.block < W.heap.size := fun p hp => hW.lt p hp
  have hW' := hW
  obtain ⟨p, q, h1, h2, rfl, h3, h4⟩ := hW
  rw [hv] at h2
  obtain ⟨rfl, rfl⟩ := trodVars_none h2
  rw [List.append_nil] at *
  refine ⟨ds, [], p, [], p, [], by simpa using hW', ?_, ?_, ?_, ?_, fun h => by cases h⟩
  · rw [List.append_nil, hs, hres]
    exact trodAll_cons_mk (shut_bool htb true) trodAll_mk0
  · rw [List.append_nil, hs]
    exact trodAll_below hl hb ht h1 hlt
  · rw [List.append_nil, hs, hv]
    rfl
  · exact World.keptBut_mono (fun x hx => ⟨hx, .inr (.inl hx)⟩) (keptBut_below hb (· ∈ p))
variable {H : Type} {enc : TypeId × Value → H} {P : Program} {w : World} {spare : Nat → Bool} {held : Bool}
theorem relRow_idx {E : Env} {s b : Nat} : ∀ {xs : List (List D)} {o : Nat}, (∀ i, (h : i < xs.length) → xs[i].length = s ∧ relCells xs[i] E b (o + i * s)) → relRow xs E s b o
  | [], _, _ => trivial
  | x :: xs, o, h => by
    refine ⟨by have := h 0 (by simp); simpa using this, relRow_idx fun i hi => ?_⟩
    have := h (i + 1) (by simp; omega)
    simp only [List.getElem_cons_succ] at this
    rw [show o + s + i * s = o + (i + 1) * s by rw [Nat.add_mul]; omega]
    exact this
theorem rd_slice {t e : TypeId} {α : Type} [Inhabited α] (f : α → List D) (s : Nat) (Q : α → Prop) (ht : P.underlying t = some (.slice e)) (hc : P.cellsOf e = s) (hs : 0 < s)
    (hrow : ∀ n cs x, DataW.trod enc P w 0 spare held n e cs = some x → ∃ a, rels (f a) (envOf w).pure cs ∧ Q a) {n : Nat} {cs : List Value} {x : DataW H × List MemPlace} (h : DataW.trod enc P w 0 spare held n t cs = some x) :
    ∃ (v : Value) (l : List α), cs = [v] ∧ rel (.list s (l.map f)) (envOf w) v ∧ l.length ≤ maxLen ∧ ∀ a ∈ l, Q a := by
  rcases Go.Deep.open_slice ht h with ⟨rfl, _⟩ | ⟨a, len, cap, m, k, Dx, Pl, rfl, _, hl, hm, hmm, _, hx⟩
  · exact ⟨_, [], rfl, ⟨none, 0, rfl, Nat.le_refl _, fun h => absurd rfl h⟩, Nat.zero_le _, fun _ h => (by cases h)⟩
  · have hlm : len ≤ m := by rw [hmm]; split <;> omega
    obtain ⟨A, hA⟩ := Go.Deep.choose_lt (α := α) (n := len) (p := fun i y => ∃ cs', w.cells? 0 (a.add (i * s)) s = some cs' ∧ rels (f y) (envOf w).pure cs' ∧ Q y) (fun i hi => by
      obtain ⟨cs', h1, h2⟩ := hx i (by omega)
      rw [hc] at h1
      obtain ⟨y, h3, h4⟩ := hrow _ _ _ h2
      exact ⟨y, cs', h1, h3, h4⟩)
    have hlen : ((List.range len).map A).length = len := by simp
    refine ⟨_, (List.range len).map A, rfl, ⟨some a, cap, by simp, by simpa using hl, fun hne => ?_⟩, by simp; omega, fun y hy => ?_⟩
    · have h0 : 0 < len := by
        rcases Nat.eq_zero_or_pos len with h | h
        · subst h; simp at hne
        · exact h
      obtain ⟨b, o, spot⟩ := a
      have hspot : spot = none := by
        obtain ⟨cs', h1, h3, h4⟩ := hA 0 h0
        obtain ⟨_, h5, h6⟩ := World.cells?_some h1
        have h7 := h6 0 hs
        have : cs' ≠ [] := by intro e'; rw [e'] at h5; simp at h5; omega
        rw [List.getElem?_eq_getElem (by rw [h5]; exact hs)] at h7
        simp only [Nat.zero_mul, Addr.add, if_true] at h7
        cases spot with
        | none => rfl
        | some k =>
          simp only [World.cell?] at h7
          split at h7
          · simp at h7
          · cases h7
      subst hspot
      refine ⟨b, o, rfl, ?_⟩
      refine relRow_idx fun i hi => ?_
      simp only [List.length_map, List.length_range] at hi
      obtain ⟨cs', h1, h3, h4⟩ := hA i hi
      obtain ⟨_, h5, h6⟩ := World.cells?_some h1
      have hfl : (f (A i)).length = s := by rw [← rels_length h3, h5]
      simp only [List.getElem_map, List.getElem_range]
      refine ⟨hfl, relCells_of h3 fun k hk => ?_⟩
      have h7 := h6 k (by omega)
      rw [← h7, add_plain, add_plain]
      rfl
    · simp only [List.mem_map, List.mem_range] at hy
      obtain ⟨i, hi, rfl⟩ := hy
      obtain ⟨_, _, _, h4⟩ := hA i hi
      exact h4
end Go.Dm
namespace Go.Proofs
open Go.Shelf
def Tryz.lays156_ren : Go.Shelf.Ren := ⟨fun | 156 => 77 | 165 => 105 | 166 => 76 | 169 => 49 | 240 => 104 | 241 => 139 | 276 => 138 | 277 => 176 | n => n, fun | 31 => 23 | 9 => 9 | 3 => 3 | 4 => 4 | 0 => 0 | 20 => 20 | 72 => 76 | 76 => 112 | 70 => 74 | 37 => 33 | 75 => 111 | 127 => 116 | 164 => 185 | 5 => 5 | 80 => 84 | n => n, fun | n => n⟩
theorem Tryz.lays156 : Go.Proofs.Lays.n156 Tryz.prog Tryz.lays156_ren := {
  mixed := by kernel_rfl
  f156 := Tryz.func77.trans (congrArg some (by kernel_rfl))
  f165 := Tryz.func105.trans (congrArg some (by kernel_rfl))
  f166 := Tryz.func76.trans (congrArg some (by kernel_rfl))
  f169 := Tryz.func49.trans (congrArg some (by kernel_rfl))
  f240 := Tryz.func104.trans (congrArg some (by kernel_rfl))
  f241 := Tryz.func139.trans (congrArg some (by kernel_rfl))
  f276 := Tryz.func138.trans (congrArg some (by kernel_rfl))
  f277 := Tryz.func176.trans (congrArg some (by kernel_rfl))
  t0 := Tryz.underlying0
  a0 := Tryz.isAgg0
  z0 := Tryz.sizeOf0
  v0 := Tryz.zeroValue0
  t3 := Tryz.underlying3
  a3 := Tryz.isAgg3
  z3 := Tryz.sizeOf3
  v3 := Tryz.zeroValue3
  t4 := Tryz.underlying4
  a4 := Tryz.isAgg4
  z4 := Tryz.sizeOf4
  v4 := Tryz.zeroValue4
  t9 := Tryz.underlying9
  a9 := Tryz.isAgg9
  z9 := Tryz.sizeOf9
  v9 := Tryz.zeroValue9
  t20 := Tryz.underlying20
  a20 := Tryz.isAgg20
  z20 := Tryz.sizeOf20
  v20 := Tryz.zeroValue20
  t31 := Tryz.underlying23
  a31 := Tryz.isAgg23
  z31 := Tryz.sizeOf23
  v31 := Tryz.zeroValue23
  t37 := Tryz.underlying33
  a37 := Tryz.isAgg33
  z37 := Tryz.sizeOf33
  v37 := Tryz.zeroValue33
  t70 := Tryz.underlying74
  a70 := Tryz.isAgg74
  z70 := Tryz.sizeOf74
  v70 := Tryz.zeroValue74
  t72 := Tryz.underlying76
  a72 := Tryz.isAgg76
  z72 := Tryz.sizeOf76
  v72 := Tryz.zeroValue76
  t75 := Tryz.underlying111
  a75 := Tryz.isAgg111
  z75 := Tryz.sizeOf111
  v75 := Tryz.zeroValue111
  t76 := Tryz.underlying112
  a76 := Tryz.isAgg112
  z76 := Tryz.sizeOf112
  v76 := Tryz.zeroValue112
  t127 := Tryz.underlying116
  a127 := Tryz.isAgg116
  z127 := Tryz.sizeOf116
  v127 := Tryz.zeroValue116
  t164 := Tryz.underlying185
  a164 := Tryz.isAgg185
  z164 := Tryz.sizeOf185
  v164 := Tryz.zeroValue185 }
theorem Tryz.Builder_Extra_156 : Builder.Extra Tryz.prog Tryz.lays156_ren := {
  sizeBuilder := by kernel_rfl
  liesBuilder := by kernel_rfl
  t5 := Tryz.underlying5
  a5 := Tryz.isAgg5
  z5 := Tryz.sizeOf5
  v5 := Tryz.zeroValue5
  infoByte := by kernel_rfl
  cellsByte := by kernel_rfl
  sizeByte := by kernel_rfl
  neB5 := by decide }
open Go.RowKit in
theorem Tryz.strings_Join_none (a : Option Addr) (c : Nat) (sep : ByteArray) (w : World) :
    Calls Tryz.prog 77 #[.slice a 0 c, .string sep] w fun e w' => e = .returned (.string ⟨#[]⟩) ∧ w' = w := Any.strings_Join_none Tryz.lays156 Tryz.Builder_Extra_156 a c sep w
open Go.RowKit in
theorem Tryz.strings_Join (bk o c : Nat) (xs : List ByteArray) (sep : ByteArray) (w : World) (hcells : ∀ (j : Nat) x, xs[j]? = some x → w.cell? ⟨bk, o + j, none⟩ = some (.string x)) (hbk : bk < w.heap.size) (hN : xs.length ≤ 140737488355328) (hcap : xs.length ≤ c) (hlen : (Lib.join (xs.map (·.data.toList)) sep.data.toList).length ≤ 140737488355328) :
    Calls Tryz.prog 77 #[.slice (some ⟨bk, o, none⟩) xs.length c, .string sep] w fun e w' => e = .returned (.string ⟨(Lib.join (xs.map (·.data.toList)) sep.data.toList).toArray⟩) ∧ Below w.heap.size w w' := Any.strings_Join Tryz.lays156 Tryz.Builder_Extra_156 bk o c xs sep w hcells hbk hN hcap hlen
end Go.Proofs
namespace Go.Proofs
open Go.Shelf Go.RowKit
variable {P : Program} {ρ : Ren}
set_option maxHeartbeats 1000000 in
set_option maxRecDepth 100000 in
theorem Bl.copy_used (L : Lays.n240 P ρ) (X : Builder.X72 P ρ) (b : Nat) (w : World) (h0 : w.cell? ⟨b, 0, none⟩ = some (.pointer (some ⟨b, 0, none⟩))) :
    Calls P (ρ.f 240) #[.pointer (some ⟨b, 0, none⟩)] w fun e w' => e = .returned (.tuple #[]) ∧ w' = w := Any.Builder_copyCheck_used L X b w h0
set_option maxHeartbeats 1000000 in
set_option maxRecDepth 100000 in
theorem Bl.copy_fresh (L : Lays.n240 P ρ) (X : Builder.X72 P ρ) {T : TypeId} (hl : liesAt P P.depth T (2 / P.cellsOf T) 0 (ρ.t 72) 1 = true) (b : Nat) (w : World) (h0 : w.cell? ⟨b, 0, none⟩ = some (.pointer none)) (hsh : w.shape? b = some (T, 2)) (hfz : w.frozen? ⟨b, 0, none⟩ = false) :
    Calls P (ρ.f 240) #[.pointer (some ⟨b, 0, none⟩)] w fun e w' => e = .returned (.tuple #[]) ∧ w' = w.setCell ⟨b, 0, none⟩ (.pointer (some ⟨b, 0, none⟩)) := by
  obtain ⟨j, hj, hjs⟩ := Option.map_eq_some_iff.1 X.sizeBuilder
  have mixed := L.mixed
  have t72 := L.t72; have a72 := L.a72; have z72 := L.z72; have v72 := L.v72; have u72 := run_underlying L.t72
  have t70 := L.t70; have a70 := L.a70; have z70 := L.z70; have v70 := L.v70; have u70 := run_underlying L.t70
  have t9 := L.t9; have a9 := L.a9; have z9 := L.z9; have v9 := L.v9; have u9 := run_underlying L.t9
  have t4 := L.t4; have a4 := L.a4; have z4 := L.z4; have v4 := L.v4; have u4 := run_underlying L.t4
  have t164 := L.t164; have a164 := L.a164; have z164 := L.z164; have v164 := L.v164; have u164 := run_underlying L.t164
  go_enter L.f240, Body.n240_ntmps ρ
  go_wp2
  rw [Lib.run_to_unsafe w ⟨b, 0, none⟩ L.t70 L.t164 hj (by rw [hjs]; decide) hsh (Nat.zero_lt_succ 1)]
  simp only [Result.andThen]
  rw [Oper.upon_value]
  go_wp2
  rw [run_callFunc_extern L.f276 (by kernel_rfl) (by kernel_rfl) (by kernel_rfl) (e := Extern.AbiNoEscape.same) (by kernel_rfl)]
  rw [Lib.run_noEscape]
  simp only [Result.andThen]
  rw [Oper.upon_value]
  go_wp2
  rw [Lib.run_from_unsafe w ⟨b, 0, none⟩ L.t164 L.t70 hj hsh hl]
  simp only [Result.andThen]
  rw [Oper.upon_value]
  go_wp2
  go_end0
  exact ⟨rfl, rfl⟩
set_option maxHeartbeats 2000000 in
set_option maxRecDepth 100000 in
theorem Bl.string (L : Lays.n169 P ρ) (X : Builder.Extra P ρ) {T : TypeId} (b : Nat) (l : List UInt8) (w : World) (p : Value) (g cap : Nat) (cur : Array Value) (hbk : w.heap[b]? = some (.cells #[p, .slice (some ⟨g, 0, none⟩) l.length cap] T (0, 0)))
    (hg : w.heap[g]? = some (.cells cur (ρ.t 5) (0, 0))) (hnc : l.length ≤ cap) (hcm : cap ≤ maxLen) (hcs : cur.size = cap) (hcell : ∀ (j : Nat) (x : UInt8), l[j]? = some x → w.cell? ⟨g, j, none⟩ = some (.int .u8 x.toNat)) (h0 : l ≠ []) :
    Calls P (ρ.f 169) #[.pointer (some ⟨b, 0, none⟩)] w fun e w' => e = .returned (.string ⟨l.toArray⟩) ∧ w' = w.drew.freeze ⟨g, 0, none⟩ l.length := by
  have hl0 : l.length ≠ 0 := by simpa using h0
  have c1 : w.drew.cell? ⟨b, 1, none⟩ = some (.slice (some ⟨g, 0, none⟩) l.length cap) := by
    have : w.drew.heap[b]? = some (.cells #[p, .slice (some ⟨g, 0, none⟩) l.length cap] T (0, 0)) := hbk
    rw [Lib.cell_of_heap this]; rfl
  have hSD : (Builtin.unsafeSliceData_ #[(ρ.t 37)] (ρ.t 127) #[.slice (some ⟨g, 0, none⟩) l.length cap]).run P w.drew = .ok (.pointer (some ⟨g, 0, none⟩)) w.drew :=
    Lib.run_unsafeSliceData_row _ _ _ _ _ _ (by omega)
  have hUS : (Builtin.unsafeString_ #[(ρ.t 127), (ρ.t 3)] (ρ.t 9) #[.pointer (some ⟨g, 0, none⟩), .int .i64 l.length]).run P w.drew = .ok (.string ⟨l.toArray⟩) (w.drew.freeze ⟨g, 0, none⟩ l.length) := by
    refine Lib.run_unsafeString_row w.drew (ρ.t 127) (ρ.t 3) (ρ.t 9) (ρ.t 5) L.t127 X.cellsByte g cur.size (by have hg' : w.drew.heap[g]? = some (.cells cur (ρ.t 5) (0, 0)) := hg; simp [World.shape?, hg']) l h0 (by omega) (by unfold maxLen at hcm; omega) ?_
    intro j x hx
    have := hcell j x hx
    rw [Go.Dm.add_plain, Nat.zero_add]
    exact this
  have mixed := L.mixed
  have t72 := L.t72; have a72 := L.a72; have z72 := L.z72; have v72 := L.v72; have u72 := run_underlying L.t72
  have t70 := L.t70; have a70 := L.a70; have z70 := L.z70; have v70 := L.v70; have u70 := run_underlying L.t70
  have t37 := L.t37; have a37 := L.a37; have z37 := L.z37; have v37 := L.v37; have u37 := run_underlying L.t37
  have t127 := L.t127; have a127 := L.a127; have z127 := L.z127; have v127 := L.v127; have u127 := run_underlying L.t127
  have t3 := L.t3; have a3 := L.a3; have z3 := L.z3; have v3 := L.v3; have u3 := run_underlying L.t3
  have t9 := L.t9; have a9 := L.a9; have z9 := L.z9; have v9 := L.v9; have u9 := run_underlying L.t9
  have t5 := X.t5; have a5 := X.a5; have z5 := X.z5; have v5 := X.v5; have u5 := run_underlying X.t5
  go_enter L.f169, Body.n169_ntmps ρ
  go_wp2
  go_region_o
  all_goals (go_wp2; go_ret; exact ⟨rfl, rfl⟩)
end Go.Proofs
namespace Go.Dm.Tryz
open Go.Proofs Go.RowKit Go.Maps Go.Sort Go.Shelf
def sorted_ren : Go.Shelf.Ren := ⟨fun | 6 => 53 | 8 => 81 | 9 => 82 | 11 => 108 | n => n, fun | 24 => 23 | 26 => 9 | 28 => 87 | 33 => 57 | 0 => 0 | n => n, fun | n => n⟩
theorem sorted_lay : SlLaysZ.n6 Tryz.prog sorted_ren := {
  mixed := by kernel_rfl
  f6 := ⟨Tryz.f53.name, by decide, Tryz.func53.trans (congrArg some (by kernel_rfl))⟩
  f8 := ⟨Tryz.f81.name, by decide, Tryz.func81.trans (congrArg some (by kernel_rfl))⟩
  f11 := ⟨Tryz.f108.name, by decide, Tryz.func108.trans (congrArg some (by kernel_rfl))⟩
  t0 := Tryz.underlying0
  a0 := Tryz.isAgg0
  z0 := Tryz.sizeOf0
  v0 := Tryz.zeroValue0
  t24 := Tryz.underlying23
  a24 := Tryz.isAgg23
  z24 := Tryz.sizeOf23
  v24 := Tryz.zeroValue23
  t26 := Tryz.underlying9
  a26 := Tryz.isAgg9
  z26 := Tryz.sizeOf9
  v26 := Tryz.zeroValue9
  t28 := Tryz.underlying87
  a28 := Tryz.isAgg87
  z28 := Tryz.sizeOf87
  v28 := Tryz.zeroValue87
  i26 := by kernel_rfl }
def SeqTold (F : Fence) (n : Nat) (P : Program) (g : Nat) (lb : Array Value) (S : List (List UInt8) → Prop) (N : Nat) (w : World) : Prop :=
  ∀ (l : Nat) (J : List (List UInt8) → World → Prop) (W : World), (∀ s X, J s X → RowKit.Below w.heap.size w X) →
    (∀ pre x W1, J pre W1 → pre.length < N → YieldAt F (n - 1) P l #[encStr x] W1 fun e W' => e = .returned (.bool true) ∧ J (pre ++ [x]) W' ∧ KeepsWalks W1 W') →
    J [] W → CallsIn F n P g (#[.func (.yield l) #[] #[]] ++ lb) W fun e W' => (∃ v, e = .returned v) ∧ ∃ xs, S xs ∧ J xs W'
theorem SeqTold.bounded {F : Fence} {n : Nat} {P : Program} {g : Nat} {lb : Array Value} {S : List (List UInt8) → Prop} {N : Nat} {w : World} (h : SeqTold F n P g lb S N w) : SeqTold F n P g lb (fun ss => S ss ∧ ss.length ≤ N) N w := by
  intro l J W hJ hY h0
  refine (h l (fun s X => J s X ∧ s.length ≤ N) W (fun s X hx => hJ s X hx.1) (fun pre x W1 hx hl => ?_) ⟨h0, Nat.zero_le _⟩).mono ?_
  · obtain ⟨fn, tmps, assign, body, hy, hR⟩ := hY pre x W1 hx.1 hl
    refine ⟨fn, tmps, assign, body, hy, hR.mono ?_⟩
    rintro e W' ⟨h1, h2, h3⟩
    exact ⟨h1, ⟨h2, by simp; omega⟩, h3⟩
  · rintro e W' ⟨h1, xs, h2, h3, h4⟩
    exact ⟨h1, xs, ⟨h2, h4⟩, h3⟩
section
variable {P : Program} {ρ : Ren}
set_option maxRecDepth 100000 in
set_option maxHeartbeats 2000000 in
theorem told_appendSeq (L : SlLaysZ.n11 P ρ) (F : Fence) (n : Nat) (h11 : F.fn (ρ.f 11)) (hro : F.round = none) (hn : 2 ≤ n) (g : Nat) (lb : Array Value) (hFg : F.fn g) (eg : ∀ args w, (callFunc g args).run P w = .ok (.enter g args) w)
    (S : List (List UInt8) → Prop) (N : Nat) (hN : N ≤ maxLen) (hNb : N * 16 ≤ 140737488355328) (w : World) (hseq : SeqTold F (n - 1) P g lb S N w) :
    CallsIn F n P (ρ.f 11) #[.slice none 0 0, .func (.func g) #[] lb] w fun e w' => ∃ (v : Value) (ss : List (List UInt8)), e = .returned v ∧ S ss ∧ w'.ownsRow w.heap.size (ρ.t 26) 1 v ss.length (ss.map encStr) ∧ (v = .slice none 0 0 ↔ ss = []) ∧ RowKit.Below w.heap.size w w' := by
  have h1 : 1 ≤ n := by omega
  have mixed := L.mixed; have t0 := L.t0; have a0 := L.a0; have z0 := L.z0; have v0 := L.v0; have t24 := L.t24; have a24 := L.a24; have z24 := L.z24; have v24 := L.v24; have t26 := L.t26; have a26 := L.a26; have z26 := L.z26; have v26 := L.v26; have t28 := L.t28; have a28 := L.a28; have z28 := L.z28; have v28 := L.v28
  have hne : ρ.t 24 ≠ ρ.t 26 := fun e => by have h := L.t24; rw [e, L.t26] at h; cases h
  have u0 := run_underlying L.t0; have u24 := run_underlying L.t24; have u26 := run_underlying L.t26; have u28 := run_underlying L.t28
  obtain ⟨_, _, FG⟩ := L.f11
  refine callsIn_of_wp_marks FG rfl h11 ?_ hro
  simp only [SlBodyZ.n11_ntmps ρ, List.size_toArray, List.length_cons, List.length_nil, Nat.reduceAdd, Nat.reduceSub, Array.replicate_succ, Array.replicate_zero, List.push_toArray, List.append_toArray, List.nil_append, List.cons_append]
  gi_wp2
  refine wpIn_rangeFunc ?_
  intro fn hfn
  rw [hro]
  obtain ⟨W0, hW0⟩ : ∃ W0, w.alloc (.cells #[.slice none 0 0] (ρ.t 24)) = W0 := ⟨_, rfl⟩
  have hs0 : W0.heap.size = w.heap.size + 1 := by rw [← hW0]; simp
  have hv0 : W0.heap[w.heap.size]? = some (.cells #[.slice none 0 0] (ρ.t 24) (0, 0)) := by rw [← hW0]; exact World.alloc_heap_new w _
  have hb0 : RowKit.Below w.heap.size w W0 := by rw [← hW0]; exact (RowKit.Below.refl _ w).alloc (Nat.le_refl _) _
  rw [hW0]
  obtain ⟨W1, hW1⟩ : ∃ W1, (W0.alloc (.deferred (some []))).alloc (.loop (AnyZ.apRec ρ fn (.func (.func g) #[] lb) w.heap.size W0.heap.size .ready none)) = W1 := ⟨_, rfl⟩
  have hold : ∀ k, k < W0.heap.size → W1.heap[k]? = W0.heap[k]? := fun k hk => by
    rw [← hW1]; exact (RowKit.Below.heap_alloc _ _ k (by simp; omega)).trans (RowKit.Below.heap_alloc _ _ k hk)
  have hb1 : RowKit.Below w.heap.size w W1 := by rw [← hW1]; exact (hb0.alloc hb0.size _).alloc (by have := hb0.size; simp; omega) _
  have hs1 : W1.heap.size = W0.heap.size + 2 := by rw [← hW1]; simp
  have hM : AnyZ.ApAt ρ w fn (.func (.func g) #[] lb) w.heap.size (W0.heap.size + 1) W0.heap.size [] W1 :=
    ⟨⟨_, (hold w.heap.size (by omega)).trans hv0, ⟨rfl, .inl ⟨rfl, rfl⟩⟩, by simp⟩,
     by rw [← hW1]; have := World.alloc_heap_new (W0.alloc (.deferred (some []))) (.loop (AnyZ.apRec ρ fn (.func (.func g) #[] lb) w.heap.size W0.heap.size .ready none)); rwa [World.size_alloc] at this,
     by rw [← hW1]; exact (RowKit.Below.heap_alloc _ _ _ (by simp)).trans (World.alloc_heap_new W0 _), hb1⟩
  refine ⟨W0.heap.size + 1, [{ target := .collected W0.heap.size, args := #[] }], W1, { target := .fn (.func g) lb, args := #[.func (.yield (W0.heap.size + 1)) #[] #[]] }, W1, g,
    #[.func (.yield (W0.heap.size + 1)) #[] #[]] ++ lb, W1, ?_, ?_, ?_, ?_, fun _ => h1, ?_⟩
  · rw [← hW1]; exact run_enterLoop_outer _ _ _ _ _
  · simp [resolve, go_sem]
  · intro f' hf'; simp [Target.leads] at hf'; subst hf'; exact hFg
  · simp [invoke, go_sem, eg]
  · refine (hseq (W0.heap.size + 1) (AnyZ.ApAt ρ w fn (.func (.func g) #[] lb) w.heap.size (W0.heap.size + 1) W0.heap.size) W1 (fun _ _ h => h.below)
      (fun pre x W hJ hl => AnyZ.apYield { L with } F (n - 1 - 1) w fn hfn _ w.heap.size (W0.heap.size + 1) W0.heap.size (by omega) (by omega) (by omega) (Nat.le_refl _) (by omega) N hN hNb pre x W hJ hl) hM).mono ?_
    rintro e W2 ⟨⟨v0, rfl⟩, ss, hS, h2⟩
    obtain ⟨v, hv, hrow, hnil⟩ := h2.box
    have hend := run_endLoop (P := P) h2.L (by simp [AnyZ.apRec])
    obtain ⟨W3, hW3⟩ : ∃ W3, W2.putObj (W0.heap.size + 1) (.loop { AnyZ.apRec ρ fn (.func (.func g) #[] lb) w.heap.size W0.heap.size .ready none with state := .exhausted }) = W3 := ⟨_, rfl⟩
    rw [hW3] at hend
    have hg3 : W2.grownBy W3 (some (W0.heap.size + 1)) := by rw [← hW3]; exact grownBy_putObj_a _ _ _
    have hv3 : W3.heap[w.heap.size]? = some (.cells #[v] (ρ.t 24) (0, 0)) := by rw [← hW3]; exact (World.putObj_heap_other (by omega)).trans hv
    have hK3 : W3.heap[W0.heap.size]? = some (.deferred (some [])) := by rw [← hW3]; exact (World.putObj_heap_other (by omega)).trans h2.K
    have hrow3 := hrow.kept hg3 (ownsRow_ne_a hrow h2.L (fun cur e => by first | cases e | exact hne (Obj.cells.inj e).2.1))
    have hb3 : RowKit.Below w.heap.size w W3 := h2.below.grown hg3 h2.below.size (fun k e => by cases e; omega)
    obtain ⟨hc3, hf3⟩ := cell_of_box_a hv3
    clear hW3
    refine ⟨none, W3, hend, ?_⟩
    gi_wp2
    rw [← hs0]
    refine ⟨by simp, .inl ⟨_, _, rfl, run_takeDeferred hK3, ?_⟩⟩
    exact ⟨_, results_tmp rfl _ _ _, v, ss, rfl, hS, hrow3.kept (grownBy_putObj_a _ _ _) (ownsRow_ne_a hrow3 hK3 (fun cur e => by first | cases e | exact hne (Obj.cells.inj e).2.1)), hnil, hb3.grown (grownBy_putObj_a _ _ _) hb3.size (fun k e => by cases e; omega)⟩
set_option maxHeartbeats 1000000 in
theorem told_collect (L : SlLaysZ.n8 P ρ) (F : Fence) (n : Nat) (h8 : F.fn (ρ.f 8)) (h11 : F.fn (ρ.f 11)) (hro : F.round = none) (hn : 3 ≤ n) (g : Nat) (lb : Array Value) (hFg : F.fn g) (eg : ∀ args w, (callFunc g args).run P w = .ok (.enter g args) w)
    (S : List (List UInt8) → Prop) (N : Nat) (hN : N ≤ maxLen) (hNb : N * 16 ≤ 140737488355328) (w : World) (hseq : SeqTold F (n - 1 - 1) P g lb S N w) :
    CallsIn F n P (ρ.f 8) #[.func (.func g) #[] lb] w fun e w' => ∃ (v : Value) (ss : List (List UInt8)), e = .returned v ∧ S ss ∧ w'.ownsRow w.heap.size (ρ.t 26) 1 v ss.length (ss.map encStr) ∧ (v = .slice none 0 0 ↔ ss = []) ∧ RowKit.Below w.heap.size w w' := by
  have h1 : 1 ≤ n := by omega
  have e11 : ∀ args w, (callFunc (ρ.f 11) args).run P w = .ok (.enter (ρ.f 11) args) w := L.f11.enters rfl
  have mixed := L.mixed; have t0 := L.t0; have a0 := L.a0; have z0 := L.z0; have v0 := L.v0; have t24 := L.t24; have a24 := L.a24; have z24 := L.z24; have v24 := L.v24; have t26 := L.t26; have a26 := L.a26; have z26 := L.z26; have v26 := L.v26; have t28 := L.t28; have a28 := L.a28; have z28 := L.z28; have v28 := L.v28
  have u0 := run_underlying L.t0; have u24 := run_underlying L.t24; have u26 := run_underlying L.t26; have u28 := run_underlying L.t28
  obtain ⟨_, _, FG⟩ := L.f8
  refine callsIn_of_wp FG rfl h8 ?_ hro
  simp only [SlBodyZ.n8_ntmps ρ, List.size_toArray, List.length_cons, List.length_nil, Nat.reduceAdd, Nat.reduceSub, Array.replicate_succ, Array.replicate_zero, List.push_toArray, List.append_toArray, List.nil_append, List.cons_append]
  gi_wp2_with (gi_at_fn (ρ.f 11); refine (told_appendSeq { L with } F (n - 1) h11 hro (by omega) g lb hFg eg S N hN hNb _ hseq).mono ?_; rintro e w' ⟨v, ss, rfl, hS, hrow, hnil, hb⟩)
  go_ret
  exact ⟨v, ss, rfl, hS, hrow, hnil, hb⟩
set_option maxRecDepth 100000 in
set_option maxHeartbeats 2000000 in
theorem told_sorted (L : SlLaysZ.n6 P ρ) (F : Fence) (n : Nat) (h6 : F.fn (ρ.f 6)) (h8 : F.fn (ρ.f 8)) (h9 : F.fn (ρ.f 9)) (h11 : F.fn (ρ.f 11)) (hro : F.round = none) (hn : 4 ≤ n) (hsort : AnyZ.SortsIn P ρ F (n - 1)) (e9 : ∀ args w, (callFunc (ρ.f 9) args).run P w = .ok (.enter (ρ.f 9) args) w) (g : Nat) (lb : Array Value) (hFg : F.fn g) (eg : ∀ args w, (callFunc g args).run P w = .ok (.enter g args) w)
    (S : List (List UInt8) → Prop) (N : Nat) (hN : N ≤ maxLen) (hNb : N * 16 ≤ 140737488355328) (w : World) (hseq : SeqTold F (n - 1 - 1 - 1) P g lb S N w) :
    CallsIn F n P (ρ.f 6) #[.func (.func g) #[] lb] w fun e w' => ∃ (v : Value) (ss : List (List UInt8)), e = .returned v ∧ S ss ∧
      w'.ownsRow w.heap.size (ρ.t 26) 1 v ss.length ((ss.mergeSort (fun x y => decide (x ≤ y))).map encStr) ∧ (v = .slice none 0 0 ↔ ss = []) ∧ RowKit.Below w.heap.size w w' := by
  have h1 : 1 ≤ n := by omega
  have e8 : ∀ args w, (callFunc (ρ.f 8) args).run P w = .ok (.enter (ρ.f 8) args) w := L.f8.enters rfl
  have mixed := L.mixed; have t0 := L.t0; have a0 := L.a0; have z0 := L.z0; have v0 := L.v0; have t24 := L.t24; have a24 := L.a24; have z24 := L.z24; have v24 := L.v24; have t26 := L.t26; have a26 := L.a26; have z26 := L.z26; have v26 := L.v26; have t28 := L.t28; have a28 := L.a28; have z28 := L.z28; have v28 := L.v28
  have u0 := run_underlying L.t0; have u24 := run_underlying L.t24; have u26 := run_underlying L.t26; have u28 := run_underlying L.t28
  obtain ⟨_, _, FG⟩ := L.f6
  refine callsIn_of_wp FG rfl h6 ?_ hro
  simp only [SlBodyZ.n6_ntmps ρ, List.size_toArray, List.length_cons, List.length_nil, Nat.reduceAdd, Nat.reduceSub, Array.replicate_succ, Array.replicate_zero, List.push_toArray, List.append_toArray, List.nil_append, List.cons_append]
  gi_wp2_with (gi_at_fn (ρ.f 8); refine (told_collect { L with } F (n - 1) h8 h11 hro (by omega) g lb hFg eg _ N hN hNb _ hseq.bounded).mono ?_; rintro e W ⟨v, ss, rfl, ⟨hS, hlen⟩, hrow, hnil, hb⟩)
  rcases hrow.2 with ⟨rfl, hz⟩ | ⟨gb, cap, cur, rfl, hbase, hgb, r1, r2, r3, r4⟩
  · -- nothing came: the nil slice is sorted and handed back
    have hss : ss = [] := List.eq_nil_of_length_eq_zero hz
    subst hss
    gi_wp2_with (gi_at_fn (ρ.f 9); refine (hsort.2 none 0 W).mono ?_; rintro e w' ⟨rfl, rfl⟩)
    go_ret
    exact ⟨.slice none 0 0, [], rfl, hS, by simpa using hrow, by simp, hb⟩
  · have hH : Holds encStr W gb 0 ss.toArray := holds_of_block hgb (by simpa using r4)
    have hgl : gb < W.heap.size := (Array.getElem?_eq_some_iff.1 hgb).1
    have hsz : ss.length < 4611686018427387904 := by omega
    have cS := hsort.1 gb 0 cap ss W hH hgl hsz
    gi_wp2_with (gi_at_fn (ρ.f 9); refine cS.mono ?_; rintro e w' ⟨rfl, nn, os, rfl⟩)
    go_ret
    exact ⟨_, ss, rfl, hS, ownsRow_sorted (by simp) hbase hgb r1 r2 r3, hnil, hb.grown (grownBy_sorted _) hb.size (fun j hj => by cases hj; exact hbase)⟩
end
def upto (f : Nat → List UInt8) (k : Nat) : List (List UInt8) := (List.range k).map f
theorem upto_succ (f : Nat → List UInt8) (k : Nat) : upto f (k + 1) = upto f k ++ [f k] := by simp [upto, List.range_succ]
theorem upto_length (f : Nat → List UInt8) (k : Nat) : (upto f k).length = k := by simp [upto]
theorem upto_all (zs : List (List UInt8)) : upto (fun j => (zs[j]?.getD [])) zs.length = zs := by
  apply List.ext_getElem
  · simp [upto]
  · intro i h1 h2
    simp [upto, h2]
set_option maxRecDepth 100000 in
set_option maxHeartbeats 2000000 in
theorem values1 (n : Nat) (hn : 1 ≤ n) (l Bs n₀ b off len cap : Nat) (zs : List (List UInt8)) (hreach : len * 16 ≤ 140737488351232) (hb : b < n₀) (hBn : Bs < n₀) (w0 : World) (J : List (List UInt8) → World → Prop)
    (hJ : ∀ s X, J s X → RowKit.Below n₀ w0 X)
    (hY : ∀ pre x W, J pre W → pre.length < len → YieldAt Fence.wide (n - 1) Tryz.prog l #[encStr x] W fun e W' => e = .returned (.bool true) ∧ J (pre ++ [x]) W' ∧ KeepsWalks W W')
    (W : World) (hBs : w0.cell? ⟨Bs, 0, none⟩ = some (.slice (some ⟨b, off, none⟩) len cap)) (hc : ∀ j, j < len → w0.cell? ⟨b, off + j, none⟩ = some (encStr ((zs[j]?.getD [])))) (h0 : J [] W) :
    CallsIn Fence.wide n Tryz.prog 83 #[.func (.yield l) #[] #[], .pointer (some ⟨Bs, 0, none⟩)] W fun e W' => (∃ v, e = .returned v) ∧ J (upto (fun j => (zs[j]?.getD [])) len) W' := by
  refine callsIn_of_wp Tryz.func83 rfl trivial ?_ rfl
  simp only [Tryz.ntmps83, List.size_toArray, List.length_cons, List.length_nil, Nat.reduceAdd, Nat.reduceSub, Array.replicate_succ, Array.replicate_zero, List.push_toArray, List.append_toArray, List.nil_append, List.cons_append]
  have hBs' : W.cell? ⟨Bs, 0, none⟩ = some (.slice (some ⟨b, off, none⟩) len cap) := ((hJ _ _ h0).cell (p := ⟨Bs, 0, none⟩) hBn).trans hBs
  gi_wp2
  gi_loopw [7] (fun i wr => ∃ k : Nat, k ≤ len ∧ i = .int .i64 k ∧ J (upto (fun j => (zs[j]?.getD [])) k) wr)
    (fun i _ => len - (Go.RowKit.intOf i).toNat)
  case atStart => exact ⟨0, Nat.zero_le _, rfl, h0⟩
  case round =>
    obtain ⟨k, hk, rfl, hJs⟩ := hrel
    have hcx : k < len → wr.cell? ⟨b, off + k, none⟩ = some (encStr ((zs[k]?.getD []))) := fun h => ((hJ _ _ hJs).cell (p := ⟨b, off + k, none⟩) hb).trans (hc k h)
    by_cases hlt : k < len
    · obtain ⟨fn, tmps, assign, body, hy, hR⟩ := hY _ ((zs[k]?.getD [])) wr hJs (by rw [upto_length]; exact hlt)
      have hcx' := hcx hlt
      gi_wp2
      refine hR.mono ?_
      rintro e W3 ⟨rfl, hJ3, hk3⟩
      gi_wp2
      go_roundw
      case rel => exact ⟨k + 1, by omega, by simp, by rw [upto_succ]; exact hJ3⟩
      case measure => simp [Go.RowKit.intOf]; omega
    · obtain rfl : k = len := by omega
      gi_wp2
      go_end0
      exact ⟨⟨_, rfl⟩, hJs⟩
set_option maxRecDepth 100000 in
set_option maxHeartbeats 1000000 in
theorem values1_nil (n : Nat) (l Bs n₀ : Nat) (a : Option Addr) (cap : Nat) (hBn : Bs < n₀) (w0 : World) (J : List (List UInt8) → World → Prop) (hJ : ∀ s X, J s X → RowKit.Below n₀ w0 X) (W : World)
    (hBs : w0.cell? ⟨Bs, 0, none⟩ = some (.slice a 0 cap)) (h0 : J [] W) :
    CallsIn Fence.wide n Tryz.prog 83 #[.func (.yield l) #[] #[], .pointer (some ⟨Bs, 0, none⟩)] W fun e W' => (∃ v, e = .returned v) ∧ J [] W' := by
  refine callsIn_of_wp Tryz.func83 rfl trivial ?_ rfl
  simp only [Tryz.ntmps83, List.size_toArray, List.length_cons, List.length_nil, Nat.reduceAdd, Nat.reduceSub, Array.replicate_succ, Array.replicate_zero, List.push_toArray, List.append_toArray, List.nil_append, List.cons_append]
  have hBs' : W.cell? ⟨Bs, 0, none⟩ = some (.slice a 0 cap) := ((hJ _ _ h0).cell (p := ⟨Bs, 0, none⟩) hBn).trans hBs
  gi_wp2
  gi_loopw [7] (fun i wr => i = .int .i64 0 ∧ J [] wr) (fun _ _ => 0)
  case atStart => exact ⟨rfl, h0⟩
  case round =>
    obtain ⟨rfl, hJs⟩ := hrel
    gi_wp2
    go_end0
    exact ⟨⟨_, rfl⟩, hJs⟩
def StrsAt (n₀ : Nat) (w : World) (v : Value) (zs : List (List UInt8)) : Prop :=
  ∃ a cap, v = .slice a zs.length cap ∧ (zs ≠ [] → ∃ b off, a = some ⟨b, off, none⟩ ∧ b < n₀ ∧ ∀ j, j < zs.length → w.cell? ⟨b, off + j, none⟩ = some (encStr ((zs[j]?.getD []))))
theorem values_told (n : Nat) (hn : 1 ≤ n) (Bs : Nat) (v : Value) (zs : List (List UInt8)) (hz : zs.length ≤ 100000) (w : World) (hBs : Bs < w.heap.size) (hc : w.cell? ⟨Bs, 0, none⟩ = some v) (hI : StrsAt w.heap.size w v zs) :
    SeqTold Fence.wide n Tryz.prog 83 #[.pointer (some ⟨Bs, 0, none⟩)] (fun ys => ys = zs) zs.length w := by
  intro l J W hJ hY h0
  obtain ⟨a, cap, rfl, hrow⟩ := hI
  by_cases he : zs = []
  · subst he
    exact (values1_nil n l Bs w.heap.size a cap hBs w J hJ W hc h0).mono fun e W' ⟨h1, h2⟩ => ⟨h1, _, rfl, h2⟩
  · obtain ⟨b, off, rfl, hb, hcs⟩ := hrow he
    exact (values1 n hn l Bs w.heap.size b off zs.length cap zs (by omega) hb hBs w J hJ hY W hc hcs h0).mono fun e W' ⟨h1, h2⟩ => ⟨h1, _, rfl, by rw [upto_all] at h2; exact h2⟩
set_option maxHeartbeats 1000000 in
theorem values0 (n : Nat) (v : Value) (hv : ∃ a len cap, v = .slice a len cap) (w : World) :
    CallsIn Fence.wide n Tryz.prog 54 #[v] w fun e w' => e = .returned (.func (.func 83) #[] #[.pointer (some ⟨w.heap.size, 0, none⟩)]) ∧ w' = w.alloc (.cells #[v] 23) := by
  obtain ⟨a, len, cap, rfl⟩ := hv
  refine callsIn_of_wp Tryz.func54 rfl trivial ?_ rfl
  simp only [Tryz.ntmps54, List.size_toArray, List.length_cons, List.length_nil, Nat.reduceAdd, Nat.reduceSub, Array.replicate_succ, Array.replicate_zero, List.push_toArray, List.append_toArray, List.nil_append, List.cons_append]
  gi_wp2
  go_ret
  exact ⟨rfl, rfl⟩
theorem sorts (m : Nat) : AnyZ.SortsIn Tryz.prog sorted_ren Fence.wide m :=
  ⟨fun blk off cap ss W hH hblk hsz => callsIn_wide.2 (Go.Proofs.Tryz.slices_Sort_string blk off cap ss W hH hblk hsz), fun p cap W => callsIn_wide.2 (Go.Proofs.Tryz.slices_Sort_string_none p cap W)⟩
theorem alone_sorted (v : Value) (zs : List (List UInt8)) (hz : zs.length ≤ 100000) (w : World) (hI : StrsAt w.heap.size w v zs) :
    CallsIn Fence.wide 5 Tryz.prog 53 #[.func (.func 83) #[] #[.pointer (some ⟨w.heap.size, 0, none⟩)]] (w.alloc (.cells #[v] 23)) fun e w' =>
      ∃ u, e = .returned u ∧ w'.ownsRow (w.alloc (.cells #[v] 23)).heap.size 9 1 u zs.length ((zs.mergeSort (fun x y => decide (x ≤ y))).map encStr) ∧ RowKit.Below (w.alloc (.cells #[v] 23)).heap.size (w.alloc (.cells #[v] 23)) w' := by
  have hlt : w.heap.size < (w.alloc (.cells #[v] 23)).heap.size := by simp
  have hcell : (w.alloc (.cells #[v] 23)).cell? ⟨w.heap.size, 0, none⟩ = some v := by
    have := World.alloc_heap_new w (.cells #[v] 23)
    simp only [World.cell?, this]
    rfl
  have hI' : StrsAt (w.alloc (.cells #[v] 23)).heap.size (w.alloc (.cells #[v] 23)) v zs := by
    obtain ⟨a, cap, rfl, hrow⟩ := hI
    refine ⟨a, cap, rfl, fun hn => ?_⟩
    obtain ⟨b, off, rfl, hb, hc⟩ := hrow hn
    refine ⟨b, off, rfl, by omega, fun j hj => ?_⟩
    rw [← hc j hj]
    exact ((RowKit.Below.refl w.heap.size w).alloc (Nat.le_refl _) _).cell (p := ⟨b, off + j, none⟩) hb
  have := told_sorted (P := Tryz.prog) (ρ := sorted_ren) sorted_lay Fence.wide 5 trivial trivial trivial trivial rfl (by omega) (sorts _) (enters_of Tryz.func82 (by kernel_rfl) rfl) 83 #[.pointer (some ⟨w.heap.size, 0, none⟩)] trivial (enters_of Tryz.func83 (by kernel_rfl) rfl) (fun ys => ys = zs) zs.length (by simp only [maxLen]; omega) (by omega) _
    (values_told 2 (by omega) w.heap.size v zs hz _ hlt hcell hI')
  refine this.mono ?_
  rintro e w' ⟨u, ss, rfl, rfl, h1, _, h2⟩
  exact ⟨u, rfl, h1, h2⟩
theorem lex_le_total (a b : List UInt8) : (decide (a ≤ b) || decide (b ≤ a)) = true := by
  rcases List.le_total a b with h | h <;> simp [h]
theorem lex_le_trans (a b c : List UInt8) (h1 : decide (a ≤ b) = true) (h2 : decide (b ≤ c) = true) : decide (a ≤ c) = true := by
  simp only [decide_eq_true_eq] at *
  exact List.le_trans h1 h2
theorem compact_len (zs : List (List UInt8)) (hs : zs.Pairwise (· ≤ ·)) : (Lib.compact zs).length = zs.length ↔ zs.Nodup := by
  constructor
  · intro h
    have hall : ∀ j, j < zs.length → Lib.keeps zs.toArray j = true := by
      unfold Lib.compact Lib.compactUpTo at h
      rw [List.length_map] at h
      have := List.length_filter_eq_length_iff.1 (h.trans (List.length_range).symm)
      exact fun j hj => this j (List.mem_range.2 hj)
    rw [List.Nodup, List.pairwise_iff_getElem]
    intro i j hi hj hij e
    rw [List.pairwise_iff_getElem] at hs
    have hk := hall (i + 1) (by omega)
    simp only [Lib.keeps, decide_eq_true_eq] at hk
    rcases hk with hk | hk
    · omega
    · refine hk ?_
      have e1 : zs.toArray[i + 1]! = zs[i + 1]'(by omega) := by simp [show i + 1 < zs.length by omega]
      have e2 : zs.toArray[i + 1 - 1]! = zs[i] := by simp [hi]
      rw [e1, e2]
      have h1 : zs[i] ≤ zs[i + 1]'(by omega) := hs i (i + 1) hi (by omega) (by omega)
      have h2 : zs[i + 1]'(by omega) ≤ zs[j] := by
        by_cases e3 : i + 1 = j
        · subst e3; exact List.le_refl _
        · exact hs (i + 1) j (by omega) hj (by omega)
      rw [← e] at h2
      exact List.le_antisymm h2 h1
  · intro h
    rw [List.Nodup, List.pairwise_iff_getElem] at h
    rw [Lib.compact_all zs fun j hj => ?_]
    simp only [Lib.keeps, decide_eq_true_eq]
    by_cases h0 : j = 0
    · exact .inl h0
    · right
      have e1 : zs.toArray[j]! = zs[j] := by simp [hj]
      have e2 : zs.toArray[j - 1]! = zs[j - 1]'(by omega) := by simp [show j - 1 < zs.length by omega]
      rw [e1, e2]
      exact fun e => h (j - 1) j (by omega) hj (by omega) e.symm
theorem compact_sorted (zs : List (List UInt8)) : (Lib.compact (zs.mergeSort fun x y => decide (x ≤ y))).length = zs.length ↔ zs.Nodup := by
  have hs : (zs.mergeSort fun x y => decide (x ≤ y)).Pairwise (· ≤ ·) := by
    have := List.pairwise_mergeSort (le := fun x y : List UInt8 => decide (x ≤ y)) lex_le_trans lex_le_total zs
    exact this.imp fun h => by simpa using h
  have hp := List.mergeSort_perm zs fun x y => decide (x ≤ y)
  rw [← hp.nodup_iff, ← compact_len _ hs, hp.length_eq]
set_option maxHeartbeats 2000000 in
theorem alone_run (v : Value) (zs : List (List UInt8)) (hz : zs.length ≤ 100000) (w : World) (hI : StrsAt w.heap.size w v zs) :
    Calls Tryz.prog 26 #[v] w fun e w' => e = .returned (.bool (decide zs.Nodup)) ∧ RowKit.Below w.heap.size w w' := by
  refine (callsIn_wide (n := 6)).1 ?_
  have hf1 : Fence.wide.fn 54 := trivial
  have hf2 : Fence.wide.fn 53 := trivial
  have hf3 : Fence.wide.fn 55 := trivial
  have hlen : (zs.mergeSort fun x y => decide (x ≤ y)).length = zs.length := List.length_mergeSort zs
  have hS := alone_sorted v zs hz w hI
  obtain ⟨a, cap, rfl, hrow⟩ := hI
  refine callsIn_of_wp Tryz.func26 rfl trivial ?_ rfl
  simp only [Tryz.ntmps26, List.size_toArray, List.length_cons, List.length_nil, Nat.reduceAdd, Nat.reduceSub, Array.replicate_succ, Array.replicate_zero, List.push_toArray, List.append_toArray, List.nil_append, List.cons_append]
  gi_wp2_with (gi_at_call 54; refine (values0 5 (.slice a zs.length cap) ⟨_, _, _, rfl⟩ w).mono ?_; rintro e w1 ⟨rfl, rfl⟩)
  gi_wp2_with (gi_at_call 53; refine hS.mono ?_; rintro e w2 ⟨u, rfl, ho, hb⟩)
  have hb0 : RowKit.Below w.heap.size w w2 := ((RowKit.Below.refl _ w).alloc (Nat.le_refl _) _).trans (hb.mono (by simp))
  rcases ho.2 with ⟨rfl, hn⟩ | ⟨g, c, cur, rfl, hg, hgb, hn, hm, hsz, htk⟩
  · gi_wp2_with (gi_at_call 55; refine (callsIn_wide.2 (Go.Proofs.Tryz.slices_Compact_string_empty none 0 w2)).mono ?_; rintro e w3 ⟨rfl, rfl⟩)
    go_ret
    have : zs = [] := List.eq_nil_of_length_eq_zero hn
    subst this
    exact ⟨rfl, hb0⟩
  · have hH : Holds encStr w2 g 0 (zs.mergeSort fun x y => decide (x ≤ y)).toArray := holds_of_block hgb (by rw [hlen]; simpa using htk)
    have hC := Go.Proofs.Tryz.slices_Compact_string g 0 c (zs.mergeSort fun x y => decide (x ≤ y)) w2 hH (by rw [hlen]; omega) (by rw [hlen]; exact hn)
    rw [hlen] at hC
    gi_wp2_with (gi_at_call 55; refine (callsIn_wide.2 hC).mono ?_; rintro e w3 ⟨rfl, q, hw3⟩)
    go_ret
    refine ⟨?_, ?_⟩
    · show Ending.returned (.bool (((Lib.compact (zs.mergeSort fun x y => decide (x ≤ y))).length : Int) == (zs.length : Int))) = _
      have : (((Lib.compact (zs.mergeSort fun x y => decide (x ≤ y))).length : Int) == (zs.length : Int)) = decide zs.Nodup := by
        rw [Bool.eq_iff_iff, beq_iff_eq, decide_eq_true_iff, ← compact_sorted zs]
        exact Int.ofNat_inj
      rw [this]
    · have hg' : w.heap.size ≤ g := Nat.le_trans (by simp) hg
      exact hb0.trans ⟨rfl, rfl, rfl, by simp [putRow, mapBlock, Sort.ahead], fun k hk => by
        have : g ≠ k := by omega
        simp [putRow, mapBlock, Sort.ahead, Array.getElem?_modify, this]⟩
theorem strsAt_of {E : Env} {w : World} {zs : List (List UInt8)} {v : Value} (him : ImOK E w) (h : rel (.list 1 (strsD zs)) E v) : StrsAt w.heap.size w v zs := by
  obtain ⟨a, cap, rfl, hl, hrow⟩ := h
  rw [strs_len] at *
  refine ⟨a, cap, by simp [strs_len], fun hn => ?_⟩
  obtain ⟨b, o, rfl, hr⟩ := hrow (by intro e; apply hn; simpa [strsD] using e)
  obtain ⟨vs, h1, h2, h3, h4⟩ := relRow_flat hr
  have hv : vs = zs.map encStr := by
    have key : ∀ (zs : List (List UInt8)) (vs : List Value), rels (strsD zs).flatten E.pure vs → vs = zs.map encStr := by
      intro zs
      induction zs with
      | nil => intro vs h; cases h; rfl
      | cons z r ih =>
        intro vs h
        obtain ⟨x, ws, rfl, h5, h6⟩ := h
        obtain rfl : x = _ := h5
        rw [ih ws h6]
        rfl
    exact key zs vs h1
  have hc : ∀ j, (hj : j < zs.length) → w.cell? ⟨b, o + j, none⟩ = some (encStr (zs[j]?.getD [])) := fun j hj => by
    have := h4 j (by rw [hv, List.length_map]; exact hj)
    rw [hv] at this
    refine him _ _ _ (this.trans ?_)
    simp [hj]
  refine ⟨b, o, rfl, ?_, hc⟩
  have h0 : 0 < zs.length := List.length_pos_iff.2 hn
  exact cell_lt (hc 0 h0)
theorem cfgAlone (l : List (List UInt8)) (hl : l.length ≤ 100000) : PCall Tryz.prog 26 [] [.list 1 (strsD l)] (.ret (.v (.bool (decide l.Nodup))) []) := by
  refine pcall_below ⟨_, Tryz.func26, rfl, by decide⟩ fun E w vs him hgl hr => ?_
  obtain ⟨v, ws, e1, h1, e2⟩ := hr
  subst e1; subst e2
  exact ⟨_, rfl, alone_run v l hl w (strsAt_of him h1)⟩
theorem slicesClone (l : List (List UInt8)) (hl : l.length ≤ 100000) : PCall Tryz.prog 23 [] [.list 1 (strsD l)] (.ret (.row 2 l.length) [(2, .row 9 1 (strsD l))]) := by
  rw [← strs_len l]
  refine pcall_newrow (by omega) (fun r hr => ?_) ⟨_, Tryz.func23, rfl, by decide⟩ fun E w vs him hgl hr => ?_
  · simp only [strsD, List.mem_map] at hr
    obtain ⟨x, _, rfl⟩ := hr
    rfl
  obtain ⟨v, ws, e1, h1, e2⟩ := hr
  subst e1; subst e2
  have hus : ∀ zs : List (List UInt8), rels (strsD zs).flatten E.pure (zs.map encStr) := by
    intro zs
    induction zs with
    | nil => rfl
    | cons z r ih => exact ⟨encStr z, r.map encStr, rfl, rfl, ih⟩
  refine ⟨l.map encStr, hus l, ?_⟩
  obtain ⟨a, cap, rfl, hrow⟩ := strsAt_of him h1
  rw [strs_len]
  by_cases he : l = []
  · subst he
    cases a with
    | none => exact (Go.Proofs.Tryz.slices_Clone_string_nil 0 cap w).mono fun e w' ⟨h2, h3⟩ => ⟨_, h2, ⟨rfl, .inl ⟨rfl, rfl⟩⟩, by rw [h3]; exact RowKit.Below.refl _ _⟩
    | some a => exact (Go.Proofs.Tryz.slices_Clone_string_zero a cap w).mono fun e w' ⟨v', h2, h3, _, h4⟩ => ⟨v', h2, h3, h4⟩
  · obtain ⟨b, off, rfl, hb, hc⟩ := hrow he
    refine (Go.Proofs.Tryz.slices_Clone_string b off l.length cap (l.map fun x => ⟨x.toArray⟩) w (by simp) (by omega) (fun j hj => ?_)).mono ?_
    · have hj' : j < l.length := by simpa using hj
      rw [hc j hj']
      simp [hj', encStr]
    · rintro e w' ⟨v', h2, h3, _, h4⟩
      refine ⟨v', h2, ?_, h4⟩
      have e1 : (List.take l.length (l.map fun x : List UInt8 => (⟨x.toArray⟩ : ByteArray))).map Value.string = l.map encStr := by
        rw [List.take_of_length_le (by simp)]
        simp [encStr]
      rwa [e1] at h3
end Go.Dm.Tryz
namespace Go.Dm
def joinW (ws : List (List UInt8)) : List UInt8 := Lib.join ws [32]
def outS (ws : List (List UInt8)) : List UInt8 := joinW ws ++ [10]
theorem joinW_nil : joinW [] = [] := rfl
theorem joinW_one (x : List UInt8) : joinW [x] = x := Lib.join_one x _
theorem joinW_cons (x y : List UInt8) (r : List (List UInt8)) : joinW (x :: y :: r) = x ++ 32 :: joinW (y :: r) := by
  unfold joinW
  rw [Lib.join_cons, Lib.join_cons]
  simp [Lib.joinTail]
def sizeW : List (List UInt8) → Nat
  | [] => 0
  | x :: r => x.length + 1 + sizeW r
theorem joinW_len : ∀ ws : List (List UInt8), (joinW ws).length ≤ sizeW ws
  | [] => by simp [joinW_nil]
  | [x] => by rw [joinW_one]; simp only [sizeW]; omega
  | x :: y :: r => by
    rw [joinW_cons]
    have := joinW_len (y :: r)
    simp only [sizeW, List.length_append, List.length_cons] at this ⊢
    omega
namespace Tryz
open Go.Proofs
theorem set_done {E : Env} {w : World} {pre : Mem} {T : TypeId} {p x : Value} {d e y : D} {b : Nat} {v : Value} (hi : Inv E (get pre) w) (hp : get pre 1000 = some (.tc T [d, y])) (h1 : E.blk 1000 = some b) (h2 : w.heap[b]? = some (.cells #[p, x] T (0, 0))) (hx : rel y E x) (he : rel e E v) (h4 : ∀ o, E.im b o = none) :
    Done E E (get pre) [(1000, .tc T [e, y])] w (w.setCell ⟨b, 0, none⟩ v) := by
  have hh : ∀ k, k ≠ b → (w.setCell ⟨b, 0, none⟩ v).heap[k]? = w.heap[k]? := fun k hk => RowKit.Below.heap_setCell _ _ _ _ (fun e => hk e)
  have hb : (w.setCell ⟨b, 0, none⟩ v).heap[b]? = some (.cells #[v, x] T (0, 0)) := by simp [World.setCell, Array.getElem?_modify, h2]
  have hown : ownOf E (get pre) [(1000, .tc T [e, y])] b := ⟨_, List.mem_singleton_self _, _, hp, by simp [obBlk, h1]⟩
  have st : Step E E (ownOf E (get pre) [(1000, .tc T [e, y])]) w (w.setCell ⟨b, 0, none⟩ v) :=
    ⟨.refl E, by simp [World.setCell], fun k hk hno => hh k (fun e => hno (e ▸ hown)), fun _ _ _ h => .inl h, rfl, rfl, rfl⟩
  have hbd : ∀ k, obBlk E 1000 (.tc T [e, y]) = some k → (∃ x, get pre 1000 = some x ∧ obBlk E 1000 x = some k) ∨ w.heap.size ≤ k := fun k hk => .inl ⟨_, hp, by simpa [obBlk] using hk⟩
  refine ⟨st, hi.step1 st (fun k o u hu => ?_) ⟨b, _, h1, hb, ⟨v, [x], rfl, he, x, [], rfl, hx, rfl⟩, h4⟩ (fun _ _ => rfl) hbd, fun _ _ => ⟨rfl, rfl⟩, fun p hp k hk => ?_⟩
  · have hc := hi.im k o u hu
    by_cases e : k = b
    · subst e; rw [h4] at hu; cases hu
    · rw [cell_same (hh k e)]; exact hc
  · simp only [List.mem_singleton] at hp
    subst hp
    exact (hbd k hk).imp (fun ⟨x, h1, h2⟩ => ⟨_, List.mem_singleton_self _, x, h1, h2⟩) id
theorem tc_two {E : Env} {w : World} {pre : Mem} {T : TypeId} {d e : D} (hi : Inv E (get pre) w) (hp : get pre 1000 = some (.tc T [d, e])) : ∃ b p x, E.blk 1000 = some b ∧ w.heap[b]? = some (.cells #[p, x] T (0, 0)) ∧ rel d E p ∧ rel e E x ∧ ∀ o, E.im b o = none := by
  obtain ⟨b, c, h1, h2, h3, h4⟩ := hi.ob 1000 _ hp
  obtain ⟨p, ws, e1, h5, x, ws2, e2, h6, h7⟩ := h3
  cases h7
  subst e2
  have : c = #[p, x] := by
    apply Array.ext'
    simpa using e1
  subst this
  exact ⟨b, p, x, h1, h2, h5, h6, h4⟩
theorem ref_one {E : Env} {vs : List Value} {b : Nat} (h : rels [.ref 1000 0] E vs) (h1 : E.blk 1000 = some b) : vs = [.pointer (some ⟨b, 0, none⟩)] := by
  obtain ⟨v, ws, e1, ⟨b', g1, g2⟩, e2⟩ := h
  cases e2
  rw [h1] at g1; injection g1 with g1; subst g1
  rw [e1, g2]
theorem X156 : Go.Proofs.Builder.Extra Tryz.prog Tryz.lays156_ren := Tryz.Builder_Extra_156
theorem pageLies : liesAt Tryz.prog Tryz.prog.depth 78 (2 / Tryz.prog.cellsOf 78) 0 (Tryz.lays156_ren.t 72) 1 = true := by kernel_rfl
theorem copyFresh (d : D) : PCall Tryz.prog 104 [(1000, .tc 78 [.v (.pointer none), d])] [.ref 1000 0] (.ret (.tup []) [(1000, .tc 78 [.ref 1000 0, d])]) := by
  refine ⟨⟨_, Tryz.func104, rfl, by decide⟩, fun E w vs hi hnew hr => ?_⟩
  obtain ⟨b, p, x, h1, h2, h3, h4, h5⟩ := tc_two hi rfl
  have h3 : p = .pointer none := h3
  subst h3
  rw [ref_one hr h1]
  refine Calls.mono (Bl.copy_fresh (ρ := Tryz.lays156_ren) { Tryz.lays156 with } X156.toX72 pageLies b w (by rw [Lib.cell_of_heap h2]; rfl) (by simp [World.shape?, h2]) (Lib.frozen_of_heap h2 0)) fun e w' he => ?_
  obtain ⟨rfl, rfl⟩ := he
  exact ⟨_, E, rfl, set_done hi rfl h1 h2 h4 ⟨b, h1, rfl⟩ h5, ⟨[], rfl, rfl⟩⟩
theorem copyUsed (d : D) : PCall Tryz.prog 104 [(1000, .tc 78 [.ref 1000 0, d])] [.ref 1000 0] (.ret (.tup []) []) := by
  refine ⟨⟨_, Tryz.func104, rfl, by decide⟩, fun E w vs hi hnew hr => ?_⟩
  obtain ⟨b, p, x, h1, h2, h3, h4, h5⟩ := tc_two hi rfl
  have h3 : p = .pointer (some ⟨b, 0, none⟩) := by
    obtain ⟨b', g1, g2⟩ := h3
    rw [h1] at g1; injection g1 with g1; subst g1
    exact g2
  subst h3
  rw [ref_one hr h1]
  refine Calls.mono (Bl.copy_used (ρ := Tryz.lays156_ren) { Tryz.lays156 with } X156.toX72 b w (by rw [Lib.cell_of_heap h2]; rfl)) fun e w' he => ?_
  obtain ⟨rfl, rfl⟩ := he
  exact ⟨_, E, rfl, Done.nil hi, ⟨[], rfl, rfl⟩⟩
theorem joinS (ws : List (List UInt8)) (hw : ws.length ≤ 100000) (hs : (joinW ws).length ≤ 100000) : PCall Tryz.prog 77 [] [.list 1 (strsD ws), .v (str [32])] (.ret (.v (str (joinW ws))) []) := by
  refine pcall_below ⟨_, Tryz.func77, rfl, by decide⟩ fun E w vs him hgl hr => ?_
  obtain ⟨v, vs1, e1, h1, s, vs2, e2, h2, e3⟩ := hr
  cases e3
  subst e1; subst e2
  have h2 : s = str [32] := h2
  subst h2
  refine ⟨_, rfl, ?_⟩
  obtain ⟨a, cap, e4, hl, _⟩ := id h1
  obtain ⟨a', cap', e5, hrow⟩ := strsAt_of him h1
  rw [e4] at e5
  injection e5 with e5 e6 e7
  subst e5; subst e7
  subst e4
  rw [strs_len] at hl ⊢
  by_cases hn : ws = []
  · subst hn
    exact (Tryz.strings_Join_none a cap _ w).mono fun e w' ⟨g1, g2⟩ => ⟨g1, g2 ▸ RowKit.Below.refl _ _⟩
  · obtain ⟨b, off, rfl, hb, hc⟩ := hrow hn
    have hm : (ws.map fun x => (⟨x.toArray⟩ : ByteArray)).map (·.data.toList) = ws := by
      rw [List.map_map]
      exact List.map_id'' (fun x => by simp) ws
    have := Tryz.strings_Join b off cap (ws.map fun x => ⟨x.toArray⟩) ⟨[32].toArray⟩ w (fun j x hx => ?_) hb (by simp; omega) (by simpa using hl) (by rw [hm]; show (joinW ws).length ≤ _; omega)
    · rw [hm] at this
      rw [List.length_map] at this
      exact this
    · rw [List.getElem?_map, Option.map_eq_some_iff] at hx
      obtain ⟨z, hz, rfl⟩ := hx
      have hj : j < ws.length := (List.getElem?_eq_some_iff.1 hz).1
      rw [hc j hj, hz]
      rfl
end Tryz
end Go.Dm
namespace Go.Dm
theorem byD_app (a b : List UInt8) : byD a ++ byD b = byD (a ++ b) := by simp [byD]
theorem byD_ne {s : List UInt8} (h : s ≠ []) : byD s ≠ [] := by
  intro e
  have := congrArg List.length e
  rw [byD_length] at this
  exact h (List.eq_nil_of_length_eq_zero this)
namespace Tryz
open Go.Proofs
set_option maxHeartbeats 4000000 in
theorem writeFirst (s : List UInt8) (hs : s ≠ []) (hl : s.length ≤ 100000000) : PCall Tryz.prog 76 [(1000, .tc 78 [.v (.pointer none), .v (.slice none 0 0)])] [.ref 1000 0, .v (str s)]
    (.ret (.tup [.v (.int .i64 s.length), .v .nilIface]) [(1000, .tc 78 [.ref 1000 0, .row 14 s.length]), (14, .row 5 1 (byD s))]) := by
  have hlen : ((s.length : Nat) : Int) = ((⟨s.toArray⟩ : ByteArray).size : Int) := by show ((s.length : Nat) : Int) = ((s.toArray.size : Nat) : Int); simp
  refine pcall_ofR (news := [14]) cxOK Tryz.func76 rfl Tryz.ntmps76 rfl rfl rfl (by decide) ?_
  repeat' ((conv => whnf); first | exact trivial | refine xB ?_ | refine xY ?_ | refine xN ?_ | refine sM ?_ ?_ <;> intro _ | refine xC ?_ | refine And.intro ?_ ?_ | exact Or.inl ⟨rfl, rfl⟩ | exact rfl)
  all_goals (conv => whnf)
  refine callM (copyFresh _) ⟨rfl, trivial⟩ rfl ?_
  repeat' ((conv => whnf); first | exact trivial | refine xB ?_ | refine xY ?_ | refine xN ?_ | refine sM ?_ ?_ <;> intro _ | refine xC ?_ | refine And.intro ?_ ?_ | exact Or.inl ⟨rfl, rfl⟩ | exact rfl)
  all_goals (conv => whnf)
  refine AppG.to s.length (byD s) ?_ ?_ ⟨?_, ?_, ?_⟩
  · show (byD s).length ≤ _
    rw [byD_length]; omega
  · exact byD_ne hs
  · exact (byD_length s).symm
  · rfl
  repeat' ((conv => whnf); first | exact trivial | refine xB ?_ | refine xY ?_ | refine xN ?_ | refine sM ?_ ?_ <;> intro _ | refine xC ?_ | refine And.intro ?_ ?_ | exact Or.inl ⟨rfl, rfl⟩ | exact rfl)
  all_goals (conv => whnf)
theorem writeNext (b s : List UInt8) (hs : s ≠ []) (hl : b.length + s.length ≤ 100000000) : PCall Tryz.prog 76 [(1000, .tc 78 [.ref 1000 0, .row 1001 b.length]), (1001, .row 5 1 (byD b))] [.ref 1000 0, .v (str s)]
    (.ret (.tup [.v (.int .i64 s.length), .v .nilIface]) [(1000, .tc 78 [.ref 1000 0, .row 1001 (b ++ s).length]), (1001, .row 5 1 (byD (b ++ s)))]) := by
  refine pcall_ofR (news := []) cxOK Tryz.func76 rfl Tryz.ntmps76 rfl rfl rfl (by decide) ?_
  repeat' ((conv => whnf); first | exact trivial | refine xB ?_ | refine xY ?_ | refine xN ?_ | refine sM ?_ ?_ <;> intro _ | refine xC ?_ | refine And.intro ?_ ?_ | exact Or.inl ⟨rfl, rfl⟩ | exact rfl)
  all_goals (conv => whnf)
  refine callM (copyUsed _) ⟨rfl, trivial⟩ rfl ?_
  repeat' ((conv => whnf); first | exact trivial | refine xB ?_ | refine xY ?_ | refine xN ?_ | refine sM ?_ ?_ <;> intro _ | refine xC ?_ | refine And.intro ?_ ?_ | exact Or.inl ⟨rfl, rfl⟩ | exact rfl)
  all_goals (conv => whnf)
  refine AppG.to (b ++ s).length (byD (b ++ s)) ?_ ?_ ⟨?_, ?_, ?_⟩
  · refine ⟨rfl, rfl, (byD_length b).symm, ?_⟩
    show (byD b).length + (byD s).length ≤ _
    rw [byD_length, byD_length]; omega
  · exact byD_ne hs
  · show (b ++ s).length = b.length + (byD s).length
    rw [byD_length, List.length_append]
  · exact (byD_app b s).symm
  repeat' ((conv => whnf); first | exact trivial | refine xB ?_ | refine xY ?_ | refine xN ?_ | refine sM ?_ ?_ <;> intro _ | refine xC ?_ | refine And.intro ?_ ?_ | exact Or.inl ⟨rfl, rfl⟩ | exact rfl)
  all_goals (conv => whnf)
theorem pageLen (n : Nat) (xs : List (List D)) (hn : n ≤ xs.length) (T : Nat) : PCall Tryz.prog 48 [(1000, .tc T [.ref 1000 0, .row 1001 n]), (1001, .row 5 1 xs)] [.ref 1000 0]
    (.ret (.v (.int .i64 n)) [(1000, .tc T [.ref 1000 0, .row 1001 n]), (1001, .row 5 1 xs)]) := by
  refine pcall_ofR (news := []) cxOK Tryz.func48 rfl Tryz.ntmps48 rfl rfl rfl (by decide) ?_
  repeat' ((conv => whnf); first | exact trivial | refine xB ?_ | refine xY ?_ | refine xN ?_ | refine sM ?_ ?_ <;> intro _ | refine xC ?_ | refine And.intro ?_ ?_ | exact Or.inl ⟨rfl, rfl⟩ | exact rfl)
  all_goals (conv => whnf)
  exact hn
theorem freeze_cell (w : World) (a : Addr) (n b o : Nat) : (w.freeze a n).cell? ⟨b, o, none⟩ = w.cell? ⟨b, o, none⟩ := by
  unfold World.freeze
  split
  · rfl
  · simp only [World.cell?, Array.getElem?_modify]
    by_cases e : a.block = b
    · rw [if_pos e]
      cases h : w.heap[b]? with
      | none => rfl
      | some x =>
        cases x with
        | cells c e f => obtain ⟨lo, hi⟩ := f; rfl
        | _ => rfl
    · rw [if_neg e]
theorem freeze_other (w : World) (a : Addr) (n k : Nat) (h : k ≠ a.block) : (w.freeze a n).heap[k]? = w.heap[k]? := by
  unfold World.freeze
  split
  · rfl
  · simp only [Array.getElem?_modify]
    rw [if_neg (fun e => h e.symm)]
theorem freeze_size (w : World) (a : Addr) (n : Nat) : (w.freeze a n).heap.size = w.heap.size := by
  unfold World.freeze
  split
  · rfl
  · simp
theorem freeze_os (w : World) (a : Addr) (n : Nat) : (w.freeze a n).os = w.os ∧ (w.freeze a n).tape = w.tape ∧ (w.freeze a n).output = w.output := by
  unfold World.freeze
  split <;> exact ⟨rfl, rfl, rfl⟩
theorem pageString (b : List UInt8) (hb : b ≠ []) : PCall Tryz.prog 49 [(1000, .tc 78 [.ref 1000 0, .row 1001 b.length]), (1001, .row 5 1 (byD b))] [.ref 1000 0]
    (.ret (.v (str b)) [(1001, .dead)]) := by
  refine ⟨⟨_, Tryz.func49, rfl, by decide⟩, fun E w vs hi hnew hr => ?_⟩
  obtain ⟨k, p, x, h1, h2, h3, h4, h5⟩ := tc_two hi rfl
  rw [ref_one hr h1]
  have ho := hi.ob 1001 _ rfl
  obtain ⟨h6, h7⟩ := h4
  have hbl : (byD b).length = b.length := byD_length b
  have hrel := (ho.1 _ _ h6).2
  obtain ⟨a, cap, e1, e2, e3⟩ := hrel
  have htk : (byD b).take b.length = byD b := List.take_of_length_le (by omega)
  rw [htk] at e1 e2 e3
  obtain ⟨g, off, e4, e5⟩ := e3 (byD_ne hb)
  rw [hbl] at e1 e2
  rcases ho.2 with ⟨_, e6⟩ | ⟨g', cur, cap', e6, e7, e8, e9, e10, e11⟩
  · exact absurd e6 (byD_ne hb)
  rw [hbl, h6, e1] at e6
  injection e6 with e6
  injection e6 with e6 _ e12
  subst e12
  rw [e4] at e6
  injection e6 with e6
  injection e6 with e6 e13
  subst e6; subst e13
  subst e4
  subst e1
  have hcell : ∀ (j : Nat) (c : UInt8), b[j]? = some c → w.cell? ⟨g, j, none⟩ = some (.int .u8 c.toNat) := by
    intro j c hj
    have hlt : j < b.length := (List.getElem?_eq_some_iff.1 hj).1
    have := relRow_byD e5 j hlt
    rw [Nat.zero_add] at this
    have := hi.im g j _ this
    rw [this]
    simp [hj]
  have hown : ownOf E (get [(1000, .tc 78 [.ref 1000 0, .row 1001 b.length]), (1001, .row 5 1 (byD b))]) [(1001, .dead)] g := ⟨_, List.mem_singleton_self _, _, rfl, by simp [obBlk, hbl, h6, hdrBlk]⟩
  refine Calls.mono (Bl.string (ρ := Tryz.lays156_ren) { Tryz.lays156 with } X156 (T := 78) k b w p g cap cur h2 e7 (by omega) e10 (by omega) hcell hb) fun e w' he => ?_
  obtain ⟨rfl, rfl⟩ := he
  obtain ⟨f1, f2, f3⟩ := freeze_os w.drew ⟨g, 0, none⟩ b.length
  refine ⟨_, E, rfl, ⟨⟨.refl E, by rw [freeze_size]; exact Nat.le_refl _, fun q hq hno => ?_, fun q o u hu => .inl hu, f1, f2, f3⟩, ?_, fun _ _ => ⟨rfl, rfl⟩, fun q hq z hz => ?_⟩, rfl⟩
  · by_cases e : q = g
    · subst e; exact absurd hown hno
    · exact freeze_other w.drew ⟨g, 0, none⟩ b.length q e
  · refine ⟨fun q o u hu => ?_, fun id y hy => ?_, fun i j y z q hy hz hyb hzb => ?_, hi.gl⟩
    · rw [freeze_cell]; exact hi.im q o u hu
    · rw [upds_cons, upds_nil] at hy
      split at hy
      · injection hy with hy; subst hy; trivial
      · rename_i hne
        rw [get_cons] at hy
        split at hy
        · rename_i e; subst e
          injection hy with hy; subst hy
          have hkg : k ≠ g := by
            intro e
            subst e
            have := hi.sep 1000 1001 _ _ k rfl rfl (by simp [obBlk, h1]) (by simp [obBlk, hbl, h6, hdrBlk])
            omega
          refine ⟨k, _, h1, (freeze_other w.drew ⟨g, 0, none⟩ b.length k hkg).trans h2, ⟨p, [_], rfl, h3, _, [], rfl, ⟨h6, h7⟩, rfl⟩, h5⟩
        · rw [get_cons] at hy
          split at hy
          · rename_i e; exact absurd e hne
          · cases hy
    · rw [upds_cons, upds_nil] at hy hz
      split at hy
      · injection hy with hy; subst hy; cases hyb
      · split at hz
        · injection hz with hz; subst hz; cases hzb
        · exact hi.sep i j y z q hy hz hyb hzb
  · simp only [List.mem_singleton] at hq
    subst hq
    cases hz
end Tryz
end Go.Dm
namespace Go.Dm
theorem KSCat.str {K : Kont} {a b : List UInt8} (h : a.length + b.length ≤ 9223372036854775807) (hK : KV K (Dm.str (a ++ b))) : KSCat K ⟨a.toArray⟩ ⟨b.toArray⟩ := by
  refine ⟨?_, ?_⟩
  · show a.toArray.size + b.toArray.size ≤ _
    simpa using h
  · have e : (⟨a.toArray⟩ : ByteArray) ++ ⟨b.toArray⟩ = ⟨(a ++ b).toArray⟩ := by
      apply ByteArray.ext
      simp [ByteArray.data_append]
    rw [e]; exact hK
theorem outS_ne (ws : List (List UInt8)) : outS ws ≠ [] := by simp [outS]
namespace Tryz
open Go.Proofs
set_option maxHeartbeats 4000000 in
theorem lineFirst (ws : List (List UInt8)) (hw : ws.length ≤ 100000) (hs : (joinW ws).length ≤ 100000) : PCall Tryz.prog 45 [(1000, .tc 78 [.v (.pointer none), .v (.slice none 0 0)])] [.ref 1000 0, .list 1 (strsD ws)]
    (.ret (.tup []) [(1000, .tc 78 [.ref 1000 0, .row 10 (outS ws).length]), (10, .row 5 1 (byD (outS ws)))]) := by
  have hl : (outS ws).length = (joinW ws).length + 1 := by simp [outS]
  refine pcall_ofR (news := [10]) cxOK Tryz.func45 rfl Tryz.ntmps45 rfl rfl rfl (by decide) ?_
  repeat' ((conv => whnf); first | exact trivial | refine xB ?_ | refine xY ?_ | refine xN ?_ | refine sM ?_ ?_ <;> intro _ | refine xC ?_ | refine And.intro ?_ ?_ | exact Or.inl ⟨rfl, rfl⟩ | exact rfl)
  all_goals (conv => whnf)
  refine call0 (joinS ws hw hs) ?_
  repeat' ((conv => whnf); first | exact trivial | refine xB ?_ | refine xY ?_ | refine xN ?_ | refine sM ?_ ?_ <;> intro _ | refine xC ?_ | refine And.intro ?_ ?_ | exact Or.inl ⟨rfl, rfl⟩ | exact rfl)
  all_goals (conv => whnf)
  refine KSCat.str (by simp; omega) ?_
  conv => whnf
  refine callM ((writeFirst (outS ws) (outS_ne ws) (by omega)).swap 14 10) ⟨rfl, trivial⟩ rfl ?_
  repeat' ((conv => whnf); first | refine xB ?_ | refine xC ?_ | refine xI ?_ | refine xY ?_ | refine xN ?_ | refine sM ?_ ?_ <;> intro _)
  all_goals (conv => whnf)
  exact ⟨trivial, ⟨rfl, .inl ⟨rfl, rfl⟩, .inl ⟨rfl, rfl⟩, trivial⟩, rfl, trivial⟩
theorem lineNext (b : List UInt8) (ws : List (List UInt8)) (hw : ws.length ≤ 100000) (hs : (joinW ws).length ≤ 100000) (hb : b.length ≤ 10000000) : PCall Tryz.prog 45 [(1000, .tc 78 [.ref 1000 0, .row 1001 b.length]), (1001, .row 5 1 (byD b))] [.ref 1000 0, .list 1 (strsD ws)]
    (.ret (.tup []) [(1000, .tc 78 [.ref 1000 0, .row 1001 (b ++ outS ws).length]), (1001, .row 5 1 (byD (b ++ outS ws)))]) := by
  have hl : (outS ws).length = (joinW ws).length + 1 := by simp [outS]
  refine pcall_ofR (news := []) cxOK Tryz.func45 rfl Tryz.ntmps45 rfl rfl rfl (by decide) ?_
  repeat' ((conv => whnf); first | exact trivial | refine xB ?_ | refine xY ?_ | refine xN ?_ | refine sM ?_ ?_ <;> intro _ | refine xC ?_ | refine And.intro ?_ ?_ | exact Or.inl ⟨rfl, rfl⟩ | exact rfl)
  all_goals (conv => whnf)
  refine call0 (joinS ws hw hs) ?_
  repeat' ((conv => whnf); first | exact trivial | refine xB ?_ | refine xY ?_ | refine xN ?_ | refine sM ?_ ?_ <;> intro _ | refine xC ?_ | refine And.intro ?_ ?_ | exact Or.inl ⟨rfl, rfl⟩ | exact rfl)
  all_goals (conv => whnf)
  refine KSCat.str (by simp; omega) ?_
  conv => whnf
  refine callM (writeNext b (outS ws) (outS_ne ws) (by omega)) ⟨rfl, rfl, trivial⟩ rfl ?_
  repeat' ((conv => whnf); first | refine xB ?_ | refine xC ?_ | refine xI ?_ | refine xY ?_ | refine xN ?_ | refine sM ?_ ?_ <;> intro _)
  all_goals (conv => whnf)
  exact ⟨trivial, ⟨rfl, .inl ⟨rfl, rfl⟩, .inl ⟨rfl, rfl⟩, trivial⟩, rfl, trivial⟩
end Tryz
end Go.Dm
namespace Go.Dm
structure TInv (b : BS) : Prop where
  ln : b.terms.length ≤ 24
  nd : (b.terms.map TermS.name).Nodup
  tp : ∀ t ∈ b.terms, namedS t.name = true ∧ (0 ≤ t.level ∧ t.level ≤ b.levels) ∧ (0 ≤ t.assoc ∧ t.assoc ≤ 3) ∧ (t.level = 0 ↔ t.assoc = 0)
  lv : ∀ t ∈ b.terms, ∀ u ∈ b.terms, t.level ≠ 0 → t.level = u.level → t.assoc = u.assoc
def Full (b : BS) (m : Int) : Prop := ∀ k : Int, 1 ≤ k → k ≤ m → ∃ t ∈ b.terms, t.level = k
def SameBut (b c : BS) : Prop := c.nons = b.nons ∧ c.rules = b.rules ∧ c.start = b.start ∧ c.levels = b.levels
theorem addS_cases {b : BS} {r : RefS} {p : Int × BS} (h : addS b r = .ok p) :
    (p.2 = b ∧ p.1 = termIx b.terms r.text ∧ 0 ≤ p.1) ∨ (termIx b.terms r.text < 0 ∧ p.1 = b.terms.length ∧ p.2 = { b with terms := b.terms ++ [⟨r.text, 0, 0⟩] } ∧ b.terms.length ≠ 24) := by
  unfold addS at h
  split at h
  · rename_i h1
    have h1 := decT h1
    injection h with h; subst h
    exact .inl ⟨rfl, rfl, h1⟩
  · rename_i h1
    have h1 := decF h1
    split at h
    · cases h
    · rename_i h2
      injection h with h; subst h
      exact .inr ⟨by omega, rfl, rfl, decF h2⟩
theorem addS_same {b : BS} {r : RefS} {p : Int × BS} (h : addS b r = .ok p) : SameBut b p.2 ∧ (∀ t ∈ b.terms, t ∈ p.2.terms) ∧ b.terms.length ≤ p.2.terms.length ∧ ∀ t ∈ p.2.terms, t ∈ b.terms ∨ t = ⟨r.text, 0, 0⟩ := by
  rcases addS_cases h with ⟨h1, _, _⟩ | ⟨_, _, h1, _⟩
  · rw [h1]; exact ⟨⟨rfl, rfl, rfl, rfl⟩, fun _ h => h, Nat.le_refl _, fun t h => .inl h⟩
  · rw [h1]
    exact ⟨⟨rfl, rfl, rfl, rfl⟩, fun t h => List.mem_append_left _ h, by simp, fun t h => by simpa using h⟩
theorem termIx_names {l : List TermS} {s : List UInt8} (h : termIx l s < 0) : s ∉ l.map TermS.name := by
  rw [termIx_none] at h
  intro hm
  obtain ⟨t, ht, e⟩ := List.mem_map.1 hm
  exact h t ht e
theorem addS_inv {b : BS} {r : RefS} {p : Int × BS} (hn : namedS r.text = true) (hb : TInv b) (h : addS b r = .ok p) : TInv p.2 := by
  rcases addS_cases h with ⟨h1, _, _⟩ | ⟨h0, _, h1, h24⟩
  · rw [h1]; exact hb
  · rw [h1]
    refine ⟨by have := hb.ln; simp; omega, ?_, fun t ht => ?_, fun t ht u hu hl he => ?_⟩
    · simp only [List.map_append, List.map_cons, List.map_nil]
      rw [List.nodup_append]
      refine ⟨hb.nd, by simp, fun a ha b' hb' e => ?_⟩
      simp only [List.mem_singleton] at hb'
      subst hb'; subst e
      exact termIx_names h0 ha
    · simp only [List.mem_append, List.mem_singleton] at ht
      rcases ht with ht | rfl
      · exact hb.tp t ht
      · exact ⟨hn, ⟨Int.le_refl _, by simp⟩, ⟨Int.le_refl _, by simp⟩, by simp⟩
    · simp only [List.mem_append, List.mem_singleton] at ht hu
      rcases ht with ht | rfl
      · rcases hu with hu | rfl
        · exact hb.lv t ht u hu hl he
        · exact absurd he hl
      · exact absurd rfl hl
theorem addS_full {b : BS} {r : RefS} {p : Int × BS} {m : Int} (hf : Full b m) (h : addS b r = .ok p) : Full p.2 m := fun k h1 h2 => by
  obtain ⟨t, ht, e⟩ := hf k h1 h2
  exact ⟨t, (addS_same h).2.1 t ht, e⟩
theorem termIx_at {l : List TermS} {s : List UInt8} (h : 0 ≤ termIx l s) : ∃ t, l[(termIx l s).toNat]? = some t ∧ t.name = s := by
  have key : ∀ (l : List TermS) (k : Nat), 0 ≤ idxS (fun t : TermS => decide (t.name = s)) l k → ∃ t, l[(idxS (fun t : TermS => decide (t.name = s)) l k - k).toNat]? = some t ∧ t.name = s ∧ (k : Int) ≤ idxS (fun t : TermS => decide (t.name = s)) l k := by
    intro l
    induction l with
    | nil => intro k h; simp [idxS] at h
    | cons x r ih =>
      intro k h
      by_cases hx : x.name = s
      · simp only [idxS, decide_eq_true hx]
        exact ⟨x, by simp, hx, Int.le_refl _⟩
      · simp only [idxS, decide_eq_false hx] at h ⊢
        obtain ⟨t, h1, h2, h3⟩ := ih (k + 1) h
        refine ⟨t, ?_, h2, by omega⟩
        generalize idxS (fun t : TermS => decide (t.name = s)) r (k + 1) = j at *
        rw [show (j - (k : Int)).toNat = (j - ((k + 1 : Nat) : Int)).toNat + 1 by omega]
        simpa using h1
  obtain ⟨t, h1, h2, _⟩ := key l 0 h
  exact ⟨t, by simpa [termIx] using h1, h2⟩
theorem precede_step {b c : BS} {r : RefS} {a m : Int} (hn : namedS r.text = true) (hb : TInv b) (h1 : 1 ≤ b.levels) (ha : 1 ≤ a ∧ a ≤ 3) (hc : ∀ t ∈ b.terms, t.level = b.levels → t.assoc = a) (hf : Full b m) (h : precedeS b r a = .ok c) :
    TInv c ∧ (∀ t ∈ c.terms, t.level = b.levels → t.assoc = a) ∧ Full c m ∧ (∃ t ∈ c.terms, t.level = b.levels) ∧ SameBut b c := by
  unfold precedeS at h
  split at h
  · cases h
  rename_i h0
  cases hp : addS b r with
  | error w => rw [hp] at h; cases h
  | ok p =>
    rw [hp] at h
    simp only at h
    injection h with h
    have hi := addS_inv hn hb hp
    obtain ⟨s1, s2, s3, s4⟩ := (addS_same hp).1
    -- the terminal that is given a level had none
    obtain ⟨q, x, hq, hx, hx0⟩ : ∃ (q : Nat) (x : TermS), p.1.toNat = q ∧ p.2.terms[q]? = some x ∧ x.level = 0 := by
      rcases addS_cases hp with ⟨e1, e2, e3⟩ | ⟨e1, e2, e3, _⟩
      · obtain ⟨t, ht, _⟩ := termIx_at (l := b.terms) (s := r.text) (by rw [← e2]; exact e3)
        refine ⟨_, t, rfl, by rw [e1, e2]; exact ht, ?_⟩
        have h5 := (hb.tp t (List.mem_of_getElem? ht)).2.1.1
        rw [show decide (termIx b.terms r.text ≥ 0) = true from decide_eq_true (by omega)] at h0
        simp only [Bool.true_and, decide_eq_false_iff_not, levelAt, ht] at h0
        omega
      · refine ⟨b.terms.length, ⟨r.text, 0, 0⟩, by rw [e2]; simp, by rw [e3]; simp, rfl⟩
    have hql : q < p.2.terms.length := (List.getElem?_eq_some_iff.1 hx).1
    have hxe : p.2.terms[q] = x := (List.getElem?_eq_some_iff.1 hx).2
    have hpl : putLevel p.2.terms p.1.toNat p.2.levels a = p.2.terms.set q ⟨x.name, p.2.levels, a⟩ := by rw [hq, putLevel_eq hql, hxe]
    have hterms : c.terms = p.2.terms.set q ⟨x.name, p.2.levels, a⟩ := by rw [← h]; exact hpl
    have hrest : c.nons = p.2.nons ∧ c.rules = p.2.rules ∧ c.start = p.2.start ∧ c.levels = p.2.levels := by rw [← h]; exact ⟨rfl, rfl, rfl, rfl⟩
    have hmem : ∀ t ∈ c.terms, t = ⟨x.name, p.2.levels, a⟩ ∨ t ∈ p.2.terms := fun t ht => by
      rw [hterms] at ht
      exact (List.mem_or_eq_of_mem_set ht).symm
    have hcur : ∀ t ∈ p.2.terms, t.level = b.levels → t.assoc = a := fun t ht hl => by
      rcases (addS_same hp).2.2.2 t ht with h5 | rfl
      · exact hc t h5 hl
      · simp only at hl; omega
    have hnew : (⟨x.name, p.2.levels, a⟩ : TermS) ∈ c.terms := by rw [hterms]; exact List.mem_set hql _
    have hkeep : ∀ t ∈ p.2.terms, t.level ≠ 0 → t ∈ c.terms := fun t ht hl => by
      rw [hterms]
      obtain ⟨i, hi', e⟩ := List.getElem_of_mem ht
      have hne : q ≠ i := by
        intro e2; subst e2
        rw [hxe] at e; subst e
        exact hl hx0
      rw [← e]
      rw [List.mem_iff_getElem]
      exact ⟨i, by simpa using hi', by rw [List.getElem_set_ne hne]⟩
    refine ⟨⟨by rw [hterms, List.length_set]; exact hi.ln, ?_, fun t ht => ?_, fun t ht u hu hl he => ?_⟩, fun t ht hl => ?_, fun k hk1 hk2 => ?_, ⟨_, hnew, by simp only; rw [s4]⟩, ⟨hrest.1.trans s1, hrest.2.1.trans s2, hrest.2.2.1.trans s3, hrest.2.2.2.trans s4⟩⟩
    · have : c.terms.map TermS.name = p.2.terms.map TermS.name := by
        rw [hterms, List.map_set]
        apply List.ext_getElem
        · simp
        · intro i h2 h3
          by_cases e : q = i
          · subst e; simp [hxe]
          · rw [List.getElem_set_ne e]
      rw [this]; exact hi.nd
    · rcases hmem t ht with rfl | ht
      · have h6 := (hi.tp x (List.mem_of_getElem? hx)).1
        exact ⟨h6, ⟨by simp only; omega, by simp only; rw [hrest.2.2.2]; exact Int.le_refl _⟩, ⟨by simp only; omega, ha.2⟩, by simp only; omega⟩
      · have := hi.tp t ht
        exact ⟨this.1, ⟨this.2.1.1, by rw [hrest.2.2.2]; exact this.2.1.2⟩, this.2.2⟩
    · rcases hmem t ht with rfl | ht
      · rcases hmem u hu with rfl | hu
        · rfl
        · exact (hcur u hu (by rw [← he]; simp only; rw [s4])).symm
      · rcases hmem u hu with rfl | hu
        · exact hcur t ht (by rw [he]; simp only; rw [s4])
        · exact hi.lv t ht u hu hl he
    · rcases hmem t ht with rfl | ht
      · rfl
      · exact hcur t ht hl
    · obtain ⟨t, ht, e⟩ := hf k hk1 hk2
      exact ⟨t, hkeep t ((addS_same hp).2.1 t ht) (by omega), e⟩
theorem names_prec : ∀ (rs : List RefS) {b c : BS} {k : Nat} {a m : Int}, (k = 4 ∧ a = 1 ∨ k = 5 ∧ a = 2 ∨ k = 6 ∧ a = 3) → TInv b → 1 ≤ b.levels → (∀ t ∈ b.terms, t.level = b.levels → t.assoc = a) → Full b m → namesB b k rs = .ok c →
    TInv c ∧ Full c m ∧ ((rs ≠ [] ∨ ∃ t ∈ b.terms, t.level = b.levels) → ∃ t ∈ c.terms, t.level = b.levels) ∧ SameBut b c
  | [], b, c, k, a, m, hk, hb, h1, hc, hf, h => by
    injection h with h; subst h
    exact ⟨hb, hf, fun x => x.elim (fun y => absurd rfl y) id, rfl, rfl, rfl, rfl⟩
  | r :: rs, b, c, k, a, m, hk, hb, h1, hc, hf, h => by
    simp only [namesB] at h
    cases hn : nameB b k r with
    | error w => rw [hn] at h; cases h
    | ok b' =>
      rw [hn] at h
      simp only at h
      have hstep : namedS r.text = true ∧ precedeS b r a = .ok b' := by
        unfold nameB at hn
        split at hn
        · cases hn
        · rename_i hnm
          rw [Bool.and_eq_true] at hnm
          refine ⟨hnm.1, ?_⟩
          rcases hk with ⟨rfl, rfl⟩ | ⟨rfl, rfl⟩ | ⟨rfl, rfl⟩ <;> simpa using hn
      obtain ⟨g1, g2, g3, g4, g5⟩ := precede_step hstep.1 hb h1 (by omega) hc hf hstep.2
      have e := g5.2.2.2
      obtain ⟨k1, k2, k3, k4⟩ := names_prec rs hk g1 (by rw [e]; exact h1) (by rw [e]; exact g2) g3 h
      rw [e] at k3
      exact ⟨k1, k2, fun _ => k3 (.inr g4), k4.1.trans g5.1, k4.2.1.trans g5.2.1, k4.2.2.1.trans g5.2.2.1, k4.2.2.2.trans e⟩
theorem names_plain : ∀ (rs : List RefS) {b c : BS} {k : Nat} {m : Int}, (k = 3 ∨ k = 7) → TInv b → Full b m → namesB b k rs = .ok c → TInv c ∧ Full c m ∧ SameBut b c
  | [], b, c, k, m, hk, hb, hf, h => by
    injection h with h; subst h
    exact ⟨hb, hf, rfl, rfl, rfl, rfl⟩
  | r :: rs, b, c, k, m, hk, hb, hf, h => by
    simp only [namesB] at h
    cases hn : nameB b k r with
    | error w => rw [hn] at h; cases h
    | ok b' =>
      rw [hn] at h
      simp only at h
      have hstep : TInv b' ∧ Full b' m ∧ SameBut b b' := by
        unfold nameB at hn
        split at hn
        · cases hn
        · rename_i hnm
          rw [Bool.and_eq_true] at hnm
          rcases hk with rfl | rfl
          · have hn : (match b.tokens.contains r.text with | true => Except.error (r.at', 7) | false => match addS { b with tokens := b.tokens ++ [r.text] } r with | .error w => .error w | .ok p => .ok p.2) = Except.ok b' := hn
            split at hn
            · cases hn
            · cases hp : addS { b with tokens := b.tokens ++ [r.text] } r with
              | error w => rw [hp] at hn; cases hn
              | ok p =>
                rw [hp] at hn
                injection hn with hn; subst hn
                have hb2 : TInv { b with tokens := b.tokens ++ [r.text] } := ⟨hb.ln, hb.nd, hb.tp, hb.lv⟩
                exact ⟨addS_inv hnm.1 hb2 hp, addS_full (b := { b with tokens := b.tokens ++ [r.text] }) hf hp, (addS_same hp).1⟩
          · have hn : (match b.starts with | [] => Except.ok { b with starts := [r] } | _ :: _ => .error (r.at', 7)) = Except.ok b' := hn
            split at hn
            · injection hn with hn; subst hn
              exact ⟨⟨hb.ln, hb.nd, hb.tp, hb.lv⟩, hf, rfl, rfl, rfl, rfl⟩
            · cases hn
      obtain ⟨k1, k2, k4⟩ := names_plain rs hk hstep.1 hstep.2.1 h
      have g5 := hstep.2.2
      exact ⟨k1, k2, k4.1.trans g5.1, k4.2.1.trans g5.2.1, k4.2.2.1.trans g5.2.2.1, k4.2.2.2.trans g5.2.2.2⟩
theorem declB_inv {b c : BS} {d : DeclS} (hk : 3 ≤ d.kind ∧ d.kind ≤ 7) (hne : d.names ≠ []) (hb : TInv b) (hf : Full b b.levels) (h : declB b d = .ok c) :
    TInv c ∧ Full c c.levels ∧ c.nons = b.nons ∧ c.rules = b.rules ∧ c.start = b.start := by
  unfold declB upB at h
  by_cases h37 : d.kind = 3 ∨ d.kind = 7
  · have e : (decide (d.kind = 3) || decide (d.kind = 7)) = true := by rcases h37 with e | e <;> simp [e]
    rw [e] at h
    simp only at h
    obtain ⟨k1, k2, k3⟩ := names_plain d.names h37 hb hf h
    exact ⟨k1, by rw [k3.2.2.2]; exact k2, k3.1, k3.2.1, k3.2.2.1⟩
  · have e : (decide (d.kind = 3) || decide (d.kind = 7)) = false := by
      rw [Bool.or_eq_false_iff]
      exact ⟨decide_eq_false fun x => h37 (.inl x), decide_eq_false fun x => h37 (.inr x)⟩
    rw [e] at h
    simp only at h
    have hb2 : TInv { b with levels := b.levels + 1 } := ⟨hb.ln, hb.nd, fun t ht => by
      have := hb.tp t ht
      exact ⟨this.1, ⟨this.2.1.1, by have := this.2.1.2; simp only; omega⟩, this.2.2⟩, hb.lv⟩
    obtain ⟨a, ha⟩ : ∃ a : Int, d.kind = 4 ∧ a = 1 ∨ d.kind = 5 ∧ a = 2 ∨ d.kind = 6 ∧ a = 3 := by
      have : d.kind = 4 ∨ d.kind = 5 ∨ d.kind = 6 := by omega
      rcases this with e | e | e
      · exact ⟨1, .inl ⟨e, rfl⟩⟩
      · exact ⟨2, .inr (.inl ⟨e, rfl⟩)⟩
      · exact ⟨3, .inr (.inr ⟨e, rfl⟩)⟩
    obtain ⟨k1, k2, k3, k4⟩ := names_prec d.names (m := b.levels) ha hb2 (by simp) (fun t ht hl => by
      have := (hb.tp t ht).2.1.2
      simp only at hl
      omega) hf h
    have hl : c.levels = b.levels + 1 := k4.2.2.2
    refine ⟨k1, fun k h1 h2 => ?_, k4.1, k4.2.1, k4.2.2.1⟩
    by_cases e : k = b.levels + 1
    · obtain ⟨t, ht, e2⟩ := k3 (.inl hne)
      exact ⟨t, ht, by rw [e2, e]; simp⟩
    · exact k2 k h1 (by rw [hl] at h2; omega)
theorem declsB_inv : ∀ (ds : List DeclS) {b c : BS}, (∀ d ∈ ds, (3 ≤ d.kind ∧ d.kind ≤ 7) ∧ d.names ≠ []) → TInv b → Full b b.levels → declsB b ds = .ok c → TInv c ∧ Full c c.levels ∧ c.nons = b.nons ∧ c.rules = b.rules ∧ c.start = b.start
  | [], b, c, hd, hb, hf, h => by
    injection h with h; subst h
    exact ⟨hb, hf, rfl, rfl, rfl⟩
  | d :: ds, b, c, hd, hb, hf, h => by
    simp only [declsB] at h
    cases hx : declB b d with
    | error w => rw [hx] at h; cases h
    | ok b' =>
      rw [hx] at h
      have h0 := hd d (by simp)
      obtain ⟨g1, g2, g3, g4, g5⟩ := declB_inv h0.1 h0.2 hb hf hx
      obtain ⟨k1, k2, k3, k4, k5⟩ := declsB_inv ds (fun d hm => hd d (by simp [hm])) g1 g2 h
      exact ⟨k1, k2, k3.trans g3, k4.trans g4, k5.trans g5⟩
end Go.Dm
namespace Go.Dm
theorem strIx_le {l : List (List UInt8)} {s : List UInt8} {q : Nat} (h : l[q]? = some s) : strIx l s ≤ q := by
  have key : ∀ (l : List (List UInt8)) (s : List UInt8) (k q : Nat), l[q]? = some s → idxS (fun x => decide (s = x)) l k ≤ (q + k : Nat) := by
    intro l
    induction l with
    | nil => intro s k q h; simp at h
    | cons x r ih =>
      intro s k q h
      cases q with
      | zero =>
        simp only [List.getElem?_cons_zero, Option.some.injEq] at h
        subst h
        simp [idxS]
      | succ q =>
        simp only [List.getElem?_cons_succ] at h
        simp only [idxS]
        split
        · omega
        · have := ih s (k + 1) q h
          omega
  have := key l s 0 q h
  simpa [strIx] using this
theorem strIx_mem {l : List (List UInt8)} {s : List UInt8} (h : s ∈ l) : 0 ≤ strIx l s := by
  have : ¬ strIx l s < 0 := fun x => (strIx_none l s).1 x s h rfl
  omega
def firstsOf : List (List UInt8) → List (List UInt8) → List (List UInt8)
  | acc, [] => acc
  | acc, x :: xs => match decide (strIx acc x ≥ 0) with
    | true => firstsOf acc xs
    | false => firstsOf (acc ++ [x]) xs
theorem firstsOf_pre : ∀ (xs acc : List (List UInt8)), ∃ r, firstsOf acc xs = acc ++ r
  | [], acc => ⟨[], by simp [firstsOf]⟩
  | x :: xs, acc => by
    simp only [firstsOf]
    split
    · exact firstsOf_pre xs acc
    · obtain ⟨r, e⟩ := firstsOf_pre xs (acc ++ [x])
      exact ⟨x :: r, by rw [e]; simp⟩
def ordP (tot : Nat) : Nat → List Int → Prop
  | m, [] => m = tot
  | m, i :: is => 0 ≤ i ∧ i ≤ m ∧ ordP tot (if i + 1 > (m : Int) then m + 1 else m) is
theorem firstsOf_ord : ∀ (xs acc : List (List UInt8)), ordP (firstsOf acc xs).length acc.length (xs.map (strIx (firstsOf acc xs)))
  | [], acc => rfl
  | x :: xs, acc => by
    simp only [firstsOf]
    split
    · rename_i h
      have h := decT h
      obtain ⟨r, e⟩ := firstsOf_pre xs acc
      have hm : x ∈ acc := by
        apply Classical.byContradiction
        intro hn
        have : strIx acc x < 0 := (strIx_none acc x).2 fun y hy e => hn (e ▸ hy)
        omega
      obtain ⟨q, hq, hqe⟩ := List.getElem_of_mem hm
      have hle : strIx (firstsOf acc xs) x ≤ q := by
        refine strIx_le ?_
        rw [e, List.getElem?_append_left hq, List.getElem?_eq_getElem hq, hqe]
      have hge : 0 ≤ strIx (firstsOf acc xs) x := by
        refine strIx_mem ?_
        rw [e]; exact List.mem_append_left _ hm
      rw [List.map_cons]
      refine ⟨hge, by omega, ?_⟩
      rw [if_neg (by omega)]
      exact firstsOf_ord xs acc
    · rename_i h
      have h := decF h
      obtain ⟨r, e⟩ := firstsOf_pre xs (acc ++ [x])
      have hn : ∀ y ∈ acc, x ≠ y := (strIx_none acc x).1 (by omega)
      have hat : strIx (firstsOf (acc ++ [x]) xs) x = acc.length := by
        unfold strIx
        rw [e]
        refine idxS_at (c := x) (fun q hq c hc => ?_) ?_ (by simp)
        · rw [List.append_assoc, List.getElem?_append_left hq] at hc
          exact decide_eq_false (hn c (List.mem_of_getElem? hc))
        · simp
      have := firstsOf_ord xs (acc ++ [x])
      rw [List.map_cons]
      refine ⟨by omega, by omega, ?_⟩
      rw [if_pos (by omega)]
      simpa using this
structure NInv (b : BS) : Prop where
  ln : b.nons.length ≤ 16
  nd : b.nons.Nodup
  nm : ∀ s ∈ b.nons, NameS s = true
  dj : ∀ s ∈ b.nons, ∀ t ∈ b.terms, t.name ≠ s
theorem leftsB_inv : ∀ (ps : List ProdS) {b c : BS}, NInv b → leftsB b ps = .ok c → NInv c ∧ c.nons = firstsOf b.nons (ps.map fun p => p.left.text) ∧ c.terms = b.terms ∧ c.rules = b.rules ∧ c.start = b.start ∧ c.levels = b.levels
  | [], b, c, hb, h => by
    injection h with h; subst h
    exact ⟨hb, rfl, rfl, rfl, rfl, rfl⟩
  | p :: ps, b, c, hb, h => by
    simp only [leftsB] at h
    cases hx : leftB b p.left with
    | error w => rw [hx] at h; cases h
    | ok b' =>
      rw [hx] at h
      simp only at h
      unfold leftB at hx
      split at hx
      · cases hx
      · rename_i hnm
        split at hx
        · cases hx
        · rename_i ht
          have ht := decF ht
          split at hx
          · rename_i h2
            injection hx with hx; subst hx
            obtain ⟨k1, k2, k3⟩ := leftsB_inv ps hb h
            refine ⟨k1, ?_, k3⟩
            rw [k2, List.map_cons]
            simp only [firstsOf, h2]
          · rename_i h2
            split at hx
            · cases hx
            · rename_i h16
              have h16 := decF h16
              injection hx with hx; subst hx
              have hni : ∀ y ∈ b.nons, p.left.text ≠ y := (strIx_none b.nons _).1 (by have := decF h2; omega)
              have hb' : NInv { b with nons := b.nons ++ [p.left.text] } := by
                refine ⟨by have := hb.ln; simp; omega, ?_, fun s hs => ?_, fun s hs t ht' => ?_⟩
                · rw [List.nodup_append]
                  refine ⟨hb.nd, by simp, fun a ha b' hb' e => ?_⟩
                  simp only [List.mem_singleton] at hb'
                  exact hni a ha (hb' ▸ e.symm)
                · simp only [List.mem_append, List.mem_singleton] at hs
                  rcases hs with hs | rfl
                  · exact hb.nm s hs
                  · exact hnm
                · simp only [List.mem_append, List.mem_singleton] at hs
                  rcases hs with hs | rfl
                  · exact hb.dj s hs t ht'
                  · exact (termIx_none b.terms _).1 (by omega) t ht'
              obtain ⟨k1, k2, k3⟩ := leftsB_inv ps hb' h
              refine ⟨k1, ?_, k3⟩
              rw [k2, List.map_cons]
              simp only [firstsOf, h2]
structure RFit (n t : Nat) (r : RuleS) : Prop where
  len : r.right.length ≤ 6
  lo : -1 ≤ r.prec
  hi : r.prec < t
  sy : ∀ s ∈ r.right, (s < 0 → -1 - s < n) ∧ s < t ∧ (s ≥ 0 → r.prec ≠ -1)
theorem RFit.mono {n t t' : Nat} {r : RuleS} (h : RFit n t r) (ht : t ≤ t') : RFit n t' r :=
  ⟨h.len, h.lo, by have := h.hi; omega, fun s hs => ⟨(h.sy s hs).1, by have := (h.sy s hs).2.1; omega, (h.sy s hs).2.2⟩⟩
structure PInv (b c : BS) : Prop where
  t : TInv c
  n : NInv c
  same : SameBut b c
  grow : b.terms.length ≤ c.terms.length
  full : Full c c.levels
theorem symB_inv {b : BS} {r : RefS} {p : Int × BS} (hn : namedS r.text = true) (hb : TInv b) (hN : NInv b) (hf : Full b b.levels) (h : symB b r = .ok p) :
    PInv b p.2 ∧ (p.1 < 0 → -1 - p.1 < b.nons.length) ∧ p.1 < p.2.terms.length ∧ -1 - p.1 < b.nons.length := by
  unfold symB at h
  split at h
  · rename_i h1
    have h1 := decT h1
    injection h with h; subst h
    have := strIx_range b.nons r.text
    exact ⟨⟨hb, hN, ⟨rfl, rfl, rfl, rfl⟩, Nat.le_refl _, hf⟩, fun _ => by simp only; omega, by simp only; omega, by simp only; omega⟩
  · rename_i h1
    have h1 := decF h1
    split at h
    · cases h
    · have hi := addS_inv hn hb h
      obtain ⟨s1, s2, s3, s4⟩ := addS_same h
      have h2 : 0 ≤ p.1 ∧ p.1 < p.2.terms.length := by
        rcases addS_cases h with ⟨e1, e2, e3⟩ | ⟨e1, e2, e3, _⟩
        · refine ⟨e3, ?_⟩
          rw [e1, e2]
          exact (termIx_range _ _).2
        · rw [e2, e3]; simp; omega
      have hni : ∀ y ∈ b.nons, r.text ≠ y := (strIx_none b.nons _).1 (by omega)
      refine ⟨⟨hi, ⟨by rw [s1.1]; exact hN.ln, by rw [s1.1]; exact hN.nd, by rw [s1.1]; exact hN.nm, fun s hs t ht => ?_⟩, s1, s3, by rw [s1.2.2.2]; exact addS_full hf h⟩, fun x => by omega, h2.2, by omega⟩
      rw [s1.1] at hs
      rcases s4 t ht with h5 | rfl
      · exact hN.dj s hs t h5
      · exact hni s hs
theorem PInv.trans {a b c : BS} (h : PInv a b) (k : PInv b c) : PInv a c :=
  ⟨k.t, k.n, ⟨k.same.1.trans h.same.1, k.same.2.1.trans h.same.2.1, k.same.2.2.1.trans h.same.2.2.1, k.same.2.2.2.trans h.same.2.2.2⟩, Nat.le_trans h.grow k.grow, k.full⟩
theorem rightsB_inv : ∀ (rs : List RefS) {b : BS} {x : RuleS} {i : Nat} {q : BS × RuleS}, TInv b → NInv b → Full b b.levels → RFit b.nons.length b.terms.length x → x.right.length = i → rightsB b x i rs = .ok q →
    PInv b q.1 ∧ RFit b.nons.length q.1.terms.length q.2 ∧ q.2.left = x.left
  | [], b, x, i, q, hb, hN, hf, hx, hi, h => by
    injection h with h; subst h
    exact ⟨⟨hb, hN, ⟨rfl, rfl, rfl, rfl⟩, Nat.le_refl _, hf⟩, hx, rfl⟩
  | r :: rs, b, x, i, q, hb, hN, hf, hx, hi, h => by
    simp only [rightsB] at h
    split at h
    · cases h
    · rename_i hn
      split at h
      · cases h
      · rename_i h6
        have h6 := decF h6
        cases hs : symB b r with
        | error w => rw [hs] at h; cases h
        | ok p =>
          rw [hs] at h
          simp only at h
          obtain ⟨g1, g2, g3, g4⟩ := symB_inv hn hb hN hf hs
          have hx' : RFit p.2.nons.length p.2.terms.length (withSym x p.1) := by
            rw [g1.same.1]
            have hm := hx.mono g1.grow
            unfold withSym
            by_cases h0 : p.1 ≥ 0
            · rw [decide_eq_true h0]
              refine ⟨by simp; have := hx.len; omega, by simp only; omega, by simp only; exact g3, fun s hs' => ?_⟩
              simp only [List.mem_append, List.mem_singleton] at hs'
              rcases hs' with hs' | rfl
              · exact ⟨(hm.sy s hs').1, (hm.sy s hs').2.1, fun _ => by simp only; omega⟩
              · exact ⟨fun x => by omega, g3, fun _ => by simp only; omega⟩
            · rw [decide_eq_false h0]
              refine ⟨by simp; have := hx.len; omega, hm.lo, hm.hi, fun s hs' => ?_⟩
              simp only [List.mem_append, List.mem_singleton] at hs'
              rcases hs' with hs' | rfl
              · exact hm.sy s hs'
              · exact ⟨g2, g3, fun x => absurd x h0⟩
          obtain ⟨k1, k2, k3⟩ := rightsB_inv rs g1.t g1.n g1.full hx' (by unfold withSym; simp; exact hi) h
          rw [g1.same.1] at k2
          exact ⟨g1.trans k1, k2, k3⟩
theorem precB_inv {b : BS} {x : RuleS} {r : RefS} {q : BS × RuleS} (hb : TInv b) (hN : NInv b) (hf : Full b b.levels) (hx : RFit b.nons.length b.terms.length x) (h : precB b x r = .ok q) :
    PInv b q.1 ∧ RFit b.nons.length q.1.terms.length q.2 ∧ q.2.left = x.left := by
  unfold precB at h
  split at h
  · injection h with h; subst h
    exact ⟨⟨hb, hN, ⟨rfl, rfl, rfl, rfl⟩, Nat.le_refl _, hf⟩, hx, rfl⟩
  · split at h
    · cases h
    · rename_i hn
      cases hs : symB b r with
      | error w => rw [hs] at h; cases h
      | ok p =>
        rw [hs] at h
        simp only at h
        obtain ⟨g1, g2, g3, g4⟩ := symB_inv hn hb hN hf hs
        split at h
        · cases h
        · rename_i h0
          have h0 := decF h0
          injection h with h; subst h
          have hm := hx.mono g1.grow
          exact ⟨g1, ⟨hm.len, by simp only; omega, g3, fun s hs' => ⟨(hm.sy s hs').1, (hm.sy s hs').2.1, fun _ => by simp only; omega⟩⟩, rfl⟩
theorem prodsB_inv : ∀ (ps : List ProdS) {b c : BS}, TInv b → NInv b → Full b b.levels → b.rules.length ≤ 40 → (∀ r ∈ b.rules, RFit b.nons.length b.terms.length r) → prodsB b ps = .ok c →
    c.rules.length ≤ 40 ∧ TInv c ∧ NInv c ∧ Full c c.levels ∧ c.nons = b.nons ∧ c.start = b.start ∧ (∀ r ∈ c.rules, RFit b.nons.length c.terms.length r) ∧ c.rules.map RuleS.left = b.rules.map RuleS.left ++ ps.map fun p => strIx b.nons p.left.text
  | [], b, c, hb, hN, hf, h40, hr, h => by
    injection h with h; subst h
    exact ⟨h40, hb, hN, hf, rfl, rfl, hr, by simp⟩
  | p :: ps, b, c, hb, hN, hf, h40, hr, h => by
    simp only [prodsB] at h
    cases hx : prodB b p with
    | error w => rw [hx] at h; cases h
    | ok b' =>
      rw [hx] at h
      simp only at h
      unfold prodB at hx
      split at hx
      · cases hx
      · rename_i hl40
        have hl40 := decF hl40
        cases hq : rightsB b ⟨strIx b.nons p.left.text, [], -1⟩ 0 p.right with
        | error w => rw [hq] at hx; cases hx
        | ok q =>
          rw [hq] at hx
          simp only at hx
          obtain ⟨a1, a2, a3⟩ := rightsB_inv p.right (x := ⟨strIx b.nons p.left.text, [], -1⟩) hb hN hf ⟨by simp, by simp, by simp only; omega, fun s hs => by simp at hs⟩ rfl hq
          cases hs : precB q.1 q.2 p.prec with
          | error w => rw [hs] at hx; cases hx
          | ok s =>
            rw [hs] at hx
            simp only at hx
            injection hx with hx; subst hx
            obtain ⟨b1, b2, b3⟩ := precB_inv a1.t a1.n a1.full (by rw [a1.same.1]; exact a2) hs
            rw [a1.same.1] at b2
            have hP := a1.trans b1
            have hrules : s.1.rules = b.rules := hP.same.2.1
            have hnons : s.1.nons = b.nons := hP.same.1
            obtain ⟨k0, k1, k2, k3, k4, k5, k6, k7⟩ := prodsB_inv ps (b := { s.1 with rules := s.1.rules ++ [s.2] }) ⟨hP.t.ln, hP.t.nd, hP.t.tp, hP.t.lv⟩ ⟨hP.n.ln, hP.n.nd, hP.n.nm, hP.n.dj⟩ hP.full (by simp [hrules]; omega) (fun r hr' => by
              simp only [List.mem_append, List.mem_singleton] at hr'
              simp only [hnons]
              rcases hr' with hr' | rfl
              · rw [hrules] at hr'
                exact (hr r hr').mono hP.grow
              · exact b2) h
            simp only [hnons] at k4 k6 k7
            refine ⟨k0, k1, k2, k3, k4, k5.trans hP.same.2.2.1, k6, ?_⟩
            rw [k7, hrules]
            simp only [List.map_append, List.map_cons, List.map_nil, List.append_assoc, List.cons_append, List.nil_append]
            rw [b3, a3]
theorem startsB_inv : ∀ (rs : List RefS) {b c : BS}, startsB b rs = .ok c → c.terms = b.terms ∧ c.nons = b.nons ∧ c.rules = b.rules ∧ (c.start = b.start ∨ 0 ≤ c.start ∧ c.start < b.nons.length)
  | [], b, c, h => by injection h with h; subst h; exact ⟨rfl, rfl, rfl, .inl rfl⟩
  | r :: rs, b, c, h => by
    simp only [startsB] at h
    split at h
    · cases h
    · rename_i h0
      have h0 := decF h0
      obtain ⟨k1, k2, k3, k4⟩ := startsB_inv rs h
      refine ⟨k1, k2, k3, .inr ?_⟩
      have := strIx_range b.nons r.text
      rcases k4 with k4 | k4
      · rw [k4]; exact ⟨by simp only; omega, by simp only; exact this.2⟩
      · exact k4
end Go.Dm
namespace Go.Dm
theorem keys_ge2 : ∀ (n : Nat) (l : List Int), (∀ k : Int, 1 ≤ k → k ≤ n → k ∈ l) → n ≤ l.length
  | 0, l, h => Nat.zero_le _
  | n + 1, l, h => by
    have hm : ((n : Int) + 1) ∈ l := h _ (by omega) (by omega)
    have ih := keys_ge2 n (l.erase ((n : Int) + 1)) (fun k h1 h2 => (List.mem_erase_of_ne (by omega)).2 (h k h1 (by omega)))
    rw [List.length_erase_of_mem hm] at ih
    have hp : 0 < l.length := List.length_pos_of_mem hm
    omega
theorem seenC_of (g : GramS) : ∀ (rs : List RuleS) (m : Nat), (∀ r ∈ rs, ruleR g r = true) → ordP g.nons.length m (rs.map RuleS.left) → seenC g m rs = true
  | [], m, h, k => by
    have k : m = g.nons.length := k
    subst k
    simp [seenC]
  | r :: rs, m, h, k => by
    obtain ⟨k1, k2, k3⟩ := k
    have e : ((decide (r.left ≥ 0) && decide (r.left ≤ (m : Int))) && ruleR g r) = true := by
      rw [h r (by simp), decide_eq_true (show r.left ≥ 0 from k1), decide_eq_true k2]; rfl
    simp only [seenC, e]
    by_cases h2 : r.left + 1 > (m : Int)
    · rw [if_pos h2] at k3 ⊢
      rw [show r.left + 1 = ((m + 1 : Nat) : Int) by omega]
      exact seenC_of g rs (m + 1) (fun r hr => h r (by simp [hr])) k3
    · rw [if_neg h2] at k3 ⊢
      exact seenC_of g rs m (fun r hr => h r (by simp [hr])) k3
theorem ruleR_of {g : GramS} {r : RuleS} (h : RFit g.nons.length g.terms.length r) : ruleR g r = true := by
  unfold ruleR
  simp only [Bool.and_eq_true, Bool.not_eq_true', decide_eq_false_iff_not]
  have h1 := h.len
  have h2 := h.lo
  have h3 := h.hi
  refine ⟨by omega, by omega, by omega, ?_⟩
  rw [idxAll_iff]
  intro q hq
  obtain ⟨s1, s2, s3⟩ := h.sy _ (List.getElem_mem hq)
  unfold symOne hasS
  generalize r.right[q] = s at *
  by_cases h0 : s < 0
  · rw [decide_eq_true h0]
    have := s1 h0
    have hn : decide (s ≥ 0) = false := decide_eq_false (by omega)
    simp only [hn, Bool.false_and, Bool.not_false, Bool.and_true]
    exact decide_eq_true (by omega)
  · rw [decide_eq_false h0]
    have hp : decide (r.prec = -1) = false := decide_eq_false (s3 (by omega))
    simp only [hp, Bool.and_false, Bool.not_false, Bool.and_true]
    exact decide_eq_true (by omega)
def NamesNE (s : SourceS) : Prop := ∀ d ∈ s.decls, (3 ≤ d.kind ∧ d.kind ≤ 7) ∧ d.names ≠ []
theorem gramB_right {s : SourceS} {b : BS} (hs : NamesNE s) (h : gramB b0 s = .ok b) : rightC (gramOf b) = true := by
  unfold gramB at h
  cases h1 : declsB b0 s.decls with
  | error w => rw [h1] at h; cases h
  | ok b1 =>
  rw [h1] at h
  simp only at h
  have t0 : TInv b0 := ⟨by simp [b0], by simp [b0], fun t ht => by simp [b0] at ht, fun t ht => by simp [b0] at ht⟩
  obtain ⟨t1, f1, n1, r1, s1⟩ := declsB_inv s.decls hs t0 (fun k k1 k2 => by simp only [b0] at k2; omega) h1
  cases h2 : leftsB b1 s.prods with
  | error w => rw [h2] at h; cases h
  | ok b2 =>
  rw [h2] at h
  simp only at h
  have hn1 : b1.nons = [] := n1
  obtain ⟨N2, e2, k2, k3, k4, k5⟩ := leftsB_inv s.prods (b := b1) ⟨by simp [hn1], by simp [hn1], fun s hs => by simp [hn1] at hs, fun s hs => by simp [hn1] at hs⟩ h2
  have t2 : TInv b2 := ⟨by rw [k2]; exact t1.ln, by rw [k2]; exact t1.nd, fun t ht => by rw [k2] at ht; rw [k5]; exact t1.tp t ht, fun t ht u hu => by rw [k2] at ht hu; exact t1.lv t ht u hu⟩
  have f2 : Full b2 b2.levels := by rw [k5]; intro k a c; rw [k2]; exact f1 k a c
  cases h3 : prodsB b2 s.prods with
  | error w => rw [h3] at h; cases h
  | ok b3 =>
  rw [h3] at h
  simp only at h
  have hr2 : b2.rules = [] := k3.trans r1
  obtain ⟨q40, t3, N3, f3, e3, s3, R3, L3⟩ := prodsB_inv s.prods t2 N2 f2 (by rw [hr2]; simp) (fun r hr => by rw [hr2] at hr; cases hr) h3
  cases h4 : startsB b3 b3.starts with
  | error w => rw [h4] at h; cases h
  | ok b4 =>
  rw [h4] at h
  simp only at h
  obtain ⟨a1, a2, a3, a4⟩ := startsB_inv b3.starts h4
  unfold endB at h
  split at h
  · cases h
  rename_i hne
  have hne := decF hne
  injection h with h; subst h
  -- what the pieces say
  have hst : b3.start = 0 := s3.trans (k4.trans s1)
  have hlv : b3.levels ≤ 24 := by
    have := keys_ge2 b3.levels (b3.terms.map TermS.level) (fun k k1 k2 => by
      obtain ⟨t, ht, e⟩ := f3 k k1 k2
      exact List.mem_map.2 ⟨t, ht, e⟩)
    rw [List.length_map] at this
    have := t3.ln
    omega
  have hrl : b4.rules = b3.rules := a3
  have hnn : b3.nons ≠ [] := by
    intro e
    cases hru : b3.rules with
    | nil => rw [hrl, hru] at hne; exact hne rfl
    | cons r rs =>
      rw [hr2, List.map_nil, List.nil_append] at L3
      rw [hru] at L3
      cases hps : s.prods with
      | nil => rw [hps] at L3; simp at L3
      | cons p ps =>
        rw [e3] at e
        rw [e2, hn1, hps] at e
        simp only [List.map_cons, firstsOf] at e
        rw [show decide (strIx [] p.left.text ≥ 0) = false from rfl] at e
        simp only at e
        obtain ⟨z, hz⟩ := firstsOf_pre (ps.map fun p => p.left.text) ([] ++ [p.left.text])
        rw [hz] at e
        simp at e
  have hnl : 1 ≤ b3.nons.length := by
    rcases Nat.eq_zero_or_pos b3.nons.length with e | e
    · exact absurd (List.eq_nil_of_length_eq_zero e) hnn
    · exact e
  have hl16 := N3.ln
  have g1 : (gramOf b4).terms = b3.terms := a1
  have g2 : (gramOf b4).nons = b3.nons := a2
  have g3 : (gramOf b4).rules = b3.rules := a3
  have g4 : (gramOf b4).start = b4.start := rfl
  generalize gramOf b4 = g at *
  obtain ⟨gt, gn, gr, gs⟩ := g
  simp only at g1 g2 g3 g4
  subst g1; subst g2; subst g3; subst g4
  have hterm : termsC b3.terms = true := by
    unfold termsC
    simp only [Bool.and_eq_true, decide_eq_true_iff]
    have hl : ∀ t ∈ b3.terms, 0 ≤ t.level ∧ (t.level ≠ 0 → t.assoc ≠ 0) := fun t ht => by
      have := t3.tp t ht
      exact ⟨this.2.1.1, fun h e => h (this.2.2.2.2 e)⟩
    refine ⟨?_, by have := t3.ln; omega, ?_⟩
    · rw [idxAll_iff]
      intro q hq
      rw [termC_iff]
      have := t3.tp _ (List.getElem_mem hq)
      exact ⟨this.1, ⟨this.2.1.1, by have := this.2.1.2; omega⟩, this.2.2.1, this.2.2.2⟩
    · rw [levsGo_iff b3.terms [] 0 ⟨by simp, fun k hk => by simp at hk, Int.le_refl _, .inl rfl⟩ hl]
      refine ⟨⟨fun t ht h0 hn => absurd rfl hn, t3.lv⟩, fun k n c1 c2 hx => ?_⟩
      rcases hx with hx | ⟨t, ht, rfl⟩
      · simp at hx
      · exact .inr (f3 k c1 (Int.le_trans c2 (t3.tp t ht).2.1.2))
  have hnod : (namesOf ⟨b3.terms, b3.nons, b3.rules, b4.start⟩).Nodup := by
    unfold namesOf
    rw [List.nodup_append]
    refine ⟨N3.nd, t3.nd, fun a ha c hc e => ?_⟩
    obtain ⟨t, ht, e2⟩ := List.mem_map.1 hc
    exact N3.dj a ha t ht (e2.trans e.symm)
  have hnam : namesAll b3.nons = true := by
    unfold namesAll
    rw [idxAll_iff]
    exact fun q hq => N3.nm _ (List.getElem_mem hq)
  have hstart : 0 ≤ b4.start ∧ b4.start < b3.nons.length := by
    rcases a4 with e | e
    · rw [e, hst]; omega
    · exact e
  have hseen : seenC ⟨b3.terms, b3.nons, b3.rules, b4.start⟩ 0 b3.rules = true := by
    have := seenC_of ⟨b3.terms, b3.nons, b3.rules, b4.start⟩ b3.rules 0 (fun r hr => by
      have := R3 r hr
      rw [← e3] at this
      exact ruleR_of this) (by
      rw [hr2, List.map_nil, List.nil_append] at L3
      rw [L3]
      have ho := firstsOf_ord (s.prods.map fun p => p.left.text) []
      rw [← hn1, ← e2] at ho
      simp only [hn1, List.length_nil, List.map_map] at ho
      simp only [e3]
      exact ho)
    exact this
  unfold rightC withinS
  simp only [Bool.and_eq_true, decide_eq_true_iff]
  have : b3.rules.length ≠ 0 := by rw [hrl] at hne; exact hne
  exact ⟨hterm, ⟨by omega, by omega⟩, ⟨by omega, by omega⟩, hnod, ⟨by omega, by omega⟩, hnam, hseen⟩
end Go.Dm
namespace Go.Dm
theorem declS_ne {l : List TokP} {e : Nat × Nat} {p : DeclS × List TokP} (h : declS l e = .ok p) : p.1.names ≠ [] := by
  unfold declS at h
  cases ht : takeS l e [3, 4, 5, 6, 7] with
  | error w => rw [ht] at h; cases h
  | ok a =>
    rw [ht] at h
    simp only at h
    split at h
    · cases hq : takeS a.2 e [1] with
      | error w => rw [hq] at h; cases h
      | ok q => rw [hq] at h; injection h with h; subst h; simp
    · cases hq : takeS a.2 e [1, 2] with
      | error w => rw [hq] at h; cases h
      | ok q => rw [hq] at h; injection h with h; subst h; simp
theorem declsGo_ne : ∀ (n : Nat) (l : List TokP) (e : Nat × Nat) (acc : List DeclS) {p : List DeclS × List TokP}, (∀ d ∈ acc, d.names ≠ []) → declsGo n l e acc = .ok p → ∀ d ∈ p.1, d.names ≠ []
  | 0, l, e, acc, p, ha, h => by injection h with h; subst h; exact ha
  | n + 1, l, e, acc, p, ha, h => by
    simp only [declsGo] at h
    split at h
    · injection h with h; subst h; exact ha
    · cases hd : declS l e with
      | error w => rw [hd] at h; cases h
      | ok q =>
        rw [hd] at h
        exact declsGo_ne n q.2 e _ (fun d hm => by
          rcases List.mem_append.1 hm with hm | hm
          · exact ha d hm
          · rw [List.mem_singleton.1 hm]; exact declS_ne hd) h
theorem ofS_ne {l : List TokP} {e : Nat × Nat} {s : SourceS} (h : ofS l e = .ok s) : ∀ d ∈ s.decls, d.names ≠ [] := by
  unfold ofS at h
  cases hs : sourceS l e with
  | error w => rw [hs] at h; cases h
  | ok p =>
    rw [hs] at h; injection h with h; subst h
    unfold sourceS at hs
    cases hd : declsGo (l.length + 1) l e [] with
    | error w => rw [hd] at hs; cases hs
    | ok a =>
      rw [hd] at hs
      simp only at hs
      have h1 := declsGo_ne _ _ _ _ (fun d hm => by cases hm) hd
      cases ht : takeS a.2 e [9] with
      | error w => rw [ht] at hs; cases hs
      | ok q =>
        rw [ht] at hs
        simp only at hs
        cases hg : groupS q.2 e with
        | error w => rw [hg] at hs; cases hs
        | ok g =>
          rw [hg] at hs
          simp only at hs
          cases hh : groupsGo (g.2.length + 1) g.2 e g.1 with
          | error w => rw [hh] at hs; cases hs
          | ok k =>
            rw [hh] at hs
            simp only at hs
            cases hl : lastS k.2 e with
            | error w => rw [hl] at hs; cases hs
            | ok z => rw [hl] at hs; injection hs with hs; subst hs; exact h1
theorem addS_nz (b : BS) (r : RefS) : NZ (addS b r) := by
  unfold addS; split
  · trivial
  · split
    · simp [NZ]
    · trivial
theorem precedeS_nz (b : BS) (r : RefS) (a : Int) : NZ (precedeS b r a) := by
  unfold precedeS; split
  · simp [NZ]
  · have h := addS_nz b r
    cases hp : addS b r with
    | error w => rw [hp] at h; exact h
    | ok p => trivial
theorem nameB_nz (b : BS) (k : Nat) (r : RefS) : NZ (nameB b k r) := by
  unfold nameB; split
  · simp [NZ]
  · split
    · split
      · trivial
      · simp [NZ]
    · split
      · split
        · simp [NZ]
        · have h := addS_nz { b with tokens := b.tokens ++ [r.text] } r
          cases hp : addS { b with tokens := b.tokens ++ [r.text] } r with
          | error w => rw [hp] at h; exact h
          | ok p => trivial
      · exact precedeS_nz _ _ _
theorem namesB_nz : ∀ (rs : List RefS) (b : BS) (k : Nat), NZ (namesB b k rs)
  | [], b, k => trivial
  | r :: rs, b, k => by
    simp only [namesB]
    have h := nameB_nz b k r
    cases hp : nameB b k r with
    | error w => rw [hp] at h; exact h
    | ok p => exact namesB_nz rs p k
theorem declsB_nz : ∀ (ds : List DeclS) (b : BS), NZ (declsB b ds)
  | [], b => trivial
  | d :: ds, b => by
    simp only [declsB]
    have h : NZ (declB b d) := namesB_nz _ _ _
    cases hp : declB b d with
    | error w => rw [hp] at h; exact h
    | ok p => exact declsB_nz ds p
theorem leftB_nz (b : BS) (r : RefS) : NZ (leftB b r) := by
  unfold leftB; split
  · simp [NZ]
  · split
    · simp [NZ]
    · split
      · trivial
      · split
        · simp [NZ]
        · trivial
theorem leftsB_nz : ∀ (ps : List ProdS) (b : BS), NZ (leftsB b ps)
  | [], b => trivial
  | p :: ps, b => by
    simp only [leftsB]
    have h := leftB_nz b p.left
    cases hp : leftB b p.left with
    | error w => rw [hp] at h; exact h
    | ok c => exact leftsB_nz ps c
theorem symB_nz (b : BS) (r : RefS) : NZ (symB b r) := by
  unfold symB; split
  · trivial
  · split
    · simp [NZ]
    · exact addS_nz b r
theorem rightsB_nz : ∀ (rs : List RefS) (b : BS) (x : RuleS) (i : Nat), NZ (rightsB b x i rs)
  | [], b, x, i => trivial
  | r :: rs, b, x, i => by
    simp only [rightsB]
    split
    · simp [NZ]
    · split
      · simp [NZ]
      · have h := symB_nz b r
        cases hp : symB b r with
        | error w => rw [hp] at h; exact h
        | ok c => exact rightsB_nz rs _ _ _
theorem precB_nz (b : BS) (x : RuleS) (r : RefS) : NZ (precB b x r) := by
  unfold precB; split
  · trivial
  · split
    · simp [NZ]
    · have h := symB_nz b r
      cases hp : symB b r with
      | error w => rw [hp] at h; exact h
      | ok c =>
        simp only
        split
        · simp [NZ]
        · trivial
theorem prodB_nz (b : BS) (p : ProdS) : NZ (prodB b p) := by
  unfold prodB; split
  · simp [NZ]
  · have h := rightsB_nz p.right b ⟨strIx b.nons p.left.text, [], -1⟩ 0
    cases hq : rightsB b ⟨strIx b.nons p.left.text, [], -1⟩ 0 p.right with
    | error w => rw [hq] at h; exact h
    | ok q =>
      simp only
      have h := precB_nz q.1 q.2 p.prec
      cases hs : precB q.1 q.2 p.prec with
      | error w => rw [hs] at h; exact h
      | ok s => trivial
theorem prodsB_nz : ∀ (ps : List ProdS) (b : BS), NZ (prodsB b ps)
  | [], b => trivial
  | p :: ps, b => by
    simp only [prodsB]
    have h := prodB_nz b p
    cases hp : prodB b p with
    | error w => rw [hp] at h; exact h
    | ok c => exact prodsB_nz ps c
theorem startsB_nz : ∀ (rs : List RefS) (b : BS), NZ (startsB b rs)
  | [], b => trivial
  | r :: rs, b => by
    simp only [startsB]
    split
    · simp [NZ]
    · exact startsB_nz rs _
theorem gramB_nz (b : BS) (s : SourceS) : NZ (gramB b s) := by
  unfold gramB
  have h := declsB_nz s.decls b
  cases h1 : declsB b s.decls with
  | error w => rw [h1] at h; exact h
  | ok b1 =>
    simp only
    have h := leftsB_nz s.prods b1
    cases h2 : leftsB b1 s.prods with
    | error w => rw [h2] at h; exact h
    | ok b2 =>
      simp only
      have h := prodsB_nz s.prods b2
      cases h3 : prodsB b2 s.prods with
      | error w => rw [h3] at h; exact h
      | ok b3 =>
        simp only
        have h := startsB_nz b3.starts b3
        cases h4 : startsB b3 b3.starts with
        | error w => rw [h4] at h; exact h
        | ok b4 =>
          simp only [endB]
          split
          · simp [NZ]
          · trivial
theorem buildS_nz (s : SourceS) : NZ (buildS s) := by
  unfold buildS
  have h := gramB_nz b0 s
  cases h1 : gramB b0 s with
  | error w => rw [h1] at h; exact h
  | ok b => trivial
namespace Tryz
theorem readS_nz (b : List UInt8) : NZ (readS b) := by
  unfold readS
  have h := parseS_nz b
  cases h1 : parseS b with
  | error w => rw [h1] at h; exact h
  | ok s => exact buildS_nz s
theorem parseS_ne {b : List UInt8} {s : SourceS} (h : parseS b = .ok s) : NamesNE s := by
  have hok := (parseS_ok h).2.1
  rcases tokensS_e b with ⟨l, p, ht⟩ | ⟨p, e, he, ht⟩
  · rw [show parseS b = ofS l p from by simp only [parseS, ht]] at h
    exact fun d hd => ⟨(hok d hd).1, ofS_ne h d hd⟩
  · have hp : parseS b = .error (p, e) := by simp only [parseS, ht]
    rw [hp] at h; cases h
theorem readS_right {b : List UInt8} {g : GramS} (h : readS b = .ok g) : rightC g = true := by
  unfold readS at h
  cases h1 : parseS b with
  | error w => rw [h1] at h; cases h
  | ok s =>
    rw [h1] at h
    simp only [buildS] at h
    cases h2 : gramB b0 s with
    | error w => rw [h2] at h; cases h
    | ok x =>
      rw [h2] at h
      injection h with h; subst h
      exact gramB_right (parseS_ne h1) h2
end Tryz
theorem right_sizes {g : GramS} (h : rightC g = true) : g.terms.length ≤ 24 ∧ 1 ≤ g.nons.length ∧ g.nons.length ≤ 16 ∧ g.rules.length ≤ 40 ∧ (∀ t ∈ g.terms, namedS t.name = true) ∧ (∀ s ∈ g.nons, NameS s = true) ∧ (0 ≤ g.start ∧ g.start < g.nons.length) ∧ seenC g 0 g.rules = true := by
  unfold rightC termsC withinS namesAll at h
  simp only [Bool.and_eq_true, decide_eq_true_iff] at h
  obtain ⟨⟨a1, a2, a3⟩, ⟨b1, b2⟩, ⟨c1, c2⟩, d, ⟨e1, e2⟩, f, k⟩ := h
  rw [idxAll_iff] at a1 f
  refine ⟨by omega, by omega, by omega, by omega, fun t ht => ?_, fun s hs => ?_, ⟨by omega, by omega⟩, k⟩
  · obtain ⟨q, hq, rfl⟩ := List.getElem_of_mem ht
    exact ((termC_iff _).1 (a1 q hq)).1
  · obtain ⟨q, hq, rfl⟩ := List.getElem_of_mem hs
    exact f q hq
theorem seen_rules {g : GramS} : ∀ (rs : List RuleS) (s : Int), seenC g s rs = true → ∀ r ∈ rs, ruleR g r = true ∧ 0 ≤ r.left
  | [], s, h, r, hr => by cases hr
  | x :: rs, s, h, r, hr => by
    simp only [seenC] at h
    split at h
    · rename_i e
      simp only [Bool.and_eq_true, decide_eq_true_iff] at e
      simp only [List.mem_cons] at hr
      rcases hr with rfl | hr
      · exact ⟨e.2, e.1.1⟩
      · exact seen_rules rs _ h r hr
    · cases h
theorem right_rules {g : GramS} (h : rightC g = true) : ∀ r ∈ g.rules, r.right.length ≤ 6 ∧ -1 ≤ r.prec ∧ r.prec < g.terms.length ∧ ∀ s ∈ r.right, hasS g s = true ∧ (s ≥ 0 → r.prec ≠ -1) := by
  intro r hr
  have := (seen_rules g.rules 0 (right_sizes h).2.2.2.2.2.2.2 r hr).1
  unfold ruleR at this
  simp only [Bool.and_eq_true, Bool.not_eq_true', decide_eq_false_iff_not] at this
  obtain ⟨a, b, c, d⟩ := this
  rw [idxAll_iff] at d
  refine ⟨by omega, by omega, by omega, fun s hs => ?_⟩
  obtain ⟨q, hq, rfl⟩ := List.getElem_of_mem hs
  have := d q hq
  unfold symOne at this
  simp only [Bool.and_eq_true, Bool.not_eq_true', Bool.and_eq_false_iff, decide_eq_false_iff_not] at this
  exact ⟨this.1, fun h0 => this.2.elim (fun x => absurd h0 x) id⟩
theorem name_short {s : List UInt8} (h : NameS s = true) : s.length ≤ 20 := by
  cases s with
  | nil => simp
  | cons c r =>
    simp only [NameS, Bool.and_eq_true, decide_eq_true_iff] at h
    exact h.1
theorem litEnd_le4 (b : List UInt8) (n : Nat) : (litEnd b n).1 ≤ n + 1 := by
  unfold litEnd
  split
  · simp
  · split <;> simp
theorem literalS_le4 (b : List UInt8) : (literalS b).1 ≤ 4 := by
  unfold literalS
  split
  · split
    · exact Nat.le_trans (litEnd_le4 _ 2) (by omega)
    · split
      · simp
      · split
        · simp
        · split
          · simp
          · exact litEnd_le4 _ 3
  · simp
theorem literal_short {s : List UInt8} (h : LiteralS s = true) : s.length ≤ 4 := by
  cases s with
  | nil => simp
  | cons c r =>
    simp only [LiteralS] at h
    split at h
    · cases h
    · simp only [Bool.and_eq_true, decide_eq_true_iff] at h
      rw [← h.2]
      exact literalS_le4 _
theorem named_short {s : List UInt8} (h : namedS s = true) : s.length ≤ 20 := by
  unfold namedS at h
  rw [Bool.or_eq_true] at h
  rcases h with h | h
  · exact name_short h
  · have := literal_short h; omega
end Go.Dm
namespace Go.Dm
theorem all256 {p : UInt8 → Bool} (h : ∀ n : Fin 256, p (UInt8.ofNat n.val) = true) (c : UInt8) : p c = true := by
  have h1 := h ⟨c.toNat, c.toNat_lt⟩
  have e : UInt8.ofNat c.toNat = c := by
    apply UInt8.toNat_inj.1
    rw [UInt8.toNat_ofNat', Nat.mod_eq_of_lt c.toNat_lt]
  rwa [e] at h1
structure LexAs (w : List UInt8) (k : Nat) (t : List UInt8) : Prop where
  ne : w ≠ []
  sk : ∀ (s : UInt8) rest, (s = 32 ∨ s = 10) → (skippedS (w ++ s :: rest)).2 = false
  tk : ∀ (s : UInt8) rest, (s = 32 ∨ s = 10) → tokenS (w ++ s :: rest) = ⟨k, t, w.length, 0⟩
structure LxI where
  w : List UInt8
  s : UInt8
  k : Nat
  t : List UInt8
def textOf : List LxI → List UInt8
  | [] => []
  | i :: r => i.w ++ i.s :: textOf r
def marksIn : List LxI → Nat
  | [] => 0
  | i :: r => (if i.k = 9 then 1 else 0) + marksIn r
def LxOK (i : LxI) : Prop := LexAs i.w i.k i.t ∧ (i.s = 32 ∨ i.s = 10)
theorem skip_sep {s : UInt8} (h : s = 32 ∨ s = 10) (rest : List UInt8) : skippedS (s :: rest) = (1, true) := by
  rcases h with rfl | rfl <;> rfl
theorem tokensGo_skip {f : Nat} {s : UInt8} {rest : List UInt8} {p : Nat × Nat} {m : Nat} {acc : List TokP} (h : s = 32 ∨ s = 10) (hm : m ≤ 1) :
    tokensGo (f + 1) (s :: rest) p m acc = tokensGo f rest (stepsS p [s]) m acc := by
  have e := skip_sep h rest
  have hm2 : decide (m = 2) = false := decide_eq_false (by omega)
  simp only [tokensGo, hm2, e]
  rfl
theorem tokensGo_word {f : Nat} {i : LxI} {rest : List UInt8} {p : Nat × Nat} {m : Nat} {acc : List TokP} (h : LxOK i) (hm : m ≤ 1) :
    ∃ p', tokensGo (f + 1) (i.w ++ i.s :: rest) p m acc = tokensGo f (i.s :: rest) p' (if i.k = 9 then m + 1 else m) (acc ++ [⟨i.k, i.t, p⟩]) := by
  obtain ⟨⟨h1, h2, h3⟩, h4⟩ := h
  have e1 := h2 i.s rest h4
  have e2 := h3 i.s rest h4
  have hm2 : decide (m = 2) = false := decide_eq_false (by omega)
  have hd : (i.w ++ i.s :: rest).drop i.w.length = i.s :: rest := List.drop_left
  generalize hb : i.w ++ i.s :: rest = b at *
  cases b with
  | nil => simp at hb
  | cons c r =>
    have h0 : decide ((0 : Nat) = 0) = true := rfl
    simp only [tokensGo, hm2, e1, e2, h0, hd]
    refine ⟨stepsS p ((c :: r).take i.w.length), ?_⟩
    by_cases hk : i.k = 9
    · rw [decide_eq_true hk, if_pos hk]
      rfl
    · rw [decide_eq_false hk, if_neg hk]
      rfl
theorem lexAll : ∀ (L : List LxI) (f : Nat) (p : Nat × Nat) (m : Nat) (acc : List TokP), (∀ i ∈ L, LxOK i) → m + marksIn L ≤ 1 → (textOf L).length < f →
    ∃ toks p', tokensGo f (textOf L) p m acc = (some (acc ++ toks), p', 0) ∧ toks.map (fun t => (t.kind, t.text)) = L.map fun i => (i.k, i.t)
  | [], f, p, m, acc, hL, hm, hf => by
    obtain ⟨f, rfl⟩ : ∃ k, f = k + 1 := ⟨f - 1, by omega⟩
    exact ⟨[], p, by simp [tokensGo, textOf], rfl⟩
  | i :: L, f, p, m, acc, hL, hm, hf => by
    have hi := hL i (by simp)
    simp only [textOf, List.length_append, List.length_cons] at hf
    have hw : 1 ≤ i.w.length := by
      rcases Nat.eq_zero_or_pos i.w.length with e | e
      · exact absurd (List.eq_nil_of_length_eq_zero e) hi.1.ne
      · exact e
    obtain ⟨f, rfl⟩ : ∃ k, f = k + 1 + 1 := ⟨f - 2, by omega⟩
    simp only [marksIn] at hm
    have hm1 : (if i.k = 9 then m + 1 else m) + marksIn L ≤ 1 ∧ m ≤ 1 := by
      by_cases hk : i.k = 9
      · rw [if_pos hk] at hm ⊢; omega
      · rw [if_neg hk] at hm ⊢; omega
    obtain ⟨p1, e1⟩ := tokensGo_word (f := f + 1) (rest := textOf L) (p := p) (m := m) (acc := acc) hi hm1.2
    obtain ⟨toks, p2, e2, e3⟩ := lexAll L f (stepsS p1 [i.s]) (if i.k = 9 then m + 1 else m) (acc ++ [⟨i.k, i.t, p⟩]) (fun j hj => hL j (by simp [hj])) hm1.1 (by omega)
    refine ⟨⟨i.k, i.t, p⟩ :: toks, p2, ?_, by simp [e3]⟩
    show tokensGo (f + 1 + 1) (i.w ++ i.s :: textOf L) p m acc = _
    rw [e1, tokensGo_skip hi.2 (by have := hm1.1; omega), e2]
    simp
theorem letter_skip (c : UInt8) (h : letterS c.toNat = true) : Lib.indexByte [32, 9, 10, 13] c < 0 ∧ c ≠ 47 ∧ c ≠ 37 ∧ c.toNat ≠ 60 ∧ c.toNat ≠ 123 := by
  have := all256 (p := fun c => !letterS c.toNat || (decide (Lib.indexByte [32, 9, 10, 13] c < 0) && (decide (c ≠ 47) && (decide (c ≠ 37) && (decide (c.toNat ≠ 60) && decide (c.toNat ≠ 123)))))) (by decide +kernel) c
  rw [h] at this
  simpa using this
theorem skip_letter {c : UInt8} (h : Lib.indexByte [32, 9, 10, 13] c < 0 ∧ c ≠ 47 ∧ c ≠ 37 ∧ c.toNat ≠ 60 ∧ c.toNat ≠ 123) (r : List UInt8) : skippedS (c :: r) = (0, false) := by
  obtain ⟨h1, h2, h3, h4, h5⟩ := h
  unfold skippedS
  have e1 : decide (Lib.indexByte [32, 9, 10, 13] c ≥ 0) = false := decide_eq_false (by omega)
  have e2 : ∀ d, [47, d].isPrefixOf (c :: r) = false := fun d => by
    have : ((47 : UInt8) == c) = false := by simpa using fun e => h2 e.symm
    simp [List.isPrefixOf, this]
  have e3 : ∀ d, [37, d].isPrefixOf (c :: r) = false := fun d => by
    have : ((37 : UInt8) == c) = false := by simpa using fun e => h3 e.symm
    simp [List.isPrefixOf, this]
  have e4 : decide ((c.toNat : Int) = 60) = false := decide_eq_false (by omega)
  have e5 : decide ((c.toNat : Int) = 123) = false := decide_eq_false (by omega)
  simp only [e1, e2, e3, e4, e5]
theorem spanS_app {p : UInt8 → Bool} {s : UInt8} (hs : p s = false) : ∀ (w rest : List UInt8), (∀ c ∈ w, p c = true) → spanS p (w ++ s :: rest) = w.length
  | [], rest, _ => by simp [spanS, hs]
  | c :: w, rest, h => by
    simp only [List.cons_append, spanS, h c (by simp), List.length_cons]
    rw [spanS_app hs w rest (fun d hd => h d (by simp [hd]))]
theorem inner_sep {s : UInt8} (h : s = 32 ∨ s = 10) : innerU s = false := by rcases h with rfl | rfl <;> decide +kernel
theorem lex_name {w : List UInt8} (h : NameS w = true) : LexAs w 1 w := by
  cases w with
  | nil => cases h
  | cons c r =>
    simp only [NameS, Bool.and_eq_true, decide_eq_true_iff, List.all_eq_true] at h
    obtain ⟨h1, h2, h3⟩ := h
    have hsk := letter_skip c h2
    refine ⟨by simp, fun s rest hs => by rw [List.cons_append, skip_letter hsk], fun s rest hs => ?_⟩
    have hrun : runS innerU (c :: (r ++ s :: rest)) = (c :: r).length := by
      simp only [runS, List.length_cons]
      rw [spanS_app (inner_sep hs) r rest (fun d hd => h3 d (by simp [hd]))]
    show tokenS (c :: (r ++ s :: rest)) = _
    simp only [tokenS, h2]
    rw [hrun, decide_eq_false (by omega)]
    simp only
    rw [show c :: (r ++ s :: rest) = (c :: r) ++ s :: rest from rfl, List.take_left]
theorem litEnd_app {w : List UInt8} {n : Nat} (h : (litEnd w n).2 = 0) (r : List UInt8) : litEnd (w ++ r) n = litEnd w n := by
  unfold litEnd at h ⊢
  cases hw : w[n]? with
  | none => rw [hw] at h; simp at h
  | some c =>
    have hl := (List.getElem?_eq_some_iff.1 hw).1
    rw [List.getElem?_append_left hl, hw]
theorem literalS_app {w : List UInt8} (h : (literalS w).2 = 0) (q : List UInt8) : literalS (w ++ q) = literalS w := by
  match w, h with
  | [], h => simp [literalS] at h
  | [_], h => simp [literalS] at h
  | a :: c :: r, h =>
    simp only [List.cons_append, literalS] at h ⊢
    cases hp : plainS c.toNat with
    | true =>
      simp only [hp] at h ⊢
      exact litEnd_app h q
    | false =>
      simp only [hp] at h ⊢
      cases hc : decide ((c.toNat : Int) = 92) with
      | false => simp [hc] at h
      | true =>
        simp only [hc] at h ⊢
        cases r with
        | nil => simp at h
        | cons d r =>
          simp only [List.cons_append] at h ⊢
          cases he : escapedS d.toNat with
          | false => simp [he] at h
          | true =>
            simp only [he] at h ⊢
            exact litEnd_app h q
theorem lex_literal {w : List UInt8} (h : LiteralS w = true) : LexAs w 2 w := by
  cases w with
  | nil => cases h
  | cons c r =>
    simp only [LiteralS] at h
    cases hc : decide ((c.toNat : Int) = 39) with
    | false => simp [hc] at h
    | true =>
      simp only [hc, Bool.and_eq_true, decide_eq_true_iff] at h
      obtain ⟨h1, h2⟩ := h
      have hc' : c = 39 := by
        have := decT hc
        apply UInt8.toNat_inj.1
        show c.toNat = 39
        omega
      subst hc'
      have hsk : Lib.indexByte [32, 9, 10, 13] (39 : UInt8) < 0 ∧ (39 : UInt8) ≠ 47 ∧ (39 : UInt8) ≠ 37 ∧ (39 : UInt8).toNat ≠ 60 ∧ (39 : UInt8).toNat ≠ 123 := by decide +kernel
      refine ⟨by simp, fun s rest hs => by rw [List.cons_append, skip_letter hsk], fun s rest hs => ?_⟩
      have e := literalS_app h1 (s :: rest)
      show tokenS (39 :: (r ++ s :: rest)) = _
      have hl : letterS ((39 : UInt8).toNat : Int) = false := by decide +kernel
      simp only [tokenS, hl, hc]
      rw [show (39 : UInt8) :: (r ++ s :: rest) = (39 :: r) ++ s :: rest from rfl, e]
      simp only [h1, h2]
      rw [List.take_left]
      rfl
def wToken : List UInt8 := [37, 116, 111, 107, 101, 110]
def wLeft : List UInt8 := [37, 108, 101, 102, 116]
def wRight : List UInt8 := [37, 114, 105, 103, 104, 116]
def wNon : List UInt8 := [37, 110, 111, 110, 97, 115, 115, 111, 99]
def wStart : List UInt8 := [37, 115, 116, 97, 114, 116]
def wPrec : List UInt8 := [37, 112, 114, 101, 99]
def wMark : List UInt8 := [37, 37]
theorem lex_token : LexAs wToken 3 [] := ⟨by simp [wToken], fun s rest hs => by rcases hs with rfl | rfl <;> kernel_rfl, fun s rest hs => by rcases hs with rfl | rfl <;> kernel_rfl⟩
theorem lex_left : LexAs wLeft 4 [] := ⟨by simp [wLeft], fun s rest hs => by rcases hs with rfl | rfl <;> kernel_rfl, fun s rest hs => by rcases hs with rfl | rfl <;> kernel_rfl⟩
theorem lex_right : LexAs wRight 5 [] := ⟨by simp [wRight], fun s rest hs => by rcases hs with rfl | rfl <;> kernel_rfl, fun s rest hs => by rcases hs with rfl | rfl <;> kernel_rfl⟩
theorem lex_non : LexAs wNon 6 [] := ⟨by simp [wNon], fun s rest hs => by rcases hs with rfl | rfl <;> kernel_rfl, fun s rest hs => by rcases hs with rfl | rfl <;> kernel_rfl⟩
theorem lex_start : LexAs wStart 7 [] := ⟨by simp [wStart], fun s rest hs => by rcases hs with rfl | rfl <;> kernel_rfl, fun s rest hs => by rcases hs with rfl | rfl <;> kernel_rfl⟩
theorem lex_prec : LexAs wPrec 8 [] := ⟨by simp [wPrec], fun s rest hs => by rcases hs with rfl | rfl <;> kernel_rfl, fun s rest hs => by rcases hs with rfl | rfl <;> kernel_rfl⟩
theorem lex_mark : LexAs wMark 9 [] := ⟨by simp [wMark], fun s rest hs => by rcases hs with rfl | rfl <;> kernel_rfl, fun s rest hs => by rcases hs with rfl | rfl <;> kernel_rfl⟩
theorem lex_colon : LexAs [58] 10 [] := ⟨by simp, fun s rest hs => by rcases hs with rfl | rfl <;> kernel_rfl, fun s rest hs => by rcases hs with rfl | rfl <;> kernel_rfl⟩
theorem lex_semi : LexAs [59] 12 [] := ⟨by simp, fun s rest hs => by rcases hs with rfl | rfl <;> kernel_rfl, fun s rest hs => by rcases hs with rfl | rfl <;> kernel_rfl⟩
end Go.Dm
namespace Go.Dm
abbrev isNm (t : TokP) : Prop := t.kind = 1 ∨ t.kind = 2
theorem con12 (k : Nat) : ([1, 2] : List Int).contains (k : Int) = decide (k = 1 ∨ k = 2) := by
  by_cases h : k = 1 ∨ k = 2
  · rw [decide_eq_true h]
    rcases h with rfl | rfl <;> rfl
  · rw [decide_eq_false h]
    simp
    omega
theorem refsS_law : ∀ (a : List TokP) (t : TokP) (r : List TokP), (∀ x ∈ a, isNm x) → ¬ isNm t → refsS (a ++ t :: r) = (a.map refOf, t :: r)
  | [], t, r, ha, ht => by
    simp only [List.nil_append, refsS]
    rw [con12, decide_eq_false ht]
    rfl
  | x :: a, t, r, ha, ht => by
    have hx : isNm x := ha x (by simp)
    simp only [List.cons_append, refsS]
    rw [con12, decide_eq_true hx, refsS_law a t r (fun y hy => ha y (by simp [hy])) ht]
    rfl
theorem takeS_law {t : TokP} {r : List TokP} {e : Nat × Nat} {ks : List Int} (h : ks.contains (t.kind : Int) = true) : takeS (t :: r) e ks = .ok (refOf t, r) := by simp only [takeS, h]
theorem take12 {t : TokP} {r : List TokP} {e : Nat × Nat} (h : isNm t) : takeS (t :: r) e [1, 2] = .ok (refOf t, r) := takeS_law (by rw [con12]; exact decide_eq_true h)
theorem takeK {t : TokP} {r : List TokP} {e : Nat × Nat} {k : Nat} (h : t.kind = k) : takeS (t :: r) e [(k : Int)] = .ok (refOf t, r) := takeS_law (by rw [h]; simp)
theorem nextK (t : TokP) (r : List TokP) (k : Nat) : nextS (t :: r) [(k : Int)] = decide (t.kind = k) := by
  simp only [nextS]
  by_cases h : t.kind = k
  · rw [decide_eq_true h, h]; simp
  · rw [decide_eq_false h]; simp; omega
structure DGrp where
  tk : TokP
  t1 : TokP
  a : List TokP
structure DGrp.OK (g : DGrp) : Prop where
  k : (3 ≤ g.tk.kind ∧ g.tk.kind ≤ 6) ∨ (g.tk.kind = 7 ∧ g.t1.kind = 1 ∧ g.a = [])
  n : isNm g.t1
  m : ∀ x ∈ g.a, isNm x
def DGrp.toks (g : DGrp) : List TokP := g.tk :: g.t1 :: g.a
def DGrp.decl (g : DGrp) : DeclS := ⟨g.tk.kind, refOf g.t1 :: g.a.map refOf⟩
theorem declS_law {g : DGrp} (h : g.OK) {t : TokP} {r : List TokP} {e : Nat × Nat} (ht : ¬ isNm t) : declS (g.toks ++ t :: r) e = .ok (g.decl, t :: r) := by
  obtain ⟨tk, t1, a⟩ := g
  obtain ⟨h1, h2, h3⟩ := h
  simp only at h1 h2 h3
  have hc : ([3, 4, 5, 6, 7] : List Int).contains (tk.kind : Int) = true := by
    have : tk.kind = 3 ∨ tk.kind = 4 ∨ tk.kind = 5 ∨ tk.kind = 6 ∨ tk.kind = 7 := by omega
    rcases this with e | e | e | e | e <;> rw [e] <;> rfl
  rcases h1 with h1 | ⟨h1, h4, rfl⟩
  · show declS (tk :: t1 :: (a ++ t :: r)) e = .ok (⟨tk.kind, refOf t1 :: a.map refOf⟩, t :: r)
    have e7 : decide (kindS (tk :: t1 :: (a ++ t :: r)) = 7) = false := decide_eq_false (by simp only [kindS]; omega)
    unfold declS
    rw [takeS_law hc]
    simp only [e7]
    rw [take12 h2]
    simp only
    rw [refsS_law a t r h3 ht]
    rfl
  · show declS (tk :: t1 :: (t :: r)) e = .ok (⟨tk.kind, [refOf t1]⟩, t :: r)
    have e7 : decide (kindS (tk :: t1 :: (t :: r)) = 7) = true := decide_eq_true (by simp only [kindS]; exact h1)
    unfold declS
    rw [takeS_law hc]
    simp only [e7]
    rw [show ([1] : List Int) = [((1 : Nat) : Int)] from rfl, takeK h4]
    rfl
theorem more_law {t : TokP} (h : t.kind ≠ 9) (r : List TokP) : moreS (t :: r) = true := by
  simp only [moreS]
  rw [show ([9] : List Int) = [((9 : Nat) : Int)] from rfl, nextK, decide_eq_false h]
theorem declsGo_law : ∀ (G : List DGrp) (n : Nat) (acc : List DeclS) (M : TokP) (rest : List TokP) (e : Nat × Nat), (∀ g ∈ G, g.OK) → M.kind = 9 → G.length < n →
    declsGo n (G.flatMap DGrp.toks ++ M :: rest) e acc = .ok (acc ++ G.map DGrp.decl, M :: rest)
  | [], n, acc, M, rest, e, hG, hM, hn => by
    obtain ⟨n, rfl⟩ : ∃ k, n = k + 1 := ⟨n - 1, by omega⟩
    have : moreS (M :: rest) = false := by
      simp only [moreS]
      rw [show ([9] : List Int) = [((9 : Nat) : Int)] from rfl, nextK, decide_eq_true hM]
    simp [declsGo, this]
  | g :: G, n, acc, M, rest, e, hG, hM, hn => by
    obtain ⟨n, rfl⟩ : ∃ k, n = k + 1 := ⟨n - 1, by omega⟩
    have hg := hG g (by simp)
    have hk : g.tk.kind ≠ 9 := by rcases hg.k with h | h <;> omega
    -- what stands behind it is no name
    obtain ⟨t, r, hr, ht⟩ : ∃ t r, G.flatMap DGrp.toks ++ M :: rest = t :: r ∧ ¬ isNm t := by
      cases G with
      | nil => exact ⟨M, rest, rfl, by unfold isNm; omega⟩
      | cons g2 G2 =>
        refine ⟨g2.tk, _, rfl, ?_⟩
        have := (hG g2 (by simp)).k
        unfold isNm
        rcases this with h | h <;> omega
    have e1 : (g :: G).flatMap DGrp.toks ++ M :: rest = g.toks ++ t :: r := by
      rw [List.flatMap_cons, List.append_assoc, hr]
    rw [e1]
    have hm : moreS (g.toks ++ t :: r) = true := more_law hk _
    simp only [declsGo, hm]
    rw [declS_law hg ht]
    simp only
    rw [← hr, declsGo_law G n _ M rest e (fun x hx => hG x (by simp [hx])) hM (by simp at hn; omega)]
    simp
structure RGrp where
  l : TokP
  c : TokP
  a : List TokP
  p : Option (TokP × TokP)
  s : TokP
def RGrp.pt (g : RGrp) : List TokP := match g.p with
  | none => []
  | some (x, y) => [x, y]
structure RGrp.OK (g : RGrp) : Prop where
  l : g.l.kind = 1
  c : g.c.kind = 10
  s : g.s.kind = 12
  a : ∀ x ∈ g.a, isNm x
  p : ∀ x y, g.p = some (x, y) → x.kind = 8 ∧ isNm y
def RGrp.toks (g : RGrp) : List TokP := g.l :: g.c :: (g.a ++ (g.pt ++ [g.s]))
def RGrp.prod (g : RGrp) : ProdS := ⟨refOf g.l, g.a.map refOf, match g.p with | none => ⟨[], none⟩ | some (_, y) => refOf y⟩
theorem groupS_law {g : RGrp} (h : g.OK) (rest : List TokP) (e : Nat × Nat) : groupS (g.toks ++ rest) e = .ok ([g.prod], rest) := by
  obtain ⟨l, c, a, p, s⟩ := g
  obtain ⟨h1, h2, h3, h4, h5⟩ := h
  simp only at h1 h2 h3 h4 h5
  have hns : ¬ isNm s := by unfold isNm; omega
  unfold groupS
  simp only [RGrp.toks, List.cons_append]
  rw [show ([1] : List Int) = [((1 : Nat) : Int)] from rfl, takeK h1]
  simp only
  rw [show ([10] : List Int) = [((10 : Nat) : Int)] from rfl, takeK h2]
  simp only [groupGo]
  cases p with
  | none =>
    have e1 : (a ++ (RGrp.pt ⟨l, c, a, none, s⟩ ++ [s])) ++ rest = a ++ s :: rest := by simp [RGrp.pt]
    rw [e1, refsS_law a s rest h4 hns]
    have e2 : precS (s :: rest) e = .ok (⟨[], none⟩, s :: rest) := by
      unfold precS
      rw [show ([8] : List Int) = [((8 : Nat) : Int)] from rfl, nextK, decide_eq_false (by omega)]
    simp only [e2]
    rw [show ([11] : List Int) = [((11 : Nat) : Int)] from rfl, nextK, decide_eq_false (by omega)]
    simp only
    rw [show ([12] : List Int) = [((12 : Nat) : Int)] from rfl, takeK h3]
    rfl
  | some xy =>
    obtain ⟨x, y⟩ := xy
    obtain ⟨h6, h7⟩ := h5 x y rfl
    have e1 : (a ++ (RGrp.pt ⟨l, c, a, some (x, y), s⟩ ++ [s])) ++ rest = a ++ x :: (y :: s :: rest) := by simp [RGrp.pt]
    rw [e1, refsS_law a x _ h4 (by unfold isNm; omega)]
    have e2 : precS (x :: (y :: s :: rest)) e = .ok (refOf y, s :: rest) := by
      unfold precS
      rw [show ([8] : List Int) = [((8 : Nat) : Int)] from rfl, nextK, decide_eq_true h6]
      simp only
      rw [takeK h6]
      simp only
      exact take12 h7
    simp only [e2]
    rw [show ([11] : List Int) = [((11 : Nat) : Int)] from rfl, nextK, decide_eq_false (by omega)]
    simp only
    rw [show ([12] : List Int) = [((12 : Nat) : Int)] from rfl, takeK h3]
    rfl
theorem groupsGo_law : ∀ (R : List RGrp) (n : Nat) (acc : List ProdS) (e : Nat × Nat), (∀ g ∈ R, g.OK) → R.length < n → groupsGo n (R.flatMap RGrp.toks) e acc = .ok (acc ++ R.map RGrp.prod, [])
  | [], n, acc, e, hR, hn => by
    obtain ⟨n, rfl⟩ : ∃ k, n = k + 1 := ⟨n - 1, by omega⟩
    simp [groupsGo, moreS]
  | g :: R, n, acc, e, hR, hn => by
    obtain ⟨n, rfl⟩ : ∃ k, n = k + 1 := ⟨n - 1, by omega⟩
    have hg := hR g (by simp)
    have hm : moreS (g.toks ++ R.flatMap RGrp.toks) = true := more_law (by have := hg.l; omega) _
    rw [List.flatMap_cons]
    simp only [groupsGo, hm]
    rw [groupS_law hg]
    simp only
    rw [groupsGo_law R n _ e (fun x hx => hR x (by simp [hx])) (by simp at hn; omega)]
    simp
theorem toks_len (R : List RGrp) : R.length ≤ (R.flatMap RGrp.toks).length := by
  induction R with
  | nil => simp
  | cons g R ih => rw [List.flatMap_cons, List.length_append]; simp only [RGrp.toks, List.length_cons]; omega
theorem dtoks_len (G : List DGrp) : G.length ≤ (G.flatMap DGrp.toks).length := by
  induction G with
  | nil => simp
  | cons g R ih => rw [List.flatMap_cons, List.length_append]; simp only [DGrp.toks, List.length_cons]; omega
theorem sourceS_law {G : List DGrp} {M : TokP} {g : RGrp} {R : List RGrp} {e : Nat × Nat} (hG : ∀ g ∈ G, g.OK) (hM : M.kind = 9) (hg : g.OK) (hR : ∀ g ∈ R, g.OK) :
    ofS (G.flatMap DGrp.toks ++ M :: (g :: R).flatMap RGrp.toks) e = .ok ⟨G.map DGrp.decl, (g :: R).map RGrp.prod⟩ := by
  unfold ofS sourceS
  rw [declsGo_law G _ [] M _ e hG hM (by have := dtoks_len G; rw [List.length_append]; omega)]
  simp only
  rw [show ([9] : List Int) = [((9 : Nat) : Int)] from rfl, takeK hM]
  simp only
  rw [List.flatMap_cons, groupS_law hg]
  simp only
  rw [groupsGo_law R _ _ e hR (by have := toks_len R; omega)]
  rfl
end Go.Dm
namespace Go.Dm
def dk (d : DeclS) : Nat × List (List UInt8) := (d.kind, d.names.map RefS.text)
def pk (p : ProdS) : List UInt8 × List (List UInt8) × List UInt8 := (p.left.text, p.right.map RefS.text, p.prec.text)
theorem declsB_app : ∀ (D1 D2 : List DeclS) {b c : BS}, declsB b D1 = .ok c → declsB b (D1 ++ D2) = declsB c D2
  | [], D2, b, c, h => by injection h with h; subst h; rfl
  | d :: D1, D2, b, c, h => by
    simp only [declsB, List.cons_append] at h ⊢
    cases hd : declB b d with
    | error w => rw [hd] at h; cases h
    | ok b' =>
      rw [hd] at h
      simp only at h ⊢
      exact declsB_app D1 D2 h
theorem nameB_tok {b : BS} {r : RefS} (h1 : namedS r.text = true) (h2 : r.text ∉ b.tokens) (h3 : termIx b.terms r.text < 0) (h4 : b.terms.length ≠ 24) :
    nameB b 3 r = .ok { b with tokens := b.tokens ++ [r.text], terms := b.terms ++ [⟨r.text, 0, 0⟩] } := by
  have e2 : b.tokens.contains r.text = false := by simpa using h2
  have e3 : decide (termIx b.terms r.text ≥ 0) = false := decide_eq_false (by omega)
  have e4 : decide (b.terms.length = 24) = false := decide_eq_false h4
  unfold nameB addS
  simp only [h1, e2, e3, e4]
  rfl
theorem dk_one {d : DeclS} {k : Nat} {s : List UInt8} (h : dk d = (k, [s])) : ∃ r : RefS, d = ⟨k, [r]⟩ ∧ r.text = s := by
  obtain ⟨kd, ns⟩ := d
  simp only [dk, Prod.mk.injEq] at h
  obtain ⟨rfl, h⟩ := h
  match ns, h with
  | [r], h => exact ⟨r, rfl, by simpa using h⟩
theorem tokens_law : ∀ (ts : List TermS) (ds : List DeclS) (b : BS), ds.map dk = ts.map (fun t => (3, [t.name])) → b.terms.map TermS.name = b.tokens → (b.tokens ++ ts.map TermS.name).Nodup → (∀ t ∈ ts, namedS t.name = true) → b.terms.length + ts.length ≤ 24 →
    declsB b ds = .ok { b with terms := b.terms ++ ts.map (fun t => ⟨t.name, 0, 0⟩), tokens := b.tokens ++ ts.map TermS.name }
  | [], ds, b, h, h1, h2, h3, h4 => by
    have : ds = [] := by simpa using h
    subst this
    simp [declsB]
  | t :: ts, ds, b, h, h1, h2, h3, h4 => by
    cases ds with
    | nil => simp at h
    | cons d ds =>
      simp only [List.map_cons, List.cons.injEq] at h
      obtain ⟨hd, h⟩ := h
      obtain ⟨r, rfl, hr⟩ := dk_one hd
      have hni : r.text ∉ b.tokens := by
        rw [hr]
        intro hm
        rw [List.nodup_append] at h2
        exact h2.2.2 _ hm t.name (by simp) rfl
      have hti : termIx b.terms r.text < 0 := (termIx_none _ _).2 fun u hu e => hni (by rw [← h1, ← e]; exact List.mem_map.2 ⟨u, hu, rfl⟩)
      have hn := nameB_tok (b := b) (r := r) (by rw [hr]; exact h3 t (by simp)) hni hti (by simp at h4; omega)
      have hdB : declB b ⟨3, [r]⟩ = .ok { b with tokens := b.tokens ++ [r.text], terms := b.terms ++ [⟨r.text, 0, 0⟩] } := by
        show namesB b 3 [r] = _
        simp only [namesB, hn]
      simp only [declsB, hdB]
      rw [tokens_law ts ds { b with tokens := b.tokens ++ [r.text], terms := b.terms ++ [⟨r.text, 0, 0⟩] } h (by simp [h1]) (by simpa [hr] using h2) (fun u hu => h3 u (by simp [hu])) (by simp at h4 ⊢; omega)]
      simp [hr]
def setL (ns : List (List UInt8)) (lv a : Int) (l : List TermS) : List TermS := l.map fun t => match ns.contains t.name with | true => ⟨t.name, lv, a⟩ | false => t
theorem setL_names (ns : List (List UInt8)) (lv a : Int) (l : List TermS) : (setL ns lv a l).map TermS.name = l.map TermS.name := by
  unfold setL
  rw [List.map_map]
  apply List.map_congr_left
  intro t _
  simp only [Function.comp]
  split <;> rfl
theorem setL_cons (x : List UInt8) (xs : List (List UInt8)) (lv a : Int) (l : List TermS) : setL xs lv a (setL [x] lv a l) = setL (x :: xs) lv a l := by
  unfold setL
  rw [List.map_map]
  apply List.map_congr_left
  intro t _
  simp only [Function.comp]
  by_cases h : x = t.name
  · have e1 : ([x] : List (List UInt8)).contains t.name = true := by simp [h]
    have e2 : (x :: xs).contains t.name = true := by simp [h]
    rw [e1, e2]
    simp only
    split <;> rfl
  · have h' : ¬ t.name = x := fun e => h e.symm
    have e1 : ([x] : List (List UInt8)).contains t.name = false := by simp [h']
    have e2 : (x :: xs).contains t.name = xs.contains t.name := by simp [h']
    rw [e1, e2]
theorem precede_law {b : BS} {r : RefS} {a : Int} (hnd : (b.terms.map TermS.name).Nodup) (h : ∃ t ∈ b.terms, t.name = r.text ∧ t.level = 0) : precedeS b r a = .ok { b with terms := setL [r.text] b.levels a b.terms } := by
  obtain ⟨t, ht, hn, h0⟩ := h
  obtain ⟨i, hi, rfl⟩ := List.getElem_of_mem ht
  have hix : termIx b.terms r.text = i := by rw [← hn]; exact (terms_own _).2 hnd i hi
  have e1 : decide (termIx b.terms r.text ≥ 0) = true := decide_eq_true (by omega)
  have e2 : levelAt b.terms (termIx b.terms r.text) = 0 := by
    unfold levelAt
    rw [hix, show ((i : Int)).toNat = i by omega, List.getElem?_eq_getElem hi]
    exact h0
  have e3 : addS b r = .ok (termIx b.terms r.text, b) := by unfold addS; rw [e1]
  have e4 : setL [r.text] b.levels a b.terms = putLevel b.terms (termIx b.terms r.text).toNat b.levels a := by
    rw [hix, show ((i : Int)).toNat = i by omega, putLevel_eq hi]
    unfold setL
    apply List.ext_getElem
    · simp
    · intro j h1 h2
      simp only [List.length_map] at h1
      rw [List.getElem_map]
      by_cases e : i = j
      · subst e
        simp [hn]
      · rw [List.getElem_set_ne e]
        have hne : ¬ b.terms[j].name = r.text := by
          intro e5
          have := (List.nodup_iff_pairwise_ne.1 hnd)
          have h6 := List.pairwise_iff_getElem.1 hnd
          rw [← hn] at e5
          rcases Nat.lt_or_gt_of_ne e with hlt | hlt
          · exact h6 i j (by simpa using hi) (by simpa using h1) hlt (by simp [e5])
          · exact h6 j i (by simpa using h1) (by simpa using hi) hlt (by simp [e5])
        simp [hne]
  unfold precedeS
  rw [e1, e2]
  simp only [e3, e4]
  rfl
theorem names_law : ∀ (rs : List RefS) {b : BS} {k : Nat} {a : Int}, (k = 4 ∧ a = 1 ∨ k = 5 ∧ a = 2 ∨ k = 6 ∧ a = 3) → (rs.map RefS.text).Nodup → (b.terms.map TermS.name).Nodup → (∀ r ∈ rs, namedS r.text = true ∧ ∃ t ∈ b.terms, t.name = r.text ∧ t.level = 0) →
    namesB b k rs = .ok { b with terms := setL (rs.map RefS.text) b.levels a b.terms }
  | [], b, k, a, hk, h1, h2, h3 => by
    simp only [namesB, List.map_nil]
    congr 2
    unfold setL
    simp
  | r :: rs, b, k, a, hk, h1, h2, h3 => by
    obtain ⟨hn, ht⟩ := h3 r (by simp)
    rw [List.map_cons, List.nodup_cons] at h1
    have hp := precede_law (a := a) h2 ht
    have hB : nameB b k r = .ok { b with terms := setL [r.text] b.levels a b.terms } := by
      unfold nameB
      rcases hk with ⟨rfl, rfl⟩ | ⟨rfl, rfl⟩ | ⟨rfl, rfl⟩ <;> simp only [hn] <;> exact hp
    simp only [namesB, hB]
    rw [names_law rs (b := { b with terms := setL [r.text] b.levels a b.terms }) hk h1.2 (by rw [setL_names]; exact h2) (fun x hx => by
      obtain ⟨g1, t, g2, g3, g4⟩ := h3 x (by simp [hx])
      refine ⟨g1, t, ?_, g3, g4⟩
      have hne : ¬ t.name = r.text := fun e => h1.1 (by rw [← e, g3]; exact List.mem_map.2 ⟨x, hx, rfl⟩)
      simp only [setL, List.mem_map]
      exact ⟨t, g2, by simp [hne]⟩)]
    simp only [List.map_cons]
    rw [setL_cons]
def kindOf (a : Int) : Nat := if a = 1 then 4 else if a = 2 then 5 else 6
def atLevel (T : List TermS) (n : Int) : List TermS := T.filter fun t => decide (t.level = n)
def assocAt (T : List TermS) (n : Int) : Int := match atLevel T n with
  | [] => 0
  | t :: _ => t.assoc
def lvE (T : List TermS) (n : Int) : Nat × List (List UInt8) := (kindOf (assocAt T n), (atLevel T n).map TermS.name)
def cutL (n : Int) (t : TermS) : TermS := if t.level ≤ n then t else ⟨t.name, 0, 0⟩
theorem cutL_name (n : Int) (t : TermS) : (cutL n t).name = t.name := by unfold cutL; split <;> rfl
structure TGood (T : List TermS) : Prop where
  nd : (T.map TermS.name).Nodup
  tp : ∀ t ∈ T, TermP t
  ag : ∀ t ∈ T, ∀ u ∈ T, t.level ≠ 0 → t.level = u.level → t.assoc = u.assoc
theorem TGood.inj {T : List TermS} (h : TGood T) {t u : TermS} (ht : t ∈ T) (hu : u ∈ T) (e : t.name = u.name) : t = u := by
  obtain ⟨i, hi, rfl⟩ := List.getElem_of_mem ht
  obtain ⟨j, hj, rfl⟩ := List.getElem_of_mem hu
  have h6 := List.pairwise_iff_getElem.1 h.nd
  by_cases hij : i = j
  · subst hij; rfl
  · exfalso
    rcases Nat.lt_or_gt_of_ne hij with hlt | hlt
    · exact h6 i j (by simpa using hi) (by simpa using hj) hlt (by simpa using e)
    · exact h6 j i (by simpa using hj) (by simpa using hi) hlt (by simpa using e.symm)
theorem assocAt_eq {T : List TermS} (h : TGood T) {t : TermS} (ht : t ∈ T) (h0 : t.level ≠ 0) : assocAt T t.level = t.assoc := by
  have hm : t ∈ atLevel T t.level := by simp [atLevel, ht]
  unfold assocAt
  cases hl : atLevel T t.level with
  | nil => rw [hl] at hm; cases hm
  | cons u r =>
    have hu : u ∈ atLevel T t.level := by rw [hl]; simp
    simp only [atLevel, List.mem_filter, decide_eq_true_eq] at hu
    exact (h.ag t ht u hu.1 h0 hu.2.symm).symm
theorem contains_level {T : List TermS} (h : TGood T) {t : TermS} (ht : t ∈ T) (n : Int) : ((atLevel T n).map TermS.name).contains t.name = decide (t.level = n) := by
  by_cases e : t.level = n
  · rw [decide_eq_true e]
    simp only [List.contains_iff_mem, List.mem_map]
    exact ⟨t, by simp [atLevel, ht, e], rfl⟩
  · rw [decide_eq_false e]
    rw [Bool.eq_false_iff]
    intro hc
    simp only [ne_eq, List.contains_iff_mem, List.mem_map] at hc
    obtain ⟨u, hu, e2⟩ := hc
    simp only [atLevel, List.mem_filter, decide_eq_true_eq] at hu
    have := h.inj hu.1 ht e2
    subst this
    exact e hu.2
theorem cut_step {T : List TermS} (h : TGood T) {n : Int} (hn : 0 ≤ n) : setL ((atLevel T (n + 1)).map TermS.name) (n + 1) (assocAt T (n + 1)) (T.map (cutL n)) = T.map (cutL (n + 1)) := by
  unfold setL
  rw [List.map_map]
  apply List.map_congr_left
  intro t ht
  simp only [Function.comp, cutL_name]
  rw [contains_level h ht]
  by_cases e : t.level = n + 1
  · rw [decide_eq_true e]
    simp only
    rw [← e, assocAt_eq h ht (by omega)]
    unfold cutL
    rw [if_pos (Int.le_refl _)]
  · rw [decide_eq_false e]
    simp only
    unfold cutL
    by_cases h1 : t.level ≤ n
    · rw [if_pos h1, if_pos (by omega)]
    · rw [if_neg h1, if_neg (by omega)]
theorem level_decl {T : List TermS} (h : TGood T) {b : BS} {n : Nat} (hb : b.terms = T.map (cutL n)) (hl : b.levels = n) {d : DeclS} (hd : dk d = lvE T ((n + 1 : Nat) : Int)) (hne : atLevel T ((n + 1 : Nat) : Int) ≠ []) :
    declB b d = .ok { b with terms := T.map (cutL ((n + 1 : Nat) : Int)), levels := n + 1 } := by
  obtain ⟨k, ns⟩ := d
  simp only [dk, lvE, Prod.mk.injEq] at hd
  obtain ⟨hk, hns⟩ := hd
  obtain ⟨t, ht, hta⟩ : ∃ t ∈ T, t.level = ((n + 1 : Nat) : Int) := by
    cases hx : atLevel T ((n + 1 : Nat) : Int) with
    | nil => exact absurd hx hne
    | cons t r =>
      have : t ∈ atLevel T ((n + 1 : Nat) : Int) := by rw [hx]; simp
      simp only [atLevel, List.mem_filter, decide_eq_true_eq] at this
      exact ⟨t, this.1, this.2⟩
  have ha : assocAt T ((n + 1 : Nat) : Int) = t.assoc := by rw [← hta]; exact assocAt_eq h ht (by omega)
  have htp := h.tp t ht
  have ha0 : t.assoc ≠ 0 := fun e => by have := htp.2.2.2.2 e; omega
  have hk3 : k = 4 ∧ assocAt T ((n + 1 : Nat) : Int) = 1 ∨ k = 5 ∧ assocAt T ((n + 1 : Nat) : Int) = 2 ∨ k = 6 ∧ assocAt T ((n + 1 : Nat) : Int) = 3 := by
    rw [ha] at hk ⊢
    have h1 := htp.2.2.1
    have : t.assoc = 1 ∨ t.assoc = 2 ∨ t.assoc = 3 := by omega
    rcases this with e | e | e
    · exact .inl ⟨by rw [hk, e]; rfl, e⟩
    · exact .inr (.inl ⟨by rw [hk, e]; rfl, e⟩)
    · exact .inr (.inr ⟨by rw [hk, e]; rfl, e⟩)
  have hup : upB b k = { b with levels := n + 1 } := by
    unfold upB
    rw [show (decide (k = 3) || decide (k = 7)) = false by rcases hk3 with ⟨rfl, _⟩ | ⟨rfl, _⟩ | ⟨rfl, _⟩ <;> rfl, hl]
  have hnames := names_law ns (b := { b with levels := n + 1 }) hk3 (by
    rw [hns]
    exact h.nd.sublist ((List.filter_sublist).map _)) (by
    simp only [hb, List.map_map]
    have : (TermS.name ∘ cutL (n : Int)) = TermS.name := by funext t; exact cutL_name _ _
    rw [this]; exact h.nd) (fun r hr => by
    have hm : r.text ∈ (atLevel T ((n + 1 : Nat) : Int)).map TermS.name := by rw [← hns]; exact List.mem_map.2 ⟨r, hr, rfl⟩
    obtain ⟨u, hu, e⟩ := List.mem_map.1 hm
    simp only [atLevel, List.mem_filter, decide_eq_true_eq] at hu
    refine ⟨by rw [← e]; exact (h.tp u hu.1).1, cutL n u, ?_, by rw [cutL_name]; exact e, ?_⟩
    · simp only [hb]; exact List.mem_map.2 ⟨u, hu.1, rfl⟩
    · unfold cutL; rw [if_neg (by omega)])
  unfold declB
  simp only [hup]
  rw [hnames]
  simp only [hns, hb]
  congr 2
  have := cut_step h (n := (n : Int)) (by omega)
  simpa using this
theorem levels_law {T : List TermS} (h : TGood T) : ∀ (k n : Nat) (ds : List DeclS) (b : BS), b.terms = T.map (cutL n) → b.levels = n → ds.map dk = (List.range k).map (fun j => lvE T ((n + 1 + j : Nat) : Int)) → (∀ j, j < k → atLevel T ((n + 1 + j : Nat) : Int) ≠ []) →
    declsB b ds = .ok { b with terms := T.map (cutL ((n + k : Nat) : Int)), levels := n + k }
  | 0, n, ds, b, hb, hl, hd, hne => by
    have : ds = [] := by simpa using hd
    subst this
    simp only [declsB, Nat.add_zero]
    rw [← hb, ← hl]
  | k + 1, n, ds, b, hb, hl, hd, hne => by
    rw [List.range_succ_eq_map] at hd
    simp only [List.map_cons, List.map_map] at hd
    cases ds with
    | nil => simp at hd
    | cons d ds =>
      simp only [List.map_cons, List.cons.injEq] at hd
      have h1 := level_decl h hb hl (d := d) (by simpa using hd.1) (by simpa using hne 0 (by omega))
      simp only [declsB, h1]
      rw [levels_law h k (n + 1) ds { b with terms := T.map (cutL ((n + 1 : Nat) : Int)), levels := n + 1 } rfl rfl (by
        rw [hd.2]
        apply List.map_congr_left
        intro j _
        simp only [Function.comp]
        rw [show n + 1 + (j + 1) = n + 1 + 1 + j by omega]) (fun j hj => by
        have := hne (j + 1) (by omega)
        rwa [show n + 1 + (j + 1) = n + 1 + 1 + j by omega] at this)]
      simp only
      rw [show n + 1 + k = n + (k + 1) by omega]
end Go.Dm
