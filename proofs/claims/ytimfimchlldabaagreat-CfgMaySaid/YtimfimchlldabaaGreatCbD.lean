/- Texts of one proof, joined by a program of this claim's: a semantic evaluator for the walks; the contracts of the functions; the plain laws. -/
import Derived.Laws.StructEq
import Derived.Test.YtimfimchlldabaaGreatCbC
set_option linter.all false
namespace Go.Dm
/-! ### yacc: a source -/
structure SourceS where
  decls : List DeclS
  prods : List ProdS
def sourceCells (s : SourceS) : List D := [.list 2 (s.decls.map declCells), .list 5 (s.prods.map prodCells)]
def moreS (l : List TokP) : Bool := match l with
  | [] => false
  | _ :: _ => match nextS l [9] with
    | true => false
    | false => true
def declsGo : Nat → List TokP → Nat × Nat → List DeclS → Except Wr (List DeclS × List TokP)
  | 0, l, _, acc => .ok (acc, l)
  | n + 1, l, e, acc => match moreS l with
    | false => .ok (acc, l)
    | true => match declS l e with
      | .error w => .error w
      | .ok p => declsGo n p.2 e (acc ++ [p.1])
def groupsGo : Nat → List TokP → Nat × Nat → List ProdS → Except Wr (List ProdS × List TokP)
  | 0, l, _, acc => .ok (acc, l)
  | n + 1, l, e, acc => match moreS l with
    | false => .ok (acc, l)
    | true => match groupS l e with
      | .error w => .error w
      | .ok p => groupsGo n p.2 e (acc ++ p.1)
def endS (l : List TokP) (e : Nat × Nat) : Except Wr (List TokP) := match nextS l [9] with
  | true => match takeS l e [9] with
    | .error w => .error w
    | .ok p => .ok p.2
  | false => .ok l
def lastS (l : List TokP) (e : Nat × Nat) : Except Wr (List TokP) := match endS l e with
  | .error w => .error w
  | .ok l => match l with
    | [] => .ok []
    | t :: r => match takeS (t :: r) e [] with
      | .error w => .error w
      | .ok p => .ok p.2
def sourceS (l : List TokP) (e : Nat × Nat) : Except Wr (SourceS × List TokP) := match declsGo (l.length + 1) l e [] with
  | .error w => .error w
  | .ok p => match takeS p.2 e [9] with
    | .error w => .error w
    | .ok q => match groupS q.2 e with
      | .error w => .error w
      | .ok g => match groupsGo (g.2.length + 1) g.2 e g.1 with
        | .error w => .error w
        | .ok h => match lastS h.2 e with
          | .error w => .error w
          | .ok r => .ok (⟨p.1, h.1⟩, r)
theorem declS_len {l : List TokP} {e : Nat × Nat} {p : DeclS × List TokP} (h : declS l e = .ok p) : p.2.length + 2 ≤ l.length ∧ p.1.names.length + p.2.length + 1 ≤ l.length := by
  unfold declS at h
  cases ht : takeS l e [3, 4, 5, 6, 7] with
  | error w => rw [ht] at h; cases h
  | ok a =>
    have h1 := takeS_len ht
    rw [ht] at h
    simp only at h
    split at h
    · cases hq : takeS a.2 e [1] with
      | error w => rw [hq] at h; cases h
      | ok q =>
        have h2 := takeS_len hq
        rw [hq] at h
        injection h with h; subst h
        simp only [List.length_cons, List.length_nil]; omega
    · cases hq : takeS a.2 e [1, 2] with
      | error w => rw [hq] at h; cases h
      | ok q =>
        have h2 := takeS_len hq
        have h3 := refsS_len q.2
        rw [hq] at h
        injection h with h; subst h
        simp only [List.length_cons]; omega
theorem precS_len {l : List TokP} {e : Nat × Nat} {p : RefS × List TokP} (h : precS l e = .ok p) : p.2.length ≤ l.length := by
  unfold precS at h
  split at h
  · cases hq : takeS l e [8] with
    | error w => rw [hq] at h; cases h
    | ok q =>
      rw [hq] at h
      have := takeS_len hq
      have := takeS_len h
      omega
  · injection h with h; subst h; exact Nat.le_refl _
theorem groupGo_len : ∀ (n : Nat) (left : RefS) (l : List TokP) (e : Nat × Nat) (acc : List ProdS) {p : List ProdS × List TokP}, l.length < n → groupGo n left l e acc = .ok p → p.2.length + 1 ≤ l.length ∧ p.1.length + p.2.length ≤ acc.length + l.length
  | 0, _, _, _, _, _, h, _ => by omega
  | n + 1, left, l, e, acc, p, hn, h => by
    have hr := refsS_len l
    simp only [groupGo] at h
    cases hp : precS (refsS l).2 e with
    | error w => rw [hp] at h; cases h
    | ok a =>
      have h1 := precS_len hp
      rw [hp] at h
      simp only at h
      split at h
      · cases hq : takeS a.2 e [11] with
        | error w => rw [hq] at h; cases h
        | ok q =>
          have h2 := takeS_len hq
          rw [hq] at h
          have := groupGo_len n left q.2 e _ (by omega) h
          simp only [List.length_append, List.length_cons, List.length_nil] at this
          omega
      · cases hq : takeS a.2 e [12] with
        | error w => rw [hq] at h; cases h
        | ok q =>
          have h2 := takeS_len hq
          rw [hq] at h
          injection h with h; subst h
          simp only [List.length_append, List.length_cons, List.length_nil]
          omega
theorem groupS_len {l : List TokP} {e : Nat × Nat} {p : List ProdS × List TokP} (h : groupS l e = .ok p) : p.2.length + 3 ≤ l.length ∧ p.1.length + p.2.length + 2 ≤ l.length := by
  unfold groupS at h
  cases ht : takeS l e [1] with
  | error w => rw [ht] at h; cases h
  | ok a =>
    have h1 := takeS_len ht
    rw [ht] at h
    simp only at h
    cases hq : takeS a.2 e [10] with
    | error w => rw [hq] at h; cases h
    | ok q =>
      have h2 := takeS_len hq
      rw [hq] at h
      have := groupGo_len _ _ _ _ _ (Nat.lt_succ_self _) h
      simp only [List.length_nil] at this
      omega
theorem groupGo_ne : ∀ (n : Nat) (left : RefS) (l : List TokP) (e : Nat × Nat) (acc : List ProdS) {p : List ProdS × List TokP}, l.length < n → groupGo n left l e acc = .ok p → p.1 ≠ []
  | 0, _, _, _, _, _, h, _ => by omega
  | n + 1, left, l, e, acc, p, hn, h => by
    have hr := refsS_len l
    simp only [groupGo] at h
    cases hp : precS (refsS l).2 e with
    | error w => rw [hp] at h; cases h
    | ok a =>
      have h1 := precS_len hp
      rw [hp] at h
      simp only at h
      split at h
      · cases hq : takeS a.2 e [11] with
        | error w => rw [hq] at h; cases h
        | ok q =>
          have h2 := takeS_len hq
          rw [hq] at h
          exact groupGo_ne n left q.2 e _ (by omega) h
      · cases hq : takeS a.2 e [12] with
        | error w => rw [hq] at h; cases h
        | ok q =>
          rw [hq] at h
          injection h with h; subst h
          simp
theorem groupS_ne {l : List TokP} {e : Nat × Nat} {p : List ProdS × List TokP} (h : groupS l e = .ok p) : p.1 ≠ [] := by
  unfold groupS at h
  cases ht : takeS l e [1] with
  | error w => rw [ht] at h; cases h
  | ok a =>
    rw [ht] at h
    simp only at h
    cases hq : takeS a.2 e [10] with
    | error w => rw [hq] at h; cases h
    | ok q =>
      rw [hq] at h
      exact groupGo_ne _ _ _ _ _ (Nat.lt_succ_self _) h
theorem decl_len (l : List DeclS) : (l.map declCells).length = l.length := by simp
theorem moreS_cons {t : TokP} {r : List TokP} : moreS (t :: r) = !nextS (t :: r) [9] := by
  simp only [moreS]; cases nextS (t :: r) [9] <;> rfl
namespace Tryz
open Go.Proofs
theorem declOk {l : List TokP} {e : Nat × Nat} {p : DeclS × List TokP} (h : declS l e = .ok p) (hl : l.length ≤ 4000) : PCall Tryz.prog 121 (yrM l e) [.ref 1000 0] (.ret (.agg (declCells p.1)) (yrM p.2 e)) := by
  have := yaccDecl l e hl
  rwa [h] at this
theorem declBad {l : List TokP} {e : Nat × Nat} {w : Wr} (h : declS l e = .error w) (hl : l.length ≤ 4000) : PCall Tryz.prog 121 (yrM l e) [.ref 1000 0] (.pan (yWr w)) := by
  have := yaccDecl l e hl
  rwa [h] at this
theorem groupOk {l : List TokP} {e : Nat × Nat} {p : List ProdS × List TokP} (h : groupS l e = .ok p) (hl : l.length ≤ 4000) : PCall Tryz.prog 123 (yrM l e) [.ref 1000 0] (.ret (.row 2 p.1.length) ((2, .row 143 5 (p.1.map prodCells)) :: yrM p.2 e)) := by
  have := yaccGroup l e hl
  rwa [h] at this
theorem groupBad {l : List TokP} {e : Nat × Nat} {w : Wr} (h : groupS l e = .error w) (hl : l.length ≤ 4000) : PCall Tryz.prog 123 (yrM l e) [.ref 1000 0] (.pan (yWr w)) := by
  have := yaccGroup l e hl
  rwa [h] at this
structure DcSt where
  l : List TokP
  acc : List DeclS
set_option maxHeartbeats 4000000 in
theorem yaccSource (l : List TokP) (e : Nat × Nat) (hl : l.length ≤ 4000) : PCall Tryz.prog 93 (yrM l e) [.ref 1000 0] (exO yWr (fun p => .ret (.agg (sourceCells p.1)) (yrM p.2 e)) (sourceS l e)) := by
  generalize hS : sourceS l e = S
  generalize hR : declsGo (l.length + 1) l e [] = R
  refine pcall_of (news := [2, 43]) cxOK Tryz.func93 rfl Tryz.ntmps93 rfl rfl rfl (by decide) ?_
  repeat' ((conv => whnf); first | refine aB rfl ?_ | refine sY rfl ?_ | refine sN rfl ?_ | refine sM (fun _ => ?_) (fun _ => ?_))
  all_goals (conv => whnf)
  refine LoopW.to (ι := DcSt) (fun s => (∃ n, declsGo n s.l e s.acc = R ∧ s.l.length < n) ∧ s.l.length + s.acc.length ≤ 4000) (fun s => s.l.length)
    (fun s => [(0, .ref 1000 0), (2, .ref 2 0)]) (fun s => (2, .cells [.row 60 s.acc.length, .v (.slice none 0 0)]) :: (60, .row 138 2 (s.acc.map declCells)) :: yrM s.l e)
    [⟨60, 138, 2, 1002000⟩] ⟨l, []⟩ ⟨⟨_, hR, Nat.lt_succ_self _⟩, by simp; omega⟩ ⟨rfl, rfl, ⟨rfl, rfl, trivial⟩, rfl, rfl, rfl, trivial⟩ ?_
  rintro ⟨l', acc⟩ ⟨⟨n, h1, h2⟩, h3⟩
  simp only at h1 h2 h3
  obtain ⟨n, rfl⟩ : ∃ k, n = k + 1 := ⟨n - 1, by omega⟩
  cases l' with
  | nil =>
    obtain rfl : R = .ok (acc, []) := by rw [← h1]; rfl
    obtain rfl : S = .error (some e, 4) := by rw [← hS]; simp only [sourceS, hR, takeS]
    repeat' ((conv => whnf); first | refine aB rfl ?_ | refine sY rfl ?_ | refine sN rfl ?_ | refine sM (fun _ => ?_) (fun _ => ?_))
    all_goals (conv => whnf)
    refine callM (takeBad (l := []) (e := e) (ks := [9]) rfl (by decide)) ⟨rfl, trivial⟩ rfl ?_
    conv => whnf
    exact ⟨_, rfl, Or.inl ⟨rfl, rfl⟩⟩
  | cons t r =>
  repeat' ((conv => whnf); first | refine aB rfl ?_ | refine sY rfl ?_ | refine sN rfl ?_ | refine sM (fun _ => ?_) (fun _ => ?_))
  all_goals (conv => whnf)
  case refine_2 => rename_i h; have := decF h; simp at this
  refine callM (yaccNext (t :: r) e [9] (by decide)) ⟨rfl, trivial⟩ rfl ?_
  repeat' ((conv => whnf); first | refine aB rfl ?_ | refine sY rfl ?_ | refine sN rfl ?_ | refine sM (fun _ => ?_) (fun _ => ?_))
  all_goals (conv => whnf)
  · rename_i hn
    have hn : nextS (t :: r) [9] = false := notT hn
    have hm : moreS (t :: r) = true := by simp only [moreS, hn]
    cases hd : declS (t :: r) e with
    | error w =>
      obtain rfl : R = .error w := by rw [← h1]; simp only [declsGo, hm, hd]
      obtain rfl : S = .error w := by rw [← hS]; simp only [sourceS, hR]
      refine callM (declBad hd (by omega)) ⟨rfl, trivial⟩ rfl ?_
      repeat' ((conv => whnf); first | refine aB rfl ?_ | refine sY rfl ?_ | refine sN rfl ?_ | refine sM (fun _ => ?_) (fun _ => ?_))
      all_goals (conv => whnf)
      refine ⟨⟨_, rfl, Or.inl ⟨rfl, rfl⟩⟩, ?_⟩
      repeat' ((conv => whnf); first | refine aB rfl ?_ | refine sY rfl ?_ | refine sN rfl ?_ | refine sM (fun _ => ?_) (fun _ => ?_))
      all_goals (conv => whnf)
      exact ⟨rfl, trivial⟩
    | ok p =>
      have hdl := declS_len hd
      refine callM (declOk hd (by omega)) ⟨rfl, trivial⟩ rfl ?_
      repeat' ((conv => whnf); first | refine aB rfl ?_ | refine sY rfl ?_ | refine sN rfl ?_ | refine sM (fun _ => ?_) (fun _ => ?_))
      all_goals (conv => whnf)
      have ha : (acc ++ [p.1]).length = acc.length + 1 := by simp
      refine AppG.row1 ((acc ++ [p.1]).map declCells) (decl_len _).symm rfl ?_ (by decide) ⟨rfl, ?_, ?_⟩
      · rw [decl_len]; simp only; omega
      · rw [List.map_append]; rfl
      repeat' ((conv => whnf); first | refine aB rfl ?_ | refine sY rfl ?_ | refine sN rfl ?_ | refine sM (fun _ => ?_) (fun _ => ?_))
      all_goals (conv => whnf)
      refine ⟨rfl, ?_⟩
      repeat' ((conv => whnf); first | refine aB rfl ?_ | refine sY rfl ?_ | refine sN rfl ?_ | refine sM (fun _ => ?_) (fun _ => ?_))
      all_goals (conv => whnf)
      refine NextG.to ⟨p.2, acc ++ [p.1]⟩ ⟨⟨n, ?_, ?_⟩, ?_⟩ ?_ ⟨⟨rfl, rfl, trivial⟩, congrArg (fun n => some (Ob.cells [D.row 60 n, D.v (.slice none 0 0)])) ha.symm, rfl, rfl, trivial⟩
      · rw [← h1]; simp only [declsGo, hm, hd]
      all_goals simp only
      all_goals omega
  · rename_i hn
    have hn : nextS (t :: r) [9] = true := notF hn
    have hm : moreS (t :: r) = false := by simp only [moreS, hn]
    obtain rfl : R = .ok (acc, t :: r) := by rw [← h1]; simp only [declsGo, hm]
    obtain ⟨t1, r1, e1, g1, g2⟩ := nextS_take (e := e) hn
    injection e1 with e1 e2
    subst e1; subst e2
    refine callM (takeOk g1 (by decide)) ⟨rfl, trivial⟩ rfl ?_
    repeat' ((conv => whnf); first | refine aB rfl ?_ | refine sY rfl ?_ | refine sN rfl ?_ | refine sM (fun _ => ?_) (fun _ => ?_))
    all_goals (conv => whnf)
    cases hg : groupS r e with
    | error w =>
      obtain rfl : S = .error w := by rw [← hS]; simp only [sourceS, hR, g1, hg]
      refine callM (groupBad hg (by simp only [List.length_cons] at h3; omega)) ⟨rfl, trivial⟩ rfl ?_
      conv => whnf
      exact ⟨_, rfl, Or.inl ⟨rfl, rfl⟩⟩
    | ok g =>
      have hgl := groupS_len hg
      refine callM ((groupOk hg (by simp only [List.length_cons] at h3; omega)).swap 2 61) ⟨rfl, trivial⟩ rfl ?_
      repeat' ((conv => whnf); first | refine aB rfl ?_ | refine sY rfl ?_ | refine sN rfl ?_ | refine sM (fun _ => ?_) (fun _ => ?_))
      all_goals (conv => whnf)
      have hlr : (t :: r).length ≤ 4000 := by omega
      simp only [List.length_cons] at hlr
      generalize hQ : groupsGo (g.2.length + 1) g.2 e g.1 = Q
      have hS1 : ∀ w, Q = .error w → S = .error w := fun w hw => by rw [← hS]; simp only [sourceS, hR, g1, hg, hQ, hw]
      have hS2 : ∀ h w, Q = .ok h → lastS h.2 e = .error w → S = .error w := fun h w hw hl => by rw [← hS]; simp only [sourceS, hR, g1, hg, hQ, hw, hl]
      have hS3 : ∀ h l, Q = .ok h → lastS h.2 e = .ok l → S = .ok (⟨acc, h.1⟩, l) := fun h l hw hl => by rw [← hS]; simp only [sourceS, hR, g1, hg, hQ, hw, hl]
      clear hS
      refine LoopW.to (ι := GrSt) (fun s => (∃ n, groupsGo n s.l e s.acc = Q ∧ s.l.length < n) ∧ s.l.length + s.acc.length ≤ 4000) (fun s => s.l.length)
        (fun s => [(0, .ref 1000 0), (2, .ref 2 0)]) (fun s => (2, .cells [.row 60 acc.length, .row 61 s.acc.length]) :: (60, .row 138 2 (acc.map declCells)) :: (61, .row 143 5 (s.acc.map prodCells)) :: yrM s.l e)
        [] ⟨g.2, g.1⟩ ⟨⟨_, hQ, Nat.lt_succ_self _⟩, by simp only; omega⟩ ⟨⟨rfl, rfl, trivial⟩, rfl, rfl, rfl, rfl, trivial⟩ ?_
      rintro ⟨l2, acc2⟩ ⟨⟨n2, k1, k2⟩, k3⟩
      simp only at k1 k2 k3
      obtain ⟨n2, rfl⟩ : ∃ k, n2 = k + 1 := ⟨n2 - 1, by omega⟩
      have hres : ∀ {ids : List Nat} {M : Mem}, get M 60 = some (.row 138 2 (acc.map declCells)) → get M 61 = some (.row 143 5 (acc2.map prodCells)) → ResS ids M (.agg [.row 60 acc.length, .row 61 acc2.length]) (.agg (sourceCells ⟨acc, acc2⟩)) :=
        fun h1 h2 => ResS.pur (.agg (.cons (.row h1 (take_map_all _ _)) (.cons (.row h2 (take_map_all _ _)) .nil))) (by intro x h; cases h)
      cases l2 with
      | nil =>
        have hq : Q = .ok (acc2, []) := by rw [← k1]; rfl
        obtain rfl := hS3 _ [] hq rfl
        repeat' ((conv => whnf); first | refine aB rfl ?_ | refine sY rfl ?_ | refine sN rfl ?_ | refine sM (fun _ => ?_) (fun _ => ?_))
        all_goals (conv => whnf)
        refine callM (yaccNext [] e [9] (by decide)) ⟨rfl, trivial⟩ rfl ?_
        repeat' ((conv => whnf); first | refine aB rfl ?_ | refine sY rfl ?_ | refine sN rfl ?_ | refine sM (fun _ => ?_) (fun _ => ?_))
        all_goals (conv => whnf)
        exact ⟨hres rfl rfl, ⟨Or.inl ⟨rfl, rfl⟩, Or.inl ⟨rfl, rfl⟩, trivial⟩, trivial⟩
      | cons t2 r2 =>
      repeat' ((conv => whnf); first | refine aB rfl ?_ | refine sY rfl ?_ | refine sN rfl ?_ | refine sM (fun _ => ?_) (fun _ => ?_))
      all_goals (conv => whnf)
      case refine_2 => rename_i h; have := decF h; simp at this
      refine callM (yaccNext (t2 :: r2) e [9] (by decide)) ⟨rfl, trivial⟩ rfl ?_
      repeat' ((conv => whnf); first | refine aB rfl ?_ | refine sY rfl ?_ | refine sN rfl ?_ | refine sM (fun _ => ?_) (fun _ => ?_))
      all_goals (conv => whnf)
      · rename_i hn2
        have hn2 : nextS (t2 :: r2) [9] = false := notT hn2
        have hm2 : moreS (t2 :: r2) = true := by simp only [moreS, hn2]
        cases hd : groupS (t2 :: r2) e with
        | error w =>
          obtain rfl := hS1 w (by rw [← k1]; simp only [groupsGo, hm2, hd])
          refine callM (groupBad hd (by omega)) ⟨rfl, trivial⟩ rfl ?_
          repeat' ((conv => whnf); first | refine aB rfl ?_ | refine sY rfl ?_ | refine sN rfl ?_ | refine sM (fun _ => ?_) (fun _ => ?_))
          all_goals (conv => whnf)
          refine ⟨⟨_, rfl, Or.inl ⟨rfl, rfl⟩⟩, ?_⟩
          repeat' ((conv => whnf); first | refine aB rfl ?_ | refine sY rfl ?_ | refine sN rfl ?_ | refine sM (fun _ => ?_) (fun _ => ?_))
          all_goals (conv => whnf)
          exact ⟨rfl, trivial⟩
        | ok p =>
          have hdl := groupS_len hd
          have hne := groupS_ne hd
          refine callM ((groupOk hd (by omega)).swap 2 43) ⟨rfl, trivial⟩ rfl ?_
          repeat' ((conv => whnf); first | refine aB rfl ?_ | refine sY rfl ?_ | refine sN rfl ?_ | refine sM (fun _ => ?_) (fun _ => ?_))
          all_goals (conv => whnf)
          have ha : (acc2 ++ p.1).length = acc2.length + p.1.length := by simp
          refine AppG.rows (acc2.length + p.1.length) ((acc2 ++ p.1).map prodCells) (prod_len _).symm ?_ ?_ (by decide) ?_ ⟨?_, ?_, ?_⟩
          · rw [take_map_all]
            intro r hr
            obtain ⟨x, _, rfl⟩ := List.mem_map.1 hr
            rfl
          · rw [take_map_all, prod_len, prod_len]; simp only; omega
          · rw [take_map_all]
            intro h
            exact hne (List.map_eq_nil_iff.1 h)
          · rw [take_map_all, prod_len]
          · rw [take_map_all, List.map_append]
          repeat' ((conv => whnf); first | refine aB rfl ?_ | refine sY rfl ?_ | refine sN rfl ?_ | refine sM (fun _ => ?_) (fun _ => ?_))
          all_goals (conv => whnf)
          refine ⟨rfl, ?_⟩
          repeat' ((conv => whnf); first | refine aB rfl ?_ | refine sY rfl ?_ | refine sN rfl ?_ | refine sM (fun _ => ?_) (fun _ => ?_))
          all_goals (conv => whnf)
          refine NextG.to ⟨p.2, acc2 ++ p.1⟩ ⟨⟨n2, ?_, ?_⟩, ?_⟩ ?_ ⟨⟨rfl, rfl, trivial⟩, congrArg (fun n => some (Ob.cells [D.row 60 acc.length, D.row 61 n])) ha.symm, rfl, rfl, rfl, trivial⟩
          · rw [← k1]; simp only [groupsGo, hm2, hd]
          all_goals simp only
          all_goals omega
      · rename_i hn2
        have hn2 : nextS (t2 :: r2) [9] = true := notF hn2
        have hm2 : moreS (t2 :: r2) = false := by simp only [moreS, hn2]
        have hq : Q = .ok (acc2, t2 :: r2) := by rw [← k1]; simp only [groupsGo, hm2]
        obtain ⟨t1, r1, e1, j1, j2⟩ := nextS_take (e := e) hn2
        injection e1 with e1 e2
        subst e1; subst e2
        refine callM (yaccNext (t2 :: r2) e [9] (by decide)) ⟨rfl, trivial⟩ rfl ?_
        repeat' ((conv => whnf); first | refine aB rfl ?_ | refine sY rfl ?_ | refine sN rfl ?_ | refine sM (fun _ => ?_) (fun _ => ?_))
        all_goals (conv => whnf)
        all_goals try (rename_i h _; rw [hn2] at h; cases h; done)
        refine callM (takeOk j1 (by decide)) ⟨rfl, trivial⟩ rfl ?_
        have hend : endS (t2 :: r2) e = .ok r2 := by simp only [endS, hn2, j1]
        cases r2 with
        | nil =>
          obtain rfl := hS3 _ [] hq (by simp only [lastS, hend])
          repeat' ((conv => whnf); first | refine aB rfl ?_ | refine sY rfl ?_ | refine sN rfl ?_ | refine sM (fun _ => ?_) (fun _ => ?_))
          all_goals (conv => whnf)
          exact ⟨hres rfl rfl, ⟨Or.inl ⟨rfl, rfl⟩, Or.inl ⟨rfl, rfl⟩, trivial⟩, trivial⟩
        | cons t3 r3 =>
          obtain rfl := hS2 _ (some t3.at', 3) hq (by simp only [lastS, hend]; rfl)
          repeat' ((conv => whnf); first | refine aB rfl ?_ | refine sY rfl ?_ | refine sN rfl ?_ | refine sM (fun _ => ?_) (fun _ => ?_))
          all_goals (conv => whnf)
          case refine_2 => rename_i h; have := decF h; simp at this
          refine callA (.keep (.nilL (.refl _ _))) (takeBad (l := t3 :: r3) (e := e) (ks := []) (w := (some t3.at', 3)) rfl (by decide)) ⟨rfl, trivial⟩ rfl ?_
          conv => whnf
          exact ⟨_, rfl, Or.inl ⟨rfl, rfl⟩⟩
end Tryz
end Go.Dm
namespace Go.Dm
/-! ### yacc: of tokens -/
section
variable {P : Program} {t : TypeId} {ms : Array (String × TypeId)}
theorem run_equalIn_iface {w : World} (d : Nat) (hu : P.underlying t = some (.interface ms)) (s : TypeId) (y : Value) : (Op.equalIn (d + 1) t (.iface s y) .nilIface).run P w = .ok false w := by
  simp [Op.equalIn, run_underlying hu]
theorem run_equalIn_nil {w : World} (d : Nat) (hu : P.underlying t = some (.interface ms)) : (Op.equalIn (d + 1) t .nilIface .nilIface).run P w = .ok true w := by
  simp [Op.equalIn, run_underlying hu]
theorem bs_ifaceNe (hu : P.underlying t = some (.interface ms)) {x : Operand} {s : TypeId} {d : D} : BinSem P .neq t x (.const .nilIface) (.iface s d) (.v .nilIface) (.v (.bool true)) := by
  rintro E w u v ⟨y, rfl, h1⟩ hv
  obtain rfl : v = _ := hv
  refine ⟨run_eqGuard_other P w (by simp) (by simp), .bool true, ?_, rfl⟩
  have := run_equalIn_iface (P := P) (w := w) 9999 hu s y
  simp only [binOp, Op.equal, Op.maxDepth, Sem.run_bind, this, Result.andThen_ok]
  rfl
theorem bs_nilNe (hu : P.underlying t = some (.interface ms)) {x : Operand} : BinSem P .neq t x (.const .nilIface) (.v .nilIface) (.v .nilIface) (.v (.bool false)) := by
  intro E w u v hx hv
  obtain rfl : u = _ := hx
  obtain rfl : v = _ := hv
  refine ⟨by simp [eqGuard], .bool false, ?_, rfl⟩
  have := run_equalIn_nil (P := P) (w := w) 9999 hu
  simp only [binOp, Op.equal, Op.maxDepth, Sem.run_bind, this, Result.andThen_ok]
  rfl
end
def outT {α : Type} (f : α → D) (z : D) (r : Except Wr α) : D := match r with
  | .ok a => .tup [f a, .v noPl, .v (.int .i64 0)]
  | .error w => .tup [z, .v (plO w.1), .v (.int .i64 w.2)]
def nilD : D := .v (.slice none 0 0)
def ofS (l : List TokP) (e : Nat × Nat) : Except Wr SourceS := match sourceS l e with
  | .ok p => .ok p.1
  | .error w => .error w
namespace Tryz
open Go.Proofs
theorem ofClosure (w : Wr) : DCall Tryz.prog 92 (some (yWr w)) [(1006, .cells [.v (.int .i64 0)]), (1005, .cells [.v noPl]), (1004, .cells [nilD, nilD])] [.ref 1004 0, .ref 1005 0, .ref 1006 0]
    [(1006, .cells [.v (.int .i64 w.2)]), (1005, .cells [.v (plO w.1)]), (1004, .cells [nilD, nilD])] := by
  refine dcall_of (news := [4]) cxOK Tryz.func92 rfl Tryz.ntmps92 rfl rfl rfl rfl rfl (by decide) ?_
  repeat' ((conv => whnf); first | refine aB rfl ?_ | refine sY rfl ?_ | refine sN rfl ?_ | refine sM (fun _ => ?_) (fun _ => ?_))
  all_goals (conv => whnf)
  refine BinG.to (.v (.bool true)) (bs_ifaceNe Tryz.underlying20) ?_
  repeat' ((conv => whnf); first | refine aB rfl ?_ | refine sY rfl ?_ | refine sN rfl ?_ | refine sM (fun _ => ?_) (fun _ => ?_))
  all_goals (conv => whnf)
  refine ⟨rfl, ?_⟩
  repeat' ((conv => whnf); first | exact trivial | refine aB rfl ?_ | refine sY rfl ?_ | refine sN rfl ?_ | refine sM (fun _ => ?_) (fun _ => ?_) | refine cK (by kernel_rfl) ?_ | refine And.intro ?_ ?_ | exact Or.inl ⟨rfl, rfl⟩ | exact rfl)
  all_goals (conv => whnf)
theorem ofClosure0 (x y : List (List D)) : DCall Tryz.prog 92 none [(1006, .cells [.v (.int .i64 0)]), (1005, .cells [.v noPl]), (1004, .cells [.list 2 x, .list 5 y])] [.ref 1004 0, .ref 1005 0, .ref 1006 0]
    [(1006, .cells [.v (.int .i64 0)]), (1005, .cells [.v noPl]), (1004, .cells [.list 2 x, .list 5 y])] := by
  refine dcall_of (news := [4]) cxOK Tryz.func92 rfl Tryz.ntmps92 rfl rfl rfl rfl rfl (by decide) ?_
  repeat' ((conv => whnf); first | refine aB rfl ?_ | refine sY rfl ?_ | refine sN rfl ?_ | refine sM (fun _ => ?_) (fun _ => ?_))
  all_goals (conv => whnf)
  refine BinG.to (.v (.bool false)) (bs_nilNe Tryz.underlying20) ?_
  repeat' ((conv => whnf); first | exact trivial | refine aB rfl ?_ | refine sY rfl ?_ | refine sN rfl ?_ | refine sM (fun _ => ?_) (fun _ => ?_) | refine cK (by kernel_rfl) ?_ | refine And.intro ?_ ?_ | exact Or.inl ⟨rfl, rfl⟩ | exact rfl)
  all_goals (conv => whnf)
def ofD (r : Except Wr SourceS) : D := outT (fun s => .agg (sourceCells s)) (.agg [nilD, nilD]) r
theorem yaccOf (l : List TokP) (e : Nat × Nat) (hl : l.length ≤ 4000) : PCall Tryz.prog 68 [] [.list 3 (l.map tokRow), .v (pl e.1 e.2)] (.ret (ofD (ofS l e)) []) := by
  refine pcall_defer (news := [4, 5, 6, 12]) cxOK Tryz.func68 rfl Tryz.ntmps68 rfl rfl rfl rfl (by decide) ?_
  repeat' ((conv => whnf); first | refine aB rfl ?_ | refine sY rfl ?_ | refine sN rfl ?_ | refine sM (fun _ => ?_) (fun _ => ?_))
  all_goals (conv => whnf)
  cases hs : sourceS l e with
  | error w =>
    have h := yaccSource l e hl
    rw [hs] at h
    rw [show ofS l e = .error w from by simp only [ofS, hs]]
    refine callM (h.swap 1000 12) ⟨rfl, trivial⟩ rfl ?_
    conv => whnf
    refine ⟨rfl, DefEnd.to ((((ofClosure w).swap 1006 6).swap 1005 5).swap 1004 4) rfl ⟨rfl, rfl, rfl, trivial⟩ ?_⟩
    repeat' ((conv => whnf); first | exact trivial | refine aB rfl ?_ | refine sY rfl ?_ | refine sN rfl ?_ | refine sM (fun _ => ?_) (fun _ => ?_) | refine cK (by kernel_rfl) ?_ | refine And.intro ?_ ?_ | exact Or.inl ⟨rfl, rfl⟩ | exact rfl)
    all_goals (conv => whnf)
  | ok p =>
    have h := yaccSource l e hl
    rw [hs] at h
    rw [show ofS l e = .ok p.1 from by simp only [ofS, hs]]
    refine callM (h.swap 1000 12) ⟨rfl, trivial⟩ rfl ?_
    repeat' ((conv => whnf); first | refine aB rfl ?_ | refine sY rfl ?_ | refine sN rfl ?_ | refine sM (fun _ => ?_) (fun _ => ?_))
    all_goals (conv => whnf)
    refine DefEnd.to ((((ofClosure0 (p.1.decls.map declCells) (p.1.prods.map prodCells)).swap 1006 6).swap 1005 5).swap 1004 4) rfl ⟨rfl, rfl, rfl, trivial⟩ ?_
    repeat' ((conv => whnf); first | exact trivial | refine aB rfl ?_ | refine sY rfl ?_ | refine sN rfl ?_ | refine sM (fun _ => ?_) (fun _ => ?_) | refine cK (by kernel_rfl) ?_ | refine And.intro ?_ ?_ | exact Or.inl ⟨rfl, rfl⟩ | exact rfl)
    all_goals (conv => whnf)
end Tryz
end Go.Dm
namespace Go.Dm
/-! ### cfg: symbols -/
def idxS {α : Type} (p : α → Bool) : List α → Nat → Int
  | [], _ => -1
  | x :: r, i => match p x with
    | true => i
    | false => idxS p r (i + 1)
theorem idxS_drop {α : Type} {p : α → Bool} : ∀ (l : List α) (i j : Nat), (∀ q, q < j → ∀ c, l[q]? = some c → p c = false) → j ≤ l.length → idxS p l i = idxS p (l.drop j) (i + j)
  | [], i, j, _, hj => by simp [idxS]
  | x :: r, i, 0, _, _ => by simp
  | x :: r, i, j + 1, h, hj => by
    have h0 : p x = false := h 0 (by omega) x rfl
    simp only [idxS, h0, List.drop_succ_cons]
    rw [idxS_drop r (i + 1) j (fun q hq c hc => h (q + 1) (by omega) c (by simpa using hc)) (by simpa using hj)]
    congr 1; omega
theorem idxS_any {α : Type} {p : α → Bool} : ∀ (l : List α) (i : Nat), decide (idxS p l i ≥ 0) = l.any p
  | [], i => by simp [idxS]
  | x :: r, i => by
    have ih := idxS_any (p := p) r (i + 1)
    cases h : p x with
    | true => simp [idxS, h]
    | false =>
      have e : idxS p (x :: r) i = idxS p r (i + 1) := by simp [idxS, h]
      rw [e, ih]; simp [h]
theorem idxS_at {α : Type} {p : α → Bool} {l : List α} {j : Nat} {c : α} (h : ∀ q, q < j → ∀ c, l[q]? = some c → p c = false) (hj : l[j]? = some c) (hc : p c = true) : idxS p l 0 = j := by
  have hl := (List.getElem?_eq_some_iff.1 hj).1
  have e := (List.getElem?_eq_some_iff.1 hj).2
  rw [idxS_drop l 0 j h (by omega), List.drop_eq_getElem_cons hl]
  simp [idxS, e, hc]
theorem idxS_no {α : Type} {p : α → Bool} {l : List α} (h : ∀ q, q < l.length → ∀ c, l[q]? = some c → p c = false) : idxS p l 0 = -1 := by
  rw [idxS_drop l 0 _ h (Nat.le_refl _), List.drop_length]; rfl
theorem idx_ext {α : Type} {p : α → Bool} {l : List α} {i : Nat} (h : ∀ q, q < i → ∀ c, l[q]? = some c → p c = false) (hi : i < l.length) (hc : p l[i] = false) : ∀ q, q < i + 1 → ∀ c, l[q]? = some c → p c = false := by
  intro q hq c hcq
  by_cases hqi : q < i
  · exact h q hqi c hcq
  · obtain rfl : q = i := by omega
    rw [List.getElem?_eq_getElem hi] at hcq
    injection hcq with hcq
    subst hcq; exact hc
def strC (s : List UInt8) : List D := [.v (str s)]
def strsD (l : List (List UInt8)) : List (List D) := l.map strC
theorem strs_len (l : List (List UInt8)) : (strsD l).length = l.length := by simp [strsD]
theorem strs_get {l : List (List UInt8)} {j : Nat} {c : List UInt8} (h : l[j]? = some c) : (strsD l)[j]? = some (strC c) := by simp [strsD, h]
structure TermS where
  name : List UInt8
  level : Int
  assoc : Int
  deriving DecidableEq
def termCells (t : TermS) : List D := [.v (str t.name), .v (.int .i64 t.level), .v (.int .i64 t.assoc)]
def termsD (l : List TermS) : List (List D) := l.map termCells
theorem terms_len (l : List TermS) : (termsD l).length = l.length := by simp [termsD]
theorem terms_get {l : List TermS} {j : Nat} {c : TermS} (h : l[j]? = some c) : (termsD l)[j]? = some (termCells c) := by simp [termsD, h]
structure RuleS where
  left : Int
  right : List Int
  prec : Int
  deriving DecidableEq
def ruleCells (r : RuleS) : List D := [.v (.int .i64 r.left), .list 1 (ksD r.right), .v (.int .i64 r.prec)]
def rulesD (l : List RuleS) : List (List D) := l.map ruleCells
theorem rules_len (l : List RuleS) : (rulesD l).length = l.length := by simp [rulesD]
theorem rules_get {l : List RuleS} {j : Nat} {c : RuleS} (h : l[j]? = some c) : (rulesD l)[j]? = some (ruleCells c) := by simp [rulesD, h]
structure GramS where
  terms : List TermS
  nons : List (List UInt8)
  rules : List RuleS
  start : Int
def gramD (g : GramS) : D := .agg [.list 3 (termsD g.terms), .list 1 (strsD g.nons), .list 3 (rulesD g.rules), .v (.int .i64 g.start)]
/-- Numbers of a size that the machine has. -/
def i64 (n : Int) : Prop := -9223372036854775808 ≤ n ∧ n ≤ 9223372036854775807
def hasS (g : GramS) (s : Int) : Bool := match decide (s < 0) with
  | true => decide (-1 - s < (g.nons.length : Int))
  | false => decide (s < (g.terms.length : Int))
def nameOf (g : GramS) (s : Int) : List UInt8 := match hasS g s with
  | false => []
  | true => match decide (s < 0) with
    | true => g.nons.getD (-1 - s).toNat []
    | false => match g.terms[s.toNat]? with
      | some t => t.name
      | none => []
def namedS (s : List UInt8) : Bool := NameS s || LiteralS s
def termIx (l : List TermS) (s : List UInt8) : Int := idxS (fun t => decide (t.name = s)) l 0
def strIx (l : List (List UInt8)) (s : List UInt8) : Int := idxS (fun x => decide (s = x)) l 0
def findS (g : GramS) (s : List UInt8) : Int × Bool := match decide (termIx g.terms s ≥ 0) with
  | true => (termIx g.terms s, true)
  | false => match decide (strIx g.nons s ≥ 0) with
    | true => (-1 - strIx g.nons s, true)
    | false => (0, false)
theorem strIx_range (l : List (List UInt8)) (s : List UInt8) : -1 ≤ strIx l s ∧ strIx l s < (l.length : Int) := by
  have : ∀ (l : List (List UInt8)) (i : Nat), -1 ≤ idxS (fun x => decide (s = x)) l i ∧ idxS (fun x => decide (s = x)) l i < (l.length : Int) + i := by
    intro l
    induction l with
    | nil => intro i; simp [idxS]; omega
    | cons x r ih =>
      intro i
      have := ih (i + 1)
      by_cases h : s = x
      · simp [idxS, h]; omega
      · have e : idxS (fun x => decide (s = x)) (x :: r) i = idxS (fun x => decide (s = x)) r (i + 1) := by simp [idxS, h]
        rw [e, List.length_cons]; omega
  have := this l 0
  unfold strIx; omega
theorem termIx_range (l : List TermS) (s : List UInt8) : -1 ≤ termIx l s ∧ termIx l s < (l.length : Int) := by
  have : ∀ (l : List TermS) (i : Nat), -1 ≤ idxS (fun t : TermS => decide (t.name = s)) l i ∧ idxS (fun t : TermS => decide (t.name = s)) l i < (l.length : Int) + i := by
    intro l
    induction l with
    | nil => intro i; simp [idxS]; omega
    | cons x r ih =>
      intro i
      have := ih (i + 1)
      by_cases h : x.name = s
      · simp [idxS, h]; omega
      · have e : idxS (fun t : TermS => decide (t.name = s)) (x :: r) i = idxS (fun t : TermS => decide (t.name = s)) r (i + 1) := by simp [idxS, h]
        rw [e, List.length_cons]; omega
  have := this l 0
  unfold termIx; omega
namespace Tryz
open Go.Proofs
theorem cfgNon (s : Int) (h : i64 (-1 - s)) : PCall Tryz.prog 22 [] [.v (.int .i64 s)] (.ret (.v (.int .i64 (-1 - s))) []) := by
  refine pcall_of (news := []) cxOK Tryz.func22 rfl Tryz.ntmps22 rfl rfl rfl (by decide) ?_
  repeat' ((conv => whnf); first | refine aB rfl ?_ | refine sY rfl ?_ | refine sN rfl ?_ | refine sM (fun _ => ?_) (fun _ => ?_))
  all_goals (conv => whnf)
  refine KI.i64 (-1 - s) rfl h ?_
  repeat' ((conv => whnf); first | exact trivial | refine aB rfl ?_ | refine sY rfl ?_ | refine sN rfl ?_ | refine sM (fun _ => ?_) (fun _ => ?_) | refine cK (by kernel_rfl) ?_ | refine And.intro ?_ ?_ | exact Or.inl ⟨rfl, rfl⟩ | exact rfl)
  all_goals (conv => whnf)
theorem cfgHas (g : GramS) (s : Int) (h : i64 s) (hg : i64 g.terms.length ∧ i64 g.nons.length) : PCall Tryz.prog 9 [] [gramD g, .v (.int .i64 s)] (.ret (.v (.bool (hasS g s))) []) := by
  refine pcall_of (news := []) cxOK Tryz.func9 rfl Tryz.ntmps9 rfl rfl rfl (by decide) ?_
  repeat' ((conv => whnf); first | refine aB rfl ?_ | refine sY rfl ?_ | refine sN rfl ?_ | refine sM (fun _ => ?_) (fun _ => ?_))
  all_goals (conv => whnf)
  · rename_i hs
    have hs' := decT hs
    have hs : decide (s < 0) = true := hs
    refine call0 (cfgNon s (by unfold i64 at *; omega)) ?_
    repeat' ((conv => whnf); first | refine aB rfl ?_ | refine sY rfl ?_ | refine sN rfl ?_ | refine sM (fun _ => ?_) (fun _ => ?_))
    all_goals (conv => whnf)
    refine ⟨rfl, ?_⟩
    have : hasS g s = decide (-1 - s < ((strsD g.nons).length : Int)) := by simp only [hasS, hs, strs_len]
    rw [this]
    repeat' ((conv => whnf); first | exact trivial | refine aB rfl ?_ | refine sY rfl ?_ | refine sN rfl ?_ | refine sM (fun _ => ?_) (fun _ => ?_) | refine cK (by kernel_rfl) ?_ | refine And.intro ?_ ?_ | exact Or.inl ⟨rfl, rfl⟩ | exact rfl)
    all_goals (conv => whnf)
  · rename_i hs
    have hs : decide (s < 0) = false := hs
    have : hasS g s = decide (s < ((termsD g.terms).length : Int)) := by simp only [hasS, hs, terms_len]
    rw [this]
theorem strsIndex (l : List (List UInt8)) (s : List UInt8) (hl : l.length < 9223372036854775808) : PCall Tryz.prog 42 [] [.list 1 (strsD l), .v (str s)] (.ret (.v (.int .i64 (strIx l s))) []) := by
  generalize hR : strIx l s = R
  refine pcall_of (news := []) cxOK Tryz.func42 rfl Tryz.ntmps42 rfl rfl rfl (by decide) ?_
  conv => whnf
  refine LoopW.to (ι := Nat) (fun i => i ≤ l.length ∧ (∀ q, q < i → ∀ c, l[q]? = some c → decide (s = c) = false)) (fun i => l.length - i)
    (fun i => [(0, .list 1 (strsD l)), (1, .v (str s)), (7, .v (.int .i64 l.length)), (8, .v (.int .i64 i))]) (fun _ => []) [] 0 ⟨Nat.zero_le _, fun q h => by omega⟩ ⟨⟨rfl, rfl, congrArg (fun k : Nat => D.v (.int .i64 (k : Int))) (strs_len l), rfl, trivial⟩, trivial⟩ ?_
  rintro i ⟨h1, h2⟩
  repeat' ((conv => whnf); first | exact trivial | refine aB rfl ?_ | refine sY rfl ?_ | refine sN rfl ?_ | refine sM (fun _ => ?_) (fun _ => ?_) | refine cK (by kernel_rfl) ?_ | refine And.intro ?_ ?_ | exact Or.inl ⟨rfl, rfl⟩ | exact rfl)
  all_goals (conv => whnf)
  · rename_i h
    have h := decT h
    have hi : i < l.length := by omega
    have hg := List.getElem?_eq_getElem hi
    refine IdxG.to i (strC l[i]) rfl (strs_get hg) ?_
    repeat' ((conv => whnf); first | refine aB rfl ?_ | refine sY rfl ?_ | refine sN rfl ?_ | refine sM (fun _ => ?_) (fun _ => ?_))
    all_goals (conv => whnf)
    · rename_i h3
      have h3 : s = l[i] := strEq_iff.1 h3
      obtain rfl : R = i := by rw [← hR]; exact idxS_at h2 hg (by simpa using h3)
      trivial
    · rename_i h3
      have h3 : s ≠ l[i] := strEq_ff.1 h3
      refine KI.i64 ((i + 1 : Nat) : Int) (by simp) (by omega) ?_
      conv => whnf
      exact NextG.to (i + 1) ⟨by omega, idx_ext h2 hi (by simpa using h3)⟩ (by omega) ⟨⟨rfl, rfl, rfl, rfl, trivial⟩, trivial⟩
  · rename_i h
    have h := decF h
    have hi : i = l.length := by omega
    subst hi
    obtain rfl : R = -1 := by rw [← hR]; exact idxS_no h2
    trivial
theorem strsContains (l : List (List UInt8)) (s : List UInt8) (hl : l.length < 9223372036854775808) : PCall Tryz.prog 126 [] [.list 1 (strsD l), .v (str s)] (.ret (.v (.bool (decide (strIx l s ≥ 0)))) []) := by
  refine pcall_of (news := []) cxOK Tryz.func126 rfl Tryz.ntmps126 rfl rfl rfl (by decide) ?_
  conv => whnf
  refine call0 (strsIndex l s hl) ?_
  repeat' ((conv => whnf); first | exact trivial | refine aB rfl ?_ | refine sY rfl ?_ | refine sN rfl ?_ | refine sM (fun _ => ?_) (fun _ => ?_) | refine cK (by kernel_rfl) ?_ | refine And.intro ?_ ?_ | exact Or.inl ⟨rfl, rfl⟩ | exact rfl)
  all_goals (conv => whnf)
theorem terminal1 (t : TermS) (s : List UInt8) : PCall Tryz.prog 72 [] [.agg (termCells t), .ptr [.v (str s)]] (.ret (.v (.bool (decide (t.name = s)))) []) := by
  have : decide (t.name = s) = strEq ⟨t.name.toArray⟩ ⟨s.toArray⟩ := by
    by_cases h : t.name = s
    · rw [decide_eq_true h, strEq_iff.2 h]
    · rw [decide_eq_false h, strEq_ff.2 h]
  rw [this]
  refine pcall_of (news := []) cxOK Tryz.func72 rfl Tryz.ntmps72 rfl rfl rfl (by decide) ?_
  repeat' ((conv => whnf); first | exact trivial | refine aB rfl ?_ | refine sY rfl ?_ | refine sN rfl ?_ | refine sM (fun _ => ?_) (fun _ => ?_) | refine cK (by kernel_rfl) ?_ | refine And.intro ?_ ?_ | exact Or.inl ⟨rfl, rfl⟩ | exact rfl)
  all_goals (conv => whnf)
theorem termsIndex (l : List TermS) (s : List UInt8) (hl : l.length < 9223372036854775808) : PCall Tryz.prog 71 [] [.list 3 (termsD l), .fn (.func 72) [.ptr [.v (str s)]]] (.ret (.v (.int .i64 (termIx l s))) []) := by
  generalize hR : termIx l s = R
  refine pcall_of (news := []) cxOK Tryz.func71 rfl Tryz.ntmps71 rfl rfl rfl (by decide) ?_
  conv => whnf
  refine LoopW.to (ι := Nat) (fun i => i ≤ l.length ∧ (∀ q, q < i → ∀ c, l[q]? = some c → decide (c.name = s) = false)) (fun i => l.length - i)
    (fun i => [(0, .list 3 (termsD l)), (1, .fn (.func 72) [.ptr [.v (str s)]]), (7, .v (.int .i64 l.length)), (8, .v (.int .i64 i))]) (fun _ => []) [] 0 ⟨Nat.zero_le _, fun q h => by omega⟩ ⟨⟨rfl, rfl, congrArg (fun k : Nat => D.v (.int .i64 (k : Int))) (terms_len l), rfl, trivial⟩, trivial⟩ ?_
  rintro i ⟨h1, h2⟩
  repeat' ((conv => whnf); first | exact trivial | refine aB rfl ?_ | refine sY rfl ?_ | refine sN rfl ?_ | refine sM (fun _ => ?_) (fun _ => ?_) | refine cK (by kernel_rfl) ?_ | refine And.intro ?_ ?_ | exact Or.inl ⟨rfl, rfl⟩ | exact rfl)
  all_goals (conv => whnf)
  · rename_i h
    have h := decT h
    have hi : i < l.length := by omega
    have hg := List.getElem?_eq_getElem hi
    refine IdxG.to i (termCells l[i]) rfl (terms_get hg) ?_
    repeat' ((conv => whnf); first | refine aB rfl ?_ | refine sY rfl ?_ | refine sN rfl ?_ | refine sM (fun _ => ?_) (fun _ => ?_))
    all_goals (conv => whnf)
    refine call0 (terminal1 l[i] s) ?_
    repeat' ((conv => whnf); first | refine aB rfl ?_ | refine sY rfl ?_ | refine sN rfl ?_ | refine sM (fun _ => ?_) (fun _ => ?_))
    all_goals (conv => whnf)
    · rename_i h3
      have h3 : decide (l[i].name = s) = true := h3
      obtain rfl : R = i := by rw [← hR]; exact idxS_at h2 hg h3
      trivial
    · rename_i h3
      have h3 : decide (l[i].name = s) = false := h3
      refine KI.i64 ((i + 1 : Nat) : Int) (by simp) (by omega) ?_
      conv => whnf
      exact NextG.to (i + 1) ⟨by omega, idx_ext h2 hi h3⟩ (by omega) ⟨⟨rfl, rfl, rfl, rfl, trivial⟩, trivial⟩
  · rename_i h
    have h := decF h
    have hi : i = l.length := by omega
    subst hi
    obtain rfl : R = -1 := by rw [← hR]; exact idxS_no h2
    trivial
theorem cfgTerminal (l : List TermS) (x y : List (List D)) (z : Int) (s : List UInt8) (hl : l.length < 9223372036854775808) : PCall Tryz.prog 41 [] [.agg [.list 3 (termsD l), .list 1 x, .list 3 y, .v (.int .i64 z)], .v (str s)] (.ret (.v (.int .i64 (termIx l s))) []) := by
  refine pcall_of (news := []) cxOK Tryz.func41 rfl Tryz.ntmps41 rfl rfl rfl (by decide) ?_
  repeat' ((conv => whnf); first | refine aB rfl ?_ | refine sY rfl ?_ | refine sN rfl ?_ | refine sM (fun _ => ?_) (fun _ => ?_))
  all_goals (conv => whnf)
  refine call0 (termsIndex l s hl) ?_
  repeat' ((conv => whnf); first | exact trivial | refine aB rfl ?_ | refine sY rfl ?_ | refine sN rfl ?_ | refine sM (fun _ => ?_) (fun _ => ?_) | refine cK (by kernel_rfl) ?_ | refine And.intro ?_ ?_ | exact Or.inl ⟨rfl, rfl⟩ | exact rfl)
  all_goals (conv => whnf)
theorem cfgWithin (n a b : Int) : PCall Tryz.prog 25 [] [.v (.int .i64 n), .v (.int .i64 a), .v (.int .i64 b)] (.ret (.v (.bool (decide (n ≥ a) && decide (n ≤ b)))) []) := by
  refine pcall_of (news := []) cxOK Tryz.func25 rfl Tryz.ntmps25 rfl rfl rfl (by decide) ?_
  repeat' ((conv => whnf); first | exact trivial | refine aB rfl ?_ | refine sY rfl ?_ | refine sN rfl ?_ | refine sM (fun _ => ?_) (fun _ => ?_) | refine cK (by kernel_rfl) ?_ | refine And.intro ?_ ?_ | exact Or.inl ⟨rfl, rfl⟩ | exact rfl)
  all_goals (conv => whnf)
  · rename_i h; rw [h]; rfl
  · rename_i h; rw [h]; rfl
theorem cfgNamed (s : List UInt8) : PCall Tryz.prog 51 [] [.v (str s)] (.ret (.v (.bool (namedS s))) []) := by
  refine pcall_of (news := []) cxOK Tryz.func51 rfl Tryz.ntmps51 rfl rfl rfl (by decide) ?_
  repeat' ((conv => whnf); first | refine aB rfl ?_ | refine sY rfl ?_ | refine sN rfl ?_ | refine sM (fun _ => ?_) (fun _ => ?_))
  all_goals (conv => whnf)
  refine call0 (lexName s) ?_
  repeat' ((conv => whnf); first | refine aB rfl ?_ | refine sY rfl ?_ | refine sN rfl ?_ | refine sM (fun _ => ?_) (fun _ => ?_))
  all_goals (conv => whnf)
  · rename_i h
    have h : NameS s = true := h
    rw [show namedS s = true from by simp only [namedS, h]; rfl]
  · rename_i h
    have h : NameS s = false := h
    rw [show namedS s = LiteralS s from by simp only [namedS, h]; rfl]
    refine call0 (lexLiteral s) ?_
    repeat' ((conv => whnf); first | exact trivial | refine aB rfl ?_ | refine sY rfl ?_ | refine sN rfl ?_ | refine sM (fun _ => ?_) (fun _ => ?_) | refine cK (by kernel_rfl) ?_ | refine And.intro ?_ ?_ | exact Or.inl ⟨rfl, rfl⟩ | exact rfl)
    all_goals (conv => whnf)
end Tryz
end Go.Dm
namespace Go.Dm
/-! ### yacc: of a text -/
def parseS (b : List UInt8) : Except Wr SourceS := match tokensS b with
  | (some l, p, 0) => match p with
    | some e => ofS l e
    | none => .error (none, 0)
  | (_, p, e) => .error (p, e)
namespace Tryz
open Go.Proofs
theorem tokensGo_len : ∀ (n : Nat) (b : List UInt8) (p : Nat × Nat) (m : Nat) (acc : List TokP) {l : List TokP}, (tokensGo n b p m acc).1 = some l → l.length ≤ acc.length + b.length
  | 0, b, p, m, acc, l, h => by simp [tokensGo] at h; subst h; omega
  | n + 1, [], p, m, acc, l, h => by simp [tokensGo] at h; subst h; omega
  | n + 1, c :: r, p, m, acc, l, h => by
    simp only [tokensGo] at h
    split at h
    · simp at h; subst h; omega
    · split at h
      · split at h
        · cases h
        · have := tokensGo_len n _ _ _ _ h
          have := skippedS_le c r
          simp only [List.length_drop] at *
          omega
      · split at h
        · cases h
        · rename_i he
          have he := decT he
          obtain ⟨h1, h2⟩ := tokenS_n he
          have := tokensGo_len n _ _ _ _ h
          simp only [List.length_drop, List.length_append, List.length_cons, List.length_nil] at *
          omega
theorem tokensS_len {b : List UInt8} {l : List TokP} (h : (tokensS b).1 = some l) : l.length ≤ 4000 := by
  unfold tokensS at h
  split at h
  · cases h
  · rename_i hb
    have hb := decF hb
    have := tokensGo_len _ _ _ _ _ h
    simp at this
    omega
theorem tokensGo_e : ∀ (n : Nat) (b : List UInt8) (p : Nat × Nat) (m : Nat) (acc : List TokP), (tokensGo n b p m acc).1.isSome = true ↔ (tokensGo n b p m acc).2.2 = 0
  | 0, b, p, m, acc => by simp [tokensGo]
  | n + 1, [], p, m, acc => by simp [tokensGo]
  | n + 1, c :: r, p, m, acc => by
    cases hm : decide (m = 2) with
    | true => simp only [tokensGo, hm]; simp
    | false =>
      cases hs : (skippedS (c :: r)).2 with
      | true =>
        cases hz : decide ((skippedS (c :: r)).1 = 0) with
        | true => simp only [tokensGo, hm, hs, hz]; simp
        | false => simp only [tokensGo, hm, hs, hz]; exact tokensGo_e n _ _ _ _
      | false =>
        cases he : decide ((tokenS (c :: r)).e = 0) with
        | false => simp only [tokensGo, hm, hs, he]; simp [decF he]
        | true => simp only [tokensGo, hm, hs, he]; exact tokensGo_e n _ _ _ _
theorem tokensS_e (b : List UInt8) : (∃ l p, tokensS b = (some l, some p, 0)) ∨ ∃ p e, e ≠ 0 ∧ tokensS b = (none, p, e) := by
  unfold tokensS
  split
  · exact .inr ⟨none, 5, by simp, rfl⟩
  · have := tokensGo_e (b.length + 1) b (1, 1) 0 []
    generalize tokensGo (b.length + 1) b (1, 1) 0 [] = R at *
    obtain ⟨l, p, e⟩ := R
    cases l with
    | none => exact .inr ⟨some p, e, fun h => by simp [h] at this, rfl⟩
    | some l => exact .inl ⟨l, p, by simp at this; simp [this]⟩
theorem yaccParse (b : List UInt8) : PCall Tryz.prog 39 [] [.list 1 (byD b)] (.ret (ofD (parseS b)) []) := by
  have ht := lexTokens b
  rcases tokensS_e b with ⟨l, p, h⟩ | ⟨p, e, he, h⟩
  · have hl := tokensS_len (b := b) (l := l) (by rw [h])
    rw [show parseS b = ofS l p from by simp only [parseS, h]]
    rw [h] at ht
    have ho := yaccOf l p hl
    refine pcall_of (news := [2]) cxOK Tryz.func39 rfl Tryz.ntmps39 rfl rfl rfl (by decide) ?_
    repeat' ((conv => whnf); first | refine aB rfl ?_ | refine sY rfl ?_ | refine sN rfl ?_ | refine sM (fun _ => ?_) (fun _ => ?_))
    all_goals (conv => whnf)
    refine call0 ht ?_
    repeat' ((conv => whnf); first | refine aB rfl ?_ | refine sY rfl ?_ | refine sN rfl ?_ | refine sM (fun _ => ?_) (fun _ => ?_))
    all_goals (conv => whnf)
    refine call0 ho ?_
    generalize ofS l p = R
    cases R with
    | ok s =>
      repeat' ((conv => whnf); first | exact trivial | refine aB rfl ?_ | refine sY rfl ?_ | refine sN rfl ?_ | refine sM (fun _ => ?_) (fun _ => ?_) | refine cK (by kernel_rfl) ?_ | refine And.intro ?_ ?_ | exact Or.inl ⟨rfl, rfl⟩ | exact rfl)
      all_goals (conv => whnf)
    | error w =>
      repeat' ((conv => whnf); first | exact trivial | refine aB rfl ?_ | refine sY rfl ?_ | refine sN rfl ?_ | refine sM (fun _ => ?_) (fun _ => ?_) | refine cK (by kernel_rfl) ?_ | refine And.intro ?_ ?_ | exact Or.inl ⟨rfl, rfl⟩ | exact rfl)
      all_goals (conv => whnf)
  · have hp : parseS b = .error (p, e) := by
      simp only [parseS, h]
    rw [hp]
    rw [h] at ht
    refine pcall_of (news := [2]) cxOK Tryz.func39 rfl Tryz.ntmps39 rfl rfl rfl (by decide) ?_
    repeat' ((conv => whnf); first | refine aB rfl ?_ | refine sY rfl ?_ | refine sN rfl ?_ | refine sM (fun _ => ?_) (fun _ => ?_))
    all_goals (conv => whnf)
    refine call0 ht ?_
    repeat' ((conv => whnf); first | refine aB rfl ?_ | refine sY rfl ?_ | refine sN rfl ?_ | refine sM (fun _ => ?_) (fun _ => ?_))
    all_goals (conv => whnf)
    · repeat' ((conv => whnf); first | exact trivial | refine aB rfl ?_ | refine sY rfl ?_ | refine sN rfl ?_ | refine sM (fun _ => ?_) (fun _ => ?_) | refine cK (by kernel_rfl) ?_ | refine And.intro ?_ ?_ | exact Or.inl ⟨rfl, rfl⟩ | exact rfl)
      all_goals (conv => whnf)
    · rename_i h
      have := notF h
      simp at this
      exact absurd this he
end Tryz
end Go.Dm
namespace Go.Dm
/-! ### cfg: a builder -/
theorem AppG.mrow1 {e v by' : Nat} {xs : List (List D)} {y : List D} {Z : Unit → Prop} {C : Nat → List (List D) → Prop} (xs' : List (List D)) (h2 : allOne y = true) (h3 : (xs.length + 1) * by' ≤ 140737488355328) (hb : 0 < by') (hC : C (v + 1) xs') :
    AppG (v = v ∧ e = e ∧ 0 < by' ∧ (∀ r ∈ [y], allOne r = true) ∧ (xs.length + [y].length) * by' ≤ 140737488355328) [y] Z C :=
  AppG.to (v + 1) xs' ⟨rfl, rfl, hb, fun r hr => by simp at hr; subst hr; exact h2, h3⟩ (by simp) hC
structure BS where
  terms : List TermS
  nons : List (List UInt8)
  rules : List RuleS
  start : Int
  tokens : List (List UInt8)
  starts : List RefS
  levels : Nat
def tokMap (l : List (List UInt8)) : List (Value × Value) := l.map fun s => (str s, .int .i64 1)
def BOK (b : BS) : Prop := b.terms.length ≤ 24 ∧ b.nons.length ≤ 16 ∧ b.rules.length ≤ 40 ∧ b.starts.length ≤ 1 ∧ b.levels ≤ 4000
def addS (b : BS) (r : RefS) : Except Wr (Int × BS) := match decide (termIx b.terms r.text ≥ 0) with
  | true => .ok (termIx b.terms r.text, b)
  | false => match decide (b.terms.length = 24) with
    | true => .error (r.at', 5)
    | false => .ok (b.terms.length, { b with terms := b.terms ++ [⟨r.text, 0, 0⟩] })
def levelAt (l : List TermS) (i : Int) : Int := match l[i.toNat]? with
  | some t => t.level
  | none => 0
def putLevel (l : List TermS) (i : Nat) (lv a : Int) : List TermS := match l[i]? with
  | some t => l.set i ⟨t.name, lv, a⟩
  | none => l
def precedeS (b : BS) (r : RefS) (a : Int) : Except Wr BS := match decide (termIx b.terms r.text ≥ 0) && decide (levelAt b.terms (termIx b.terms r.text) > 0) with
  | true => .error (r.at', 7)
  | false => match addS b r with
    | .error w => .error w
    | .ok p => .ok { p.2 with terms := putLevel p.2.terms p.1.toNat p.2.levels a }
theorem addS_len {b : BS} {r : RefS} {p : Int × BS} (hb : BOK b) (h : addS b r = .ok p) : BOK p.2 ∧ 0 ≤ p.1 ∧ p.1 < (p.2.terms.length : Int) := by
  unfold addS at h
  split at h
  · rename_i h1
    have h1 := decT h1
    injection h with h; subst h
    exact ⟨hb, h1, (termIx_range _ _).2⟩
  · split at h
    · cases h
    · rename_i h2
      have h2 := decF h2
      injection h with h; subst h
      obtain ⟨b1, b2, b3, b4, b5⟩ := hb
      refine ⟨⟨by simp; omega, b2, b3, b4, b5⟩, by simp, by simp; omega⟩
theorem putLevel_eq {l : List TermS} {i : Nat} {lv a : Int} (h : i < l.length) : putLevel l i lv a = l.set i ⟨l[i].name, lv, a⟩ := by
  unfold putLevel; simp [List.getElem?_eq_getElem h]
theorem putLevel_len (l : List TermS) (i : Nat) (lv a : Int) : (putLevel l i lv a).length = l.length := by
  unfold putLevel; split <;> simp
namespace Tryz
open Go.Proofs
def cWr (w : Wr) : D := .iface 98 (.agg [.v (plO w.1), .v (.int .i64 w.2)])
def builderM (b : BS) : Mem := [(1000, .cells [.row 1001 b.terms.length, .row 1002 b.nons.length, .row 1003 b.rules.length, .v (.int .i64 b.start), .mp 1004, .row 1005 b.starts.length, .v (.int .i64 b.levels)]),
  (1001, .mrow 50 3 b.terms.length (termsD b.terms)), (1002, .row 9 1 (strsD b.nons)), (1003, .row 48 3 (rulesD b.rules)), (1004, .mp (tokMap b.tokens)), (1005, .row 141 2 (b.starts.map refCells))]
theorem cfgRefuse (r : RefS) (e : Nat) : PCall Tryz.prog 97 [] [.agg (refCells r), .v (.int .i64 e)] (.pan (cWr (r.at', e))) := by
  refine pcall_of (news := []) cxOK Tryz.func97 rfl Tryz.ntmps97 rfl rfl rfl (by decide) ?_
  repeat' ((conv => whnf); first | refine aB rfl ?_ | refine sY rfl ?_ | refine sN rfl ?_ | refine sM (fun _ => ?_) (fun _ => ?_))
  all_goals (conv => whnf)
  exact ⟨_, rfl, Or.inl ⟨rfl, rfl⟩⟩
def gramP (b : BS) : Mem := [(1001, .mrow 50 3 b.terms.length (termsD b.terms)), (1002, .row 9 1 (strsD b.nons)), (1003, .row 48 3 (rulesD b.rules))]
theorem gramFrz {M : Mem} (b : BS) (x : Value) (h1 : get M 1001 = some (.mrow 50 3 b.terms.length (termsD b.terms))) (h2 : get M 1002 = some (.row 9 1 (strsD b.nons))) (h3 : get M 1003 = some (.row 48 3 (rulesD b.rules))) :
    frzL M [.agg [.row 1001 b.terms.length, .row 1002 b.nons.length, .row 1003 b.rules.length, .v (.int .i64 b.start)], .v x] = some ([.agg [.list 3 (termsD b.terms), .list 1 (strsD b.nons), .list 3 (rulesD b.rules), .v (.int .i64 b.start)], .v x], gramP b) :=
  FrzL.cons (.agg (.cons (.mrow h1 rfl) (.cons (.row h2 (take_map_all _ _)) (.cons (.row h3 (take_map_all _ _)) (.cons .v .nil))))) (.cons .v .nil)
set_option maxHeartbeats 4000000 in
theorem builderAdd (b : BS) (r : RefS) (hb : BOK b) : PCall Tryz.prog 162 (builderM b) [.ref 1000 0, .agg (refCells r)] (exO cWr (fun p => .ret (.v (.int .i64 p.1)) (builderM p.2)) (addS b r)) := by
  obtain ⟨b1, b2, b3, b4, b5⟩ := hb
  generalize hR : addS b r = R
  refine pcall_of (news := []) cxOK Tryz.func162 rfl Tryz.ntmps162 rfl rfl rfl (by decide) ?_
  repeat' ((conv => whnf); first | refine aB rfl ?_ | refine sY rfl ?_ | refine sN rfl ?_ | refine sM (fun _ => ?_) (fun _ => ?_))
  all_goals (conv => whnf)
  refine callZ (gramFrz b (str r.text) rfl rfl rfl) (cfgTerminal b.terms _ _ _ r.text (by omega)) rfl ?_
  repeat' ((conv => whnf); first | refine aB rfl ?_ | refine cK (by kernel_rfl) ?_ | refine And.intro rfl ?_ | refine sY rfl ?_ | refine sN rfl ?_ | refine sM (fun _ => ?_) (fun _ => ?_))
  all_goals (conv => whnf)
  · rename_i h
    have h : decide (termIx b.terms r.text ≥ 0) = true := h
    obtain rfl : R = .ok (termIx b.terms r.text, b) := by rw [← hR]; simp only [addS, h]
    repeat' ((conv => whnf); first | exact trivial | refine aB rfl ?_ | refine sY rfl ?_ | refine sN rfl ?_ | refine sM (fun _ => ?_) (fun _ => ?_) | refine cK (by kernel_rfl) ?_ | refine And.intro ?_ ?_ | exact Or.inl ⟨rfl, rfl⟩ | exact rfl)
    all_goals (conv => whnf)
  · rename_i h h2
    have h : decide (termIx b.terms r.text ≥ 0) = false := h
    have h2 : (((termsD b.terms).length : Int) = 24) := decT h2
    rw [terms_len] at h2
    have h3 : decide (b.terms.length = 24) = true := decide_eq_true (by omega)
    obtain rfl : R = .error (r.at', 5) := by rw [← hR]; simp only [addS, h, h3]
    refine call0 (cfgRefuse r 5) ?_
    conv => whnf
    exact ⟨_, rfl, Or.inl ⟨rfl, rfl⟩⟩
  · rename_i h h2
    have h : decide (termIx b.terms r.text ≥ 0) = false := h
    have h2 : ¬ (((termsD b.terms).length : Int) = 24) := decF h2
    rw [terms_len] at h2
    have h3 : decide (b.terms.length = 24) = false := decide_eq_false (by omega)
    obtain rfl : R = .ok (b.terms.length, { b with terms := b.terms ++ [⟨r.text, 0, 0⟩] }) := by rw [← hR]; simp only [addS, h, h3]
    have ha : (b.terms ++ [TermS.mk r.text 0 0]).length = b.terms.length + 1 := by simp
    refine AppG.mrow1 (termsD (b.terms ++ [TermS.mk r.text 0 0])) rfl ?_ (by decide) ⟨rfl, ?_, ?_⟩
    · rw [terms_len]; omega
    · unfold termsD; rw [List.map_append]; rfl
    repeat' ((conv => whnf); first | refine aB rfl ?_ | refine cK (by kernel_rfl) ?_ | refine And.intro rfl ?_ | refine sY rfl ?_ | refine sN rfl ?_ | refine sM (fun _ => ?_) (fun _ => ?_))
    all_goals (conv => whnf)
    refine KI.i64 (b.terms.length : Int) ?_ (by omega) ?_
    · rw [terms_len, ha]; omega
    repeat' ((conv => whnf); first | refine aB rfl ?_ | refine sY rfl ?_ | refine sN rfl ?_ | refine sM (fun _ => ?_) (fun _ => ?_))
    all_goals (conv => whnf)
    refine ⟨rfl, ⟨Or.inl ⟨congrArg (D.row 1001) ha.symm, rfl⟩, Or.inl ⟨rfl, rfl⟩, Or.inl ⟨rfl, rfl⟩, Or.inl ⟨rfl, rfl⟩, Or.inl ⟨rfl, rfl⟩, Or.inl ⟨rfl, rfl⟩, Or.inl ⟨rfl, rfl⟩, trivial⟩, ?_, rfl, rfl, rfl, rfl, trivial⟩
    show Ob.mrow _ _ _ _ = Ob.mrow _ _ _ _
    rw [ha]
theorem addOk {b : BS} {r : RefS} {p : Int × BS} (h : addS b r = .ok p) (hb : BOK b) : PCall Tryz.prog 162 (builderM b) [.ref 1000 0, .agg (refCells r)] (.ret (.v (.int .i64 p.1)) (builderM p.2)) := by
  have := builderAdd b r hb
  rwa [h] at this
theorem addBad {b : BS} {r : RefS} {w : Wr} (h : addS b r = .error w) (hb : BOK b) : PCall Tryz.prog 162 (builderM b) [.ref 1000 0, .agg (refCells r)] (.pan (cWr w)) := by
  have := builderAdd b r hb
  rwa [h] at this
end Tryz
end Go.Dm
namespace Go.Dm
/-! ### cfg: a builder: precedence -/
namespace Tryz
open Go.Proofs
set_option maxHeartbeats 4000000 in
theorem builderPrecede (b : BS) (r : RefS) (a : Int) (hb : BOK b) : PCall Tryz.prog 163 (builderM b) [.ref 1000 0, .agg (refCells r), .v (.int .i64 a)] (exO cWr (fun p => .ret (.tup []) (builderM p)) (precedeS b r a)) := by
  have hb' := hb
  obtain ⟨b1, b2, b3, b4, b5⟩ := hb'
  generalize hR : precedeS b r a = R
  have hrg := termIx_range b.terms r.text
  refine pcall_of (news := []) cxOK Tryz.func163 rfl Tryz.ntmps163 rfl rfl rfl (by decide) ?_
  repeat' ((conv => whnf); first | refine aB rfl ?_ | refine sY rfl ?_ | refine sN rfl ?_ | refine sM (fun _ => ?_) (fun _ => ?_))
  all_goals (conv => whnf)
  refine callZ (gramFrz b (str r.text) rfl rfl rfl) (cfgTerminal b.terms _ _ _ r.text (by omega)) rfl ?_
  repeat' ((conv => whnf); first | refine aB rfl ?_ | refine cK (by kernel_rfl) ?_ | refine And.intro rfl ?_ | refine sY rfl ?_ | refine sN rfl ?_ | refine sM (fun _ => ?_) (fun _ => ?_))
  all_goals (conv => whnf)
  · rename_i h
    have h : decide (termIx b.terms r.text ≥ 0) = true := h
    have h0 := decT h
    obtain ⟨j, hj⟩ : ∃ j : Nat, termIx b.terms r.text = j := ⟨(termIx b.terms r.text).toNat, by omega⟩
    have hjl : j < b.terms.length := by omega
    have hg := List.getElem?_eq_getElem hjl
    refine ArrG.to j hj (by rw [terms_len]; exact hjl) ?_
    repeat' ((conv => whnf); first | refine aB rfl ?_ | refine cK (by kernel_rfl) ?_ | refine And.intro rfl ?_ | refine sY rfl ?_ | refine sN rfl ?_ | refine sM (fun _ => ?_) (fun _ => ?_))
    all_goals (conv => whnf)
    refine ElG.to (termCells b.terms[j]) (terms_get hg) ?_
    repeat' ((conv => whnf); first | refine aB rfl ?_ | refine cK (by kernel_rfl) ?_ | refine And.intro rfl ?_ | refine sY rfl ?_ | refine sN rfl ?_ | refine sM (fun _ => ?_) (fun _ => ?_))
    all_goals (conv => whnf)
    · rename_i h2
      have h2 : decide (b.terms[j].level > 0) = true := h2
      have hlv : levelAt b.terms (termIx b.terms r.text) = b.terms[j].level := by
        unfold levelAt; rw [hj]; simp [hg]
      obtain rfl : R = .error (r.at', 7) := by rw [← hR]; simp only [precedeS, h, hlv, h2]; rfl
      refine call0 (cfgRefuse r 7) ?_
      conv => whnf
      exact ⟨_, rfl, Or.inl ⟨rfl, rfl⟩⟩
    · rename_i h2
      have h2 : decide (b.terms[j].level > 0) = false := h2
      have hlv : levelAt b.terms (termIx b.terms r.text) = b.terms[j].level := by
        unfold levelAt; rw [hj]; simp [hg]
      have hp : addS b r = .ok (termIx b.terms r.text, b) := by simp only [addS, h]
      obtain rfl : R = .ok { b with terms := putLevel b.terms j b.levels a } := by
        rw [← hR]; simp only [precedeS, h, hlv, h2, hp]; show Except.ok _ = _; rw [hj]; rfl
      refine callM (addOk hp hb) ⟨rfl, rfl, rfl, rfl, rfl, rfl, trivial⟩ rfl ?_
      repeat' ((conv => whnf); first | refine aB rfl ?_ | refine cK (by kernel_rfl) ?_ | refine And.intro rfl ?_ | refine sY rfl ?_ | refine sN rfl ?_ | refine sM (fun _ => ?_) (fun _ => ?_))
      all_goals (conv => whnf)
      have hjc : j < b.terms.length := hjl
      have hgc := List.getElem?_eq_getElem hjc
      refine ArrG.to j hj (by rw [terms_len]; exact hjc) ?_
      repeat' ((conv => whnf); first | refine aB rfl ?_ | refine cK (by kernel_rfl) ?_ | refine And.intro rfl ?_ | refine sY rfl ?_ | refine sN rfl ?_ | refine sM (fun _ => ?_) (fun _ => ?_))
      all_goals (conv => whnf)
      refine ElG.to (termCells b.terms[j]) (terms_get hgc) ?_
      repeat' ((conv => whnf); first | refine aB rfl ?_ | refine cK (by kernel_rfl) ?_ | refine And.intro rfl ?_ | refine sY rfl ?_ | refine sN rfl ?_ | refine sM (fun _ => ?_) (fun _ => ?_))
      all_goals (conv => whnf)
      refine ElG.to (termCells ⟨b.terms[j].name, b.levels, b.terms[j].assoc⟩) ?_ ?_
      · exact List.getElem?_set_self (by rw [terms_len]; exact hjc)
      repeat' ((conv => whnf); first | refine aB rfl ?_ | refine sY rfl ?_ | refine sN rfl ?_ | refine sM (fun _ => ?_) (fun _ => ?_))
      all_goals (conv => whnf)
      refine ⟨trivial, ⟨Or.inl ⟨congrArg (D.row 1001) (putLevel_len _ _ _ _).symm, rfl⟩, Or.inl ⟨rfl, rfl⟩, Or.inl ⟨rfl, rfl⟩, Or.inl ⟨rfl, rfl⟩, Or.inl ⟨rfl, rfl⟩, Or.inl ⟨rfl, rfl⟩, Or.inl ⟨rfl, rfl⟩, trivial⟩, ?_, rfl, rfl, rfl, rfl, trivial⟩
      show Ob.mrow _ _ _ _ = Ob.mrow _ _ _ _
      rw [putLevel_len, putLevel_eq hjc]
      congr 1
      unfold termsD
      rw [List.map_set]
      exact List.set_set _
  · rename_i h
    have h : decide (termIx b.terms r.text ≥ 0) = false := h
    cases hp : addS b r with
    | error w =>
      obtain rfl : R = .error w := by rw [← hR]; simp only [precedeS, h, hp]; rfl
      refine callM (addBad hp hb) ⟨rfl, rfl, rfl, rfl, rfl, rfl, trivial⟩ rfl ?_
      conv => whnf
      exact ⟨_, rfl, Or.inl ⟨rfl, rfl⟩⟩
    | ok p =>
      obtain ⟨q1, q2, q3⟩ := addS_len hb hp
      obtain ⟨i, c⟩ := p
      simp only at q1 q2 q3
      obtain ⟨j, rfl⟩ : ∃ j : Nat, i = j := ⟨i.toNat, by omega⟩
      obtain rfl : R = .ok { c with terms := putLevel c.terms j c.levels a } := by rw [← hR]; simp only [precedeS, h, hp]; rfl
      refine callM (addOk hp hb) ⟨rfl, rfl, rfl, rfl, rfl, rfl, trivial⟩ rfl ?_
      repeat' ((conv => whnf); first | refine aB rfl ?_ | refine cK (by kernel_rfl) ?_ | refine And.intro rfl ?_ | refine sY rfl ?_ | refine sN rfl ?_ | refine sM (fun _ => ?_) (fun _ => ?_))
      all_goals (conv => whnf)
      have hjc : j < c.terms.length := by omega
      have hgc := List.getElem?_eq_getElem hjc
      refine ArrG.to j rfl (by rw [terms_len]; exact hjc) ?_
      repeat' ((conv => whnf); first | refine aB rfl ?_ | refine cK (by kernel_rfl) ?_ | refine And.intro rfl ?_ | refine sY rfl ?_ | refine sN rfl ?_ | refine sM (fun _ => ?_) (fun _ => ?_))
      all_goals (conv => whnf)
      refine ElG.to (termCells c.terms[j]) (terms_get hgc) ?_
      repeat' ((conv => whnf); first | refine aB rfl ?_ | refine cK (by kernel_rfl) ?_ | refine And.intro rfl ?_ | refine sY rfl ?_ | refine sN rfl ?_ | refine sM (fun _ => ?_) (fun _ => ?_))
      all_goals (conv => whnf)
      refine ElG.to (termCells ⟨c.terms[j].name, c.levels, c.terms[j].assoc⟩) ?_ ?_
      · exact List.getElem?_set_self (by rw [terms_len]; exact hjc)
      repeat' ((conv => whnf); first | refine aB rfl ?_ | refine sY rfl ?_ | refine sN rfl ?_ | refine sM (fun _ => ?_) (fun _ => ?_))
      all_goals (conv => whnf)
      refine ⟨trivial, ⟨Or.inl ⟨congrArg (D.row 1001) (putLevel_len _ _ _ _).symm, rfl⟩, Or.inl ⟨rfl, rfl⟩, Or.inl ⟨rfl, rfl⟩, Or.inl ⟨rfl, rfl⟩, Or.inl ⟨rfl, rfl⟩, Or.inl ⟨rfl, rfl⟩, Or.inl ⟨rfl, rfl⟩, trivial⟩, ?_, rfl, rfl, rfl, rfl, trivial⟩
      show Ob.mrow _ _ _ _ = Ob.mrow _ _ _ _
      rw [putLevel_len, putLevel_eq hjc]
      congr 1
      unfold termsD
      rw [List.map_set]
      exact List.set_set _
end Tryz
end Go.Dm
namespace Go.Dm
/-! ### cfg: a builder: declarations -/
def nameB (b : BS) (kind : Nat) (r : RefS) : Except Wr BS := match namedS r.text && (!decide (kind = 7) || NameS r.text) with
  | false => .error (r.at', 3)
  | true => match decide (kind = 7) with
    | true => match b.starts with
      | [] => .ok { b with starts := [r] }
      | _ :: _ => .error (r.at', 7)
    | false => match decide (kind = 3) with
      | true => match b.tokens.contains r.text with
        | true => .error (r.at', 7)
        | false => match addS { b with tokens := b.tokens ++ [r.text] } r with
          | .error w => .error w
          | .ok p => .ok p.2
      | false => precedeS b r (match decide (kind = 4) with | true => 1 | false => match decide (kind = 5) with | true => 2 | false => 3)
theorem precedeS_ok {b c : BS} {r : RefS} {a : Int} (hb : BOK b) (h : precedeS b r a = .ok c) : BOK c := by
  unfold precedeS at h
  split at h
  · cases h
  · cases hp : addS b r with
    | error w => rw [hp] at h; cases h
    | ok p =>
      obtain ⟨⟨q1, q2, q3, q4, q5⟩, _⟩ := addS_len hb hp
      rw [hp] at h
      injection h with h; subst h
      exact ⟨by simp only [putLevel_len]; exact q1, q2, q3, q4, q5⟩
theorem nameB_ok {b c : BS} {k : Nat} {r : RefS} (hb : BOK b) (h : nameB b k r = .ok c) : BOK c := by
  unfold nameB at h
  split at h
  · cases h
  · split at h
    · split at h
      · injection h with h; subst h
        obtain ⟨q1, q2, q3, q4, q5⟩ := hb
        exact ⟨q1, q2, q3, by simp, q5⟩
      · cases h
    · split at h
      · split at h
        · cases h
        · cases hp : addS { b with tokens := b.tokens ++ [r.text] } r with
          | error w => rw [hp] at h; cases h
          | ok p =>
            rw [hp] at h
            injection h with h; subst h
            exact (addS_len (b := { b with tokens := b.tokens ++ [r.text] }) hb hp).1
      · exact precedeS_ok hb h
theorem find_tok (l : List (List UInt8)) (s : List UInt8) : findL .str (str s) (tokMap l) = some (if l.contains s then some (Value.int .i64 1) else none) := by
  induction l with
  | nil => rfl
  | cons x r ih =>
    have e : sameTK .str (str s) (str x) = some (decide (s = x)) := by
      show some ((⟨s.toArray⟩ : ByteArray) == ⟨x.toArray⟩) = _
      congr 1
      by_cases h : s = x
      · rw [decide_eq_true h, (MapKept.bytes_beq _ _).2 (by rw [h])]
      · rw [decide_eq_false h]
        cases hb : ((⟨s.toArray⟩ : ByteArray) == ⟨x.toArray⟩) with
        | false => rfl
        | true =>
          have := (MapKept.bytes_beq _ _).1 hb
          injection this with this
          have := congrArg Array.toList this
          simp at this
          exact absurd this h
    show (match sameTK .str (str s) (str x) with | some true => some (some (Value.int .i64 1)) | some false => findL .str (str s) (tokMap r) | none => none) = _
    rw [e]
    by_cases h : s = x
    · subst h; simp
    · rw [decide_eq_false h]
      simp only [ih, List.contains_cons]
      have : (s == x) = false := by simpa using h
      rw [this]; simp
theorem put_tok (l : List (List UInt8)) (s : List UInt8) (h : l.contains s = false) : putL .str (str s) (Value.int .i64 1) (tokMap l) = some (tokMap (l ++ [s])) := by
  induction l with
  | nil => rfl
  | cons x r ih =>
    simp only [List.contains_cons, Bool.or_eq_false_iff] at h
    have hx : s ≠ x := by simpa using h.1
    have e : sameTK .str (str s) (str x) = some false := by
      show some ((⟨s.toArray⟩ : ByteArray) == ⟨x.toArray⟩) = _
      congr 1
      cases hb : ((⟨s.toArray⟩ : ByteArray) == ⟨x.toArray⟩) with
      | false => rfl
      | true =>
        have := (MapKept.bytes_beq _ _).1 hb
        injection this with this
        have := congrArg Array.toList this
        simp at this
        exact absurd this hx
    show (match sameTK .str (str s) (str x) with | some true => some ((str s, Value.int .i64 1) :: tokMap r) | some false => (match putL .str (str s) (Value.int .i64 1) (tokMap r) with | some l => some ((str x, Value.int .i64 1) :: l) | none => none) | none => none) = _
    rw [e]
    simp only [ih h.2]
    rfl
theorem put_tok2 (l : List (List UInt8)) (s : List UInt8) (h : l.contains s = true) : ∃ m, putL .str (str s) (Value.int .i64 2) (tokMap l) = some m ∧ findL .str (str s) m = some (some (Value.int .i64 2)) := by
  induction l with
  | nil => simp at h
  | cons x r ih =>
    by_cases hx : s = x
    · subst hx
      have e : sameTK .str (str s) (str s) = some true := by
        show some ((⟨s.toArray⟩ : ByteArray) == ⟨s.toArray⟩) = _
        rw [(MapKept.bytes_beq _ _).2 rfl]
      refine ⟨(str s, Value.int .i64 2) :: tokMap r, ?_, ?_⟩
      · show (match sameTK .str (str s) (str s) with | some true => some ((str s, Value.int .i64 2) :: tokMap r) | some false => _ | none => none) = _
        rw [e]
      · show (match sameTK .str (str s) (str s) with | some true => some (some (Value.int .i64 2)) | some false => _ | none => none) = _
        rw [e]
    · have h' : r.contains s = true := by
        simp only [List.contains_cons, Bool.or_eq_true] at h
        rcases h with h | h
        · exact absurd (by simpa using h) hx
        · exact h
      obtain ⟨m, h1, h2⟩ := ih h'
      have e : sameTK .str (str s) (str x) = some false := by
        show some ((⟨s.toArray⟩ : ByteArray) == ⟨x.toArray⟩) = _
        congr 1
        cases hb : ((⟨s.toArray⟩ : ByteArray) == ⟨x.toArray⟩) with
        | false => rfl
        | true =>
          have := (MapKept.bytes_beq _ _).1 hb
          injection this with this
          have := congrArg Array.toList this
          simp at this
          exact absurd this hx
      refine ⟨(str x, Value.int .i64 1) :: m, ?_, ?_⟩
      · show (match sameTK .str (str s) (str x) with | some true => _ | some false => (match putL .str (str s) (Value.int .i64 2) (tokMap r) with | some l => some ((str x, Value.int .i64 1) :: l) | none => none) | none => none) = _
        rw [e]
        simp only [h1]
      · show (match sameTK .str (str s) (str x) with | some true => _ | some false => findL .str (str s) m | none => none) = _
        rw [e]
        exact h2
namespace Tryz
open Go.Proofs
theorem precedeOk {b c : BS} {r : RefS} {a : Int} (h : precedeS b r a = .ok c) (hb : BOK b) : PCall Tryz.prog 163 (builderM b) [.ref 1000 0, .agg (refCells r), .v (.int .i64 a)] (.ret (.tup []) (builderM c)) := by
  have := builderPrecede b r a hb
  rwa [h] at this
theorem precedeBad {b : BS} {r : RefS} {a : Int} {w : Wr} (h : precedeS b r a = .error w) (hb : BOK b) : PCall Tryz.prog 163 (builderM b) [.ref 1000 0, .agg (refCells r), .v (.int .i64 a)] (.pan (cWr w)) := by
  have := builderPrecede b r a hb
  rwa [h] at this
set_option maxHeartbeats 4000000 in
theorem builderName4 (b : BS) (r : RefS) (hb : BOK b) : PCall Tryz.prog 125 (builderM b) [.ref 1000 0, .v (.int .i64 4), .agg (refCells r)] (exO cWr (fun p => .ret (.tup []) (builderM p)) (nameB b 4 r)) := by
  generalize hR : nameB b 4 r = R
  refine pcall_of (news := []) cxOK Tryz.func125 rfl Tryz.ntmps125 rfl rfl rfl (by decide) ?_
  repeat' ((conv => whnf); first | refine aB rfl ?_ | refine sY rfl ?_ | refine sN rfl ?_ | refine sM (fun _ => ?_) (fun _ => ?_))
  all_goals (conv => whnf)
  refine call0 (cfgNamed r.text) ?_
  repeat' ((conv => whnf); first | refine aB rfl ?_ | refine cK (by kernel_rfl) ?_ | refine And.intro rfl ?_ | refine sY rfl ?_ | refine sN rfl ?_ | refine sM (fun _ => ?_) (fun _ => ?_))
  all_goals (conv => whnf)
  · rename_i hn
    have hn : namedS r.text = false := notT hn
    obtain rfl : R = .error (r.at', 3) := by rw [← hR]; simp only [nameB, hn]; rfl
    refine call0 (cfgRefuse r 3) ?_
    conv => whnf
    exact ⟨_, rfl, Or.inl ⟨rfl, rfl⟩⟩
  · rename_i hn
    have hn : namedS r.text = true := notF hn
    have hp0 : nameB b 4 r = precedeS b r 1 := by simp only [nameB, hn]; rfl
    rw [hp0] at hR
    cases hp : precedeS b r 1 with
    | error w =>
      obtain rfl : R = .error w := by rw [← hR, hp]
      refine callM (precedeBad hp hb) ⟨rfl, rfl, rfl, rfl, rfl, rfl, trivial⟩ rfl ?_
      conv => whnf
      exact ⟨_, rfl, Or.inl ⟨rfl, rfl⟩⟩
    | ok c =>
      obtain rfl : R = .ok c := by rw [← hR, hp]
      refine callM (precedeOk hp hb) ⟨rfl, rfl, rfl, rfl, rfl, rfl, trivial⟩ rfl ?_
      repeat' ((conv => whnf); first | exact trivial | refine aB rfl ?_ | refine sY rfl ?_ | refine sN rfl ?_ | refine sM (fun _ => ?_) (fun _ => ?_) | refine cK (by kernel_rfl) ?_ | refine And.intro ?_ ?_ | exact Or.inl ⟨rfl, rfl⟩ | exact rfl)
      all_goals (conv => whnf)
set_option maxHeartbeats 4000000 in
theorem builderName5 (b : BS) (r : RefS) (hb : BOK b) : PCall Tryz.prog 125 (builderM b) [.ref 1000 0, .v (.int .i64 5), .agg (refCells r)] (exO cWr (fun p => .ret (.tup []) (builderM p)) (nameB b 5 r)) := by
  generalize hR : nameB b 5 r = R
  refine pcall_of (news := []) cxOK Tryz.func125 rfl Tryz.ntmps125 rfl rfl rfl (by decide) ?_
  repeat' ((conv => whnf); first | refine aB rfl ?_ | refine sY rfl ?_ | refine sN rfl ?_ | refine sM (fun _ => ?_) (fun _ => ?_))
  all_goals (conv => whnf)
  refine call0 (cfgNamed r.text) ?_
  repeat' ((conv => whnf); first | refine aB rfl ?_ | refine cK (by kernel_rfl) ?_ | refine And.intro rfl ?_ | refine sY rfl ?_ | refine sN rfl ?_ | refine sM (fun _ => ?_) (fun _ => ?_))
  all_goals (conv => whnf)
  · rename_i hn
    have hn : namedS r.text = false := notT hn
    obtain rfl : R = .error (r.at', 3) := by rw [← hR]; simp only [nameB, hn]; rfl
    refine call0 (cfgRefuse r 3) ?_
    conv => whnf
    exact ⟨_, rfl, Or.inl ⟨rfl, rfl⟩⟩
  · rename_i hn
    have hn : namedS r.text = true := notF hn
    have hp0 : nameB b 5 r = precedeS b r 2 := by simp only [nameB, hn]; rfl
    rw [hp0] at hR
    cases hp : precedeS b r 2 with
    | error w =>
      obtain rfl : R = .error w := by rw [← hR, hp]
      refine callM (precedeBad hp hb) ⟨rfl, rfl, rfl, rfl, rfl, rfl, trivial⟩ rfl ?_
      conv => whnf
      exact ⟨_, rfl, Or.inl ⟨rfl, rfl⟩⟩
    | ok c =>
      obtain rfl : R = .ok c := by rw [← hR, hp]
      refine callM (precedeOk hp hb) ⟨rfl, rfl, rfl, rfl, rfl, rfl, trivial⟩ rfl ?_
      repeat' ((conv => whnf); first | exact trivial | refine aB rfl ?_ | refine sY rfl ?_ | refine sN rfl ?_ | refine sM (fun _ => ?_) (fun _ => ?_) | refine cK (by kernel_rfl) ?_ | refine And.intro ?_ ?_ | exact Or.inl ⟨rfl, rfl⟩ | exact rfl)
      all_goals (conv => whnf)
set_option maxHeartbeats 4000000 in
theorem builderName6 (b : BS) (r : RefS) (hb : BOK b) : PCall Tryz.prog 125 (builderM b) [.ref 1000 0, .v (.int .i64 6), .agg (refCells r)] (exO cWr (fun p => .ret (.tup []) (builderM p)) (nameB b 6 r)) := by
  generalize hR : nameB b 6 r = R
  refine pcall_of (news := []) cxOK Tryz.func125 rfl Tryz.ntmps125 rfl rfl rfl (by decide) ?_
  repeat' ((conv => whnf); first | refine aB rfl ?_ | refine sY rfl ?_ | refine sN rfl ?_ | refine sM (fun _ => ?_) (fun _ => ?_))
  all_goals (conv => whnf)
  refine call0 (cfgNamed r.text) ?_
  repeat' ((conv => whnf); first | refine aB rfl ?_ | refine cK (by kernel_rfl) ?_ | refine And.intro rfl ?_ | refine sY rfl ?_ | refine sN rfl ?_ | refine sM (fun _ => ?_) (fun _ => ?_))
  all_goals (conv => whnf)
  · rename_i hn
    have hn : namedS r.text = false := notT hn
    obtain rfl : R = .error (r.at', 3) := by rw [← hR]; simp only [nameB, hn]; rfl
    refine call0 (cfgRefuse r 3) ?_
    conv => whnf
    exact ⟨_, rfl, Or.inl ⟨rfl, rfl⟩⟩
  · rename_i hn
    have hn : namedS r.text = true := notF hn
    have hp0 : nameB b 6 r = precedeS b r 3 := by simp only [nameB, hn]; rfl
    rw [hp0] at hR
    cases hp : precedeS b r 3 with
    | error w =>
      obtain rfl : R = .error w := by rw [← hR, hp]
      refine callM (precedeBad hp hb) ⟨rfl, rfl, rfl, rfl, rfl, rfl, trivial⟩ rfl ?_
      conv => whnf
      exact ⟨_, rfl, Or.inl ⟨rfl, rfl⟩⟩
    | ok c =>
      obtain rfl : R = .ok c := by rw [← hR, hp]
      refine callM (precedeOk hp hb) ⟨rfl, rfl, rfl, rfl, rfl, rfl, trivial⟩ rfl ?_
      repeat' ((conv => whnf); first | exact trivial | refine aB rfl ?_ | refine sY rfl ?_ | refine sN rfl ?_ | refine sM (fun _ => ?_) (fun _ => ?_) | refine cK (by kernel_rfl) ?_ | refine And.intro ?_ ?_ | exact Or.inl ⟨rfl, rfl⟩ | exact rfl)
      all_goals (conv => whnf)
set_option maxHeartbeats 4000000 in
theorem builderName7 (b : BS) (r : RefS) (hb : BOK b) : PCall Tryz.prog 125 (builderM b) [.ref 1000 0, .v (.int .i64 7), .agg (refCells r)] (exO cWr (fun p => .ret (.tup []) (builderM p)) (nameB b 7 r)) := by
  generalize hR : nameB b 7 r = R
  refine pcall_of (news := []) cxOK Tryz.func125 rfl Tryz.ntmps125 rfl rfl rfl (by decide) ?_
  repeat' ((conv => whnf); first | refine aB rfl ?_ | refine sY rfl ?_ | refine sN rfl ?_ | refine sM (fun _ => ?_) (fun _ => ?_))
  all_goals (conv => whnf)
  refine call0 (cfgNamed r.text) ?_
  repeat' ((conv => whnf); first | refine aB rfl ?_ | refine cK (by kernel_rfl) ?_ | refine And.intro rfl ?_ | refine sY rfl ?_ | refine sN rfl ?_ | refine sM (fun _ => ?_) (fun _ => ?_))
  all_goals (conv => whnf)
  · rename_i hn
    have hn : namedS r.text = false := notT hn
    obtain rfl : R = .error (r.at', 3) := by rw [← hR]; simp only [nameB, hn]; rfl
    refine call0 (cfgRefuse r 3) ?_
    conv => whnf
    exact ⟨_, rfl, Or.inl ⟨rfl, rfl⟩⟩
  rename_i hn
  have hn : namedS r.text = true := notF hn
  refine call0 (lexName r.text) ?_
  repeat' ((conv => whnf); first | refine aB rfl ?_ | refine cK (by kernel_rfl) ?_ | refine And.intro rfl ?_ | refine sY rfl ?_ | refine sN rfl ?_ | refine sM (fun _ => ?_) (fun _ => ?_))
  all_goals (conv => whnf)
  · rename_i hm
    have hm : NameS r.text = false := by
      have hm' : (bif true then !NameS r.text else false) = true := hm
      exact notT hm'
    obtain rfl : R = .error (r.at', 3) := by rw [← hR]; simp only [nameB, hn, hm]; rfl
    refine call0 (cfgRefuse r 3) ?_
    conv => whnf
    exact ⟨_, rfl, Or.inl ⟨rfl, rfl⟩⟩
  rename_i hm
  have hm : NameS r.text = true := by
    have hm' : (bif true then !NameS r.text else false) = false := hm
    exact notF hm'
  obtain ⟨ts, ns, rs, st, tk, ss, lv⟩ := b
  cases ss with
  | cons x y =>
    obtain rfl : R = .error (r.at', 7) := by rw [← hR]; simp only [nameB, hn, hm]; rfl
    refine ⟨Nat.le_of_eq (ref_len _).symm, ?_⟩
    repeat' ((conv => whnf); first | refine aB rfl ?_ | refine cK (by kernel_rfl) ?_ | refine And.intro rfl ?_ | refine sY rfl ?_ | refine sN rfl ?_ | refine sM (fun _ => ?_) (fun _ => ?_))
    all_goals (conv => whnf)
    · refine call0 (cfgRefuse r 7) ?_
      conv => whnf
      exact ⟨_, rfl, Or.inl ⟨rfl, rfl⟩⟩
    · rename_i h
      have := decF h
      simp at this
  | nil =>
    obtain rfl : R = .ok ⟨ts, ns, rs, st, tk, [r], lv⟩ := by rw [← hR]; simp only [nameB, hn, hm]; rfl
    refine ⟨Nat.le_refl _, ?_⟩
    repeat' ((conv => whnf); first | refine aB rfl ?_ | refine cK (by kernel_rfl) ?_ | refine And.intro rfl ?_ | refine sY rfl ?_ | refine sN rfl ?_ | refine sM (fun _ => ?_) (fun _ => ?_))
    all_goals (conv => whnf)
    refine AppG.row1 ([r].map refCells) rfl rfl (Nat.le_of_ble_eq_true rfl) (by decide) ⟨rfl, rfl, ?_⟩
    repeat' ((conv => whnf); first | refine aB rfl ?_ | refine cK (by kernel_rfl) ?_ | refine And.intro rfl ?_ | refine sY rfl ?_ | refine sN rfl ?_ | refine sM (fun _ => ?_) (fun _ => ?_))
    all_goals (conv => whnf)
    repeat' ((conv => whnf); first | exact trivial | refine aB rfl ?_ | refine sY rfl ?_ | refine sN rfl ?_ | refine sM (fun _ => ?_) (fun _ => ?_) | refine cK (by kernel_rfl) ?_ | refine And.intro ?_ ?_ | exact Or.inl ⟨rfl, rfl⟩ | exact rfl)
    all_goals (conv => whnf)
set_option maxHeartbeats 4000000 in
theorem builderName3 (b : BS) (r : RefS) (hb : BOK b) : PCall Tryz.prog 125 (builderM b) [.ref 1000 0, .v (.int .i64 3), .agg (refCells r)] (exO cWr (fun p => .ret (.tup []) (builderM p)) (nameB b 3 r)) := by
  generalize hR : nameB b 3 r = R
  refine pcall_of (news := []) cxOK Tryz.func125 rfl Tryz.ntmps125 rfl rfl rfl (by decide) ?_
  repeat' ((conv => whnf); first | refine aB rfl ?_ | refine sY rfl ?_ | refine sN rfl ?_ | refine sM (fun _ => ?_) (fun _ => ?_))
  all_goals (conv => whnf)
  refine call0 (cfgNamed r.text) ?_
  repeat' ((conv => whnf); first | refine aB rfl ?_ | refine cK (by kernel_rfl) ?_ | refine And.intro rfl ?_ | refine sY rfl ?_ | refine sN rfl ?_ | refine sM (fun _ => ?_) (fun _ => ?_))
  all_goals (conv => whnf)
  · rename_i hn
    have hn : namedS r.text = false := notT hn
    obtain rfl : R = .error (r.at', 3) := by rw [← hR]; simp only [nameB, hn]; rfl
    refine call0 (cfgRefuse r 3) ?_
    conv => whnf
    exact ⟨_, rfl, Or.inl ⟨rfl, rfl⟩⟩
  rename_i hn
  have hn : namedS r.text = true := notF hn
  cases ht : b.tokens.contains r.text with
  | true =>
    obtain rfl : R = .error (r.at', 7) := by rw [← hR]; simp only [nameB, hn, ht]; rfl
    obtain ⟨m, hm1, hm2⟩ := put_tok2 b.tokens r.text ht
    refine LkG.to (some (.int .i64 1)) (by rw [find_tok, ht]; rfl) ?_
    repeat' ((conv => whnf); first | refine aB rfl ?_ | refine cK (by kernel_rfl) ?_ | refine And.intro rfl ?_ | refine sY rfl ?_ | refine sN rfl ?_ | refine sM (fun _ => ?_) (fun _ => ?_))
    all_goals (conv => whnf)
    refine KI.i64 2 rfl (by omega) ?_
    repeat' ((conv => whnf); first | refine aB rfl ?_ | refine cK (by kernel_rfl) ?_ | refine And.intro rfl ?_ | refine sY rfl ?_ | refine sN rfl ?_ | refine sM (fun _ => ?_) (fun _ => ?_))
    all_goals (conv => whnf)
    refine UpG.to m hm1 ?_
    repeat' ((conv => whnf); first | refine aB rfl ?_ | refine cK (by kernel_rfl) ?_ | refine And.intro rfl ?_ | refine sY rfl ?_ | refine sN rfl ?_ | refine sM (fun _ => ?_) (fun _ => ?_))
    all_goals (conv => whnf)
    refine LkG.to (some (.int .i64 2)) hm2 ?_
    repeat' ((conv => whnf); first | refine aB rfl ?_ | refine cK (by kernel_rfl) ?_ | refine And.intro rfl ?_ | refine sY rfl ?_ | refine sN rfl ?_ | refine sM (fun _ => ?_) (fun _ => ?_))
    all_goals (conv => whnf)
    refine call0 (cfgRefuse r 7) ?_
    conv => whnf
    exact ⟨_, rfl, Or.inl ⟨rfl, rfl⟩⟩
  | false =>
    have hf2 : findL .str (str r.text) (tokMap (b.tokens ++ [r.text])) = some (some (.int .i64 1)) := by rw [find_tok]; simp
    refine LkG.to none (by rw [find_tok, ht]; rfl) ?_
    repeat' ((conv => whnf); first | refine aB rfl ?_ | refine cK (by kernel_rfl) ?_ | refine And.intro rfl ?_ | refine sY rfl ?_ | refine sN rfl ?_ | refine sM (fun _ => ?_) (fun _ => ?_))
    all_goals (conv => whnf)
    refine KI.i64 1 rfl (by omega) ?_
    repeat' ((conv => whnf); first | refine aB rfl ?_ | refine cK (by kernel_rfl) ?_ | refine And.intro rfl ?_ | refine sY rfl ?_ | refine sN rfl ?_ | refine sM (fun _ => ?_) (fun _ => ?_))
    all_goals (conv => whnf)
    refine UpG.to (tokMap (b.tokens ++ [r.text])) (put_tok _ _ ht) ?_
    repeat' ((conv => whnf); first | refine aB rfl ?_ | refine cK (by kernel_rfl) ?_ | refine And.intro rfl ?_ | refine sY rfl ?_ | refine sN rfl ?_ | refine sM (fun _ => ?_) (fun _ => ?_))
    all_goals (conv => whnf)
    refine LkG.to (some (.int .i64 1)) hf2 ?_
    repeat' ((conv => whnf); first | refine aB rfl ?_ | refine cK (by kernel_rfl) ?_ | refine And.intro rfl ?_ | refine sY rfl ?_ | refine sN rfl ?_ | refine sM (fun _ => ?_) (fun _ => ?_))
    all_goals (conv => whnf)
    cases hp : addS { b with tokens := b.tokens ++ [r.text] } r with
    | error w =>
      obtain rfl : R = .error w := by rw [← hR]; simp only [nameB, hn, ht, hp]; rfl
      refine callM (addBad hp hb) ⟨rfl, rfl, rfl, rfl, rfl, rfl, trivial⟩ rfl ?_
      conv => whnf
      exact ⟨_, rfl, Or.inl ⟨rfl, rfl⟩⟩
    | ok p =>
      obtain rfl : R = .ok p.2 := by rw [← hR]; simp only [nameB, hn, ht, hp]; rfl
      refine callM (addOk hp hb) ⟨rfl, rfl, rfl, rfl, rfl, rfl, trivial⟩ rfl ?_
      repeat' ((conv => whnf); first | exact trivial | refine aB rfl ?_ | refine sY rfl ?_ | refine sN rfl ?_ | refine sM (fun _ => ?_) (fun _ => ?_) | refine cK (by kernel_rfl) ?_ | refine And.intro ?_ ?_ | exact Or.inl ⟨rfl, rfl⟩ | exact rfl)
      all_goals (conv => whnf)
theorem builderName (b : BS) (k : Nat) (r : RefS) (hb : BOK b) (hk : 3 ≤ k ∧ k ≤ 7) : PCall Tryz.prog 125 (builderM b) [.ref 1000 0, .v (.int .i64 k), .agg (refCells r)] (exO cWr (fun p => .ret (.tup []) (builderM p)) (nameB b k r)) := by
  obtain ⟨h1, h2⟩ := hk
  have : k = 3 ∨ k = 4 ∨ k = 5 ∨ k = 6 ∨ k = 7 := by omega
  rcases this with rfl | rfl | rfl | rfl | rfl
  · exact builderName3 b r hb
  · exact builderName4 b r hb
  · exact builderName5 b r hb
  · exact builderName6 b r hb
  · exact builderName7 b r hb
theorem nameOk {b c : BS} {k : Nat} {r : RefS} (h : nameB b k r = .ok c) (hb : BOK b) (hk : 3 ≤ k ∧ k ≤ 7) : PCall Tryz.prog 125 (builderM b) [.ref 1000 0, .v (.int .i64 k), .agg (refCells r)] (.ret (.tup []) (builderM c)) := by
  have := builderName b k r hb hk
  rwa [h] at this
theorem nameBad {b : BS} {k : Nat} {r : RefS} {w : Wr} (h : nameB b k r = .error w) (hb : BOK b) (hk : 3 ≤ k ∧ k ≤ 7) : PCall Tryz.prog 125 (builderM b) [.ref 1000 0, .v (.int .i64 k), .agg (refCells r)] (.pan (cWr w)) := by
  have := builderName b k r hb hk
  rwa [h] at this
end Tryz
end Go.Dm
namespace Go.Dm
/-! ### cfg: a builder: a declaration -/
def namesB : BS → Nat → List RefS → Except Wr BS
  | b, _, [] => .ok b
  | b, k, r :: rs => match nameB b k r with
    | .error w => .error w
    | .ok c => namesB c k rs
def upB (b : BS) (k : Nat) : BS := match decide (k = 3) || decide (k = 7) with
  | true => b
  | false => { b with levels := b.levels + 1 }
def declB (b : BS) (d : DeclS) : Except Wr BS := namesB (upB b d.kind) d.kind d.names
theorem nameB_levels {b c : BS} {k : Nat} {r : RefS} (h : nameB b k r = .ok c) : c.levels = b.levels := by
  have ha : ∀ (b : BS) (p : Int × BS), addS b r = .ok p → p.2.levels = b.levels := by
    intro b p h
    unfold addS at h
    split at h
    · injection h with h; subst h; rfl
    · split at h
      · cases h
      · injection h with h; subst h; rfl
  unfold nameB at h
  split at h
  · cases h
  · split at h
    · split at h
      · injection h with h; subst h; rfl
      · cases h
    · split at h
      · split at h
        · cases h
        · cases hp : addS { b with tokens := b.tokens ++ [r.text] } r with
          | error w => rw [hp] at h; cases h
          | ok p => rw [hp] at h; injection h with h; subst h; exact (ha _ p hp : p.2.levels = ({ b with tokens := b.tokens ++ [r.text] } : BS).levels)
      · unfold precedeS at h
        split at h
        · cases h
        · cases hp : addS b r with
          | error w => rw [hp] at h; cases h
          | ok p => rw [hp] at h; injection h with h; subst h; exact ha _ _ hp
theorem namesB_ok : ∀ (rs : List RefS) {b c : BS} {k : Nat}, BOK b → namesB b k rs = .ok c → BOK c ∧ c.levels = b.levels
  | [], b, c, k, hb, h => by injection h with h; subst h; exact ⟨hb, rfl⟩
  | r :: rs, b, c, k, hb, h => by
    simp only [namesB] at h
    cases hn : nameB b k r with
    | error w => rw [hn] at h; cases h
    | ok b' =>
      rw [hn] at h
      obtain ⟨h1, h2⟩ := namesB_ok rs (nameB_ok hb hn) h
      exact ⟨h1, h2.trans (nameB_levels hn)⟩
theorem upB_ok {b : BS} {k : Nat} (hb : BOK b) (hl : b.levels + 1 ≤ 4000) : BOK (upB b k) ∧ (upB b k).levels ≤ b.levels + 1 := by
  obtain ⟨q1, q2, q3, q4, q5⟩ := hb
  unfold upB
  split
  · exact ⟨⟨q1, q2, q3, q4, q5⟩, Nat.le_succ _⟩
  · exact ⟨⟨q1, q2, q3, q4, hl⟩, Nat.le_refl _⟩
theorem declB_ok {b c : BS} {d : DeclS} (hb : BOK b) (hl : b.levels + 1 ≤ 4000) (h : declB b d = .ok c) : BOK c ∧ c.levels ≤ b.levels + 1 := by
  obtain ⟨h1, h2⟩ := upB_ok (k := d.kind) hb hl
  obtain ⟨h3, h4⟩ := namesB_ok _ h1 h
  exact ⟨h3, by omega⟩
namespace Tryz
open Go.Proofs
structure NmSt where
  i : Nat
  c : BS
set_option maxHeartbeats 4000000 in
theorem builderDecl3 (b : BS) (names : List RefS) (hb : BOK b) (hl : b.levels + 1 ≤ 4000) (hn : names.length ≤ 4000) : PCall Tryz.prog 94 (builderM b) [.ref 1000 0, .agg (declCells ⟨3, names⟩)] (exO cWr (fun p => .ret (.tup []) (builderM p)) (declB b ⟨3, names⟩)) := by
  generalize hR : declB b ⟨3, names⟩ = R
  have hR' : namesB b 3 names = R := hR
  have hup : BOK b := (upB_ok (k := 3) hb hl).1
  refine pcall_of (news := [5]) cxOK Tryz.func94 rfl Tryz.ntmps94 rfl rfl rfl (by decide) ?_
  repeat' ((conv => whnf); first | refine aB rfl ?_ | refine cK (by kernel_rfl) ?_ | refine And.intro rfl ?_ | refine sY rfl ?_ | refine sN rfl ?_ | refine sM (fun _ => ?_) (fun _ => ?_))
  all_goals (conv => whnf)
  refine LoopW.to (ι := NmSt) (fun s => s.i ≤ names.length ∧ namesB s.c 3 (names.drop s.i) = R ∧ BOK s.c) (fun s => names.length - s.i)
    (fun s => [(0, .ref 1000 0), (3, .ptr [.v (.int .i64 ((3 : Nat) : Int)), .list 2 (names.map refCells)]), (32, .list 2 (names.map refCells)), (33, .v (.int .i64 names.length)), (34, .v (.int .i64 s.i))]) (fun s => builderM s.c) [] ⟨0, b⟩ ⟨Nat.zero_le _, hR', hup⟩
    ⟨⟨rfl, rfl, rfl, congrArg (fun k : Nat => D.v (.int .i64 (k : Int))) (ref_len names), rfl, trivial⟩, rfl, rfl, rfl, rfl, rfl, rfl, trivial⟩ ?_
  rintro ⟨i, c⟩ ⟨h1, h2, h3⟩
  simp only at h1 h2 h3
  repeat' ((conv => whnf); first | refine aB rfl ?_ | refine cK (by kernel_rfl) ?_ | refine And.intro rfl ?_ | refine sY rfl ?_ | refine sN rfl ?_ | refine sM (fun _ => ?_) (fun _ => ?_))
  all_goals (conv => whnf)
  · rename_i h
    have h : (i : Int) < names.length := decT h
    have hi : i < names.length := by omega
    have hg := List.getElem?_eq_getElem hi
    rw [List.drop_eq_getElem_cons hi] at h2
    refine IdxG.to i (refCells names[i]) rfl (by simp [hg]) ?_
    repeat' ((conv => whnf); first | refine aB rfl ?_ | refine cK (by kernel_rfl) ?_ | refine And.intro rfl ?_ | refine sY rfl ?_ | refine sN rfl ?_ | refine sM (fun _ => ?_) (fun _ => ?_))
    all_goals (conv => whnf)
    cases hm : nameB c 3 names[i] with
    | error w =>
      obtain rfl : R = .error w := by rw [← h2]; simp only [namesB, hm]
      refine callM (nameBad (k := 3) hm h3 (by decide)) ⟨rfl, rfl, rfl, rfl, rfl, rfl, trivial⟩ rfl ?_
      conv => whnf
      exact ⟨_, rfl, Or.inl ⟨rfl, rfl⟩⟩
    | ok c' =>
      simp only [namesB, hm] at h2
      refine callM (nameOk (k := 3) hm h3 (by decide)) ⟨rfl, rfl, rfl, rfl, rfl, rfl, trivial⟩ rfl ?_
      repeat' ((conv => whnf); first | refine aB rfl ?_ | refine cK (by kernel_rfl) ?_ | refine And.intro rfl ?_ | refine sY rfl ?_ | refine sN rfl ?_ | refine sM (fun _ => ?_) (fun _ => ?_))
      all_goals (conv => whnf)
      refine KI.i64 ((i + 1 : Nat) : Int) (by simp) (by omega) ?_
      repeat' ((conv => whnf); first | refine aB rfl ?_ | refine cK (by kernel_rfl) ?_ | refine And.intro rfl ?_ | refine sY rfl ?_ | refine sN rfl ?_ | refine sM (fun _ => ?_) (fun _ => ?_))
      all_goals (conv => whnf)
      refine NextG.to ⟨i + 1, c'⟩ ⟨by simp only; omega, h2, nameB_ok h3 hm⟩ (by simp only; omega) ⟨⟨rfl, rfl, rfl, rfl, rfl, trivial⟩, rfl, rfl, rfl, rfl, rfl, rfl, trivial⟩
  · rename_i h
    have h : ¬ (i : Int) < names.length := decF h
    have hi : i = names.length := by omega
    subst hi
    rw [List.drop_length] at h2
    obtain rfl : R = .ok c := h2.symm
    repeat' ((conv => whnf); first | exact trivial | refine aB rfl ?_ | refine sY rfl ?_ | refine sN rfl ?_ | refine sM (fun _ => ?_) (fun _ => ?_) | refine cK (by kernel_rfl) ?_ | refine And.intro ?_ ?_ | exact Or.inl ⟨rfl, rfl⟩ | exact rfl)
    all_goals (conv => whnf)
set_option maxHeartbeats 4000000 in
theorem builderDecl4 (b : BS) (names : List RefS) (hb : BOK b) (hl : b.levels + 1 ≤ 4000) (hn : names.length ≤ 4000) : PCall Tryz.prog 94 (builderM b) [.ref 1000 0, .agg (declCells ⟨4, names⟩)] (exO cWr (fun p => .ret (.tup []) (builderM p)) (declB b ⟨4, names⟩)) := by
  generalize hR : declB b ⟨4, names⟩ = R
  have hR' : namesB { b with levels := b.levels + 1 } 4 names = R := hR
  have hup : BOK { b with levels := b.levels + 1 } := (upB_ok (k := 4) hb hl).1
  refine pcall_of (news := [5]) cxOK Tryz.func94 rfl Tryz.ntmps94 rfl rfl rfl (by decide) ?_
  repeat' ((conv => whnf); first | refine aB rfl ?_ | refine cK (by kernel_rfl) ?_ | refine And.intro rfl ?_ | refine sY rfl ?_ | refine sN rfl ?_ | refine sM (fun _ => ?_) (fun _ => ?_))
  all_goals (conv => whnf)
  refine KI.i64 ((b.levels + 1 : Nat) : Int) (by simp) (by omega) ?_
  repeat' ((conv => whnf); first | refine aB rfl ?_ | refine cK (by kernel_rfl) ?_ | refine And.intro rfl ?_ | refine sY rfl ?_ | refine sN rfl ?_ | refine sM (fun _ => ?_) (fun _ => ?_))
  all_goals (conv => whnf)
  refine LoopW.to (ι := NmSt) (fun s => s.i ≤ names.length ∧ namesB s.c 4 (names.drop s.i) = R ∧ BOK s.c) (fun s => names.length - s.i)
    (fun s => [(0, .ref 1000 0), (3, .ptr [.v (.int .i64 ((4 : Nat) : Int)), .list 2 (names.map refCells)]), (32, .list 2 (names.map refCells)), (33, .v (.int .i64 names.length)), (34, .v (.int .i64 s.i))]) (fun s => builderM s.c) [] ⟨0, { b with levels := b.levels + 1 }⟩ ⟨Nat.zero_le _, hR', hup⟩
    ⟨⟨rfl, rfl, rfl, congrArg (fun k : Nat => D.v (.int .i64 (k : Int))) (ref_len names), rfl, trivial⟩, rfl, rfl, rfl, rfl, rfl, rfl, trivial⟩ ?_
  rintro ⟨i, c⟩ ⟨h1, h2, h3⟩
  simp only at h1 h2 h3
  repeat' ((conv => whnf); first | refine aB rfl ?_ | refine cK (by kernel_rfl) ?_ | refine And.intro rfl ?_ | refine sY rfl ?_ | refine sN rfl ?_ | refine sM (fun _ => ?_) (fun _ => ?_))
  all_goals (conv => whnf)
  · rename_i h
    have h : (i : Int) < names.length := decT h
    have hi : i < names.length := by omega
    have hg := List.getElem?_eq_getElem hi
    rw [List.drop_eq_getElem_cons hi] at h2
    refine IdxG.to i (refCells names[i]) rfl (by simp [hg]) ?_
    repeat' ((conv => whnf); first | refine aB rfl ?_ | refine cK (by kernel_rfl) ?_ | refine And.intro rfl ?_ | refine sY rfl ?_ | refine sN rfl ?_ | refine sM (fun _ => ?_) (fun _ => ?_))
    all_goals (conv => whnf)
    cases hm : nameB c 4 names[i] with
    | error w =>
      obtain rfl : R = .error w := by rw [← h2]; simp only [namesB, hm]
      refine callM (nameBad (k := 4) hm h3 (by decide)) ⟨rfl, rfl, rfl, rfl, rfl, rfl, trivial⟩ rfl ?_
      conv => whnf
      exact ⟨_, rfl, Or.inl ⟨rfl, rfl⟩⟩
    | ok c' =>
      simp only [namesB, hm] at h2
      refine callM (nameOk (k := 4) hm h3 (by decide)) ⟨rfl, rfl, rfl, rfl, rfl, rfl, trivial⟩ rfl ?_
      repeat' ((conv => whnf); first | refine aB rfl ?_ | refine cK (by kernel_rfl) ?_ | refine And.intro rfl ?_ | refine sY rfl ?_ | refine sN rfl ?_ | refine sM (fun _ => ?_) (fun _ => ?_))
      all_goals (conv => whnf)
      refine KI.i64 ((i + 1 : Nat) : Int) (by simp) (by omega) ?_
      repeat' ((conv => whnf); first | refine aB rfl ?_ | refine cK (by kernel_rfl) ?_ | refine And.intro rfl ?_ | refine sY rfl ?_ | refine sN rfl ?_ | refine sM (fun _ => ?_) (fun _ => ?_))
      all_goals (conv => whnf)
      refine NextG.to ⟨i + 1, c'⟩ ⟨by simp only; omega, h2, nameB_ok h3 hm⟩ (by simp only; omega) ⟨⟨rfl, rfl, rfl, rfl, rfl, trivial⟩, rfl, rfl, rfl, rfl, rfl, rfl, trivial⟩
  · rename_i h
    have h : ¬ (i : Int) < names.length := decF h
    have hi : i = names.length := by omega
    subst hi
    rw [List.drop_length] at h2
    obtain rfl : R = .ok c := h2.symm
    repeat' ((conv => whnf); first | exact trivial | refine aB rfl ?_ | refine sY rfl ?_ | refine sN rfl ?_ | refine sM (fun _ => ?_) (fun _ => ?_) | refine cK (by kernel_rfl) ?_ | refine And.intro ?_ ?_ | exact Or.inl ⟨rfl, rfl⟩ | exact rfl)
    all_goals (conv => whnf)
set_option maxHeartbeats 4000000 in
theorem builderDecl5 (b : BS) (names : List RefS) (hb : BOK b) (hl : b.levels + 1 ≤ 4000) (hn : names.length ≤ 4000) : PCall Tryz.prog 94 (builderM b) [.ref 1000 0, .agg (declCells ⟨5, names⟩)] (exO cWr (fun p => .ret (.tup []) (builderM p)) (declB b ⟨5, names⟩)) := by
  generalize hR : declB b ⟨5, names⟩ = R
  have hR' : namesB { b with levels := b.levels + 1 } 5 names = R := hR
  have hup : BOK { b with levels := b.levels + 1 } := (upB_ok (k := 5) hb hl).1
  refine pcall_of (news := [5]) cxOK Tryz.func94 rfl Tryz.ntmps94 rfl rfl rfl (by decide) ?_
  repeat' ((conv => whnf); first | refine aB rfl ?_ | refine cK (by kernel_rfl) ?_ | refine And.intro rfl ?_ | refine sY rfl ?_ | refine sN rfl ?_ | refine sM (fun _ => ?_) (fun _ => ?_))
  all_goals (conv => whnf)
  refine KI.i64 ((b.levels + 1 : Nat) : Int) (by simp) (by omega) ?_
  repeat' ((conv => whnf); first | refine aB rfl ?_ | refine cK (by kernel_rfl) ?_ | refine And.intro rfl ?_ | refine sY rfl ?_ | refine sN rfl ?_ | refine sM (fun _ => ?_) (fun _ => ?_))
  all_goals (conv => whnf)
  refine LoopW.to (ι := NmSt) (fun s => s.i ≤ names.length ∧ namesB s.c 5 (names.drop s.i) = R ∧ BOK s.c) (fun s => names.length - s.i)
    (fun s => [(0, .ref 1000 0), (3, .ptr [.v (.int .i64 ((5 : Nat) : Int)), .list 2 (names.map refCells)]), (32, .list 2 (names.map refCells)), (33, .v (.int .i64 names.length)), (34, .v (.int .i64 s.i))]) (fun s => builderM s.c) [] ⟨0, { b with levels := b.levels + 1 }⟩ ⟨Nat.zero_le _, hR', hup⟩
    ⟨⟨rfl, rfl, rfl, congrArg (fun k : Nat => D.v (.int .i64 (k : Int))) (ref_len names), rfl, trivial⟩, rfl, rfl, rfl, rfl, rfl, rfl, trivial⟩ ?_
  rintro ⟨i, c⟩ ⟨h1, h2, h3⟩
  simp only at h1 h2 h3
  repeat' ((conv => whnf); first | refine aB rfl ?_ | refine cK (by kernel_rfl) ?_ | refine And.intro rfl ?_ | refine sY rfl ?_ | refine sN rfl ?_ | refine sM (fun _ => ?_) (fun _ => ?_))
  all_goals (conv => whnf)
  · rename_i h
    have h : (i : Int) < names.length := decT h
    have hi : i < names.length := by omega
    have hg := List.getElem?_eq_getElem hi
    rw [List.drop_eq_getElem_cons hi] at h2
    refine IdxG.to i (refCells names[i]) rfl (by simp [hg]) ?_
    repeat' ((conv => whnf); first | refine aB rfl ?_ | refine cK (by kernel_rfl) ?_ | refine And.intro rfl ?_ | refine sY rfl ?_ | refine sN rfl ?_ | refine sM (fun _ => ?_) (fun _ => ?_))
    all_goals (conv => whnf)
    cases hm : nameB c 5 names[i] with
    | error w =>
      obtain rfl : R = .error w := by rw [← h2]; simp only [namesB, hm]
      refine callM (nameBad (k := 5) hm h3 (by decide)) ⟨rfl, rfl, rfl, rfl, rfl, rfl, trivial⟩ rfl ?_
      conv => whnf
      exact ⟨_, rfl, Or.inl ⟨rfl, rfl⟩⟩
    | ok c' =>
      simp only [namesB, hm] at h2
      refine callM (nameOk (k := 5) hm h3 (by decide)) ⟨rfl, rfl, rfl, rfl, rfl, rfl, trivial⟩ rfl ?_
      repeat' ((conv => whnf); first | refine aB rfl ?_ | refine cK (by kernel_rfl) ?_ | refine And.intro rfl ?_ | refine sY rfl ?_ | refine sN rfl ?_ | refine sM (fun _ => ?_) (fun _ => ?_))
      all_goals (conv => whnf)
      refine KI.i64 ((i + 1 : Nat) : Int) (by simp) (by omega) ?_
      repeat' ((conv => whnf); first | refine aB rfl ?_ | refine cK (by kernel_rfl) ?_ | refine And.intro rfl ?_ | refine sY rfl ?_ | refine sN rfl ?_ | refine sM (fun _ => ?_) (fun _ => ?_))
      all_goals (conv => whnf)
      refine NextG.to ⟨i + 1, c'⟩ ⟨by simp only; omega, h2, nameB_ok h3 hm⟩ (by simp only; omega) ⟨⟨rfl, rfl, rfl, rfl, rfl, trivial⟩, rfl, rfl, rfl, rfl, rfl, rfl, trivial⟩
  · rename_i h
    have h : ¬ (i : Int) < names.length := decF h
    have hi : i = names.length := by omega
    subst hi
    rw [List.drop_length] at h2
    obtain rfl : R = .ok c := h2.symm
    repeat' ((conv => whnf); first | exact trivial | refine aB rfl ?_ | refine sY rfl ?_ | refine sN rfl ?_ | refine sM (fun _ => ?_) (fun _ => ?_) | refine cK (by kernel_rfl) ?_ | refine And.intro ?_ ?_ | exact Or.inl ⟨rfl, rfl⟩ | exact rfl)
    all_goals (conv => whnf)
set_option maxHeartbeats 4000000 in
theorem builderDecl6 (b : BS) (names : List RefS) (hb : BOK b) (hl : b.levels + 1 ≤ 4000) (hn : names.length ≤ 4000) : PCall Tryz.prog 94 (builderM b) [.ref 1000 0, .agg (declCells ⟨6, names⟩)] (exO cWr (fun p => .ret (.tup []) (builderM p)) (declB b ⟨6, names⟩)) := by
  generalize hR : declB b ⟨6, names⟩ = R
  have hR' : namesB { b with levels := b.levels + 1 } 6 names = R := hR
  have hup : BOK { b with levels := b.levels + 1 } := (upB_ok (k := 6) hb hl).1
  refine pcall_of (news := [5]) cxOK Tryz.func94 rfl Tryz.ntmps94 rfl rfl rfl (by decide) ?_
  repeat' ((conv => whnf); first | refine aB rfl ?_ | refine cK (by kernel_rfl) ?_ | refine And.intro rfl ?_ | refine sY rfl ?_ | refine sN rfl ?_ | refine sM (fun _ => ?_) (fun _ => ?_))
  all_goals (conv => whnf)
  refine KI.i64 ((b.levels + 1 : Nat) : Int) (by simp) (by omega) ?_
  repeat' ((conv => whnf); first | refine aB rfl ?_ | refine cK (by kernel_rfl) ?_ | refine And.intro rfl ?_ | refine sY rfl ?_ | refine sN rfl ?_ | refine sM (fun _ => ?_) (fun _ => ?_))
  all_goals (conv => whnf)
  refine LoopW.to (ι := NmSt) (fun s => s.i ≤ names.length ∧ namesB s.c 6 (names.drop s.i) = R ∧ BOK s.c) (fun s => names.length - s.i)
    (fun s => [(0, .ref 1000 0), (3, .ptr [.v (.int .i64 ((6 : Nat) : Int)), .list 2 (names.map refCells)]), (32, .list 2 (names.map refCells)), (33, .v (.int .i64 names.length)), (34, .v (.int .i64 s.i))]) (fun s => builderM s.c) [] ⟨0, { b with levels := b.levels + 1 }⟩ ⟨Nat.zero_le _, hR', hup⟩
    ⟨⟨rfl, rfl, rfl, congrArg (fun k : Nat => D.v (.int .i64 (k : Int))) (ref_len names), rfl, trivial⟩, rfl, rfl, rfl, rfl, rfl, rfl, trivial⟩ ?_
  rintro ⟨i, c⟩ ⟨h1, h2, h3⟩
  simp only at h1 h2 h3
  repeat' ((conv => whnf); first | refine aB rfl ?_ | refine cK (by kernel_rfl) ?_ | refine And.intro rfl ?_ | refine sY rfl ?_ | refine sN rfl ?_ | refine sM (fun _ => ?_) (fun _ => ?_))
  all_goals (conv => whnf)
  · rename_i h
    have h : (i : Int) < names.length := decT h
    have hi : i < names.length := by omega
    have hg := List.getElem?_eq_getElem hi
    rw [List.drop_eq_getElem_cons hi] at h2
    refine IdxG.to i (refCells names[i]) rfl (by simp [hg]) ?_
    repeat' ((conv => whnf); first | refine aB rfl ?_ | refine cK (by kernel_rfl) ?_ | refine And.intro rfl ?_ | refine sY rfl ?_ | refine sN rfl ?_ | refine sM (fun _ => ?_) (fun _ => ?_))
    all_goals (conv => whnf)
    cases hm : nameB c 6 names[i] with
    | error w =>
      obtain rfl : R = .error w := by rw [← h2]; simp only [namesB, hm]
      refine callM (nameBad (k := 6) hm h3 (by decide)) ⟨rfl, rfl, rfl, rfl, rfl, rfl, trivial⟩ rfl ?_
      conv => whnf
      exact ⟨_, rfl, Or.inl ⟨rfl, rfl⟩⟩
    | ok c' =>
      simp only [namesB, hm] at h2
      refine callM (nameOk (k := 6) hm h3 (by decide)) ⟨rfl, rfl, rfl, rfl, rfl, rfl, trivial⟩ rfl ?_
      repeat' ((conv => whnf); first | refine aB rfl ?_ | refine cK (by kernel_rfl) ?_ | refine And.intro rfl ?_ | refine sY rfl ?_ | refine sN rfl ?_ | refine sM (fun _ => ?_) (fun _ => ?_))
      all_goals (conv => whnf)
      refine KI.i64 ((i + 1 : Nat) : Int) (by simp) (by omega) ?_
      repeat' ((conv => whnf); first | refine aB rfl ?_ | refine cK (by kernel_rfl) ?_ | refine And.intro rfl ?_ | refine sY rfl ?_ | refine sN rfl ?_ | refine sM (fun _ => ?_) (fun _ => ?_))
      all_goals (conv => whnf)
      refine NextG.to ⟨i + 1, c'⟩ ⟨by simp only; omega, h2, nameB_ok h3 hm⟩ (by simp only; omega) ⟨⟨rfl, rfl, rfl, rfl, rfl, trivial⟩, rfl, rfl, rfl, rfl, rfl, rfl, trivial⟩
  · rename_i h
    have h : ¬ (i : Int) < names.length := decF h
    have hi : i = names.length := by omega
    subst hi
    rw [List.drop_length] at h2
    obtain rfl : R = .ok c := h2.symm
    repeat' ((conv => whnf); first | exact trivial | refine aB rfl ?_ | refine sY rfl ?_ | refine sN rfl ?_ | refine sM (fun _ => ?_) (fun _ => ?_) | refine cK (by kernel_rfl) ?_ | refine And.intro ?_ ?_ | exact Or.inl ⟨rfl, rfl⟩ | exact rfl)
    all_goals (conv => whnf)
set_option maxHeartbeats 4000000 in
theorem builderDecl7 (b : BS) (names : List RefS) (hb : BOK b) (hl : b.levels + 1 ≤ 4000) (hn : names.length ≤ 4000) : PCall Tryz.prog 94 (builderM b) [.ref 1000 0, .agg (declCells ⟨7, names⟩)] (exO cWr (fun p => .ret (.tup []) (builderM p)) (declB b ⟨7, names⟩)) := by
  generalize hR : declB b ⟨7, names⟩ = R
  have hR' : namesB b 7 names = R := hR
  have hup : BOK b := (upB_ok (k := 7) hb hl).1
  refine pcall_of (news := [5]) cxOK Tryz.func94 rfl Tryz.ntmps94 rfl rfl rfl (by decide) ?_
  repeat' ((conv => whnf); first | refine aB rfl ?_ | refine cK (by kernel_rfl) ?_ | refine And.intro rfl ?_ | refine sY rfl ?_ | refine sN rfl ?_ | refine sM (fun _ => ?_) (fun _ => ?_))
  all_goals (conv => whnf)
  refine LoopW.to (ι := NmSt) (fun s => s.i ≤ names.length ∧ namesB s.c 7 (names.drop s.i) = R ∧ BOK s.c) (fun s => names.length - s.i)
    (fun s => [(0, .ref 1000 0), (3, .ptr [.v (.int .i64 ((7 : Nat) : Int)), .list 2 (names.map refCells)]), (32, .list 2 (names.map refCells)), (33, .v (.int .i64 names.length)), (34, .v (.int .i64 s.i))]) (fun s => builderM s.c) [] ⟨0, b⟩ ⟨Nat.zero_le _, hR', hup⟩
    ⟨⟨rfl, rfl, rfl, congrArg (fun k : Nat => D.v (.int .i64 (k : Int))) (ref_len names), rfl, trivial⟩, rfl, rfl, rfl, rfl, rfl, rfl, trivial⟩ ?_
  rintro ⟨i, c⟩ ⟨h1, h2, h3⟩
  simp only at h1 h2 h3
  repeat' ((conv => whnf); first | refine aB rfl ?_ | refine cK (by kernel_rfl) ?_ | refine And.intro rfl ?_ | refine sY rfl ?_ | refine sN rfl ?_ | refine sM (fun _ => ?_) (fun _ => ?_))
  all_goals (conv => whnf)
  · rename_i h
    have h : (i : Int) < names.length := decT h
    have hi : i < names.length := by omega
    have hg := List.getElem?_eq_getElem hi
    rw [List.drop_eq_getElem_cons hi] at h2
    refine IdxG.to i (refCells names[i]) rfl (by simp [hg]) ?_
    repeat' ((conv => whnf); first | refine aB rfl ?_ | refine cK (by kernel_rfl) ?_ | refine And.intro rfl ?_ | refine sY rfl ?_ | refine sN rfl ?_ | refine sM (fun _ => ?_) (fun _ => ?_))
    all_goals (conv => whnf)
    cases hm : nameB c 7 names[i] with
    | error w =>
      obtain rfl : R = .error w := by rw [← h2]; simp only [namesB, hm]
      refine callM (nameBad (k := 7) hm h3 (by decide)) ⟨rfl, rfl, rfl, rfl, rfl, rfl, trivial⟩ rfl ?_
      conv => whnf
      exact ⟨_, rfl, Or.inl ⟨rfl, rfl⟩⟩
    | ok c' =>
      simp only [namesB, hm] at h2
      refine callM (nameOk (k := 7) hm h3 (by decide)) ⟨rfl, rfl, rfl, rfl, rfl, rfl, trivial⟩ rfl ?_
      repeat' ((conv => whnf); first | refine aB rfl ?_ | refine cK (by kernel_rfl) ?_ | refine And.intro rfl ?_ | refine sY rfl ?_ | refine sN rfl ?_ | refine sM (fun _ => ?_) (fun _ => ?_))
      all_goals (conv => whnf)
      refine KI.i64 ((i + 1 : Nat) : Int) (by simp) (by omega) ?_
      repeat' ((conv => whnf); first | refine aB rfl ?_ | refine cK (by kernel_rfl) ?_ | refine And.intro rfl ?_ | refine sY rfl ?_ | refine sN rfl ?_ | refine sM (fun _ => ?_) (fun _ => ?_))
      all_goals (conv => whnf)
      refine NextG.to ⟨i + 1, c'⟩ ⟨by simp only; omega, h2, nameB_ok h3 hm⟩ (by simp only; omega) ⟨⟨rfl, rfl, rfl, rfl, rfl, trivial⟩, rfl, rfl, rfl, rfl, rfl, rfl, trivial⟩
  · rename_i h
    have h : ¬ (i : Int) < names.length := decF h
    have hi : i = names.length := by omega
    subst hi
    rw [List.drop_length] at h2
    obtain rfl : R = .ok c := h2.symm
    repeat' ((conv => whnf); first | exact trivial | refine aB rfl ?_ | refine sY rfl ?_ | refine sN rfl ?_ | refine sM (fun _ => ?_) (fun _ => ?_) | refine cK (by kernel_rfl) ?_ | refine And.intro ?_ ?_ | exact Or.inl ⟨rfl, rfl⟩ | exact rfl)
    all_goals (conv => whnf)
theorem builderDecl (b : BS) (d : DeclS) (hb : BOK b) (hl : b.levels + 1 ≤ 4000) (hk : 3 ≤ d.kind ∧ d.kind ≤ 7) (hn : d.names.length ≤ 4000) : PCall Tryz.prog 94 (builderM b) [.ref 1000 0, .agg (declCells d)] (exO cWr (fun p => .ret (.tup []) (builderM p)) (declB b d)) := by
  obtain ⟨k, names⟩ := d
  simp only at hk hn
  obtain ⟨h1, h2⟩ := hk
  have : k = 3 ∨ k = 4 ∨ k = 5 ∨ k = 6 ∨ k = 7 := by omega
  rcases this with rfl | rfl | rfl | rfl | rfl
  · exact builderDecl3 b names hb hl hn
  · exact builderDecl4 b names hb hl hn
  · exact builderDecl5 b names hb hl hn
  · exact builderDecl6 b names hb hl hn
  · exact builderDecl7 b names hb hl hn
end Tryz
end Go.Dm
namespace Go.Dm
/-! ### cfg: a builder: left sides, symbols -/
def leftB (b : BS) (r : RefS) : Except Wr BS := match NameS r.text with
  | false => .error (r.at', 3)
  | true => match decide (termIx b.terms r.text ≥ 0) with
    | true => .error (r.at', 7)
    | false => match decide (strIx b.nons r.text ≥ 0) with
      | true => .ok b
      | false => match decide (b.nons.length = 16) with
        | true => .error (r.at', 5)
        | false => .ok { b with nons := b.nons ++ [r.text] }
def errorW : List UInt8 := [101, 114, 114, 111, 114]
def symB (b : BS) (r : RefS) : Except Wr (Int × BS) := match decide (strIx b.nons r.text ≥ 0) with
  | true => .ok (-1 - strIx b.nons r.text, b)
  | false => match decide (termIx b.terms r.text < 0) && (!LiteralS r.text && !decide (r.text = errorW)) with
    | true => .error (r.at', 6)
    | false => addS b r
theorem leftB_ok {b c : BS} {r : RefS} (hb : BOK b) (h : leftB b r = .ok c) : BOK c := by
  obtain ⟨q1, q2, q3, q4, q5⟩ := hb
  unfold leftB at h
  split at h
  · cases h
  · split at h
    · cases h
    · split at h
      · injection h with h; subst h; exact ⟨q1, q2, q3, q4, q5⟩
      · split at h
        · cases h
        · rename_i h2
          have h2 := decF h2
          injection h with h; subst h
          exact ⟨q1, by simp; omega, q3, q4, q5⟩
theorem symB_ok {b : BS} {r : RefS} {p : Int × BS} (hb : BOK b) (h : symB b r = .ok p) : BOK p.2 ∧ p.2.rules = b.rules ∧ p.2.nons = b.nons ∧ -16 ≤ p.1 ∧ p.1 < 24 := by
  have ha : ∀ {p : Int × BS}, addS b r = .ok p → p.2.rules = b.rules ∧ p.2.nons = b.nons := by
    intro p h
    unfold addS at h
    split at h
    · injection h with h; subst h; exact ⟨rfl, rfl⟩
    · split at h
      · cases h
      · injection h with h; subst h; exact ⟨rfl, rfl⟩
  unfold symB at h
  split at h
  · rename_i h1
    have h1 := decT h1
    injection h with h; subst h
    have := strIx_range b.nons r.text
    obtain ⟨q1, q2, q3, q4, q5⟩ := hb
    exact ⟨⟨q1, q2, q3, q4, q5⟩, rfl, rfl, by simp only; omega, by simp only; omega⟩
  · split at h
    · cases h
    · obtain ⟨⟨q1, q2, q3, q4, q5⟩, h2, h3⟩ := addS_len hb h
      exact ⟨⟨q1, q2, q3, q4, q5⟩, (ha h).1, (ha h).2, by omega, by omega⟩
namespace Tryz
open Go.Proofs
theorem nonsFrz {M : Mem} (b : BS) (x : Value) (h2 : get M 1002 = some (.row 9 1 (strsD b.nons))) : frzL M [.row 1002 b.nons.length, .v x] = some ([.list 1 (strsD b.nons), .v x], [(1002, .row 9 1 (strsD b.nons))]) :=
  FrzL.cons (.row h2 (take_map_all _ _)) (.cons .v .nil)
set_option maxHeartbeats 4000000 in
theorem builderLeft (b : BS) (r : RefS) (hb : BOK b) : PCall Tryz.prog 95 (builderM b) [.ref 1000 0, .agg (refCells r)] (exO cWr (fun p => .ret (.tup []) (builderM p)) (leftB b r)) := by
  have hb' := hb
  obtain ⟨b1, b2, b3, b4, b5⟩ := hb'
  generalize hR : leftB b r = R
  refine pcall_of (news := []) cxOK Tryz.func95 rfl Tryz.ntmps95 rfl rfl rfl (by decide) ?_
  repeat' ((conv => whnf); first | refine aB rfl ?_ | refine sY rfl ?_ | refine sN rfl ?_ | refine sM (fun _ => ?_) (fun _ => ?_))
  all_goals (conv => whnf)
  refine call0 (lexName r.text) ?_
  repeat' ((conv => whnf); first | refine aB rfl ?_ | refine cK (by kernel_rfl) ?_ | refine And.intro rfl ?_ | refine sY rfl ?_ | refine sN rfl ?_ | refine sM (fun _ => ?_) (fun _ => ?_))
  all_goals (conv => whnf)
  · rename_i hn
    have hn : NameS r.text = false := notT hn
    obtain rfl : R = .error (r.at', 3) := by rw [← hR]; simp only [leftB, hn]
    refine call0 (cfgRefuse r 3) ?_
    conv => whnf
    exact ⟨_, rfl, Or.inl ⟨rfl, rfl⟩⟩
  rename_i hn
  have hn : NameS r.text = true := notF hn
  refine callZ (gramFrz b (str r.text) rfl rfl rfl) (cfgTerminal b.terms _ _ _ r.text (by omega)) rfl ?_
  repeat' ((conv => whnf); first | refine aB rfl ?_ | refine cK (by kernel_rfl) ?_ | refine And.intro rfl ?_ | refine sY rfl ?_ | refine sN rfl ?_ | refine sM (fun _ => ?_) (fun _ => ?_))
  all_goals (conv => whnf)
  · rename_i ht
    have ht : decide (termIx b.terms r.text ≥ 0) = true := ht
    obtain rfl : R = .error (r.at', 7) := by rw [← hR]; simp only [leftB, hn, ht]
    refine call0 (cfgRefuse r 7) ?_
    conv => whnf
    exact ⟨_, rfl, Or.inl ⟨rfl, rfl⟩⟩
  rename_i ht
  have ht : decide (termIx b.terms r.text ≥ 0) = false := ht
  refine callZ (nonsFrz b (str r.text) rfl) (strsContains b.nons r.text (by omega)) rfl ?_
  repeat' ((conv => whnf); first | refine aB rfl ?_ | refine cK (by kernel_rfl) ?_ | refine And.intro rfl ?_ | refine sY rfl ?_ | refine sN rfl ?_ | refine sM (fun _ => ?_) (fun _ => ?_))
  all_goals (conv => whnf)
  · rename_i hs
    have hs : decide (strIx b.nons r.text ≥ 0) = true := hs
    obtain rfl : R = .ok b := by rw [← hR]; simp only [leftB, hn, ht, hs]
    repeat' ((conv => whnf); first | exact trivial | refine aB rfl ?_ | refine sY rfl ?_ | refine sN rfl ?_ | refine sM (fun _ => ?_) (fun _ => ?_) | refine cK (by kernel_rfl) ?_ | refine And.intro ?_ ?_ | exact Or.inl ⟨rfl, rfl⟩ | exact rfl)
    all_goals (conv => whnf)
  rename_i hs
  have hs : decide (strIx b.nons r.text ≥ 0) = false := hs
  refine ⟨Nat.le_of_eq (strs_len _).symm, ?_⟩
  repeat' ((conv => whnf); first | refine aB rfl ?_ | refine cK (by kernel_rfl) ?_ | refine And.intro rfl ?_ | refine sY rfl ?_ | refine sN rfl ?_ | refine sM (fun _ => ?_) (fun _ => ?_))
  all_goals (conv => whnf)
  · rename_i hl
    have hl : (b.nons.length : Int) = 16 := decT hl
    have hl : decide (b.nons.length = 16) = true := decide_eq_true (by omega)
    obtain rfl : R = .error (r.at', 5) := by rw [← hR]; simp only [leftB, hn, ht, hs, hl]
    refine call0 (cfgRefuse r 5) ?_
    conv => whnf
    exact ⟨_, rfl, Or.inl ⟨rfl, rfl⟩⟩
  rename_i hl
  have hl : ¬ (b.nons.length : Int) = 16 := decF hl
  have hl2 : decide (b.nons.length = 16) = false := decide_eq_false (by omega)
  obtain rfl : R = .ok { b with nons := b.nons ++ [r.text] } := by rw [← hR]; simp only [leftB, hn, ht, hs, hl2]
  have ha : (b.nons ++ [r.text]).length = b.nons.length + 1 := by simp
  refine AppG.row1 (strsD (b.nons ++ [r.text])) (strs_len _).symm rfl ?_ (by decide) ⟨rfl, ?_, ?_⟩
  · rw [strs_len]; omega
  · unfold strsD; rw [List.map_append]; rfl
  repeat' ((conv => whnf); first | refine aB rfl ?_ | refine cK (by kernel_rfl) ?_ | refine And.intro rfl ?_ | refine sY rfl ?_ | refine sN rfl ?_ | refine sM (fun _ => ?_) (fun _ => ?_))
  all_goals (conv => whnf)
  refine ⟨trivial, ⟨Or.inl ⟨rfl, rfl⟩, Or.inl ⟨congrArg (D.row 1002) ha.symm, rfl⟩, Or.inl ⟨rfl, rfl⟩, Or.inl ⟨rfl, rfl⟩, Or.inl ⟨rfl, rfl⟩, Or.inl ⟨rfl, rfl⟩, Or.inl ⟨rfl, rfl⟩, trivial⟩, rfl, rfl, rfl, rfl, rfl, trivial⟩
end Tryz
end Go.Dm
namespace Go.Dm
/-! ### cfg: the same grammars -/
def sameS (g h : GramS) : Bool := decide (g.terms = h.terms) && (decide (g.nons = h.nons) && (decide (g.rules = h.rules) && decide (g.start = h.start)))
theorem strEq_dec (a b : List UInt8) : strEq ⟨a.toArray⟩ ⟨b.toArray⟩ = decide (a = b) := by
  by_cases h : a = b
  · rw [decide_eq_true h, strEq_iff.2 h]
  · rw [decide_eq_false h, strEq_ff.2 h]
namespace Tryz
open Go.Proofs
def termV (t : TermS) : Value := .agg #[str t.name, .int .i64 t.level, .int .i64 t.assoc]
theorem rel_termV {t : TermS} {E : Env} {v : Value} (h : rel (.agg (termCells t)) E v) : v = termV t := by
  obtain ⟨vs, rfl, x, r1, rfl, h1, y, r2, rfl, h2, z, r3, rfl, h3, h4⟩ := h
  cases h4
  obtain rfl : x = _ := h1
  obtain rfl : y = _ := h2
  obtain rfl : z = _ := h3
  rfl
theorem run_termFields (d : Nat) (w : World) (s t : TermS) : (Op.eqFields (d + 1) #[str s.name, .int .i64 s.level, .int .i64 s.assoc] #[str t.name, .int .i64 t.level, .int .i64 t.assoc]
    [⟨ "Name", 9, 0, false, "", "", 0⟩, ⟨ "Level", 3, 1, false, "", "", 16⟩, ⟨ "Assoc", 3, 2, false, "", "", 24⟩]).run Tryz.prog w = .ok (decide (s = t)) w := by
  have hs : ∀ (xs : Array Value) i v w, xs[i]? = some v → (part 9 xs i).run Tryz.prog w = .ok v w := fun xs i v w h => by simp [part, Tryz.isAgg9, h]
  have hi : ∀ (xs : Array Value) i v w, xs[i]? = some v → (part 3 xs i).run Tryz.prog w = .ok v w := fun xs i v w h => by simp [part, Tryz.isAgg3, h]
  have e1 : (Op.equalIn (d + 1) 9 (str s.name) (str t.name)).run Tryz.prog w = .ok (decide (s.name = t.name)) w := by
    have := run_equalIn_string (P := Tryz.prog) w d 9 ⟨s.name.toArray⟩ ⟨t.name.toArray⟩ Tryz.underlying9
    have h2 : (ByteArray.toList ⟨s.name.toArray⟩ == ByteArray.toList ⟨t.name.toArray⟩) = decide (s.name = t.name) := by rw [← strEq_dec]; rfl
    rw [h2] at this
    exact this
  have e2 : ∀ a b : Int, (Op.equalIn (d + 1) 3 (.int .i64 a) (.int .i64 b)).run Tryz.prog w = .ok (a == b) w := fun a b => run_equalIn_int w d 3 .i64 .i64 a b Tryz.underlying3
  obtain ⟨n1, l1, a1⟩ := s
  obtain ⟨n2, l2, a2⟩ := t
  simp only at e1
  simp only [Op.eqFields]
  rw [if_pos (by decide)]
  simp only [Sem.run_bind]
  rw [hs _ 0 (str n1) w rfl]
  simp only [Result.andThen_ok]
  rw [hs _ 0 (str n2) w rfl]
  simp only [Result.andThen_ok]
  rw [e1]
  simp only [Result.andThen_ok]
  by_cases h1 : n1 = n2
  · subst h1
    rw [decide_eq_true rfl]
    rw [if_neg (by simp), if_pos (by decide)]
    simp only [Sem.run_bind]
    rw [hi _ 1 (.int .i64 l1) w rfl]
    simp only [Result.andThen_ok]
    rw [hi _ 1 (.int .i64 l2) w rfl]
    simp only [Result.andThen_ok]
    rw [e2]
    simp only [Result.andThen_ok]
    by_cases h2 : l1 = l2
    · subst h2
      rw [if_neg (by simp), if_pos (by decide)]
      simp only [Sem.run_bind]
      rw [hi _ 2 (.int .i64 a1) w rfl]
      simp only [Result.andThen_ok]
      rw [hi _ 2 (.int .i64 a2) w rfl]
      simp only [Result.andThen_ok]
      rw [e2]
      simp only [Result.andThen_ok]
      by_cases h3 : a1 = a2
      · subst h3
        rw [if_neg (by simp)]
        simp
      · rw [if_pos (by simpa using h3)]
        simp [h3]
    · rw [if_pos (by simpa using h2)]
      simp [h2]
  · rw [if_pos (by simpa using h1)]
    simp [h1]
theorem run_termEq (w : World) (s t : TermS) : (Op.equalIn 10000 50 (termV s) (termV t)).run Tryz.prog w = .ok (decide (s = t)) w := by
  have hf : Program.fieldsOf Tryz.prog 50 = #[⟨ "Name", 9, 0, false, "", "", 0⟩, ⟨ "Level", 3, 1, false, "", "", 16⟩, ⟨ "Assoc", 3, 2, false, "", "", 24⟩] := by
    simp only [Program.fieldsOf, Tryz.underlying50]
  unfold termV
  rw [run_equalIn_agg w 9999 50 _ _ (by rw [hf]; exact Tryz.underlying50) Tryz.stoodInHeld50, hf]
  exact run_termFields 9998 w s t
theorem bs_termNe (s t : TermS) {x y : Operand} : BinSem Tryz.prog .neq 50 x y (.agg (termCells s)) (.agg (termCells t)) (.v (.bool (!decide (s = t)))) := by
  intro E w u v hu hv
  rw [rel_termV hu, rel_termV hv]
  refine ⟨run_eqGuard_agg w .neq 50 x y _ _ Tryz.eqGuardType50, .bool (!decide (s = t)), ?_, rfl⟩
  unfold termV
  rw [run_neq_struct]
  have := run_termEq w s t
  unfold termV at this
  rw [this]
  rfl
theorem bs_termEq (s t : TermS) {x y : Operand} : BinSem Tryz.prog .eql 50 x y (.agg (termCells s)) (.agg (termCells t)) (.v (.bool (decide (s = t)))) := by
  intro E w u v hu hv
  rw [rel_termV hu, rel_termV hv]
  refine ⟨run_eqGuard_agg w .eql 50 x y _ _ Tryz.eqGuardType50, .bool (decide (s = t)), ?_, rfl⟩
  unfold termV
  rw [run_eql_struct]
  have := run_termEq w s t
  unfold termV at this
  rw [this]
  rfl
/-! ### equal lists -/
theorem eqTerms (a b : List TermS) (ha : a.length < 9223372036854775808) (hb : b.length < 9223372036854775808) : PCall Tryz.prog 34 [] [.list 3 (termsD a), .list 3 (termsD b)] (.ret (.v (.bool (decide (a = b)))) []) := by
  generalize hR : decide (a = b) = R
  refine pcall_of (news := []) cxOK Tryz.func34 rfl Tryz.ntmps34 rfl rfl rfl (by decide) ?_
  repeat' ((conv => whnf); first | refine aB rfl ?_ | refine sY rfl ?_ | refine sN rfl ?_ | refine sM (fun _ => ?_) (fun _ => ?_))
  all_goals (conv => whnf)
  · rename_i h
    have h : ¬ (((termsD a).length : Int) = ((termsD b).length : Int)) := decF (notT h)
    rw [terms_len, terms_len] at h
    obtain rfl : R = false := by rw [← hR]; exact decide_eq_false (fun e => h (by rw [e]))
    rfl
  · rename_i h
    have h : (((termsD a).length : Int) = ((termsD b).length : Int)) := decT (notF h)
    rw [terms_len, terms_len] at h
    refine LoopW.to (ι := Nat) (fun i => i ≤ a.length ∧ ∀ q, q < i → a[q]? = b[q]?) (fun i => a.length - i)
      (fun i => [(0, .list 3 (termsD a)), (1, .list 3 (termsD b)), (12, .v (.int .i64 a.length)), (13, .v (.int .i64 i))]) (fun _ => []) [] 0 ⟨Nat.zero_le _, fun q h => by omega⟩ ⟨⟨rfl, rfl, congrArg (fun k : Nat => D.v (.int .i64 (k : Int))) (terms_len a), rfl, trivial⟩, trivial⟩ ?_
    rintro i ⟨h1, h2⟩
    repeat' ((conv => whnf); first | refine aB rfl ?_ | refine sY rfl ?_ | refine sN rfl ?_ | refine sM (fun _ => ?_) (fun _ => ?_))
    all_goals (conv => whnf)
    · rename_i h3
      have h3 := decT h3
      have hi : i < a.length := by omega
      have hj : i < b.length := by omega
      have hga := List.getElem?_eq_getElem hi
      have hgb := List.getElem?_eq_getElem hj
      refine IdxG.to i (termCells a[i]) rfl (terms_get hga) ?_
      repeat' ((conv => whnf); first | refine aB rfl ?_ | refine sY rfl ?_ | refine sN rfl ?_ | refine sM (fun _ => ?_) (fun _ => ?_))
      all_goals (conv => whnf)
      refine IdxG.to i (termCells b[i]) rfl (terms_get hgb) ?_
      repeat' ((conv => whnf); first | refine aB rfl ?_ | refine sY rfl ?_ | refine sN rfl ?_ | refine sM (fun _ => ?_) (fun _ => ?_))
      all_goals (conv => whnf)
      refine BinG.to (.v (.bool (!decide (a[i] = b[i])))) (bs_termNe a[i] b[i]) ?_
      repeat' ((conv => whnf); first | refine aB rfl ?_ | refine cK (by kernel_rfl) ?_ | refine And.intro rfl ?_ | refine sY rfl ?_ | refine sN rfl ?_ | refine sM (fun _ => ?_) (fun _ => ?_))
      all_goals (conv => whnf)
      · rename_i h4
        have h4 : (!decide (a[i] = b[i])) = true := h4
        have h4 := decF (notT h4)
        obtain rfl : R = false := by
          rw [← hR]
          refine decide_eq_false fun e => h4 ?_
          have := congrArg (fun l => l[i]?) e
          simp only [hga, hgb] at this
          injection this
        rfl
      · rename_i h4
        have h4 : (!decide (a[i] = b[i])) = false := h4
        have h4 := decT (notF h4)
        refine KI.i64 ((i + 1 : Nat) : Int) (by simp) (by omega) ?_
        repeat' ((conv => whnf); first | refine aB rfl ?_ | refine sY rfl ?_ | refine sN rfl ?_ | refine sM (fun _ => ?_) (fun _ => ?_))
        all_goals (conv => whnf)
        refine NextG.to (i + 1) ⟨by omega, fun q hq => ?_⟩ (by omega) ⟨⟨rfl, rfl, rfl, rfl, trivial⟩, trivial⟩
        by_cases hqi : q < i
        · exact h2 q hqi
        · obtain rfl : q = i := by omega
          rw [hga, hgb, h4]
    · rename_i h3
      have h3 := decF h3
      obtain rfl : R = true := by
        rw [← hR]
        refine decide_eq_true (List.ext_getElem? fun q => ?_)
        by_cases hq : q < i
        · exact h2 q hq
        · rw [List.getElem?_eq_none (by omega), List.getElem?_eq_none (by omega)]
      rfl
theorem eqStrs (a b : List (List UInt8)) (ha : a.length < 9223372036854775808) (hb : b.length < 9223372036854775808) : PCall Tryz.prog 35 [] [.list 1 (strsD a), .list 1 (strsD b)] (.ret (.v (.bool (decide (a = b)))) []) := by
  generalize hR : decide (a = b) = R
  refine pcall_of (news := []) cxOK Tryz.func35 rfl Tryz.ntmps35 rfl rfl rfl (by decide) ?_
  repeat' ((conv => whnf); first | refine aB rfl ?_ | refine sY rfl ?_ | refine sN rfl ?_ | refine sM (fun _ => ?_) (fun _ => ?_))
  all_goals (conv => whnf)
  · rename_i h
    have h : ¬ (((strsD a).length : Int) = ((strsD b).length : Int)) := decF (notT h)
    rw [strs_len, strs_len] at h
    obtain rfl : R = false := by rw [← hR]; exact decide_eq_false (fun e => h (by rw [e]))
    rfl
  · rename_i h
    have h : (((strsD a).length : Int) = ((strsD b).length : Int)) := decT (notF h)
    rw [strs_len, strs_len] at h
    refine LoopW.to (ι := Nat) (fun i => i ≤ a.length ∧ ∀ q, q < i → a[q]? = b[q]?) (fun i => a.length - i)
      (fun i => [(0, .list 1 (strsD a)), (1, .list 1 (strsD b)), (12, .v (.int .i64 a.length)), (13, .v (.int .i64 i))]) (fun _ => []) [] 0 ⟨Nat.zero_le _, fun q h => by omega⟩ ⟨⟨rfl, rfl, congrArg (fun k : Nat => D.v (.int .i64 (k : Int))) (strs_len a), rfl, trivial⟩, trivial⟩ ?_
    rintro i ⟨h1, h2⟩
    repeat' ((conv => whnf); first | refine aB rfl ?_ | refine sY rfl ?_ | refine sN rfl ?_ | refine sM (fun _ => ?_) (fun _ => ?_))
    all_goals (conv => whnf)
    · rename_i h3
      have h3 := decT h3
      have hi : i < a.length := by omega
      have hj : i < b.length := by omega
      have hga := List.getElem?_eq_getElem hi
      have hgb := List.getElem?_eq_getElem hj
      refine IdxG.to i (strC a[i]) rfl (strs_get hga) ?_
      repeat' ((conv => whnf); first | refine aB rfl ?_ | refine sY rfl ?_ | refine sN rfl ?_ | refine sM (fun _ => ?_) (fun _ => ?_))
      all_goals (conv => whnf)
      refine IdxG.to i (strC b[i]) rfl (strs_get hgb) ?_
      repeat' ((conv => whnf); first | refine aB rfl ?_ | refine cK (by kernel_rfl) ?_ | refine And.intro rfl ?_ | refine sY rfl ?_ | refine sN rfl ?_ | refine sM (fun _ => ?_) (fun _ => ?_))
      all_goals (conv => whnf)
      · rename_i h4
        have h4 : (!strEq ⟨a[i].toArray⟩ ⟨b[i].toArray⟩) = true := h4
        rw [strEq_dec] at h4
        have h4 := decF (notT h4)
        obtain rfl : R = false := by
          rw [← hR]
          refine decide_eq_false fun e => h4 ?_
          have := congrArg (fun l => l[i]?) e
          simp only [hga, hgb] at this
          injection this
        rfl
      · rename_i h4
        have h4 : (!strEq ⟨a[i].toArray⟩ ⟨b[i].toArray⟩) = false := h4
        rw [strEq_dec] at h4
        have h4 := decT (notF h4)
        refine KI.i64 ((i + 1 : Nat) : Int) (by simp) (by omega) ?_
        repeat' ((conv => whnf); first | refine aB rfl ?_ | refine sY rfl ?_ | refine sN rfl ?_ | refine sM (fun _ => ?_) (fun _ => ?_))
        all_goals (conv => whnf)
        refine NextG.to (i + 1) ⟨by omega, fun q hq => ?_⟩ (by omega) ⟨⟨rfl, rfl, rfl, rfl, trivial⟩, trivial⟩
        by_cases hqi : q < i
        · exact h2 q hqi
        · obtain rfl : q = i := by omega
          rw [hga, hgb, h4]
    · rename_i h3
      have h3 := decF h3
      obtain rfl : R = true := by
        rw [← hR]
        refine decide_eq_true (List.ext_getElem? fun q => ?_)
        by_cases hq : q < i
        · exact h2 q hq
        · rw [List.getElem?_eq_none (by omega), List.getElem?_eq_none (by omega)]
      rfl
theorem eqInts (a b : List Int) (ha : a.length < 9223372036854775808) (hb : b.length < 9223372036854775808) : PCall Tryz.prog 66 [] [.list 1 (ksD a), .list 1 (ksD b)] (.ret (.v (.bool (decide (a = b)))) []) := by
  generalize hR : decide (a = b) = R
  refine pcall_of (news := []) cxOK Tryz.func66 rfl Tryz.ntmps66 rfl rfl rfl (by decide) ?_
  repeat' ((conv => whnf); first | refine aB rfl ?_ | refine sY rfl ?_ | refine sN rfl ?_ | refine sM (fun _ => ?_) (fun _ => ?_))
  all_goals (conv => whnf)
  · rename_i h
    have h : ¬ (((ksD a).length : Int) = ((ksD b).length : Int)) := decF (notT h)
    rw [ksD_length, ksD_length] at h
    obtain rfl : R = false := by rw [← hR]; exact decide_eq_false (fun e => h (by rw [e]))
    rfl
  · rename_i h
    have h : (((ksD a).length : Int) = ((ksD b).length : Int)) := decT (notF h)
    rw [ksD_length, ksD_length] at h
    refine LoopW.to (ι := Nat) (fun i => i ≤ a.length ∧ ∀ q, q < i → a[q]? = b[q]?) (fun i => a.length - i)
      (fun i => [(0, .list 1 (ksD a)), (1, .list 1 (ksD b)), (12, .v (.int .i64 a.length)), (13, .v (.int .i64 i))]) (fun _ => []) [] 0 ⟨Nat.zero_le _, fun q h => by omega⟩ ⟨⟨rfl, rfl, congrArg (fun k : Nat => D.v (.int .i64 (k : Int))) (ksD_length a), rfl, trivial⟩, trivial⟩ ?_
    rintro i ⟨h1, h2⟩
    repeat' ((conv => whnf); first | refine aB rfl ?_ | refine sY rfl ?_ | refine sN rfl ?_ | refine sM (fun _ => ?_) (fun _ => ?_))
    all_goals (conv => whnf)
    · rename_i h3
      have h3 := decT h3
      have hi : i < a.length := by omega
      have hj : i < b.length := by omega
      have hga := List.getElem?_eq_getElem hi
      have hgb := List.getElem?_eq_getElem hj
      refine IdxG.to i [D.v (.int .i64 a[i])] rfl (ksD_get hga) ?_
      repeat' ((conv => whnf); first | refine aB rfl ?_ | refine sY rfl ?_ | refine sN rfl ?_ | refine sM (fun _ => ?_) (fun _ => ?_))
      all_goals (conv => whnf)
      refine IdxG.to i [D.v (.int .i64 b[i])] rfl (ksD_get hgb) ?_
      repeat' ((conv => whnf); first | refine aB rfl ?_ | refine cK (by kernel_rfl) ?_ | refine And.intro rfl ?_ | refine sY rfl ?_ | refine sN rfl ?_ | refine sM (fun _ => ?_) (fun _ => ?_))
      all_goals (conv => whnf)
      · rename_i h4
        have h4 : (!decide (a[i] = b[i])) = true := h4
        have h4 := decF (notT h4)
        obtain rfl : R = false := by
          rw [← hR]
          refine decide_eq_false fun e => h4 ?_
          have := congrArg (fun l => l[i]?) e
          simp only [hga, hgb] at this
          injection this
        rfl
      · rename_i h4
        have h4 : (!decide (a[i] = b[i])) = false := h4
        have h4 := decT (notF h4)
        refine KI.i64 ((i + 1 : Nat) : Int) (by simp) (by omega) ?_
        repeat' ((conv => whnf); first | refine aB rfl ?_ | refine sY rfl ?_ | refine sN rfl ?_ | refine sM (fun _ => ?_) (fun _ => ?_))
        all_goals (conv => whnf)
        refine NextG.to (i + 1) ⟨by omega, fun q hq => ?_⟩ (by omega) ⟨⟨rfl, rfl, rfl, rfl, trivial⟩, trivial⟩
        by_cases hqi : q < i
        · exact h2 q hqi
        · obtain rfl : q = i := by omega
          rw [hga, hgb, h4]
    · rename_i h3
      have h3 := decF h3
      obtain rfl : R = true := by
        rw [← hR]
        refine decide_eq_true (List.ext_getElem? fun q => ?_)
        by_cases hq : q < i
        · exact h2 q hq
        · rw [List.getElem?_eq_none (by omega), List.getElem?_eq_none (by omega)]
      rfl
end Tryz
end Go.Dm
namespace Go.Dm
/-! ### cfg: a builder: symbols -/
namespace Tryz
open Go.Proofs
set_option maxHeartbeats 4000000 in
theorem builderSymbol (b : BS) (r : RefS) (hb : BOK b) : PCall Tryz.prog 127 (builderM b) [.ref 1000 0, .agg (refCells r)] (exO cWr (fun p => .ret (.v (.int .i64 p.1)) (builderM p.2)) (symB b r)) := by
  have hb' := hb
  obtain ⟨b1, b2, b3, b4, b5⟩ := hb'
  generalize hR : symB b r = R
  have hrg := strIx_range b.nons r.text
  refine pcall_of (news := []) cxOK Tryz.func127 rfl Tryz.ntmps127 rfl rfl rfl (by decide) ?_
  repeat' ((conv => whnf); first | refine aB rfl ?_ | refine cK (by kernel_rfl) ?_ | refine And.intro rfl ?_ | refine sY rfl ?_ | refine sN rfl ?_ | refine sM (fun _ => ?_) (fun _ => ?_))
  all_goals (conv => whnf)
  refine callZ (nonsFrz b (str r.text) rfl) (strsIndex b.nons r.text (by omega)) rfl ?_
  repeat' ((conv => whnf); first | refine aB rfl ?_ | refine cK (by kernel_rfl) ?_ | refine And.intro rfl ?_ | refine sY rfl ?_ | refine sN rfl ?_ | refine sM (fun _ => ?_) (fun _ => ?_))
  all_goals (conv => whnf)
  · rename_i hs
    have hs : decide (strIx b.nons r.text ≥ 0) = true := hs
    obtain rfl : R = .ok (-1 - strIx b.nons r.text, b) := by rw [← hR]; simp only [symB, hs]
    refine call0 (cfgNon (strIx b.nons r.text) (by unfold i64; omega)) ?_
    repeat' ((conv => whnf); first | exact trivial | refine aB rfl ?_ | refine sY rfl ?_ | refine sN rfl ?_ | refine sM (fun _ => ?_) (fun _ => ?_) | refine cK (by kernel_rfl) ?_ | refine And.intro ?_ ?_ | exact Or.inl ⟨rfl, rfl⟩ | exact rfl)
    all_goals (conv => whnf)
  rename_i hs
  have hs : decide (strIx b.nons r.text ≥ 0) = false := hs
  refine callZ (gramFrz b (str r.text) rfl rfl rfl) (cfgTerminal b.terms _ _ _ r.text (by omega)) rfl ?_
  repeat' ((conv => whnf); first | refine aB rfl ?_ | refine cK (by kernel_rfl) ?_ | refine And.intro rfl ?_ | refine sY rfl ?_ | refine sN rfl ?_ | refine sM (fun _ => ?_) (fun _ => ?_))
  all_goals (conv => whnf)
  · rename_i ht
    have ht : decide (termIx b.terms r.text < 0) = true := ht
    refine call0 (lexLiteral r.text) ?_
    repeat' ((conv => whnf); first | refine aB rfl ?_ | refine cK (by kernel_rfl) ?_ | refine And.intro rfl ?_ | refine sY rfl ?_ | refine sN rfl ?_ | refine sM (fun _ => ?_) (fun _ => ?_))
    all_goals (conv => whnf)
    · rename_i hl he
      have hl : LiteralS r.text = false := by
        have h : (bif true then !LiteralS r.text else false) = true := hl
        exact notT h
      have he : strEq ⟨r.text.toArray⟩ ⟨errorW.toArray⟩ = false := by
        have h : (bif true then !strEq ⟨r.text.toArray⟩ ⟨errorW.toArray⟩ else false) = true := he
        exact notT h
      rw [strEq_dec] at he
      obtain rfl : R = .error (r.at', 6) := by rw [← hR]; simp only [symB, hs, ht, hl, he]; rfl
      refine call0 (cfgRefuse r 6) ?_
      conv => whnf
      exact ⟨_, rfl, Or.inl ⟨rfl, rfl⟩⟩
    · rename_i hl he
      have he : strEq ⟨r.text.toArray⟩ ⟨errorW.toArray⟩ = true := by
        have h : (bif true then !strEq ⟨r.text.toArray⟩ ⟨errorW.toArray⟩ else false) = false := he
        exact notF h
      rw [strEq_dec] at he
      have hc : (decide (termIx b.terms r.text < 0) && (!LiteralS r.text && !decide (r.text = errorW))) = false := by rw [he]; simp
      cases hp : addS b r with
      | error w =>
        obtain rfl : R = .error w := by rw [← hR]; simp only [symB, hs, hc]; exact hp
        refine callM (addBad hp hb) ⟨rfl, rfl, rfl, rfl, rfl, rfl, trivial⟩ rfl ?_
        conv => whnf
        exact ⟨_, rfl, Or.inl ⟨rfl, rfl⟩⟩
      | ok p =>
        obtain rfl : R = .ok p := by rw [← hR]; simp only [symB, hs, hc]; exact hp
        refine callM (addOk hp hb) ⟨rfl, rfl, rfl, rfl, rfl, rfl, trivial⟩ rfl ?_
        repeat' ((conv => whnf); first | exact trivial | refine aB rfl ?_ | refine sY rfl ?_ | refine sN rfl ?_ | refine sM (fun _ => ?_) (fun _ => ?_) | refine cK (by kernel_rfl) ?_ | refine And.intro ?_ ?_ | exact Or.inl ⟨rfl, rfl⟩ | exact rfl)
        all_goals (conv => whnf)
    · rename_i hl
      have hl : LiteralS r.text = true := by
        have h : (bif true then !LiteralS r.text else false) = false := hl
        exact notF h
      have hc : (decide (termIx b.terms r.text < 0) && (!LiteralS r.text && !decide (r.text = errorW))) = false := by rw [hl]; simp
      cases hp : addS b r with
      | error w =>
        obtain rfl : R = .error w := by rw [← hR]; simp only [symB, hs, hc]; exact hp
        refine callM (addBad hp hb) ⟨rfl, rfl, rfl, rfl, rfl, rfl, trivial⟩ rfl ?_
        conv => whnf
        exact ⟨_, rfl, Or.inl ⟨rfl, rfl⟩⟩
      | ok p =>
        obtain rfl : R = .ok p := by rw [← hR]; simp only [symB, hs, hc]; exact hp
        refine callM (addOk hp hb) ⟨rfl, rfl, rfl, rfl, rfl, rfl, trivial⟩ rfl ?_
        repeat' ((conv => whnf); first | exact trivial | refine aB rfl ?_ | refine sY rfl ?_ | refine sN rfl ?_ | refine sM (fun _ => ?_) (fun _ => ?_) | refine cK (by kernel_rfl) ?_ | refine And.intro ?_ ?_ | exact Or.inl ⟨rfl, rfl⟩ | exact rfl)
        all_goals (conv => whnf)
  · rename_i ht
    have ht : decide (termIx b.terms r.text < 0) = false := ht
    have hc : (decide (termIx b.terms r.text < 0) && (!LiteralS r.text && !decide (r.text = errorW))) = false := by rw [ht]; rfl
    cases hp : addS b r with
    | error w =>
      obtain rfl : R = .error w := by rw [← hR]; simp only [symB, hs, hc]; exact hp
      refine callM (addBad hp hb) ⟨rfl, rfl, rfl, rfl, rfl, rfl, trivial⟩ rfl ?_
      conv => whnf
      exact ⟨_, rfl, Or.inl ⟨rfl, rfl⟩⟩
    | ok p =>
      obtain rfl : R = .ok p := by rw [← hR]; simp only [symB, hs, hc]; exact hp
      refine callM (addOk hp hb) ⟨rfl, rfl, rfl, rfl, rfl, rfl, trivial⟩ rfl ?_
      repeat' ((conv => whnf); first | exact trivial | refine aB rfl ?_ | refine sY rfl ?_ | refine sN rfl ?_ | refine sM (fun _ => ?_) (fun _ => ?_) | refine cK (by kernel_rfl) ?_ | refine And.intro ?_ ?_ | exact Or.inl ⟨rfl, rfl⟩ | exact rfl)
      all_goals (conv => whnf)
end Tryz
end Go.Dm
namespace Go.Dm
/-! ### cfg: a builder: a rule -/
def withSym (x : RuleS) (s : Int) : RuleS := ⟨x.left, x.right ++ [s], match decide (s ≥ 0) with | true => s | false => x.prec⟩
def rightsB : BS → RuleS → Nat → List RefS → Except Wr (BS × RuleS)
  | b, x, _, [] => .ok (b, x)
  | b, x, i, r :: rs => match namedS r.text with
    | false => .error (r.at', 3)
    | true => match decide (i = 6) with
      | true => .error (r.at', 5)
      | false => match symB b r with
        | .error w => .error w
        | .ok p => rightsB p.2 (withSym x p.1) (i + 1) rs
def precB (b : BS) (x : RuleS) (r : RefS) : Except Wr (BS × RuleS) := match decide (r.text = []) with
  | true => .ok (b, x)
  | false => match namedS r.text with
    | false => .error (r.at', 3)
    | true => match symB b r with
      | .error w => .error w
      | .ok p => match decide (p.1 < 0) with
        | true => .error (r.at', 6)
        | false => .ok (p.2, ⟨x.left, x.right, p.1⟩)
def prodB (b : BS) (p : ProdS) : Except Wr BS := match decide (b.rules.length = 40) with
  | true => .error (p.left.at', 5)
  | false => match rightsB b ⟨strIx b.nons p.left.text, [], -1⟩ 0 p.right with
    | .error w => .error w
    | .ok q => match precB q.1 q.2 p.prec with
      | .error w => .error w
      | .ok s => .ok { s.1 with rules := s.1.rules ++ [s.2] }
theorem rulesD_snoc (l : List RuleS) (x : RuleS) : rulesD (l ++ [x]) = rulesD l ++ [[.v (.int .i64 x.left), .list 1 ((ksD x.right).take x.right.length), .v (.int .i64 x.prec)]] := by
  unfold rulesD
  rw [List.map_append]
  have : (ksD x.right).take x.right.length = ksD x.right := take_map_all _ _
  rw [this]; rfl
theorem rightsB_ok : ∀ (rs : List RefS) {b : BS} {x : RuleS} {i : Nat} {q : BS × RuleS}, BOK b → rightsB b x i rs = .ok q → BOK q.1 ∧ q.1.rules = b.rules ∧ q.1.nons = b.nons
  | [], b, x, i, q, hb, h => by injection h with h; subst h; exact ⟨hb, rfl, rfl⟩
  | r :: rs, b, x, i, q, hb, h => by
    simp only [rightsB] at h
    split at h
    · cases h
    · split at h
      · cases h
      · cases hs : symB b r with
        | error w => rw [hs] at h; cases h
        | ok p =>
          rw [hs] at h
          obtain ⟨h1, h2, h3, _⟩ := symB_ok hb hs
          obtain ⟨h4, h5, h6⟩ := rightsB_ok rs h1 h
          exact ⟨h4, h5.trans h2, h6.trans h3⟩
theorem precB_ok {b : BS} {x : RuleS} {r : RefS} {q : BS × RuleS} (hb : BOK b) (h : precB b x r = .ok q) : BOK q.1 ∧ q.1.rules = b.rules ∧ q.1.nons = b.nons := by
  unfold precB at h
  split at h
  · injection h with h; subst h; exact ⟨hb, rfl, rfl⟩
  · split at h
    · cases h
    · cases hs : symB b r with
      | error w => rw [hs] at h; cases h
      | ok p =>
        rw [hs] at h
        obtain ⟨h1, h2, h3, _⟩ := symB_ok hb hs
        simp only at h
        split at h
        · cases h
        · injection h with h; subst h; exact ⟨h1, h2, h3⟩
theorem prodB_ok {b c : BS} {p : ProdS} (hb : BOK b) (h : prodB b p = .ok c) : BOK c ∧ c.nons = b.nons := by
  unfold prodB at h
  split at h
  · cases h
  · rename_i hl
    have hl := decF hl
    cases hq : rightsB b ⟨strIx b.nons p.left.text, [], -1⟩ 0 p.right with
    | error w => rw [hq] at h; cases h
    | ok q =>
      rw [hq] at h
      obtain ⟨h1, h2, h3⟩ := rightsB_ok _ hb hq
      cases hs : precB q.1 q.2 p.prec with
      | error w => simp only [hs] at h; cases h
      | ok s =>
        simp only [hs] at h
        obtain ⟨⟨q1, q2, q3, q4, q5⟩, h5, h6⟩ := precB_ok h1 hs
        injection h with h; subst h
        obtain ⟨_, _, q3', _, _⟩ := hb
        refine ⟨⟨q1, q2, ?_, q4, q5⟩, h6.trans h3⟩
        have : s.1.rules.length = b.rules.length := by rw [h5, h2]
        simp only [List.length_append, List.length_cons, List.length_nil]; omega
namespace Tryz
open Go.Proofs
theorem symOk {b : BS} {r : RefS} {p : Int × BS} (h : symB b r = .ok p) (hb : BOK b) : PCall Tryz.prog 127 (builderM b) [.ref 1000 0, .agg (refCells r)] (.ret (.v (.int .i64 p.1)) (builderM p.2)) := by
  have := builderSymbol b r hb
  rwa [h] at this
theorem symBad {b : BS} {r : RefS} {w : Wr} (h : symB b r = .error w) (hb : BOK b) : PCall Tryz.prog 127 (builderM b) [.ref 1000 0, .agg (refCells r)] (.pan (cWr w)) := by
  have := builderSymbol b r hb
  rwa [h] at this
structure RtSt where
  i : Nat
  c : BS
  x : RuleS
set_option maxHeartbeats 4000000 in
theorem builderProd (b : BS) (p : ProdS) (hb : BOK b) (hn : p.right.length ≤ 4000) : PCall Tryz.prog 96 (builderM b) [.ref 1000 0, .agg (prodCells p)] (exO cWr (fun p => .ret (.tup []) (builderM p)) (prodB b p)) := by
  have hb' := hb
  obtain ⟨b1, b2, b3, b4, b5⟩ := hb'
  generalize hR : prodB b p = R
  generalize hQ : rightsB b ⟨strIx b.nons p.left.text, [], -1⟩ 0 p.right = Q
  refine pcall_of (news := [4, 6]) cxOK Tryz.func96 rfl Tryz.ntmps96 rfl rfl rfl (by decide) ?_
  repeat' ((conv => whnf); first | refine aB rfl ?_ | refine sY rfl ?_ | refine sN rfl ?_ | refine sM (fun _ => ?_) (fun _ => ?_))
  all_goals (conv => whnf)
  refine ⟨Nat.le_of_eq (rules_len _).symm, ?_⟩
  repeat' ((conv => whnf); first | refine aB rfl ?_ | refine cK (by kernel_rfl) ?_ | refine And.intro rfl ?_ | refine sY rfl ?_ | refine sN rfl ?_ | refine sM (fun _ => ?_) (fun _ => ?_))
  all_goals (conv => whnf)
  · rename_i hl
    have hl : (b.rules.length : Int) = 40 := decT hl
    have hl : decide (b.rules.length = 40) = true := decide_eq_true (by omega)
    obtain rfl : R = .error (p.left.at', 5) := by rw [← hR]; simp only [prodB, hl]
    refine call0 (cfgRefuse p.left 5) ?_
    conv => whnf
    exact ⟨_, rfl, Or.inl ⟨rfl, rfl⟩⟩
  rename_i hl
  have hl : ¬ (b.rules.length : Int) = 40 := decF hl
  have hl40 : b.rules.length < 40 := by omega
  have hl2 : decide (b.rules.length = 40) = false := decide_eq_false (by omega)
  have hR1 : ∀ w, Q = .error w → R = .error w := fun w hw => by rw [← hR]; simp only [prodB, hl2, hQ, hw]
  have hR2 : ∀ q w, Q = .ok q → precB q.1 q.2 p.prec = .error w → R = .error w := fun q w hw hp => by rw [← hR]; simp only [prodB, hl2, hQ, hw, hp]
  have hR3 : ∀ q s, Q = .ok q → precB q.1 q.2 p.prec = .ok s → R = .ok { s.1 with rules := s.1.rules ++ [s.2] } := fun q s hw hp => by rw [← hR]; simp only [prodB, hl2, hQ, hw, hp]
  clear hR
  refine callZ (nonsFrz b (str p.left.text) rfl) (strsIndex b.nons p.left.text (by omega)) rfl ?_
  repeat' ((conv => whnf); first | refine aB rfl ?_ | refine cK (by kernel_rfl) ?_ | refine And.intro rfl ?_ | refine sY rfl ?_ | refine sN rfl ?_ | refine sM (fun _ => ?_) (fun _ => ?_))
  all_goals (conv => whnf)
  refine LoopW.to (ι := RtSt) (fun s => (s.i ≤ p.right.length ∧ rightsB s.c s.x s.i (p.right.drop s.i) = Q ∧ s.x.right.length = s.i) ∧ BOK s.c ∧ s.c.rules.length < 40) (fun s => p.right.length - s.i)
    (fun s => [(0, .ref 1000 0), (3, .ptr (prodCells p)), (4, .ref 4 0), (29, .list 2 (p.right.map refCells)), (30, .v (.int .i64 p.right.length)), (31, .v (.int .i64 s.i))])
    (fun s => (4, .cells [.v (.int .i64 s.x.left), .row 90 s.x.right.length, .v (.int .i64 s.x.prec)]) :: (90, .row 3 1 (ksD s.x.right)) :: builderM s.c) [⟨90, 3, 1, 1004001⟩] ⟨0, b, ⟨strIx b.nons p.left.text, [], -1⟩⟩ ⟨⟨Nat.zero_le _, hQ, rfl⟩, hb, hl40⟩
    ⟨rfl, rfl, ⟨rfl, rfl, rfl, rfl, congrArg (fun k : Nat => D.v (.int .i64 (k : Int))) (ref_len p.right), rfl, trivial⟩, rfl, rfl, rfl, rfl, rfl, rfl, rfl, rfl, trivial⟩ ?_
  rintro ⟨i, c, x⟩ ⟨⟨h1, h2, h2x⟩, h3, h4⟩
  simp only at h1 h2 h2x h3 h4
  repeat' ((conv => whnf); first | refine aB rfl ?_ | refine cK (by kernel_rfl) ?_ | refine And.intro rfl ?_ | refine sY rfl ?_ | refine sN rfl ?_ | refine sM (fun _ => ?_) (fun _ => ?_))
  all_goals (conv => whnf)
  · rename_i h
    have h : (i : Int) < p.right.length := decT h
    have hi : i < p.right.length := by omega
    have hg := List.getElem?_eq_getElem hi
    rw [List.drop_eq_getElem_cons hi] at h2
    refine IdxG.to i (refCells p.right[i]) rfl (by simp [hg]) ?_
    repeat' ((conv => whnf); first | refine aB rfl ?_ | refine cK (by kernel_rfl) ?_ | refine And.intro rfl ?_ | refine sY rfl ?_ | refine sN rfl ?_ | refine sM (fun _ => ?_) (fun _ => ?_))
    all_goals (conv => whnf)
    refine call0 (cfgNamed p.right[i].text) ?_
    repeat' ((conv => whnf); first | refine aB rfl ?_ | refine cK (by kernel_rfl) ?_ | refine And.intro rfl ?_ | refine sY rfl ?_ | refine sN rfl ?_ | refine sM (fun _ => ?_) (fun _ => ?_))
    all_goals (conv => whnf)
    · rename_i hnm
      have hnm : namedS p.right[i].text = false := notT hnm
      obtain rfl := hR1 (p.right[i].at', 3) (by rw [← h2]; simp only [rightsB, hnm])
      refine call0 (cfgRefuse p.right[i] 3) ?_
      conv => whnf
      exact ⟨_, rfl, Or.inl ⟨rfl, rfl⟩⟩
    · rename_i hnm h6
      have hnm : namedS p.right[i].text = true := notF hnm
      have h6 : (i : Int) = 6 := decT h6
      have h6 : decide (i = 6) = true := decide_eq_true (by omega)
      obtain rfl := hR1 (p.right[i].at', 5) (by rw [← h2]; simp only [rightsB, hnm, h6])
      refine call0 (cfgRefuse p.right[i] 5) ?_
      conv => whnf
      exact ⟨_, rfl, Or.inl ⟨rfl, rfl⟩⟩
    · rename_i hnm h6
      have hnm : namedS p.right[i].text = true := notF hnm
      have h6 : ¬ (i : Int) = 6 := decF h6
      have h6 : decide (i = 6) = false := decide_eq_false (by omega)
      cases hs : symB c p.right[i] with
      | error w =>
        obtain rfl := hR1 w (by rw [← h2]; simp only [rightsB, hnm, h6, hs])
        refine callM (symBad hs h3) ⟨rfl, rfl, rfl, rfl, rfl, rfl, trivial⟩ rfl ?_
        conv => whnf
        exact ⟨_, rfl, Or.inl ⟨rfl, rfl⟩⟩
      | ok q =>
        simp only [rightsB, hnm, h6, hs] at h2
        obtain ⟨k1, k2, k3, k4, k5⟩ := symB_ok h3 hs
        refine callM (symOk hs h3) ⟨rfl, rfl, rfl, rfl, rfl, rfl, trivial⟩ rfl ?_
        repeat' ((conv => whnf); first | refine aB rfl ?_ | refine cK (by kernel_rfl) ?_ | refine And.intro rfl ?_ | refine sY rfl ?_ | refine sN rfl ?_ | refine sM (fun _ => ?_) (fun _ => ?_))
        all_goals (conv => whnf)
        have ha : (x.right ++ [q.1]).length = x.right.length + 1 := by simp
        refine AppG.row1 (ksD (x.right ++ [q.1])) (ksD_length _).symm rfl ?_ (by decide) ⟨rfl, ?_, ?_⟩
        · rw [ksD_length]; simp only; omega
        · unfold ksD; rw [List.map_append]; rfl
        repeat' ((conv => whnf); first | refine aB rfl ?_ | refine cK (by kernel_rfl) ?_ | refine And.intro rfl ?_ | refine sY rfl ?_ | refine sN rfl ?_ | refine sM (fun _ => ?_) (fun _ => ?_))
        all_goals (conv => whnf)
        · rename_i hq
          have hq : decide (q.1 ≥ 0) = true := hq
          refine KI.i64 ((i + 1 : Nat) : Int) (by simp) (by omega) ?_
          repeat' ((conv => whnf); first | refine aB rfl ?_ | refine cK (by kernel_rfl) ?_ | refine And.intro rfl ?_ | refine sY rfl ?_ | refine sN rfl ?_ | refine sM (fun _ => ?_) (fun _ => ?_))
          all_goals (conv => whnf)
          refine NextG.to ⟨i + 1, q.2, withSym x q.1⟩ ⟨⟨by simp only; omega, h2, by simp only [withSym]; omega⟩, k1, by rw [k2]; exact h4⟩ (by simp only; omega) ⟨⟨rfl, rfl, rfl, rfl, rfl, rfl, trivial⟩, ?_, rfl, rfl, rfl, rfl, rfl, rfl, rfl, trivial⟩
          simp only [withSym, hq, ha]
          rfl
        · rename_i hq
          have hq : decide (q.1 ≥ 0) = false := hq
          refine KI.i64 ((i + 1 : Nat) : Int) (by simp) (by omega) ?_
          repeat' ((conv => whnf); first | refine aB rfl ?_ | refine cK (by kernel_rfl) ?_ | refine And.intro rfl ?_ | refine sY rfl ?_ | refine sN rfl ?_ | refine sM (fun _ => ?_) (fun _ => ?_))
          all_goals (conv => whnf)
          refine NextG.to ⟨i + 1, q.2, withSym x q.1⟩ ⟨⟨by simp only; omega, h2, by simp only [withSym]; omega⟩, k1, by rw [k2]; exact h4⟩ (by simp only; omega) ⟨⟨rfl, rfl, rfl, rfl, rfl, rfl, trivial⟩, ?_, rfl, rfl, rfl, rfl, rfl, rfl, rfl, trivial⟩
          simp only [withSym, hq, ha]
          rfl
  · rename_i h hpe
    have h : ¬ (i : Int) < p.right.length := decF h
    have hi : i = p.right.length := by omega
    rw [hi, List.drop_length] at h2
    have hq : Q = .ok (c, x) := h2.symm
    have hpe : strEq ⟨p.prec.text.toArray⟩ ⟨([] : List UInt8).toArray⟩ = false := notT hpe
    rw [strEq_dec] at hpe
    refine call0 (cfgNamed p.prec.text) ?_
    repeat' ((conv => whnf); first | refine aB rfl ?_ | refine cK (by kernel_rfl) ?_ | refine And.intro rfl ?_ | refine sY rfl ?_ | refine sN rfl ?_ | refine sM (fun _ => ?_) (fun _ => ?_))
    all_goals (conv => whnf)
    · rename_i hnm
      have hnm : namedS p.prec.text = false := notT hnm
      obtain rfl := hR2 _ (p.prec.at', 3) hq (by simp only [precB, hpe, hnm])
      refine call0 (cfgRefuse p.prec 3) ?_
      conv => whnf
      exact ⟨_, rfl, Or.inl ⟨rfl, rfl⟩⟩
    rename_i hnm
    have hnm : namedS p.prec.text = true := notF hnm
    cases hs : symB c p.prec with
    | error w =>
      obtain rfl := hR2 _ w hq (by simp only [precB, hpe, hnm, hs])
      refine callM (symBad hs h3) ⟨rfl, rfl, rfl, rfl, rfl, rfl, trivial⟩ rfl ?_
      conv => whnf
      exact ⟨_, rfl, Or.inl ⟨rfl, rfl⟩⟩
    | ok q =>
      obtain ⟨k1, k2, k3, k4, k5⟩ := symB_ok h3 hs
      refine callM (symOk hs h3) ⟨rfl, rfl, rfl, rfl, rfl, rfl, trivial⟩ rfl ?_
      repeat' ((conv => whnf); first | refine aB rfl ?_ | refine cK (by kernel_rfl) ?_ | refine And.intro rfl ?_ | refine sY rfl ?_ | refine sN rfl ?_ | refine sM (fun _ => ?_) (fun _ => ?_))
      all_goals (conv => whnf)
      · rename_i hz
        have hz : decide (q.1 < 0) = true := hz
        obtain rfl := hR2 _ (p.prec.at', 6) hq (by simp only [precB, hpe, hnm, hs, hz])
        refine call0 (cfgRefuse p.prec 6) ?_
        conv => whnf
        exact ⟨_, rfl, Or.inl ⟨rfl, rfl⟩⟩
      · rename_i hz
        have hz : decide (q.1 < 0) = false := hz
        obtain rfl := hR3 _ (q.2, ⟨x.left, x.right, q.1⟩) hq (by simp only [precB, hpe, hnm, hs, hz])
        have hcl : q.2.rules.length < 40 := by rw [k2]; exact h4
        have ha : (q.2.rules ++ [RuleS.mk x.left x.right q.1]).length = q.2.rules.length + 1 := by simp
        refine AppG.row1 (rulesD (q.2.rules ++ [RuleS.mk x.left x.right q.1])) (rules_len _).symm rfl ?_ (by decide) ⟨rfl, ?_, ?_⟩
        · rw [rules_len]; first | omega | (simp only; omega)
        · exact rulesD_snoc _ _
        repeat' ((conv => whnf); first | refine aB rfl ?_ | refine cK (by kernel_rfl) ?_ | refine And.intro rfl ?_ | refine sY rfl ?_ | refine sN rfl ?_ | refine sM (fun _ => ?_) (fun _ => ?_))
        all_goals (conv => whnf)
        refine ⟨trivial, ⟨Or.inl ⟨rfl, rfl⟩, Or.inl ⟨rfl, rfl⟩, Or.inl ⟨congrArg (D.row 1003) ha.symm, rfl⟩, Or.inl ⟨rfl, rfl⟩, Or.inl ⟨rfl, rfl⟩, Or.inl ⟨rfl, rfl⟩, Or.inl ⟨rfl, rfl⟩, trivial⟩, rfl, rfl, rfl, rfl, rfl, trivial⟩
  · rename_i h hpe
    have h : ¬ (i : Int) < p.right.length := decF h
    have hi : i = p.right.length := by omega
    rw [hi, List.drop_length] at h2
    have hq : Q = .ok (c, x) := h2.symm
    have hpe : strEq ⟨p.prec.text.toArray⟩ ⟨([] : List UInt8).toArray⟩ = true := notF hpe
    rw [strEq_dec] at hpe
    obtain rfl := hR3 _ (c, x) hq (by simp only [precB, hpe])
    have hcl : c.rules.length < 40 := h4
    have ha : (c.rules ++ [x]).length = c.rules.length + 1 := by simp
    refine AppG.row1 (rulesD (c.rules ++ [x])) (rules_len _).symm rfl ?_ (by decide) ⟨rfl, ?_, ?_⟩
    · rw [rules_len]; first | omega | (simp only; omega)
    · exact rulesD_snoc _ _
    repeat' ((conv => whnf); first | refine aB rfl ?_ | refine cK (by kernel_rfl) ?_ | refine And.intro rfl ?_ | refine sY rfl ?_ | refine sN rfl ?_ | refine sM (fun _ => ?_) (fun _ => ?_))
    all_goals (conv => whnf)
    refine ⟨trivial, ⟨Or.inl ⟨rfl, rfl⟩, Or.inl ⟨rfl, rfl⟩, Or.inl ⟨congrArg (D.row 1003) ha.symm, rfl⟩, Or.inl ⟨rfl, rfl⟩, Or.inl ⟨rfl, rfl⟩, Or.inl ⟨rfl, rfl⟩, Or.inl ⟨rfl, rfl⟩, trivial⟩, rfl, rfl, rfl, rfl, rfl, trivial⟩
end Tryz
end Go.Dm
namespace Go.Dm
/-! ### cfg: a builder: a whole grammar -/
def declsB : BS → List DeclS → Except Wr BS
  | b, [] => .ok b
  | b, d :: ds => match declB b d with
    | .error w => .error w
    | .ok c => declsB c ds
def leftsB : BS → List ProdS → Except Wr BS
  | b, [] => .ok b
  | b, p :: ps => match leftB b p.left with
    | .error w => .error w
    | .ok c => leftsB c ps
def prodsB : BS → List ProdS → Except Wr BS
  | b, [] => .ok b
  | b, p :: ps => match prodB b p with
    | .error w => .error w
    | .ok c => prodsB c ps
def startsB : BS → List RefS → Except Wr BS
  | b, [] => .ok b
  | b, r :: rs => match decide (strIx b.nons r.text < 0) with
    | true => .error (r.at', 8)
    | false => startsB { b with start := strIx b.nons r.text } rs
def endB (b : BS) : Except Wr BS := match decide (b.rules.length = 0) with
  | true => .error (none, 8)
  | false => .ok b
def gramB (b : BS) (s : SourceS) : Except Wr BS := match declsB b s.decls with
  | .error w => .error w
  | .ok b1 => match leftsB b1 s.prods with
    | .error w => .error w
    | .ok b2 => match prodsB b2 s.prods with
      | .error w => .error w
      | .ok b3 => match startsB b3 b3.starts with
        | .error w => .error w
        | .ok b4 => endB b4
def SourceOK (s : SourceS) : Prop := s.decls.length ≤ 4000 ∧ (∀ d ∈ s.decls, (3 ≤ d.kind ∧ d.kind ≤ 7) ∧ d.names.length ≤ 4000) ∧ s.prods.length ≤ 4000 ∧ ∀ p ∈ s.prods, p.right.length ≤ 4000
theorem leftB_levels {b c : BS} {r : RefS} (h : leftB b r = .ok c) : c.levels = b.levels := by
  unfold leftB at h
  split at h
  · cases h
  · split at h
    · cases h
    · split at h
      · injection h with h; subst h; rfl
      · split at h
        · cases h
        · injection h with h; subst h; rfl
structure SrSt where
  i : Nat
  st : Int
def SrSt.of (s : SrSt) (b : BS) : BS := { b with start := s.st }
theorem startsB_bad {b : BS} {r : RefS} {rs : List RefS} (h : decide (strIx b.nons r.text < 0) = true) : startsB b (r :: rs) = .error (r.at', 8) := by simp only [startsB, h]
theorem startsB_go {b : BS} {r : RefS} {rs : List RefS} (h : decide (strIx b.nons r.text < 0) = false) : startsB b (r :: rs) = startsB { b with start := strIx b.nons r.text } rs := by simp only [startsB, h]
theorem endB_bad {b : BS} (h : decide (b.rules.length = 0) = true) : endB b = .error (none, 8) := by simp only [endB, h]
theorem endB_go {b : BS} (h : decide (b.rules.length = 0) = false) : endB b = .ok b := by simp only [endB, h]
theorem IxT.starts {l : List RefS} {n : Nat} (h : n < l.length) : (List.take l.length (l.map refCells))[n]? = some (refCells l[n]) := by
  rw [List.getElem?_take_of_lt h, List.getElem?_map, List.getElem?_eq_getElem h]; rfl
namespace Tryz
open Go.Proofs
theorem declOkB {b c : BS} {d : DeclS} (h : declB b d = .ok c) (hb : BOK b) (hl : b.levels + 1 ≤ 4000) (hk : 3 ≤ d.kind ∧ d.kind ≤ 7) (hn : d.names.length ≤ 4000) : PCall Tryz.prog 94 (builderM b) [.ref 1000 0, .agg (declCells d)] (.ret (.tup []) (builderM c)) := by
  have := builderDecl b d hb hl hk hn
  rwa [h] at this
theorem declBadB {b : BS} {w : Wr} {d : DeclS} (h : declB b d = .error w) (hb : BOK b) (hl : b.levels + 1 ≤ 4000) (hk : 3 ≤ d.kind ∧ d.kind ≤ 7) (hn : d.names.length ≤ 4000) : PCall Tryz.prog 94 (builderM b) [.ref 1000 0, .agg (declCells d)] (.pan (cWr w)) := by
  have := builderDecl b d hb hl hk hn
  rwa [h] at this
theorem leftOk {b c : BS} {r : RefS} (h : leftB b r = .ok c) (hb : BOK b) : PCall Tryz.prog 95 (builderM b) [.ref 1000 0, .agg (refCells r)] (.ret (.tup []) (builderM c)) := by
  have := builderLeft b r hb
  rwa [h] at this
theorem leftBad {b : BS} {w : Wr} {r : RefS} (h : leftB b r = .error w) (hb : BOK b) : PCall Tryz.prog 95 (builderM b) [.ref 1000 0, .agg (refCells r)] (.pan (cWr w)) := by
  have := builderLeft b r hb
  rwa [h] at this
theorem prodOk {b c : BS} {p : ProdS} (h : prodB b p = .ok c) (hb : BOK b) (hn : p.right.length ≤ 4000) : PCall Tryz.prog 96 (builderM b) [.ref 1000 0, .agg (prodCells p)] (.ret (.tup []) (builderM c)) := by
  have := builderProd b p hb hn
  rwa [h] at this
theorem prodBad {b : BS} {w : Wr} {p : ProdS} (h : prodB b p = .error w) (hb : BOK b) (hn : p.right.length ≤ 4000) : PCall Tryz.prog 96 (builderM b) [.ref 1000 0, .agg (prodCells p)] (.pan (cWr w)) := by
  have := builderProd b p hb hn
  rwa [h] at this
def zGram : Ob := .cells [nilD, nilD, nilD, .v (.int .i64 0)]
def gramR (b : BS) : D := .agg [.row 1001 b.terms.length, .row 1002 b.nons.length, .row 1003 b.rules.length, .v (.int .i64 b.start)]
set_option maxHeartbeats 8000000 in
theorem builderGrammar (b : BS) (s : SourceS) (hb : BOK b) (hl0 : b.levels + s.decls.length ≤ 4000) (hs : SourceOK s) : PCall Tryz.prog 70 (builderM b) [.ref 1000 0, .agg (sourceCells s)] (exO cWr (fun p => .ret (gramR p) (builderM p)) (gramB b s)) := by
  obtain ⟨ds, ps⟩ := s
  obtain ⟨hs1, hs2, hs3, hs4⟩ := hs
  simp only at hl0 hs1 hs2 hs3 hs4
  generalize hR : gramB b ⟨ds, ps⟩ = R
  generalize hQ1 : declsB b ds = Q1
  have hR1 : ∀ w, Q1 = .error w → R = .error w := fun w hw => by rw [← hR]; simp only [gramB, hQ1, hw]
  have hR2 : ∀ b1 w, Q1 = .ok b1 → leftsB b1 ps = .error w → R = .error w := fun b1 w hw h2 => by rw [← hR]; simp only [gramB, hQ1, hw, h2]
  have hR3 : ∀ b1 b2 w, Q1 = .ok b1 → leftsB b1 ps = .ok b2 → prodsB b2 ps = .error w → R = .error w := fun b1 b2 w hw h2 h3 => by rw [← hR]; simp only [gramB, hQ1, hw, h2, h3]
  have hR4 : ∀ b1 b2 b3 w, Q1 = .ok b1 → leftsB b1 ps = .ok b2 → prodsB b2 ps = .ok b3 → startsB b3 b3.starts = .error w → R = .error w := fun b1 b2 b3 w hw h2 h3 h4 => by rw [← hR]; simp only [gramB, hQ1, hw, h2, h3, h4]
  have hR5 : ∀ b1 b2 b3 b4, Q1 = .ok b1 → leftsB b1 ps = .ok b2 → prodsB b2 ps = .ok b3 → startsB b3 b3.starts = .ok b4 → R = endB b4 := fun b1 b2 b3 b4 hw h2 h3 h4 => by rw [← hR]; simp only [gramB, hQ1, hw, h2, h3, h4]
  clear hR
  refine pcall_of (news := [4, 6, 8, 10, 12]) cxOK Tryz.func70 rfl Tryz.ntmps70 rfl rfl rfl (by decide) ?_
  repeat' ((conv => whnf); first | refine aB rfl ?_ | refine cK (by kernel_rfl) ?_ | refine And.intro rfl ?_ | refine sY rfl ?_ | refine sN rfl ?_ | refine sM (fun _ => ?_) (fun _ => ?_))
  all_goals (conv => whnf)
  refine LoopW.to (ι := NmSt) (fun s => s.i ≤ ds.length ∧ declsB s.c (ds.drop s.i) = Q1 ∧ BOK s.c ∧ s.c.levels + (ds.length - s.i) ≤ 4000) (fun s => ds.length - s.i)
    (fun s => [(0, .ref 1000 0), (3, .ptr (sourceCells ⟨ds, ps⟩)), (4, .ref 4 0), (14, .list 2 (ds.map declCells)), (15, .v (.int .i64 ds.length)), (16, .v (.int .i64 s.i))]) (fun s => (4, zGram) :: builderM s.c) [] ⟨0, b⟩ ⟨Nat.zero_le _, hQ1, hb, by simp only; omega⟩
    ⟨⟨rfl, rfl, rfl, rfl, congrArg (fun k : Nat => D.v (.int .i64 (k : Int))) (decl_len ds), rfl, trivial⟩, rfl, rfl, rfl, rfl, rfl, rfl, rfl, trivial⟩ ?_
  rintro ⟨i, c⟩ ⟨h1, h2, h3, h4⟩
  simp only at h1 h2 h3 h4
  repeat' ((conv => whnf); first | refine aB rfl ?_ | refine cK (by kernel_rfl) ?_ | refine And.intro rfl ?_ | refine sY rfl ?_ | refine sN rfl ?_ | refine sM (fun _ => ?_) (fun _ => ?_))
  all_goals (conv => whnf)
  · rename_i h
    have h : (i : Int) < ds.length := decT h
    have hi : i < ds.length := by omega
    have hg := List.getElem?_eq_getElem hi
    have hm := hs2 ds[i] (List.getElem_mem hi)
    rw [List.drop_eq_getElem_cons hi] at h2
    refine IdxG.to i (declCells ds[i]) rfl (by simp [hg]) ?_
    repeat' ((conv => whnf); first | refine aB rfl ?_ | refine cK (by kernel_rfl) ?_ | refine And.intro rfl ?_ | refine sY rfl ?_ | refine sN rfl ?_ | refine sM (fun _ => ?_) (fun _ => ?_))
    all_goals (conv => whnf)
    cases hd : declB c ds[i] with
    | error w =>
      obtain rfl := hR1 w (by rw [← h2]; simp only [declsB, hd])
      refine callM (declBadB hd h3 (by omega) hm.1 hm.2) ⟨rfl, rfl, rfl, rfl, rfl, rfl, trivial⟩ rfl ?_
      conv => whnf
      exact ⟨_, rfl, Or.inl ⟨rfl, rfl⟩⟩
    | ok c' =>
      simp only [declsB, hd] at h2
      obtain ⟨k1, k2⟩ := declB_ok h3 (by omega) hd
      refine callM (declOkB hd h3 (by omega) hm.1 hm.2) ⟨rfl, rfl, rfl, rfl, rfl, rfl, trivial⟩ rfl ?_
      repeat' ((conv => whnf); first | refine aB rfl ?_ | refine cK (by kernel_rfl) ?_ | refine And.intro rfl ?_ | refine sY rfl ?_ | refine sN rfl ?_ | refine sM (fun _ => ?_) (fun _ => ?_))
      all_goals (conv => whnf)
      refine KI.i64 ((i + 1 : Nat) : Int) (by simp) (by omega) ?_
      repeat' ((conv => whnf); first | refine aB rfl ?_ | refine cK (by kernel_rfl) ?_ | refine And.intro rfl ?_ | refine sY rfl ?_ | refine sN rfl ?_ | refine sM (fun _ => ?_) (fun _ => ?_))
      all_goals (conv => whnf)
      refine NextG.to ⟨i + 1, c'⟩ ⟨by simp only; omega, h2, k1, by simp only; omega⟩ (by simp only; omega) ⟨⟨rfl, rfl, rfl, rfl, rfl, rfl, trivial⟩, rfl, rfl, rfl, rfl, rfl, rfl, rfl, trivial⟩
  rename_i h
  have h : ¬ (i : Int) < ds.length := decF h
  have hi : i = ds.length := by omega
  rw [hi, List.drop_length] at h2
  have hq1 : Q1 = .ok c := h2.symm
  have hc1 := h3
  clear h1 h2 h h4
  generalize hQ2 : leftsB c ps = Q2
  refine LoopW.to (ι := NmSt) (fun s => s.i ≤ ps.length ∧ leftsB s.c (ps.drop s.i) = Q2 ∧ BOK s.c) (fun s => ps.length - s.i)
    (fun s => [(0, .ref 1000 0), (3, .ptr (sourceCells ⟨ds, ps⟩)), (4, .ref 4 0), (25, .list 5 (ps.map prodCells)), (26, .v (.int .i64 ps.length)), (27, .v (.int .i64 s.i))]) (fun s => (4, zGram) :: builderM s.c) [] ⟨0, c⟩ ⟨Nat.zero_le _, hQ2, hc1⟩
    ⟨⟨rfl, rfl, rfl, rfl, congrArg (fun k : Nat => D.v (.int .i64 (k : Int))) (prod_len ps), rfl, trivial⟩, rfl, rfl, rfl, rfl, rfl, rfl, rfl, trivial⟩ ?_
  rintro ⟨j, c2⟩ ⟨h1, h2, h3⟩
  simp only at h1 h2 h3
  repeat' ((conv => whnf); first | refine aB rfl ?_ | refine cK (by kernel_rfl) ?_ | refine And.intro rfl ?_ | refine sY rfl ?_ | refine sN rfl ?_ | refine sM (fun _ => ?_) (fun _ => ?_))
  all_goals (conv => whnf)
  · rename_i h
    have h : (j : Int) < ps.length := decT h
    have hi : j < ps.length := by omega
    have hg := List.getElem?_eq_getElem hi
    rw [List.drop_eq_getElem_cons hi] at h2
    refine IdxG.to j (prodCells ps[j]) rfl (by simp [hg]) ?_
    repeat' ((conv => whnf); first | refine aB rfl ?_ | refine cK (by kernel_rfl) ?_ | refine And.intro rfl ?_ | refine sY rfl ?_ | refine sN rfl ?_ | refine sM (fun _ => ?_) (fun _ => ?_))
    all_goals (conv => whnf)
    cases hd : leftB c2 ps[j].left with
    | error w =>
      obtain rfl := hR2 c w hq1 (by rw [hQ2, ← h2]; simp only [leftsB, hd])
      refine callM (leftBad hd h3) ⟨rfl, rfl, rfl, rfl, rfl, rfl, trivial⟩ rfl ?_
      conv => whnf
      exact ⟨_, rfl, Or.inl ⟨rfl, rfl⟩⟩
    | ok c' =>
      simp only [leftsB, hd] at h2
      refine callM (leftOk hd h3) ⟨rfl, rfl, rfl, rfl, rfl, rfl, trivial⟩ rfl ?_
      repeat' ((conv => whnf); first | refine aB rfl ?_ | refine cK (by kernel_rfl) ?_ | refine And.intro rfl ?_ | refine sY rfl ?_ | refine sN rfl ?_ | refine sM (fun _ => ?_) (fun _ => ?_))
      all_goals (conv => whnf)
      refine KI.i64 ((j + 1 : Nat) : Int) (by simp) (by omega) ?_
      repeat' ((conv => whnf); first | refine aB rfl ?_ | refine cK (by kernel_rfl) ?_ | refine And.intro rfl ?_ | refine sY rfl ?_ | refine sN rfl ?_ | refine sM (fun _ => ?_) (fun _ => ?_))
      all_goals (conv => whnf)
      refine NextG.to ⟨j + 1, c'⟩ ⟨by simp only; omega, h2, leftB_ok h3 hd⟩ (by simp only; omega) ⟨⟨rfl, rfl, rfl, rfl, rfl, rfl, trivial⟩, rfl, rfl, rfl, rfl, rfl, rfl, rfl, trivial⟩
  rename_i h
  have h : ¬ (j : Int) < ps.length := decF h
  have hi : j = ps.length := by omega
  rw [hi, List.drop_length] at h2
  have hq2 : leftsB c ps = .ok c2 := hQ2.trans h2.symm
  have hc2 := h3
  clear h1 h2 h hQ2
  generalize hQ3 : prodsB c2 ps = Q3
  refine LoopW.to (ι := NmSt) (fun s => s.i ≤ ps.length ∧ prodsB s.c (ps.drop s.i) = Q3 ∧ BOK s.c) (fun s => ps.length - s.i)
    (fun s => [(0, .ref 1000 0), (4, .ref 4 0), (37, .list 5 (ps.map prodCells)), (38, .v (.int .i64 ps.length)), (39, .v (.int .i64 s.i))]) (fun s => (4, zGram) :: builderM s.c) [] ⟨0, c2⟩ ⟨Nat.zero_le _, hQ3, hc2⟩
    ⟨⟨rfl, rfl, rfl, congrArg (fun k : Nat => D.v (.int .i64 (k : Int))) (prod_len ps), rfl, trivial⟩, rfl, rfl, rfl, rfl, rfl, rfl, rfl, trivial⟩ ?_
  rintro ⟨k, c3⟩ ⟨h1, h2, h3⟩
  simp only at h1 h2 h3
  repeat' ((conv => whnf); first | refine aB rfl ?_ | refine cK (by kernel_rfl) ?_ | refine And.intro rfl ?_ | refine sY rfl ?_ | refine sN rfl ?_ | refine sM (fun _ => ?_) (fun _ => ?_))
  all_goals (conv => whnf)
  · rename_i h
    have h : (k : Int) < ps.length := decT h
    have hi : k < ps.length := by omega
    have hg := List.getElem?_eq_getElem hi
    have hm := hs4 ps[k] (List.getElem_mem hi)
    rw [List.drop_eq_getElem_cons hi] at h2
    refine IdxG.to k (prodCells ps[k]) rfl (by simp [hg]) ?_
    repeat' ((conv => whnf); first | refine aB rfl ?_ | refine cK (by kernel_rfl) ?_ | refine And.intro rfl ?_ | refine sY rfl ?_ | refine sN rfl ?_ | refine sM (fun _ => ?_) (fun _ => ?_))
    all_goals (conv => whnf)
    cases hd : prodB c3 ps[k] with
    | error w =>
      obtain rfl := hR3 c c2 w hq1 hq2 (by rw [hQ3, ← h2]; simp only [prodsB, hd])
      refine callM (prodBad hd h3 hm) ⟨rfl, rfl, rfl, rfl, rfl, rfl, trivial⟩ rfl ?_
      conv => whnf
      exact ⟨_, rfl, Or.inl ⟨rfl, rfl⟩⟩
    | ok c' =>
      simp only [prodsB, hd] at h2
      refine callM (prodOk hd h3 hm) ⟨rfl, rfl, rfl, rfl, rfl, rfl, trivial⟩ rfl ?_
      repeat' ((conv => whnf); first | refine aB rfl ?_ | refine cK (by kernel_rfl) ?_ | refine And.intro rfl ?_ | refine sY rfl ?_ | refine sN rfl ?_ | refine sM (fun _ => ?_) (fun _ => ?_))
      all_goals (conv => whnf)
      refine KI.i64 ((k + 1 : Nat) : Int) (by simp) (by omega) ?_
      repeat' ((conv => whnf); first | refine aB rfl ?_ | refine cK (by kernel_rfl) ?_ | refine And.intro rfl ?_ | refine sY rfl ?_ | refine sN rfl ?_ | refine sM (fun _ => ?_) (fun _ => ?_))
      all_goals (conv => whnf)
      refine NextG.to ⟨k + 1, c'⟩ ⟨by simp only; omega, h2, (prodB_ok h3 hd).1⟩ (by simp only; omega) ⟨⟨rfl, rfl, rfl, rfl, rfl, trivial⟩, rfl, rfl, rfl, rfl, rfl, rfl, rfl, trivial⟩
  rename_i h
  have h : ¬ (k : Int) < ps.length := decF h
  have hi : k = ps.length := by omega
  rw [hi, List.drop_length] at h2
  have hq3 : prodsB c2 ps = .ok c3 := hQ3.trans h2.symm
  have hc3 := h3
  clear h1 h2 h hQ3
  refine ⟨Nat.le_of_eq (ref_len _).symm, ?_⟩
  repeat' ((conv => whnf); first | refine aB rfl ?_ | refine cK (by kernel_rfl) ?_ | refine And.intro rfl ?_ | refine sY rfl ?_ | refine sN rfl ?_ | refine sM (fun _ => ?_) (fun _ => ?_))
  all_goals (conv => whnf)
  generalize hQ4 : startsB c3 c3.starts = Q4
  obtain ⟨d1, d2, d3, d4, d5⟩ := hc3
  have hc3 : BOK c3 := ⟨d1, d2, d3, d4, d5⟩
  refine LoopW.to (ι := SrSt) (fun s => s.i ≤ c3.starts.length ∧ startsB (s.of c3) (c3.starts.drop s.i) = Q4) (fun s => c3.starts.length - s.i)
    (fun s => [(0, .ref 1000 0), (4, .ref 4 0), (50, .row 1005 c3.starts.length), (51, .v (.int .i64 c3.starts.length)), (52, .v (.int .i64 s.i))]) (fun s => (4, zGram) :: builderM (s.of c3)) [] ⟨0, c3.start⟩ ⟨Nat.zero_le _, hQ4⟩
    ⟨⟨rfl, rfl, rfl, rfl, rfl, trivial⟩, rfl, rfl, rfl, rfl, rfl, rfl, rfl, trivial⟩ ?_
  rintro ⟨n, st⟩ ⟨h1, h2⟩
  simp only at h1 h2
  repeat' ((conv => whnf); first | refine aB rfl ?_ | refine cK (by kernel_rfl) ?_ | refine And.intro rfl ?_ | refine sY rfl ?_ | refine sN rfl ?_ | refine sM (fun _ => ?_) (fun _ => ?_))
  all_goals (conv => whnf)
  · rename_i h
    have h : (n : Int) < c3.starts.length := decT h
    have hi : n < c3.starts.length := by omega
    have hg := List.getElem?_eq_getElem hi
    rw [List.drop_eq_getElem_cons hi] at h2
    refine IdxG.to n (refCells c3.starts[n]) rfl (IxT.starts hi) ?_
    repeat' ((conv => whnf); first | refine aB rfl ?_ | refine cK (by kernel_rfl) ?_ | refine And.intro rfl ?_ | refine sY rfl ?_ | refine sN rfl ?_ | refine sM (fun _ => ?_) (fun _ => ?_))
    all_goals (conv => whnf)
    refine callZ (nonsFrz c3 (str c3.starts[n].text) rfl) (strsIndex c3.nons c3.starts[n].text (by omega)) rfl ?_
    repeat' ((conv => whnf); first | refine aB rfl ?_ | refine cK (by kernel_rfl) ?_ | refine And.intro rfl ?_ | refine sY rfl ?_ | refine sN rfl ?_ | refine sM (fun _ => ?_) (fun _ => ?_))
    all_goals (conv => whnf)
    · rename_i hz
      have hz : decide (strIx c3.nons c3.starts[n].text < 0) = true := hz
      obtain rfl := hR4 c c2 c3 (c3.starts[n].at', 8) hq1 hq2 hq3 (by rw [hQ4, ← h2]; exact startsB_bad (b := (SrSt.mk n st).of c3) hz)
      refine call0 (cfgRefuse c3.starts[n] 8) ?_
      conv => whnf
      exact ⟨_, rfl, Or.inl ⟨rfl, rfl⟩⟩
    · rename_i hz
      have hz : decide (strIx c3.nons c3.starts[n].text < 0) = false := hz
      have h2 : startsB ((SrSt.mk (n + 1) (strIx c3.nons c3.starts[n].text)).of c3) (c3.starts.drop (n + 1)) = Q4 := by rw [← h2]; exact (startsB_go (b := (SrSt.mk n st).of c3) hz).symm
      refine KI.i64 ((n + 1 : Nat) : Int) (by simp) (by omega) ?_
      repeat' ((conv => whnf); first | refine aB rfl ?_ | refine cK (by kernel_rfl) ?_ | refine And.intro rfl ?_ | refine sY rfl ?_ | refine sN rfl ?_ | refine sM (fun _ => ?_) (fun _ => ?_))
      all_goals (conv => whnf)
      refine NextG.to ⟨n + 1, strIx c3.nons c3.starts[n].text⟩ ⟨by simp only; omega, h2⟩ (by simp only; omega) ⟨⟨rfl, rfl, rfl, rfl, rfl, trivial⟩, rfl, rfl, rfl, rfl, rfl, rfl, rfl, trivial⟩
  rename_i h
  have h : ¬ (n : Int) < c3.starts.length := decF h
  have hi : n = c3.starts.length := by omega
  rw [hi, List.drop_length] at h2
  have hq4 : startsB c3 c3.starts = .ok ((SrSt.mk n st).of c3) := hQ4.trans h2.symm
  have hRe := hR5 c c2 c3 _ hq1 hq2 hq3 hq4
  refine ⟨Nat.le_of_eq (rules_len _).symm, ?_⟩
  repeat' ((conv => whnf); first | refine aB rfl ?_ | refine cK (by kernel_rfl) ?_ | refine And.intro rfl ?_ | refine sY rfl ?_ | refine sN rfl ?_ | refine sM (fun _ => ?_) (fun _ => ?_))
  all_goals (conv => whnf)
  · rename_i hz
    have hz : (c3.rules.length : Int) = 0 := decT hz
    have hz : decide (c3.rules.length = 0) = true := decide_eq_true (by omega)
    obtain rfl : R = .error (none, 8) := by rw [hRe]; exact endB_bad (b := (SrSt.mk n st).of c3) hz
    refine call0 (cfgRefuse ⟨[], none⟩ 8) ?_
    conv => whnf
    exact ⟨_, rfl, Or.inl ⟨rfl, rfl⟩⟩
  · rename_i hz
    have hz : ¬ (c3.rules.length : Int) = 0 := decF hz
    have hz : decide (c3.rules.length = 0) = false := decide_eq_false (by omega)
    obtain rfl : R = .ok ((SrSt.mk n st).of c3) := by rw [hRe]; exact endB_go (b := (SrSt.mk n st).of c3) hz
    repeat' ((conv => whnf); first | refine aB rfl ?_ | refine sY rfl ?_ | refine sN rfl ?_ | refine sM (fun _ => ?_) (fun _ => ?_))
    all_goals (conv => whnf)
    repeat' ((conv => whnf); first | exact trivial | refine aB rfl ?_ | refine sY rfl ?_ | refine sN rfl ?_ | refine sM (fun _ => ?_) (fun _ => ?_) | refine cK (by kernel_rfl) ?_ | refine And.intro ?_ ?_ | exact Or.inl ⟨rfl, rfl⟩ | exact rfl)
    all_goals (conv => whnf)
end Tryz
end Go.Dm
namespace Go.Dm
/-! ### A contract's objects in another order -/
theorem ownOf_same {E : Env} {pre pre' : Mem} (hg : get pre = get pre') (hm : ∀ p, p ∈ pre ↔ p ∈ pre') : ownOf E (get pre) pre = ownOf E (get pre') pre' := by
  funext b
  unfold ownOf
  rw [hg]
  apply propext
  constructor
  · rintro ⟨p, h1, h2⟩; exact ⟨p, (hm p).1 h1, h2⟩
  · rintro ⟨p, h1, h2⟩; exact ⟨p, (hm p).2 h1, h2⟩
theorem PCall.same {P : Program} {f : FuncId} {pre pre' : Mem} {ds : List D} {out : Out} (h : PCall P f pre ds out) (hg : get pre = get pre') (hm : ∀ p, p ∈ pre ↔ p ∈ pre') : PCall P f pre' ds out := by
  refine ⟨h.1, fun E w vs hi hnew hr => ?_⟩
  have hc := h.2 E w vs (by rw [hg]; exact hi) (fun j hj => hnew j (by cases out <;> simpa only [isNew, hg] using hj)) hr
  refine Calls.mono hc fun e w' he => ?_
  cases out with
  | ret d post => simpa only [CallPost, hg] using he
  | pan d => simpa only [CallPost, ownOf_same (E := E) hg hm] using he
theorem get_comm (a b : Nat × Ob) (M : Mem) (hne : a.1 ≠ b.1) : ∀ p : Mem, get (p ++ a :: b :: M) = get (p ++ b :: a :: M)
  | [] => by
    funext k
    obtain ⟨i, x⟩ := a
    obtain ⟨j, y⟩ := b
    simp only at hne
    simp only [List.nil_append, get_cons]
    by_cases h1 : i = k
    · have : j ≠ k := fun e => hne (h1.trans e.symm)
      rw [if_pos h1, if_neg this, if_pos h1]
    · by_cases h2 : j = k
      · rw [if_neg h1, if_pos h2, if_pos h2]
      · rw [if_neg h1, if_neg h2, if_neg h2, if_neg h1]
  | c :: p => by
    funext k
    obtain ⟨i, x⟩ := c
    simp only [List.cons_append, get_cons, get_comm a b M hne p]
theorem PCall.comm {P : Program} {f : FuncId} {a b : Nat × Ob} {M : Mem} {ds : List D} {out : Out} (p : Mem) (hne : a.1 ≠ b.1) (h : PCall P f (p ++ a :: b :: M) ds out) : PCall P f (p ++ b :: a :: M) ds out :=
  h.same (get_comm a b M hne p) fun q => by
    simp only [List.mem_append, List.mem_cons]
    exact or_congr Iff.rfl ⟨fun h => h.elim (.inr ∘ .inl) (·.elim .inl (.inr ∘ .inr)), fun h => h.elim (.inr ∘ .inl) (·.elim .inl (.inr ∘ .inr))⟩
end Go.Dm
namespace Go.Dm
/-! ### cfg: of a source -/
def b0 : BS := ⟨[], [], [], 0, [], [], 0⟩
def gramOf (b : BS) : GramS := ⟨b.terms, b.nons, b.rules, b.start⟩
def buildS (s : SourceS) : Except Wr GramS := match gramB b0 s with
  | .error w => .error w
  | .ok b => .ok (gramOf b)
theorem b0_ok : BOK b0 := ⟨Nat.zero_le _, Nat.zero_le _, Nat.zero_le _, Nat.zero_le _, Nat.zero_le _⟩
def zGramD : D := .agg [nilD, nilD, nilD, .v (.int .i64 0)]
def buildD (r : Except Wr GramS) : D := outT gramD zGramD r
namespace Tryz
open Go.Proofs
theorem buildClosure (w : Wr) : DCall Tryz.prog 69 (some (cWr w)) [(1006, .cells [.v (.int .i64 0)]), (1005, .cells [.v noPl]), (1004, .cells [nilD, nilD, nilD, .v (.int .i64 0)])] [.ref 1004 0, .ref 1005 0, .ref 1006 0]
    [(1006, .cells [.v (.int .i64 w.2)]), (1005, .cells [.v (plO w.1)]), (1004, .cells [nilD, nilD, nilD, .v (.int .i64 0)])] := by
  refine dcall_of (news := [4]) cxOK Tryz.func69 rfl Tryz.ntmps69 rfl rfl rfl rfl rfl (by decide) ?_
  repeat' ((conv => whnf); first | refine aB rfl ?_ | refine sY rfl ?_ | refine sN rfl ?_ | refine sM (fun _ => ?_) (fun _ => ?_))
  all_goals (conv => whnf)
  refine BinG.to (.v (.bool true)) (bs_ifaceNe Tryz.underlying20) ?_
  repeat' ((conv => whnf); first | refine aB rfl ?_ | refine sY rfl ?_ | refine sN rfl ?_ | refine sM (fun _ => ?_) (fun _ => ?_))
  all_goals (conv => whnf)
  refine ⟨rfl, ?_⟩
  repeat' ((conv => whnf); first | exact trivial | refine aB rfl ?_ | refine sY rfl ?_ | refine sN rfl ?_ | refine sM (fun _ => ?_) (fun _ => ?_) | refine cK (by kernel_rfl) ?_ | refine And.intro ?_ ?_ | exact Or.inl ⟨rfl, rfl⟩ | exact rfl)
  all_goals (conv => whnf)
def gramM (b : BS) : Mem := [(1001, .mrow 50 3 b.terms.length (termsD b.terms)), (1002, .row 9 1 (strsD b.nons)), (1003, .row 48 3 (rulesD b.rules))]
theorem buildClosure0 (b : BS) : DCall Tryz.prog 69 none ((1006, .cells [.v (.int .i64 0)]) :: (1005, .cells [.v noPl]) :: (1004, .cells [.row 1001 b.terms.length, .row 1002 b.nons.length, .row 1003 b.rules.length, .v (.int .i64 b.start)]) :: gramM b) [.ref 1004 0, .ref 1005 0, .ref 1006 0]
    ((1006, .cells [.v (.int .i64 0)]) :: (1005, .cells [.v noPl]) :: (1004, .cells [.row 1001 b.terms.length, .row 1002 b.nons.length, .row 1003 b.rules.length, .v (.int .i64 b.start)]) :: gramM b) := by
  refine dcall_of (news := [4]) cxOK Tryz.func69 rfl Tryz.ntmps69 rfl rfl rfl rfl rfl (by decide) ?_
  repeat' ((conv => whnf); first | refine aB rfl ?_ | refine sY rfl ?_ | refine sN rfl ?_ | refine sM (fun _ => ?_) (fun _ => ?_))
  all_goals (conv => whnf)
  refine BinG.to (.v (.bool false)) (bs_nilNe Tryz.underlying20) ?_
  repeat' ((conv => whnf); first | exact trivial | refine aB rfl ?_ | refine sY rfl ?_ | refine sN rfl ?_ | refine sM (fun _ => ?_) (fun _ => ?_) | refine cK (by kernel_rfl) ?_ | refine And.intro ?_ ?_ | exact Or.inl ⟨rfl, rfl⟩ | exact rfl)
  all_goals (conv => whnf)
/-- The builder as it begins: nothing in it yet. -/
def begM : Mem := [(1000, .cells [nilD, nilD, nilD, .v (.int .i64 0), .mp 1004, nilD, .v (.int .i64 0)]), (1004, .mp [])]
theorem ghostOK0 {k : Nat} {s : SourceS} (hk : k = 1001 ∨ k = 1002 ∨ k = 1003 ∨ k = 1005) : GhostOK k 1000 (exO cWr (fun p => .ret (gramR p) (builderM p)) (gramB b0 s)) := by
  cases gramB b0 s with
  | ok p => rcases hk with rfl | rfl | rfl | rfl <;> exact ⟨by simp [builderM], by simp [builderM]⟩
  | error w => rfl
theorem builderGrammar0 (s : SourceS) (hs : SourceOK s) : PCall Tryz.prog 70 begM [.ref 1000 0, .agg (sourceCells s)] (exO cWr (fun p => .ret (gramR p) (builderM p)) (gramB b0 s)) := by
  have h := builderGrammar b0 s b0_ok (by have := hs.1; simp only [b0]; omega) hs
  have h1 := PCall.comm [] (by decide) h
  have h1 := PCall.ghost (ds := [nilD, .row 1002 0, .row 1003 0, .v (.int .i64 0), .mp 1004, .row 1005 0, .v (.int .i64 0)]) 1001 1000 0 h1 (.inr ⟨_, _, rfl⟩) rfl rfl rfl (ghostOK0 (.inl rfl))
  have h1 := PCall.comm [] (by decide) h1
  have h1 := PCall.ghost (ds := [nilD, nilD, .row 1003 0, .v (.int .i64 0), .mp 1004, .row 1005 0, .v (.int .i64 0)]) 1002 1000 1 h1 (.inl ⟨_, _, rfl⟩) rfl rfl rfl (ghostOK0 (.inr (.inl rfl)))
  have h1 := PCall.comm [] (by decide) h1
  have h1 := PCall.ghost (ds := [nilD, nilD, nilD, .v (.int .i64 0), .mp 1004, .row 1005 0, .v (.int .i64 0)]) 1003 1000 2 h1 (.inl ⟨_, _, rfl⟩) rfl rfl rfl (ghostOK0 (.inr (.inr (.inl rfl))))
  have h1 := PCall.comm [_] (by decide) h1
  have h1 := PCall.comm [] (by decide) h1
  have h1 := PCall.ghost (ds := [nilD, nilD, nilD, .v (.int .i64 0), .mp 1004, nilD, .v (.int .i64 0)]) 1005 1000 5 h1 (.inl ⟨_, _, rfl⟩) rfl rfl rfl (ghostOK0 (.inr (.inr (.inr rfl))))
  exact h1
set_option maxHeartbeats 4000000 in
theorem cfgBuild (s : SourceS) (hs : SourceOK s) : PCall Tryz.prog 40 [] [.agg (sourceCells s)] (.ret (buildD (buildS s)) []) := by
  have hg := builderGrammar0 s hs
  refine pcall_defer (news := [2, 3, 4, 7, 9]) cxOK Tryz.func40 rfl Tryz.ntmps40 rfl rfl rfl rfl (by decide) ?_
  repeat' ((conv => whnf); first | refine aB rfl ?_ | refine sY rfl ?_ | refine sN rfl ?_ | refine sM (fun _ => ?_) (fun _ => ?_))
  all_goals (conv => whnf)
  cases h : gramB b0 s with
  | error w =>
    rw [h] at hg
    rw [show buildS s = .error w from by simp only [buildS, h]]
    refine callM ((((((hg.swap 1000 9).swap 1004 7).swap 1001 21).swap 1002 22).swap 1003 23).swap 1005 25) ⟨rfl, rfl, trivial⟩ rfl ?_
    conv => whnf
    refine ⟨rfl, DefEnd.to ((((buildClosure w).swap 1006 4).swap 1005 3).swap 1004 2) rfl ⟨rfl, rfl, rfl, trivial⟩ ?_⟩
    repeat' ((conv => whnf); first | exact trivial | refine aB rfl ?_ | refine sY rfl ?_ | refine sN rfl ?_ | refine sM (fun _ => ?_) (fun _ => ?_) | refine cK (by kernel_rfl) ?_ | refine And.intro ?_ ?_ | exact Or.inl ⟨rfl, rfl⟩ | exact rfl)
    all_goals (conv => whnf)
  | ok b =>
    rw [h] at hg
    rw [show buildS s = .ok (gramOf b) from by simp only [buildS, h]]
    refine callM ((((((hg.swap 1000 9).swap 1004 7).swap 1001 21).swap 1002 22).swap 1003 23).swap 1005 25) ⟨rfl, rfl, trivial⟩ rfl ?_
    repeat' ((conv => whnf); first | refine aB rfl ?_ | refine cK (by kernel_rfl) ?_ | refine And.intro rfl ?_ | refine sY rfl ?_ | refine sN rfl ?_ | refine sM (fun _ => ?_) (fun _ => ?_))
    all_goals (conv => whnf)
    refine DefEnd.to ((((((buildClosure0 b).swap 1006 4).swap 1005 3).swap 1004 2).swap 1001 21).swap 1002 22 |>.swap 1003 23) rfl ⟨rfl, rfl, rfl, rfl, rfl, rfl, trivial⟩ ?_
    repeat' ((conv => whnf); first | refine aB rfl ?_ | refine sY rfl ?_ | refine sN rfl ?_ | refine sM (fun _ => ?_) (fun _ => ?_))
    all_goals (conv => whnf)
    refine ⟨Or.inr (Or.inr ⟨_, FrzTo.agg (.cons (.mrow rfl rfl) (.cons (.row rfl (take_map_all _ _)) (.cons (.row rfl (take_map_all _ _)) (.cons .v .nil)))), rfl⟩), ?_⟩
    repeat' ((conv => whnf); first | exact trivial | refine aB rfl ?_ | refine sY rfl ?_ | refine sN rfl ?_ | refine sM (fun _ => ?_) (fun _ => ?_) | refine cK (by kernel_rfl) ?_ | refine And.intro ?_ ?_ | exact Or.inl ⟨rfl, rfl⟩ | exact rfl)
    all_goals (conv => whnf)
end Tryz
end Go.Dm
namespace Go.Dm
/-! ### cfg: of a text -/
def readS (b : List UInt8) : Except Wr GramS := match parseS b with
  | .error w => .error w
  | .ok s => buildS s
def DeclOK (d : DeclS) : Prop := (3 ≤ d.kind ∧ d.kind ≤ 7) ∧ d.names.length ≤ 4000
theorem declS_ok {l : List TokP} {e : Nat × Nat} {p : DeclS × List TokP} (hl : l.length ≤ 4000) (h : declS l e = .ok p) : DeclOK p.1 := by
  have h0 := (declS_len h).2
  have hk : 3 ≤ kindS l ∧ kindS l ≤ 7 := by
    unfold declS at h
    cases l with
    | nil => simp [takeS] at h
    | cons t r =>
      simp only [takeS] at h
      split at h
      · cases h
      · rename_i hx
        split at hx
        · rename_i hc
          simp at hc
          simp only [kindS]
          omega
        · cases hx
  refine ⟨?_, by omega⟩
  unfold declS at h
  cases ht : takeS l e [3, 4, 5, 6, 7] with
  | error w => rw [ht] at h; cases h
  | ok a =>
    rw [ht] at h
    simp only at h
    split at h
    · cases hq : takeS a.2 e [1] with
      | error w => rw [hq] at h; cases h
      | ok q => rw [hq] at h; injection h with h; subst h; exact hk
    · cases hq : takeS a.2 e [1, 2] with
      | error w => rw [hq] at h; cases h
      | ok q => rw [hq] at h; injection h with h; subst h; exact hk
theorem declsGo_ok : ∀ (n : Nat) (l : List TokP) (e : Nat × Nat) (acc : List DeclS) {p : List DeclS × List TokP}, l.length ≤ 4000 → (∀ d ∈ acc, DeclOK d) → declsGo n l e acc = .ok p → (∀ d ∈ p.1, DeclOK d) ∧ p.1.length + p.2.length ≤ acc.length + l.length
  | 0, l, e, acc, p, hl, ha, h => by injection h with h; subst h; exact ⟨ha, Nat.le_refl _⟩
  | n + 1, l, e, acc, p, hl, ha, h => by
    simp only [declsGo] at h
    split at h
    · injection h with h; subst h; exact ⟨ha, Nat.le_refl _⟩
    · cases hd : declS l e with
      | error w => rw [hd] at h; cases h
      | ok q =>
        rw [hd] at h
        have h1 := declS_len hd
        have h2 := declS_ok hl hd
        obtain ⟨h3, h4⟩ := declsGo_ok n q.2 e _ (by omega) (fun d hm => by
          rcases List.mem_append.1 hm with hm | hm
          · exact ha d hm
          · rw [List.mem_singleton.1 hm]; exact h2) h
        refine ⟨h3, ?_⟩
        simp only [List.length_append, List.length_cons, List.length_nil] at h4
        omega
def ProdOK (p : ProdS) : Prop := p.right.length ≤ 4000
theorem groupGo_ok : ∀ (n : Nat) (left : RefS) (l : List TokP) (e : Nat × Nat) (acc : List ProdS) {p : List ProdS × List TokP}, l.length ≤ 4000 → (∀ d ∈ acc, ProdOK d) → groupGo n left l e acc = .ok p → ∀ d ∈ p.1, ProdOK d
  | 0, _, l, e, acc, p, hl, ha, h => by injection h with h; subst h; exact ha
  | n + 1, left, l, e, acc, p, hl, ha, h => by
    have hr := refsS_len l
    have hx : ∀ q : RefS, ∀ d ∈ acc ++ [⟨left, (refsS l).1, q⟩], ProdOK d := fun q d hm => by
      rcases List.mem_append.1 hm with hm | hm
      · exact ha d hm
      · rw [List.mem_singleton.1 hm]; unfold ProdOK; simp only; omega
    simp only [groupGo] at h
    cases hp : precS (refsS l).2 e with
    | error w => rw [hp] at h; cases h
    | ok q =>
      rw [hp] at h
      have h1 := precS_len hp
      simp only at h
      split at h
      · cases hq : takeS q.2 e [11] with
        | error w => rw [hq] at h; cases h
        | ok r =>
          rw [hq] at h
          have := takeS_len hq
          exact groupGo_ok n left r.2 e _ (by omega) (hx _) h
      · cases hq : takeS q.2 e [12] with
        | error w => rw [hq] at h; cases h
        | ok r => rw [hq] at h; injection h with h; subst h; exact hx _
theorem groupS_ok {l : List TokP} {e : Nat × Nat} {p : List ProdS × List TokP} (hl : l.length ≤ 4000) (h : groupS l e = .ok p) : ∀ d ∈ p.1, ProdOK d := by
  unfold groupS at h
  cases ht : takeS l e [1] with
  | error w => rw [ht] at h; cases h
  | ok a =>
    have h1 := takeS_len ht
    rw [ht] at h
    simp only at h
    cases hq : takeS a.2 e [10] with
    | error w => rw [hq] at h; cases h
    | ok q =>
      have h2 := takeS_len hq
      rw [hq] at h
      exact groupGo_ok _ _ _ _ _ (by omega) (by simp) h
theorem groupsGo_ok : ∀ (n : Nat) (l : List TokP) (e : Nat × Nat) (acc : List ProdS) {p : List ProdS × List TokP}, l.length ≤ 4000 → (∀ d ∈ acc, ProdOK d) → groupsGo n l e acc = .ok p → (∀ d ∈ p.1, ProdOK d) ∧ p.1.length + p.2.length ≤ acc.length + l.length
  | 0, l, e, acc, p, hl, ha, h => by injection h with h; subst h; exact ⟨ha, Nat.le_refl _⟩
  | n + 1, l, e, acc, p, hl, ha, h => by
    simp only [groupsGo] at h
    split at h
    · injection h with h; subst h; exact ⟨ha, Nat.le_refl _⟩
    · cases hd : groupS l e with
      | error w => rw [hd] at h; cases h
      | ok q =>
        rw [hd] at h
        have h1 := groupS_len hd
        have h2 := groupS_ok hl hd
        obtain ⟨h3, h4⟩ := groupsGo_ok n q.2 e _ (by omega) (fun d hm => by
          rcases List.mem_append.1 hm with hm | hm
          · exact ha d hm
          · exact h2 d hm) h
        refine ⟨h3, ?_⟩
        simp only [List.length_append] at h4
        omega
theorem sourceS_ok {l : List TokP} {e : Nat × Nat} {p : SourceS × List TokP} (hl : l.length ≤ 4000) (h : sourceS l e = .ok p) : SourceOK p.1 := by
  unfold sourceS at h
  cases hd : declsGo (l.length + 1) l e [] with
  | error w => rw [hd] at h; cases h
  | ok a =>
    obtain ⟨a1, a2⟩ := declsGo_ok _ _ _ _ hl (by simp) hd
    rw [hd] at h
    simp only [List.length_nil] at a2 h
    cases ht : takeS a.2 e [9] with
    | error w => rw [ht] at h; cases h
    | ok q =>
      have t1 := takeS_len ht
      rw [ht] at h
      simp only at h
      cases hg : groupS q.2 e with
      | error w => rw [hg] at h; cases h
      | ok g =>
        have g1 := groupS_len hg
        have g2 := groupS_ok (by omega) hg
        rw [hg] at h
        simp only at h
        cases hh : groupsGo (g.2.length + 1) g.2 e g.1 with
        | error w => rw [hh] at h; cases h
        | ok k =>
          obtain ⟨k1, k2⟩ := groupsGo_ok _ _ _ _ (by omega) g2 hh
          rw [hh] at h
          simp only at h
          cases hl : lastS k.2 e with
          | error w => rw [hl] at h; cases h
          | ok z =>
            rw [hl] at h
            injection h with h; subst h
            exact ⟨by simp only; omega, a1, by simp only; omega, k1⟩
theorem ofS_ok {l : List TokP} {e : Nat × Nat} {s : SourceS} (hl : l.length ≤ 4000) (h : ofS l e = .ok s) : SourceOK s := by
  unfold ofS at h
  cases hs : sourceS l e with
  | error w => rw [hs] at h; cases h
  | ok p => rw [hs] at h; injection h with h; subst h; exact sourceS_ok hl hs
def NZ {α : Type} : Except Wr α → Prop
  | .error w => w.2 ≠ 0
  | .ok _ => True
theorem takeS_nz (l : List TokP) (e : Nat × Nat) (ks : List Int) : NZ (takeS l e ks) := by
  cases l with
  | nil => simp [takeS, NZ]
  | cons t r => simp only [takeS]; split <;> simp [NZ]
theorem declS_nz (l : List TokP) (e : Nat × Nat) : NZ (declS l e) := by
  unfold declS
  have h := takeS_nz l e [3, 4, 5, 6, 7]
  cases ht : takeS l e [3, 4, 5, 6, 7] with
  | error w => rw [ht] at h; exact h
  | ok a =>
    simp only
    split
    · have h := takeS_nz a.2 e [1]
      cases hq : takeS a.2 e [1] with
      | error w => rw [hq] at h; exact h
      | ok q => trivial
    · have h := takeS_nz a.2 e [1, 2]
      cases hq : takeS a.2 e [1, 2] with
      | error w => rw [hq] at h; exact h
      | ok q => trivial
theorem precS_nz (l : List TokP) (e : Nat × Nat) : NZ (precS l e) := by
  unfold precS
  split
  · have h := takeS_nz l e [8]
    cases hq : takeS l e [8] with
    | error w => rw [hq] at h; exact h
    | ok q => exact takeS_nz _ _ _
  · trivial
theorem groupGo_nz : ∀ (n : Nat) (left : RefS) (l : List TokP) (e : Nat × Nat) (acc : List ProdS), NZ (groupGo n left l e acc)
  | 0, _, _, _, _ => trivial
  | n + 1, left, l, e, acc => by
    simp only [groupGo]
    have h := precS_nz (refsS l).2 e
    cases hp : precS (refsS l).2 e with
    | error w => rw [hp] at h; exact h
    | ok q =>
      simp only
      split
      · have h := takeS_nz q.2 e [11]
        cases hq : takeS q.2 e [11] with
        | error w => rw [hq] at h; exact h
        | ok r => exact groupGo_nz _ _ _ _ _
      · have h := takeS_nz q.2 e [12]
        cases hq : takeS q.2 e [12] with
        | error w => rw [hq] at h; exact h
        | ok r => trivial
theorem groupS_nz (l : List TokP) (e : Nat × Nat) : NZ (groupS l e) := by
  unfold groupS
  have h := takeS_nz l e [1]
  cases ht : takeS l e [1] with
  | error w => rw [ht] at h; exact h
  | ok a =>
    simp only
    have h := takeS_nz a.2 e [10]
    cases hq : takeS a.2 e [10] with
    | error w => rw [hq] at h; exact h
    | ok q => exact groupGo_nz _ _ _ _ _
theorem declsGo_nz : ∀ (n : Nat) (l : List TokP) (e : Nat × Nat) (acc : List DeclS), NZ (declsGo n l e acc)
  | 0, _, _, _ => trivial
  | n + 1, l, e, acc => by
    simp only [declsGo]
    split
    · trivial
    · have h := declS_nz l e
      cases hd : declS l e with
      | error w => rw [hd] at h; exact h
      | ok q => exact declsGo_nz _ _ _ _
theorem groupsGo_nz : ∀ (n : Nat) (l : List TokP) (e : Nat × Nat) (acc : List ProdS), NZ (groupsGo n l e acc)
  | 0, _, _, _ => trivial
  | n + 1, l, e, acc => by
    simp only [groupsGo]
    split
    · trivial
    · have h := groupS_nz l e
      cases hd : groupS l e with
      | error w => rw [hd] at h; exact h
      | ok q => exact groupsGo_nz _ _ _ _
theorem lastS_nz (l : List TokP) (e : Nat × Nat) : NZ (lastS l e) := by
  unfold lastS endS
  split
  · rename_i w hw
    split at hw
    · have h := takeS_nz l e [9]
      cases hq : takeS l e [9] with
      | error w => rw [hq] at h hw; injection hw with hw; subst hw; exact h
      | ok q => rw [hq] at hw; cases hw
    · cases hw
  · split
    · trivial
    · rename_i t r _
      have h := takeS_nz (t :: r) e []
      cases hq : takeS (t :: r) e [] with
      | error w => rw [hq] at h; exact h
      | ok q => trivial
theorem sourceS_nz (l : List TokP) (e : Nat × Nat) : NZ (sourceS l e) := by
  unfold sourceS
  have h := declsGo_nz (l.length + 1) l e []
  cases hd : declsGo (l.length + 1) l e [] with
  | error w => rw [hd] at h; exact h
  | ok a =>
    simp only
    have h := takeS_nz a.2 e [9]
    cases ht : takeS a.2 e [9] with
    | error w => rw [ht] at h; exact h
    | ok q =>
      simp only
      have h := groupS_nz q.2 e
      cases hg : groupS q.2 e with
      | error w => rw [hg] at h; exact h
      | ok g =>
        simp only
        have h := groupsGo_nz (g.2.length + 1) g.2 e g.1
        cases hh : groupsGo (g.2.length + 1) g.2 e g.1 with
        | error w => rw [hh] at h; exact h
        | ok k =>
          simp only
          have h := lastS_nz k.2 e
          cases hl : lastS k.2 e with
          | error w => rw [hl] at h; exact h
          | ok z => trivial
theorem ofS_nz (l : List TokP) (e : Nat × Nat) : NZ (ofS l e) := by
  unfold ofS
  have h := sourceS_nz l e
  cases hs : sourceS l e with
  | error w => rw [hs] at h; exact h
  | ok p => trivial
namespace Tryz
open Go.Proofs
theorem parseS_nz (b : List UInt8) : NZ (parseS b) := by
  rcases tokensS_e b with ⟨l, p, ht⟩ | ⟨p, e, he, ht⟩
  · rw [show parseS b = ofS l p from by simp only [parseS, ht]]
    exact ofS_nz _ _
  · rw [show parseS b = .error (p, e) from by simp only [parseS, ht]]
    exact he
theorem parseS_ok {b : List UInt8} {s : SourceS} (h : parseS b = .ok s) : SourceOK s := by
  rcases tokensS_e b with ⟨l, p, ht⟩ | ⟨p, e, he, ht⟩
  · rw [show parseS b = ofS l p from by simp only [parseS, ht]] at h
    exact ofS_ok (tokensS_len (b := b) (l := l) (by rw [ht])) h
  · have hp : parseS b = .error (p, e) := by simp only [parseS, ht]
    rw [hp] at h; cases h
theorem cfgRead (b : List UInt8) : PCall Tryz.prog 17 [] [.list 1 (byD b)] (.ret (buildD (readS b)) []) := by
  have hp := yaccParse b
  cases h : parseS b with
  | error w =>
    have hz : w.2 ≠ 0 := by have := parseS_nz b; rwa [h] at this
    rw [h] at hp
    rw [show readS b = .error w from by simp only [readS, h]]
    refine pcall_of (news := [2, 5]) cxOK Tryz.func17 rfl Tryz.ntmps17 rfl rfl rfl (by decide) ?_
    repeat' ((conv => whnf); first | refine aB rfl ?_ | refine sY rfl ?_ | refine sN rfl ?_ | refine sM (fun _ => ?_) (fun _ => ?_))
    all_goals (conv => whnf)
    refine call0 hp ?_
    repeat' ((conv => whnf); first | refine aB rfl ?_ | refine cK (by kernel_rfl) ?_ | refine And.intro rfl ?_ | refine sY rfl ?_ | refine sN rfl ?_ | refine sM (fun _ => ?_) (fun _ => ?_))
    all_goals (conv => whnf)
    · repeat' ((conv => whnf); first | exact trivial | refine aB rfl ?_ | refine sY rfl ?_ | refine sN rfl ?_ | refine sM (fun _ => ?_) (fun _ => ?_) | refine cK (by kernel_rfl) ?_ | refine And.intro ?_ ?_ | exact Or.inl ⟨rfl, rfl⟩ | exact rfl)
      all_goals (conv => whnf)
    · rename_i h
      have := notF h
      simp at this
      exact absurd this hz
  | ok s =>
    have hb := cfgBuild s (parseS_ok h)
    rw [h] at hp
    rw [show readS b = buildS s from by simp only [readS, h]]
    generalize buildS s = R at *
    refine pcall_of (news := [2, 5]) cxOK Tryz.func17 rfl Tryz.ntmps17 rfl rfl rfl (by decide) ?_
    repeat' ((conv => whnf); first | refine aB rfl ?_ | refine sY rfl ?_ | refine sN rfl ?_ | refine sM (fun _ => ?_) (fun _ => ?_))
    all_goals (conv => whnf)
    refine call0 hp ?_
    repeat' ((conv => whnf); first | refine aB rfl ?_ | refine cK (by kernel_rfl) ?_ | refine And.intro rfl ?_ | refine sY rfl ?_ | refine sN rfl ?_ | refine sM (fun _ => ?_) (fun _ => ?_))
    all_goals (conv => whnf)
    refine call0 hb ?_
    cases R with
    | ok g =>
      repeat' ((conv => whnf); first | exact trivial | refine aB rfl ?_ | refine sY rfl ?_ | refine sN rfl ?_ | refine sM (fun _ => ?_) (fun _ => ?_) | refine cK (by kernel_rfl) ?_ | refine And.intro ?_ ?_ | exact Or.inl ⟨rfl, rfl⟩ | exact rfl)
      all_goals (conv => whnf)
    | error w =>
      repeat' ((conv => whnf); first | exact trivial | refine aB rfl ?_ | refine sY rfl ?_ | refine sN rfl ?_ | refine sM (fun _ => ?_) (fun _ => ?_) | refine cK (by kernel_rfl) ?_ | refine And.intro ?_ ?_ | exact Or.inl ⟨rfl, rfl⟩ | exact rfl)
      all_goals (conv => whnf)
end Tryz
end Go.Dm
namespace Go.Dm
/-! ### cfg and its reference: Has, Name, Find, Great -/
def greatS (g : GramS) : Bool := decide (g.terms.length > 40) || decide (g.nons.length > 40) || decide (g.rules.length > 60) || g.rules.any fun r => decide (r.right.length > 20)
/-- The size that a caller's grammar has. -/
def Sized (g : GramS) : Prop := i64 g.terms.length ∧ i64 g.nons.length ∧ i64 g.rules.length ∧ i64 g.start ∧ (∀ t ∈ g.terms, i64 t.level ∧ i64 t.assoc ∧ i64 t.name.length) ∧ (∀ r ∈ g.rules, i64 r.left ∧ i64 r.prec ∧ i64 r.right.length ∧ ∀ s ∈ r.right, i64 s) ∧ ∀ n ∈ g.nons, i64 n.length
namespace Tryz
open Go.Proofs
theorem refHas (g : GramS) (s : Int) (h : i64 s) : PCall Tryz.prog 10 [] [gramD g, .v (.int .i64 s)] (.ret (.v (.bool (hasS g s))) []) := by
  refine pcall_of (news := []) cxOK Tryz.func10 rfl Tryz.ntmps10 rfl rfl rfl (by decide) ?_
  repeat' ((conv => whnf); first | refine aB rfl ?_ | refine sY rfl ?_ | refine sN rfl ?_ | refine sM (fun _ => ?_) (fun _ => ?_))
  all_goals (conv => whnf)
  · rename_i hs
    have hs := decT hs
    have hs : decide (s < 0) = false := decide_eq_false (by omega)
    have : hasS g s = decide (s < ((termsD g.terms).length : Int)) := by simp only [hasS, hs, terms_len]
    rw [this]
  · rename_i hs
    have hs := decF hs
    have hs' : decide (s < 0) = true := decide_eq_true (by omega)
    have : hasS g s = decide (-1 - s < ((strsD g.nons).length : Int)) := by simp only [hasS, hs', strs_len]
    rw [this]
    refine KI.i64 (-1 - s) rfl (by unfold i64 at h; omega) ?_
    repeat' ((conv => whnf); first | exact trivial | refine aB rfl ?_ | refine sY rfl ?_ | refine sN rfl ?_ | refine sM (fun _ => ?_) (fun _ => ?_) | refine cK (by kernel_rfl) ?_ | refine And.intro ?_ ?_ | exact Or.inl ⟨rfl, rfl⟩ | exact rfl)
    all_goals (conv => whnf)
theorem nameOf_no {g : GramS} {s : Int} (h : hasS g s = false) : nameOf g s = [] := by simp only [nameOf, h]
theorem nameOf_non {g : GramS} {s : Int} (h : hasS g s = true) (hs : s < 0) : ∃ h2 : (-1 - s).toNat < g.nons.length, nameOf g s = g.nons[(-1 - s).toNat] := by
  have e : decide (s < 0) = true := decide_eq_true hs
  simp only [hasS, e] at h
  have h2 : (-1 - s).toNat < g.nons.length := by have := decT h; omega
  refine ⟨h2, ?_⟩
  have hh : hasS g s = true := by simp only [hasS, e, h]
  simp only [nameOf, hh, e]
  rw [List.getD_eq_getElem?_getD, List.getElem?_eq_getElem h2]; rfl
theorem nameOf_term {g : GramS} {s : Int} (h : hasS g s = true) (hs : ¬ s < 0) : ∃ h2 : s.toNat < g.terms.length, nameOf g s = g.terms[s.toNat].name := by
  have e : decide (s < 0) = false := decide_eq_false hs
  simp only [hasS, e] at h
  have h2 : s.toNat < g.terms.length := by have := decT h; omega
  refine ⟨h2, ?_⟩
  have hh : hasS g s = true := by simp only [hasS, e, h]
  simp only [nameOf, hh, e]
  rw [List.getElem?_eq_getElem h2]
theorem cfgName (g : GramS) (s : Int) (h : i64 s) (hg : i64 g.terms.length ∧ i64 g.nons.length) : PCall Tryz.prog 11 [] [gramD g, .v (.int .i64 s)] (.ret (.v (str (nameOf g s))) []) := by
  generalize hR : nameOf g s = R
  refine pcall_of (news := []) cxOK Tryz.func11 rfl Tryz.ntmps11 rfl rfl rfl (by decide) ?_
  repeat' ((conv => whnf); first | refine aB rfl ?_ | refine cK (by kernel_rfl) ?_ | refine And.intro rfl ?_ | refine sY rfl ?_ | refine sN rfl ?_ | refine sM (fun _ => ?_) (fun _ => ?_))
  all_goals (conv => whnf)
  refine call0 (cfgHas g s h hg) ?_
  repeat' ((conv => whnf); first | refine aB rfl ?_ | refine cK (by kernel_rfl) ?_ | refine And.intro rfl ?_ | refine sY rfl ?_ | refine sN rfl ?_ | refine sM (fun _ => ?_) (fun _ => ?_))
  all_goals (conv => whnf)
  · rename_i hh
    have hh : hasS g s = false := notT hh
    obtain rfl : R = [] := by rw [← hR]; exact nameOf_no hh
    exact rfl
  · rename_i hh hs
    have hh : hasS g s = true := notF hh
    have hs : s < 0 := decT hs
    obtain ⟨h2, h3⟩ := nameOf_non hh hs
    rw [h3] at hR
    subst hR
    refine call0 (cfgNon s (by unfold i64 at *; omega)) ?_
    repeat' ((conv => whnf); first | refine aB rfl ?_ | refine cK (by kernel_rfl) ?_ | refine And.intro rfl ?_ | refine sY rfl ?_ | refine sN rfl ?_ | refine sM (fun _ => ?_) (fun _ => ?_))
    all_goals (conv => whnf)
    refine IdxG.to (-1 - s).toNat (strC g.nons[(-1 - s).toNat]) (by omega) (strs_get (List.getElem?_eq_getElem h2)) ?_
    repeat' ((conv => whnf); first | exact trivial | refine aB rfl ?_ | refine sY rfl ?_ | refine sN rfl ?_ | refine sM (fun _ => ?_) (fun _ => ?_) | refine cK (by kernel_rfl) ?_ | refine And.intro ?_ ?_ | exact Or.inl ⟨rfl, rfl⟩ | exact rfl)
    all_goals (conv => whnf)
  · rename_i hh hs
    have hh : hasS g s = true := notF hh
    have hs : ¬ s < 0 := decF hs
    obtain ⟨h2, h3⟩ := nameOf_term hh hs
    rw [h3] at hR
    subst hR
    refine IdxG.to s.toNat (termCells g.terms[s.toNat]) (by omega) (terms_get (List.getElem?_eq_getElem h2)) ?_
    repeat' ((conv => whnf); first | exact trivial | refine aB rfl ?_ | refine sY rfl ?_ | refine sN rfl ?_ | refine sM (fun _ => ?_) (fun _ => ?_) | refine cK (by kernel_rfl) ?_ | refine And.intro ?_ ?_ | exact Or.inl ⟨rfl, rfl⟩ | exact rfl)
    all_goals (conv => whnf)
theorem refName (g : GramS) (s : Int) (h : i64 s) : PCall Tryz.prog 12 [] [gramD g, .v (.int .i64 s)] (.ret (.v (str (nameOf g s))) []) := by
  generalize hR : nameOf g s = R
  refine pcall_of (news := []) cxOK Tryz.func12 rfl Tryz.ntmps12 rfl rfl rfl (by decide) ?_
  repeat' ((conv => whnf); first | refine aB rfl ?_ | refine cK (by kernel_rfl) ?_ | refine And.intro rfl ?_ | refine sY rfl ?_ | refine sN rfl ?_ | refine sM (fun _ => ?_) (fun _ => ?_))
  all_goals (conv => whnf)
  refine call0 (refHas g s h) ?_
  repeat' ((conv => whnf); first | refine aB rfl ?_ | refine cK (by kernel_rfl) ?_ | refine And.intro rfl ?_ | refine sY rfl ?_ | refine sN rfl ?_ | refine sM (fun _ => ?_) (fun _ => ?_))
  all_goals (conv => whnf)
  · rename_i hh
    have hh : hasS g s = false := notT hh
    obtain rfl : R = [] := by rw [← hR]; exact nameOf_no hh
    exact rfl
  · rename_i hh hs
    have hh : hasS g s = true := notF hh
    have hs : ¬ s < 0 := by have : s ≥ 0 := decT hs; omega
    obtain ⟨h2, h3⟩ := nameOf_term hh hs
    rw [h3] at hR
    subst hR
    refine IdxG.to s.toNat (termCells g.terms[s.toNat]) (by omega) (terms_get (List.getElem?_eq_getElem h2)) ?_
    repeat' ((conv => whnf); first | exact trivial | refine aB rfl ?_ | refine sY rfl ?_ | refine sN rfl ?_ | refine sM (fun _ => ?_) (fun _ => ?_) | refine cK (by kernel_rfl) ?_ | refine And.intro ?_ ?_ | exact Or.inl ⟨rfl, rfl⟩ | exact rfl)
    all_goals (conv => whnf)
  · rename_i hh hs
    have hh : hasS g s = true := notF hh
    have hs : s < 0 := by have : ¬ s ≥ 0 := decF hs; omega
    obtain ⟨h2, h3⟩ := nameOf_non hh hs
    rw [h3] at hR
    subst hR
    refine KI.i64 (-1 - s) rfl (by unfold i64 at h; omega) ?_
    repeat' ((conv => whnf); first | refine aB rfl ?_ | refine cK (by kernel_rfl) ?_ | refine And.intro rfl ?_ | refine sY rfl ?_ | refine sN rfl ?_ | refine sM (fun _ => ?_) (fun _ => ?_))
    all_goals (conv => whnf)
    refine IdxG.to (-1 - s).toNat (strC g.nons[(-1 - s).toNat]) (by omega) (strs_get (List.getElem?_eq_getElem h2)) ?_
    repeat' ((conv => whnf); first | exact trivial | refine aB rfl ?_ | refine sY rfl ?_ | refine sN rfl ?_ | refine sM (fun _ => ?_) (fun _ => ?_) | refine cK (by kernel_rfl) ?_ | refine And.intro ?_ ?_ | exact Or.inl ⟨rfl, rfl⟩ | exact rfl)
    all_goals (conv => whnf)
theorem cfgFind (g : GramS) (s : List UInt8) (hg : g.terms.length < 9223372036854775808 ∧ g.nons.length < 9223372036854775808) : PCall Tryz.prog 18 [] [gramD g, .v (str s)] (.ret (.tup [.v (.int .i64 (findS g s).1), .v (.bool (findS g s).2)]) []) := by
  generalize hR : findS g s = R
  have hr := termIx_range g.terms s
  have hr2 := strIx_range g.nons s
  refine pcall_of (news := []) cxOK Tryz.func18 rfl Tryz.ntmps18 rfl rfl rfl (by decide) ?_
  repeat' ((conv => whnf); first | refine aB rfl ?_ | refine cK (by kernel_rfl) ?_ | refine And.intro rfl ?_ | refine sY rfl ?_ | refine sN rfl ?_ | refine sM (fun _ => ?_) (fun _ => ?_))
  all_goals (conv => whnf)
  refine call0 (cfgTerminal g.terms _ _ _ s (by omega)) ?_
  repeat' ((conv => whnf); first | refine aB rfl ?_ | refine cK (by kernel_rfl) ?_ | refine And.intro rfl ?_ | refine sY rfl ?_ | refine sN rfl ?_ | refine sM (fun _ => ?_) (fun _ => ?_))
  all_goals (conv => whnf)
  · rename_i h
    have h : decide (termIx g.terms s ≥ 0) = true := h
    obtain rfl : R = (termIx g.terms s, true) := by rw [← hR]; simp only [findS, h]
    repeat' ((conv => whnf); first | exact trivial | refine aB rfl ?_ | refine sY rfl ?_ | refine sN rfl ?_ | refine sM (fun _ => ?_) (fun _ => ?_) | refine cK (by kernel_rfl) ?_ | refine And.intro ?_ ?_ | exact Or.inl ⟨rfl, rfl⟩ | exact rfl)
    all_goals (conv => whnf)
  rename_i h
  have h : decide (termIx g.terms s ≥ 0) = false := h
  refine call0 (strsIndex g.nons s (by omega)) ?_
  repeat' ((conv => whnf); first | refine aB rfl ?_ | refine cK (by kernel_rfl) ?_ | refine And.intro rfl ?_ | refine sY rfl ?_ | refine sN rfl ?_ | refine sM (fun _ => ?_) (fun _ => ?_))
  all_goals (conv => whnf)
  · rename_i h2
    have h2 : decide (strIx g.nons s ≥ 0) = true := h2
    obtain rfl : R = (-1 - strIx g.nons s, true) := by rw [← hR]; simp only [findS, h, h2]
    refine call0 (cfgNon (strIx g.nons s) (by unfold i64; omega)) ?_
    repeat' ((conv => whnf); first | exact trivial | refine aB rfl ?_ | refine sY rfl ?_ | refine sN rfl ?_ | refine sM (fun _ => ?_) (fun _ => ?_) | refine cK (by kernel_rfl) ?_ | refine And.intro ?_ ?_ | exact Or.inl ⟨rfl, rfl⟩ | exact rfl)
    all_goals (conv => whnf)
  · rename_i h2
    have h2 : decide (strIx g.nons s ≥ 0) = false := h2
    obtain rfl : R = (0, false) := by rw [← hR]; simp only [findS, h, h2]
    repeat' ((conv => whnf); first | exact trivial | refine aB rfl ?_ | refine sY rfl ?_ | refine sN rfl ?_ | refine sM (fun _ => ?_) (fun _ => ?_) | refine cK (by kernel_rfl) ?_ | refine And.intro ?_ ?_ | exact Or.inl ⟨rfl, rfl⟩ | exact rfl)
    all_goals (conv => whnf)
end Tryz
end Go.Dm
namespace Go.Dm
/-! ### ref09: Great; ref03: Ints; ref07: Name, Literal; ref09: named, term, non, level -/
def gramCells (g : GramS) : List D := [.list 3 (termsD g.terms), .list 1 (strsD g.nons), .list 3 (rulesD g.rules), .v (.int .i64 g.start)]
theorem any_drop {α : Type} {f : α → Bool} {l : List α} {i : Nat} (h : i < l.length) (hf : f l[i] = false) (ha : l.any f = (l.drop i).any f) : l.any f = (l.drop (i + 1)).any f := by
  rw [ha, List.drop_eq_getElem_cons h, List.any_cons, hf, Bool.false_or]
theorem any_drop_t {α : Type} {f : α → Bool} {l : List α} {i : Nat} (h : i < l.length) (hf : f l[i] = true) (ha : l.any f = (l.drop i).any f) : l.any f = true := by
  rw [ha, List.drop_eq_getElem_cons h, List.any_cons, hf, Bool.true_or]
theorem any_drop_e {α : Type} {f : α → Bool} {l : List α} {i : Nat} (h : i = l.length) (ha : l.any f = (l.drop i).any f) : l.any f = false := by
  rw [ha, h, List.drop_length]; rfl
theorem all_drop {α : Type} {f : α → Bool} {l : List α} {i : Nat} (h : i < l.length) (hf : f l[i] = true) (ha : l.all f = (l.drop i).all f) : l.all f = (l.drop (i + 1)).all f := by
  rw [ha, List.drop_eq_getElem_cons h, List.all_cons, hf, Bool.true_and]
theorem all_drop_f {α : Type} {f : α → Bool} {l : List α} {i : Nat} (h : i < l.length) (hf : f l[i] = false) (ha : l.all f = (l.drop i).all f) : l.all f = false := by
  rw [ha, List.drop_eq_getElem_cons h, List.all_cons, hf, Bool.false_and]
theorem all_drop_e {α : Type} {f : α → Bool} {l : List α} {i : Nat} (h : i = l.length) (ha : l.all f = (l.drop i).all f) : l.all f = true := by
  rw [ha, h, List.drop_length]; rfl
namespace Tryz
open Go.Proofs
theorem refGreat (g : GramS) (hg : g.rules.length < 9223372036854775808) : PCall Tryz.prog 8 [] [gramD g] (.ret (.v (.bool (greatS g))) []) := by
  generalize hR : greatS g = R
  refine pcall_of (news := []) cxOK Tryz.func8 rfl Tryz.ntmps8 rfl rfl rfl (by decide) ?_
  repeat' ((conv => whnf); first | refine aB rfl ?_ | refine cK (by kernel_rfl) ?_ | refine And.intro rfl ?_ | refine sY rfl ?_ | refine sN rfl ?_ | refine sM (fun _ => ?_) (fun _ => ?_))
  all_goals (conv => whnf)
  · rename_i h
    have h : ((termsD g.terms).length : Int) > 40 := decT h
    rw [terms_len] at h
    obtain rfl : R = true := by rw [← hR]; unfold greatS; rw [decide_eq_true (show g.terms.length > 40 by omega)]; simp
    exact rfl
  · rename_i _ h
    have h : ((strsD g.nons).length : Int) > 40 := decT h
    rw [strs_len] at h
    obtain rfl : R = true := by rw [← hR]; unfold greatS; rw [decide_eq_true (show g.nons.length > 40 by omega)]; simp
    exact rfl
  · rename_i _ _ h
    have h : ((rulesD g.rules).length : Int) > 60 := decT h
    rw [rules_len] at h
    obtain rfl : R = true := by rw [← hR]; unfold greatS; rw [decide_eq_true (show g.rules.length > 60 by omega)]; simp
    exact rfl
  rename_i h1 h2 h3
  have h1 : ¬ ((termsD g.terms).length : Int) > 40 := decF h1
  have h2 : ¬ ((strsD g.nons).length : Int) > 40 := decF h2
  have h3 : ¬ ((rulesD g.rules).length : Int) > 60 := decF h3
  rw [terms_len] at h1
  rw [strs_len] at h2
  rw [rules_len] at h3
  have hR : (g.rules.any fun r => decide (r.right.length > 20)) = R := by
    rw [← hR]; unfold greatS
    rw [decide_eq_false (show ¬ g.terms.length > 40 by omega), decide_eq_false (show ¬ g.nons.length > 40 by omega), decide_eq_false (show ¬ g.rules.length > 60 by omega)]; simp
  refine LoopW.to (ι := Nat) (fun i => i ≤ g.rules.length ∧ (g.rules.any fun r => decide (r.right.length > 20)) = ((g.rules.drop i).any fun r => decide (r.right.length > 20))) (fun i => g.rules.length - i)
    (fun i => [(1, .ptr (gramCells g)), (3, .v (.int .i64 i))]) (fun _ => []) [] 0 ⟨Nat.zero_le _, rfl⟩ ⟨⟨rfl, rfl, trivial⟩, trivial⟩ ?_
  rintro i ⟨k1, k2⟩
  repeat' ((conv => whnf); first | refine aB rfl ?_ | refine cK (by kernel_rfl) ?_ | refine And.intro rfl ?_ | refine sY rfl ?_ | refine sN rfl ?_ | refine sM (fun _ => ?_) (fun _ => ?_))
  all_goals (conv => whnf)
  · rename_i h
    have h : (i : Int) < ((rulesD g.rules).length : Int) := decT h
    rw [rules_len] at h
    have hi : i < g.rules.length := by omega
    refine IdxG.to i (ruleCells g.rules[i]) rfl (rules_get (List.getElem?_eq_getElem hi)) ?_
    repeat' ((conv => whnf); first | refine aB rfl ?_ | refine cK (by kernel_rfl) ?_ | refine And.intro rfl ?_ | refine sY rfl ?_ | refine sN rfl ?_ | refine sM (fun _ => ?_) (fun _ => ?_))
    all_goals (conv => whnf)
    · rename_i h
      have h : ((ksD g.rules[i].right).length : Int) > 20 := decT h
      rw [ksD_length] at h
      obtain rfl : R = true := by rw [← hR]; exact any_drop_t hi (decide_eq_true (by omega)) k2
      exact rfl
    · rename_i h
      have h : ¬ ((ksD g.rules[i].right).length : Int) > 20 := decF h
      rw [ksD_length] at h
      refine KI.i64 ((i + 1 : Nat) : Int) (by simp) (by omega) ?_
      repeat' ((conv => whnf); first | refine aB rfl ?_ | refine cK (by kernel_rfl) ?_ | refine And.intro rfl ?_ | refine sY rfl ?_ | refine sN rfl ?_ | refine sM (fun _ => ?_) (fun _ => ?_))
      all_goals (conv => whnf)
      exact NextG.to (i + 1) ⟨by omega, any_drop hi (decide_eq_false (by omega)) k2⟩ (by omega) ⟨⟨rfl, rfl, trivial⟩, trivial⟩
  · rename_i h
    have h : ¬ (i : Int) < ((rulesD g.rules).length : Int) := decF h
    rw [rules_len] at h
    obtain rfl : R = false := by rw [← hR]; exact any_drop_e (by omega) k2
    exact rfl
end Tryz
end Go.Dm
namespace Go.Dm
/-! ### ref07: Name, Literal -/
def firstR (c : Int) : Bool := ((decide (c ≥ 97) && decide (c ≤ 122)) || (decide (c ≥ 65) && decide (c ≤ 90))) || decide (c = 95)
def laterR (c : Int) : Bool := (firstR c || (decide (c ≥ 48) && decide (c ≤ 57))) || decide (c = 46)
theorem first_letter : ∀ c : UInt8, firstR c.toNat = letterS c.toNat := by
  have : ∀ n : Fin 256, firstR n.val = letterS n.val := by decide +kernel
  intro c
  exact this ⟨c.toNat, c.toNat_lt⟩
theorem later_inner : ∀ c : UInt8, laterR c.toNat = innerS c.toNat := by
  have : ∀ n : Fin 256, laterR n.val = innerS n.val := by decide +kernel
  intro c
  exact this ⟨c.toNat, c.toNat_lt⟩
namespace Tryz
open Go.Proofs
theorem refFirst0 (c : Int) : PCall Tryz.prog 86 [] [.v (.int .u8 c)] (.ret (.v (.bool (firstR c))) []) := by
  refine pcall_of (news := []) cxOK Tryz.func86 rfl Tryz.ntmps86 rfl rfl rfl (by decide) ?_
  repeat' ((conv => whnf); first | exact trivial | refine aB rfl ?_ | refine sY rfl ?_ | refine sN rfl ?_ | refine sM (fun _ => ?_) (fun _ => ?_) | refine KI.to _ rfl ?_ | refine cK (by kernel_rfl) ?_ | refine And.intro ?_ ?_ | exact Or.inl ⟨rfl, rfl⟩)
  all_goals (conv => whnf)
  all_goals (simp_all [firstR]; try omega)
theorem refLater0 (c : Int) : PCall Tryz.prog 87 [] [.v (.int .u8 c)] (.ret (.v (.bool (laterR c))) []) := by
  refine pcall_of (news := []) cxOK Tryz.func87 rfl Tryz.ntmps87 rfl rfl rfl (by decide) ?_
  conv => whnf
  refine call0 (refFirst0 _) ?_
  repeat' ((conv => whnf); first | exact trivial | refine aB rfl ?_ | refine sY rfl ?_ | refine sN rfl ?_ | refine sM (fun _ => ?_) (fun _ => ?_) | refine KI.to _ rfl ?_ | refine cK (by kernel_rfl) ?_ | refine And.intro ?_ ?_ | exact Or.inl ⟨rfl, rfl⟩)
  all_goals (conv => whnf)
  all_goals (simp_all [laterR]; try omega)
theorem refFirst (c : UInt8) : PCall Tryz.prog 86 [] [.v (.int .u8 c.toNat)] (.ret (.v (.bool (letterS c.toNat))) []) := by
  rw [← first_letter]; exact refFirst0 _
theorem refLater (c : UInt8) : PCall Tryz.prog 87 [] [.v (.int .u8 c.toNat)] (.ret (.v (.bool (innerS c.toNat))) []) := by
  rw [← later_inner]; exact refLater0 _
theorem refName7 (s : List UInt8) (hs : s.length < 9223372036854775808) : PCall Tryz.prog 64 [] [.v (str s)] (.ret (.v (.bool (NameS s))) []) := by
  cases s with
  | nil =>
    refine pcall_of (news := []) cxOK Tryz.func64 rfl Tryz.ntmps64 rfl rfl rfl (by decide) ?_
    repeat' ((conv => whnf); first | exact trivial | refine aB rfl ?_ | refine sY rfl ?_ | refine sN rfl ?_ | refine sM (fun _ => ?_) (fun _ => ?_) | refine cK (by kernel_rfl) ?_ | refine And.intro ?_ ?_ | exact Or.inl ⟨rfl, rfl⟩ | exact rfl)
    all_goals (conv => whnf)
  | cons c s =>
    refine pcall_of (news := []) cxOK Tryz.func64 rfl Tryz.ntmps64 rfl rfl rfl (by decide) ?_
    repeat' ((conv => whnf); first | exact trivial | refine aB rfl ?_ | refine sY rfl ?_ | refine sN rfl ?_ | refine sM (fun _ => ?_) (fun _ => ?_) | refine cK (by kernel_rfl) ?_ | refine And.intro ?_ ?_ | exact Or.inl ⟨rfl, rfl⟩ | exact rfl)
    all_goals (conv => whnf)
    · rename_i h
      have h' : ((c :: s).length : Int) > 20 := of_decide_eq_true h
      have : ¬ (c :: s).length ≤ 20 := by omega
      simp only [NameS, decide_eq_false this, Bool.false_and]
    rename_i h
    have hl : (c :: s).length ≤ 20 := by
      have : ¬ (((c :: s).length : Int) > 20) := of_decide_eq_false h
      omega
    refine ChrG.to 0 c rfl rfl ?_
    conv => whnf
    refine call0 (refFirst c) ?_
    repeat' ((conv => whnf); first | exact trivial | refine aB rfl ?_ | refine sY rfl ?_ | refine sN rfl ?_ | refine sM (fun _ => ?_) (fun _ => ?_) | refine cK (by kernel_rfl) ?_ | refine And.intro ?_ ?_ | exact Or.inl ⟨rfl, rfl⟩ | exact rfl)
    all_goals (conv => whnf)
    · rename_i h1
      have h1 : letterS c.toNat = false := notT h1
      simp only [NameS, h1, Bool.false_and, Bool.and_false]
    rename_i hlet
    have hlet : letterS c.toNat = true := notF hlet
    refine LoopW.to (ι := Nat) (fun i => i ≤ (c :: s).length ∧ ∀ k (hk : k < (c :: s).length), k < i → innerS (c :: s)[k].toNat = true) (fun i => (c :: s).length - i)
      (fun i => [(0, .v (str (c :: s))), (3, .v (.int .i64 i))]) (fun _ => []) [] 0 ⟨Nat.zero_le _, fun k _ h => by omega⟩ ⟨⟨rfl, rfl, trivial⟩, trivial⟩ ?_
    rintro i ⟨hi, hk⟩
    repeat' ((conv => whnf); first | exact trivial | refine aB rfl ?_ | refine sY rfl ?_ | refine sN rfl ?_ | refine sM (fun _ => ?_) (fun _ => ?_) | refine cK (by kernel_rfl) ?_ | refine And.intro ?_ ?_ | exact Or.inl ⟨rfl, rfl⟩ | exact rfl)
    all_goals (conv => whnf)
    · rename_i hlt
      have hlt : i < (c :: s).length := by have : (i : Int) < ((c :: s).length : Int) := of_decide_eq_true hlt; omega
      refine ChrG.to i (c :: s)[i] rfl (by simp) ?_
      conv => whnf
      refine call0 (refLater _) ?_
      repeat' ((conv => whnf); first | exact trivial | refine aB rfl ?_ | refine sY rfl ?_ | refine sN rfl ?_ | refine sM (fun _ => ?_) (fun _ => ?_) | refine cK (by kernel_rfl) ?_ | refine And.intro ?_ ?_ | exact Or.inl ⟨rfl, rfl⟩ | exact rfl)
      all_goals (conv => whnf)
      · rename_i h1
        have h1 : innerS (c :: s)[i].toNat = false := notT h1
        simp only [NameS, all_not (p := fun c : UInt8 => innerS c.toNat) i hlt h1, Bool.and_false]
      · rename_i h1
        have h1 : innerS (c :: s)[i].toNat = true := notF h1
        refine KI.i64 ((i + 1 : Nat) : Int) (by simp) (by omega) ?_
        conv => whnf
        refine NextG.to (i + 1) ⟨by omega, fun k hk1 hk2 => ?_⟩ (by omega) ⟨⟨rfl, rfl, trivial⟩, trivial⟩
        by_cases e : k = i
        · subst e; exact h1
        · exact hk k hk1 (by omega)
    · rename_i hlt
      have hlt : i = (c :: s).length := by have : ¬ (i : Int) < ((c :: s).length : Int) := of_decide_eq_false hlt; omega
      have := all_upto (p := fun c : UInt8 => innerS c.toNat) (s := c :: s) fun k h => hk k h (by omega)
      simp only [NameS, decide_eq_true hl, hlet, this, Bool.true_and]
end Tryz
end Go.Dm
namespace Go.Dm
def LiteralR : List UInt8 → Bool
  | [a, b, c] => ((((decide ((a.toNat : Int) = 39) && decide ((c.toNat : Int) = 39)) && decide ((b.toNat : Int) ≥ 32)) && decide ((b.toNat : Int) ≤ 126)) && !decide ((b.toNat : Int) = 39)) && !decide ((b.toNat : Int) = 92)
  | [a, b, c, d] => ((decide ((a.toNat : Int) = 39) && decide ((d.toNat : Int) = 39)) && decide ((b.toNat : Int) = 92)) && (((decide ((c.toNat : Int) = 110) || decide ((c.toNat : Int) = 116)) || decide ((c.toNat : Int) = 92)) || decide ((c.toNat : Int) = 39))
  | _ => false
theorem plain_eq (b : Int) : plainS b = (((decide (b ≥ 32) && decide (b ≤ 126)) && !decide (b = 39)) && !decide (b = 92)) := by
  unfold plainS
  simp only [GE.ge, Bool.and_assoc]
theorem esc_eq (b : Int) : escapedS b = (((decide (b = 110) || decide (b = 116)) || decide (b = 92)) || decide (b = 39)) := by
  unfold escapedS
  simp only [Bool.or_assoc]
theorem plain_no {b : Int} (h : decide (b = 92) = true) : plainS b = false := by
  rw [plain_eq, h]; simp
theorem LiteralR_eq (s : List UInt8) : LiteralR s = LiteralS s := by
  match s with
  | [] => rfl
  | [a] => cases ha : decide ((a.toNat : Int) = 39) <;> simp only [LiteralR, LiteralS, literalS, ha] <;> simp
  | [a, b] => cases ha : decide ((a.toNat : Int) = 39) <;> cases hp : plainS b.toNat <;> cases hb : decide ((b.toNat : Int) = 92) <;> simp only [LiteralR, LiteralS, literalS, litEnd, ha, hp, hb] <;> simp
  | [a, b, c] =>
    have e : LiteralR [a, b, c] = ((decide ((a.toNat : Int) = 39) && decide ((c.toNat : Int) = 39)) && plainS b.toNat) := by simp only [LiteralR, plain_eq, Bool.and_assoc]
    rw [e]
    cases ha : decide ((a.toNat : Int) = 39) <;> cases hp : plainS b.toNat <;> cases hb : decide ((b.toNat : Int) = 92) <;> cases hc : decide ((c.toNat : Int) = 39) <;> cases hx : escapedS c.toNat <;> simp only [LiteralS, literalS, litEnd, ha, hp, hb, hc, hx] <;> simp [hc]
  | [a, b, c, d] =>
    have e : LiteralR [a, b, c, d] = (((decide ((a.toNat : Int) = 39) && decide ((d.toNat : Int) = 39)) && decide ((b.toNat : Int) = 92)) && escapedS c.toNat) := by simp only [LiteralR, esc_eq, Bool.and_assoc]
    rw [e]
    cases hb : decide ((b.toNat : Int) = 92) with
    | true =>
      have hp := plain_no hb
      cases ha : decide ((a.toNat : Int) = 39) <;> cases hd : decide ((d.toNat : Int) = 39) <;> cases hx : escapedS c.toNat <;> simp only [LiteralS, literalS, litEnd, ha, hp, hb, hd, hx] <;> simp [hd]
    | false =>
      cases ha : decide ((a.toNat : Int) = 39) <;> cases hp : plainS b.toNat <;> cases hc : decide ((c.toNat : Int) = 39) <;> simp only [LiteralS, literalS, litEnd, ha, hp, hb] <;> simp [hc]
  | a :: b :: c :: d :: e :: r =>
    show false = _
    cases ha : decide ((a.toNat : Int) = 39) <;> cases hp : plainS b.toNat <;> cases hb : decide ((b.toNat : Int) = 92) <;> cases hc : decide ((c.toNat : Int) = 39) <;> cases hd : decide ((d.toNat : Int) = 39) <;> cases hx : escapedS c.toNat <;> simp only [LiteralS, literalS, litEnd, ha, hp, hb, hc, hd, hx] <;> simp [hc, hd]
namespace Tryz
open Go.Proofs
theorem refLiteral3 (a b c : UInt8) : PCall Tryz.prog 85 [] [.v (str [a, b, c])] (.ret (.v (.bool (LiteralR [a, b, c]))) []) := by
  generalize hR : LiteralR [a, b, c] = R
  refine pcall_ofR (news := []) cxOK Tryz.func85 rfl Tryz.ntmps85 rfl rfl rfl (by decide) ?_
  repeat' ((conv => whnf); first | refine aB rfl ?_ | refine sY rfl ?_ | refine sN rfl ?_ | refine sM (fun _ => ?_) (fun _ => ?_))
  all_goals (conv => whnf)
  refine ChrG.to 0 a rfl rfl ?_
  repeat' ((conv => whnf); first | refine aB rfl ?_ | refine sY rfl ?_ | refine sN rfl ?_ | refine sM (fun _ => ?_) (fun _ => ?_))
  all_goals (conv => whnf)
  case refine_2 => (subst_vars; first | (simp_all [LiteralR]; done) | (simp_all [LiteralR]; omega))
  refine ChrG.to 2 c rfl rfl ?_
  repeat' ((conv => whnf); first | refine aB rfl ?_ | refine sY rfl ?_ | refine sN rfl ?_ | refine sM (fun _ => ?_) (fun _ => ?_))
  all_goals (conv => whnf)
  case refine_2 => (subst_vars; first | (simp_all [LiteralR]; done) | (simp_all [LiteralR]; omega))
  refine ChrG.to 1 b rfl rfl ?_
  repeat' ((conv => whnf); first | refine aB rfl ?_ | refine sY rfl ?_ | refine sN rfl ?_ | refine sM (fun _ => ?_) (fun _ => ?_))
  all_goals (conv => whnf)
  case refine_2 => (subst_vars; first | (simp_all [LiteralR]; done) | (simp_all [LiteralR]; omega))
  refine ChrG.to 1 b rfl rfl ?_
  repeat' ((conv => whnf); first | refine aB rfl ?_ | refine sY rfl ?_ | refine sN rfl ?_ | refine sM (fun _ => ?_) (fun _ => ?_))
  all_goals (conv => whnf)
  case refine_2 => (subst_vars; first | (simp_all [LiteralR]; done) | (simp_all [LiteralR]; omega))
  refine ChrG.to 1 b rfl rfl ?_
  repeat' ((conv => whnf); first | refine aB rfl ?_ | refine sY rfl ?_ | refine sN rfl ?_ | refine sM (fun _ => ?_) (fun _ => ?_))
  all_goals (conv => whnf)
  case refine_2 => (subst_vars; first | (simp_all [LiteralR]; done) | (simp_all [LiteralR]; omega))
  refine ChrG.to 1 b rfl rfl ?_
  repeat' ((conv => whnf); first | refine aB rfl ?_ | refine sY rfl ?_ | refine sN rfl ?_ | refine sM (fun _ => ?_) (fun _ => ?_))
  all_goals (conv => whnf)
  (subst_vars; first | (simp_all [LiteralR]; done) | (simp_all [LiteralR]; omega))
theorem refLiteral4 (a b c d : UInt8) : PCall Tryz.prog 85 [] [.v (str [a, b, c, d])] (.ret (.v (.bool (LiteralR [a, b, c, d]))) []) := by
  generalize hR : LiteralR [a, b, c, d] = R
  refine pcall_ofR (news := []) cxOK Tryz.func85 rfl Tryz.ntmps85 rfl rfl rfl (by decide) ?_
  repeat' ((conv => whnf); first | refine aB rfl ?_ | refine sY rfl ?_ | refine sN rfl ?_ | refine sM (fun _ => ?_) (fun _ => ?_))
  all_goals (conv => whnf)
  refine ChrG.to 0 a rfl rfl ?_
  repeat' ((conv => whnf); first | refine aB rfl ?_ | refine sY rfl ?_ | refine sN rfl ?_ | refine sM (fun _ => ?_) (fun _ => ?_))
  all_goals (conv => whnf)
  case refine_2 => (subst_vars; first | (simp_all [LiteralR]; done) | (simp_all [LiteralR]; omega))
  refine ChrG.to 3 d rfl rfl ?_
  repeat' ((conv => whnf); first | refine aB rfl ?_ | refine sY rfl ?_ | refine sN rfl ?_ | refine sM (fun _ => ?_) (fun _ => ?_))
  all_goals (conv => whnf)
  case refine_2 => (subst_vars; first | (simp_all [LiteralR]; done) | (simp_all [LiteralR]; omega))
  refine ChrG.to 1 b rfl rfl ?_
  repeat' ((conv => whnf); first | refine aB rfl ?_ | refine sY rfl ?_ | refine sN rfl ?_ | refine sM (fun _ => ?_) (fun _ => ?_))
  all_goals (conv => whnf)
  case refine_2 => (subst_vars; first | (simp_all [LiteralR]; done) | (simp_all [LiteralR]; omega))
  refine ChrG.to 2 c rfl rfl ?_
  repeat' ((conv => whnf); first | refine aB rfl ?_ | refine sY rfl ?_ | refine sN rfl ?_ | refine sM (fun _ => ?_) (fun _ => ?_))
  all_goals (conv => whnf)
  · (subst_vars; first | (simp_all [LiteralR]; done) | (simp_all [LiteralR]; omega))
  refine ChrG.to 2 c rfl rfl ?_
  repeat' ((conv => whnf); first | refine aB rfl ?_ | refine sY rfl ?_ | refine sN rfl ?_ | refine sM (fun _ => ?_) (fun _ => ?_))
  all_goals (conv => whnf)
  · (subst_vars; first | (simp_all [LiteralR]; done) | (simp_all [LiteralR]; omega))
  refine ChrG.to 2 c rfl rfl ?_
  repeat' ((conv => whnf); first | refine aB rfl ?_ | refine sY rfl ?_ | refine sN rfl ?_ | refine sM (fun _ => ?_) (fun _ => ?_))
  all_goals (conv => whnf)
  · (subst_vars; first | (simp_all [LiteralR]; done) | (simp_all [LiteralR]; omega))
  refine ChrG.to 2 c rfl rfl ?_
  repeat' ((conv => whnf); first | refine aB rfl ?_ | refine sY rfl ?_ | refine sN rfl ?_ | refine sM (fun _ => ?_) (fun _ => ?_))
  all_goals (conv => whnf)
  (subst_vars; first | (simp_all [LiteralR]; done) | (simp_all [LiteralR]; omega))
theorem refLiteral (s : List UInt8) (hs : s.length < 9223372036854775808) : PCall Tryz.prog 85 [] [.v (str s)] (.ret (.v (.bool (LiteralS s))) []) := by
  rw [← LiteralR_eq]
  match s with
  | [a, b, c] => exact refLiteral3 a b c
  | [a, b, c, d] => exact refLiteral4 a b c d
  | [] =>
    refine pcall_ofR (news := []) cxOK Tryz.func85 rfl Tryz.ntmps85 rfl rfl rfl (by decide) ?_
    repeat' ((conv => whnf); first | exact trivial | refine aB rfl ?_ | refine sY rfl ?_ | refine sN rfl ?_ | refine sM (fun _ => ?_) (fun _ => ?_) | refine cK (by kernel_rfl) ?_ | refine And.intro ?_ ?_ | exact Or.inl ⟨rfl, rfl⟩ | exact rfl)
    all_goals (conv => whnf)
  | [a] =>
    refine pcall_ofR (news := []) cxOK Tryz.func85 rfl Tryz.ntmps85 rfl rfl rfl (by decide) ?_
    repeat' ((conv => whnf); first | exact trivial | refine aB rfl ?_ | refine sY rfl ?_ | refine sN rfl ?_ | refine sM (fun _ => ?_) (fun _ => ?_) | refine cK (by kernel_rfl) ?_ | refine And.intro ?_ ?_ | exact Or.inl ⟨rfl, rfl⟩ | exact rfl)
    all_goals (conv => whnf)
  | [a, b] =>
    refine pcall_ofR (news := []) cxOK Tryz.func85 rfl Tryz.ntmps85 rfl rfl rfl (by decide) ?_
    repeat' ((conv => whnf); first | exact trivial | refine aB rfl ?_ | refine sY rfl ?_ | refine sN rfl ?_ | refine sM (fun _ => ?_) (fun _ => ?_) | refine cK (by kernel_rfl) ?_ | refine And.intro ?_ ?_ | exact Or.inl ⟨rfl, rfl⟩ | exact rfl)
    all_goals (conv => whnf)
  | a :: b :: c :: d :: e :: r =>
    refine pcall_ofR (news := []) cxOK Tryz.func85 rfl Tryz.ntmps85 rfl rfl rfl (by decide) ?_
    repeat' ((conv => whnf); first | exact trivial | refine aB rfl ?_ | refine sY rfl ?_ | refine sN rfl ?_ | refine sM (fun _ => ?_) (fun _ => ?_) | refine cK (by kernel_rfl) ?_ | refine And.intro ?_ ?_ | exact Or.inl ⟨rfl, rfl⟩ | exact rfl)
    all_goals (conv => whnf)
end Tryz
end Go.Dm
namespace Go.Dm
/-! ### ref09: named, term, non; ref03: Ints -/
namespace Tryz
open Go.Proofs
theorem refNamed (s : List UInt8) (hs : s.length < 9223372036854775808) : PCall Tryz.prog 61 [] [.v (str s)] (.ret (.v (.bool (namedS s))) []) := by
  generalize hR : namedS s = R
  refine pcall_ofR (news := []) cxOK Tryz.func61 rfl Tryz.ntmps61 rfl rfl rfl (by decide) ?_
  repeat' ((conv => whnf); first | refine aB rfl ?_ | refine sY rfl ?_ | refine sN rfl ?_ | refine sM (fun _ => ?_) (fun _ => ?_))
  all_goals (conv => whnf)
  refine call0 (refName7 s hs) ?_
  repeat' ((conv => whnf); first | refine aB rfl ?_ | refine sY rfl ?_ | refine sN rfl ?_ | refine sM (fun _ => ?_) (fun _ => ?_))
  all_goals (conv => whnf)
  · rename_i h
    have h : NameS s = true := h
    obtain rfl : R = true := by rw [← hR]; simp only [namedS, h, Bool.true_or]
    exact rfl
  · rename_i h
    have h : NameS s = false := h
    refine call0 (refLiteral s hs) ?_
    repeat' ((conv => whnf); first | refine aB rfl ?_ | refine sY rfl ?_ | refine sN rfl ?_ | refine sM (fun _ => ?_) (fun _ => ?_))
    all_goals (conv => whnf)
    obtain rfl : R = LiteralS s := by rw [← hR]; simp only [namedS, h, Bool.false_or]
    exact rfl
theorem refTerm (g : GramS) (s : List UInt8) (hl : g.terms.length < 9223372036854775808) : PCall Tryz.prog 62 [] [gramD g, .v (str s)] (.ret (.v (.int .i64 (termIx g.terms s))) []) := by
  generalize hR : termIx g.terms s = R
  refine pcall_ofR (news := []) cxOK Tryz.func62 rfl Tryz.ntmps62 rfl rfl rfl (by decide) ?_
  repeat' ((conv => whnf); first | refine aB rfl ?_ | refine sY rfl ?_ | refine sN rfl ?_ | refine sM (fun _ => ?_) (fun _ => ?_))
  all_goals (conv => whnf)
  refine LoopW.to (ι := Nat) (fun i => i ≤ g.terms.length ∧ (∀ q, q < i → ∀ c, g.terms[q]? = some c → decide (c.name = s) = false)) (fun i => g.terms.length - i)
    (fun i => [(1, .v (str s)), (2, .ptr (gramCells g)), (5, .v (.int .i64 i))]) (fun _ => []) [] 0 ⟨Nat.zero_le _, fun q h => by omega⟩ ⟨⟨rfl, rfl, rfl, trivial⟩, trivial⟩ ?_
  rintro i ⟨h1, h2⟩
  repeat' ((conv => whnf); first | refine aB rfl ?_ | refine sY rfl ?_ | refine sN rfl ?_ | refine sM (fun _ => ?_) (fun _ => ?_))
  all_goals (conv => whnf)
  · rename_i h
    have h : (i : Int) < ((termsD g.terms).length : Int) := decT h
    rw [terms_len] at h
    have hi : i < g.terms.length := by omega
    have hg := List.getElem?_eq_getElem hi
    refine IdxG.to i (termCells g.terms[i]) rfl (terms_get hg) ?_
    repeat' ((conv => whnf); first | refine aB rfl ?_ | refine sY rfl ?_ | refine sN rfl ?_ | refine sM (fun _ => ?_) (fun _ => ?_))
    all_goals (conv => whnf)
    · rename_i h3
      have h3 : g.terms[i].name = s := strEq_iff.1 h3
      obtain rfl : R = i := by rw [← hR]; exact idxS_at h2 hg (by simpa using h3)
      exact rfl
    · rename_i h3
      have h3 : g.terms[i].name ≠ s := strEq_ff.1 h3
      refine KI.i64 ((i + 1 : Nat) : Int) (by simp) (by omega) ?_
      repeat' ((conv => whnf); first | refine aB rfl ?_ | refine sY rfl ?_ | refine sN rfl ?_ | refine sM (fun _ => ?_) (fun _ => ?_))
      all_goals (conv => whnf)
      exact NextG.to (i + 1) ⟨by omega, idx_ext h2 hi (by simpa using h3)⟩ (by omega) ⟨⟨rfl, rfl, rfl, trivial⟩, trivial⟩
  · rename_i h
    have h : ¬ (i : Int) < ((termsD g.terms).length : Int) := decF h
    rw [terms_len] at h
    obtain rfl : i = g.terms.length := by omega
    obtain rfl : R = -1 := by rw [← hR]; exact idxS_no h2
    exact rfl
theorem refNon (g : GramS) (s : List UInt8) (hl : g.nons.length < 9223372036854775808) : PCall Tryz.prog 65 [] [gramD g, .v (str s)] (.ret (.v (.int .i64 (strIx g.nons s))) []) := by
  generalize hR : strIx g.nons s = R
  refine pcall_ofR (news := []) cxOK Tryz.func65 rfl Tryz.ntmps65 rfl rfl rfl (by decide) ?_
  repeat' ((conv => whnf); first | refine aB rfl ?_ | refine sY rfl ?_ | refine sN rfl ?_ | refine sM (fun _ => ?_) (fun _ => ?_))
  all_goals (conv => whnf)
  refine LoopW.to (ι := Nat) (fun i => i ≤ g.nons.length ∧ (∀ q, q < i → ∀ c, g.nons[q]? = some c → decide (s = c) = false)) (fun i => g.nons.length - i)
    (fun i => [(1, .v (str s)), (2, .ptr (gramCells g)), (5, .v (.int .i64 i))]) (fun _ => []) [] 0 ⟨Nat.zero_le _, fun q h => by omega⟩ ⟨⟨rfl, rfl, rfl, trivial⟩, trivial⟩ ?_
  rintro i ⟨h1, h2⟩
  repeat' ((conv => whnf); first | refine aB rfl ?_ | refine sY rfl ?_ | refine sN rfl ?_ | refine sM (fun _ => ?_) (fun _ => ?_))
  all_goals (conv => whnf)
  · rename_i h
    have h : (i : Int) < ((strsD g.nons).length : Int) := decT h
    rw [strs_len] at h
    have hi : i < g.nons.length := by omega
    have hg := List.getElem?_eq_getElem hi
    refine IdxG.to i (strC g.nons[i]) rfl (strs_get hg) ?_
    repeat' ((conv => whnf); first | refine aB rfl ?_ | refine sY rfl ?_ | refine sN rfl ?_ | refine sM (fun _ => ?_) (fun _ => ?_))
    all_goals (conv => whnf)
    · rename_i h3
      have h3 : g.nons[i] = s := strEq_iff.1 h3
      obtain rfl : R = i := by rw [← hR]; exact idxS_at h2 hg (by simpa using h3.symm)
      exact rfl
    · rename_i h3
      have h3 : g.nons[i] ≠ s := strEq_ff.1 h3
      refine KI.i64 ((i + 1 : Nat) : Int) (by simp) (by omega) ?_
      repeat' ((conv => whnf); first | refine aB rfl ?_ | refine sY rfl ?_ | refine sN rfl ?_ | refine sM (fun _ => ?_) (fun _ => ?_))
      all_goals (conv => whnf)
      exact NextG.to (i + 1) ⟨by omega, idx_ext h2 hi (by simpa using fun e => h3 e.symm)⟩ (by omega) ⟨⟨rfl, rfl, rfl, trivial⟩, trivial⟩
  · rename_i h
    have h : ¬ (i : Int) < ((strsD g.nons).length : Int) := decF h
    rw [strs_len] at h
    obtain rfl : i = g.nons.length := by omega
    obtain rfl : R = -1 := by rw [← hR]; exact idxS_no h2
    exact rfl
end Tryz
end Go.Dm
namespace Go.Dm
/-! ### ref03: Ints; cfg: Same -/
namespace Tryz
open Go.Proofs
theorem refInts (a b : List Int) (ha : a.length < 9223372036854775808) (hb : b.length < 9223372036854775808) : PCall Tryz.prog 38 [] [.list 1 (ksD a), .list 1 (ksD b)] (.ret (.v (.bool (decide (a = b)))) []) := by
  generalize hR : decide (a = b) = R
  refine pcall_ofR (news := []) cxOK Tryz.func38 rfl Tryz.ntmps38 rfl rfl rfl (by decide) ?_
  repeat' ((conv => whnf); first | refine aB rfl ?_ | refine sY rfl ?_ | refine sN rfl ?_ | refine sM (fun _ => ?_) (fun _ => ?_))
  all_goals (conv => whnf)
  · rename_i h
    have h : ¬ (((ksD a).length : Int) = ((ksD b).length : Int)) := decF (notT h)
    rw [ksD_length, ksD_length] at h
    obtain rfl : R = false := by rw [← hR]; exact decide_eq_false (fun e => h (by rw [e]))
    exact rfl
  · rename_i h
    have h : (((ksD a).length : Int) = ((ksD b).length : Int)) := decT (notF h)
    rw [ksD_length, ksD_length] at h
    refine LoopW.to (ι := Nat) (fun i => i ≤ a.length ∧ ∀ q, q < i → a[q]? = b[q]?) (fun i => a.length - i)
      (fun i => [(0, .list 1 (ksD a)), (1, .list 1 (ksD b)), (5, .v (.int .i64 i))]) (fun _ => []) [] 0 ⟨Nat.zero_le _, fun q h => by omega⟩ ⟨⟨rfl, rfl, rfl, trivial⟩, trivial⟩ ?_
    rintro i ⟨h1, h2⟩
    repeat' ((conv => whnf); first | refine aB rfl ?_ | refine sY rfl ?_ | refine sN rfl ?_ | refine sM (fun _ => ?_) (fun _ => ?_))
    all_goals (conv => whnf)
    · rename_i h3
      have h3 : (i : Int) < ((ksD a).length : Int) := decT h3
      rw [ksD_length] at h3
      have hi : i < a.length := by omega
      have hj : i < b.length := by omega
      have hga := List.getElem?_eq_getElem hi
      have hgb := List.getElem?_eq_getElem hj
      refine IdxG.to i [D.v (.int .i64 a[i])] rfl (ksD_get hga) ?_
      repeat' ((conv => whnf); first | refine aB rfl ?_ | refine sY rfl ?_ | refine sN rfl ?_ | refine sM (fun _ => ?_) (fun _ => ?_))
      all_goals (conv => whnf)
      refine IdxG.to i [D.v (.int .i64 b[i])] rfl (ksD_get hgb) ?_
      repeat' ((conv => whnf); first | refine aB rfl ?_ | refine cK (by kernel_rfl) ?_ | refine And.intro rfl ?_ | refine sY rfl ?_ | refine sN rfl ?_ | refine sM (fun _ => ?_) (fun _ => ?_))
      all_goals (conv => whnf)
      · rename_i h4
        have h4 : (!decide (a[i] = b[i])) = true := h4
        have h4 := decF (notT h4)
        obtain rfl : R = false := by
          rw [← hR]
          refine decide_eq_false fun e => h4 ?_
          have := congrArg (fun l => l[i]?) e
          simp only [hga, hgb] at this
          injection this
        exact rfl
      · rename_i h4
        have h4 : (!decide (a[i] = b[i])) = false := h4
        have h4 := decT (notF h4)
        refine KI.i64 ((i + 1 : Nat) : Int) (by simp) (by omega) ?_
        repeat' ((conv => whnf); first | refine aB rfl ?_ | refine sY rfl ?_ | refine sN rfl ?_ | refine sM (fun _ => ?_) (fun _ => ?_))
        all_goals (conv => whnf)
        refine NextG.to (i + 1) ⟨by omega, fun q hq => ?_⟩ (by omega) ⟨⟨rfl, rfl, rfl, trivial⟩, trivial⟩
        by_cases hqi : q < i
        · exact h2 q hqi
        · obtain rfl : q = i := by omega
          rw [hga, hgb, h4]
    · rename_i h3
      have h3 : ¬ (i : Int) < ((ksD a).length : Int) := decF h3
      rw [ksD_length] at h3
      obtain rfl : R = true := by
        rw [← hR]
        refine decide_eq_true (List.ext_getElem? fun q => ?_)
        by_cases hq : q < i
        · exact h2 q hq
        · rw [List.getElem?_eq_none (by omega), List.getElem?_eq_none (by omega)]
      exact rfl
theorem rule_eq (a b : RuleS) : decide (a = b) = (decide (a.left = b.left) && (decide (a.prec = b.prec) && decide (a.right = b.right))) := by
  obtain ⟨l, r, p⟩ := a
  obtain ⟨l', r', p'⟩ := b
  simp only [RuleS.mk.injEq]
  by_cases h1 : l = l' <;> by_cases h2 : r = r' <;> by_cases h3 : p = p' <;> simp [h1, h2, h3]
theorem cfgRules (a b : RuleS) (ha : a.right.length < 9223372036854775808) (hb : b.right.length < 9223372036854775808) : PCall Tryz.prog 37 [] [.agg (ruleCells a), .agg (ruleCells b)] (.ret (.v (.bool (decide (a = b)))) []) := by
  generalize hR : decide (a = b) = R
  rw [rule_eq] at hR
  refine pcall_ofR (news := []) cxOK Tryz.func37 rfl Tryz.ntmps37 rfl rfl rfl (by decide) ?_
  repeat' ((conv => whnf); first | refine aB rfl ?_ | refine sY rfl ?_ | refine sN rfl ?_ | refine sM (fun _ => ?_) (fun _ => ?_))
  all_goals (conv => whnf)
  · rename_i h h2
    have h : decide (a.left = b.left) = true := h
    have h2 : decide (a.prec = b.prec) = true := h2
    refine call0 (eqInts a.right b.right (by omega) (by omega)) ?_
    repeat' ((conv => whnf); first | refine aB rfl ?_ | refine sY rfl ?_ | refine sN rfl ?_ | refine sM (fun _ => ?_) (fun _ => ?_))
    all_goals (conv => whnf)
    obtain rfl : R = decide (a.right = b.right) := by rw [← hR, h, h2]; rfl
    exact rfl
  · rename_i h h2
    have h : decide (a.left = b.left) = true := h
    have h2 : decide (a.prec = b.prec) = false := h2
    obtain rfl : R = false := by rw [← hR, h, h2]; rfl
    exact rfl
  · rename_i h
    have h : decide (a.left = b.left) = false := h
    obtain rfl : R = false := by rw [← hR, h]; rfl
    exact rfl
theorem eqRules (a b : List RuleS) (hz : ∀ r ∈ a, r.right.length < 9223372036854775808) (hz2 : ∀ r ∈ b, r.right.length < 9223372036854775808) (ha : a.length < 9223372036854775808) (hb : b.length < 9223372036854775808) : PCall Tryz.prog 36 [] [.list 3 (rulesD a), .list 3 (rulesD b), .fn (.func 37) []] (.ret (.v (.bool (decide (a = b)))) []) := by
  generalize hR : decide (a = b) = R
  refine pcall_ofR (news := [8, 9]) cxOK Tryz.func36 rfl Tryz.ntmps36 rfl rfl rfl (by decide) ?_
  repeat' ((conv => whnf); first | refine aB rfl ?_ | refine sY rfl ?_ | refine sN rfl ?_ | refine sM (fun _ => ?_) (fun _ => ?_))
  all_goals (conv => whnf)
  · rename_i h
    have h : ¬ (((rulesD a).length : Int) = ((rulesD b).length : Int)) := decF (notT h)
    rw [rules_len, rules_len] at h
    obtain rfl : R = false := by rw [← hR]; exact decide_eq_false (fun e => h (by rw [e]))
    rfl
  · rename_i h
    have h : (((rulesD a).length : Int) = ((rulesD b).length : Int)) := decT (notF h)
    rw [rules_len, rules_len] at h
    refine LoopW.to (ι := Nat) (fun i => i ≤ a.length ∧ ∀ q, q < i → a[q]? = b[q]?) (fun i => a.length - i)
      (fun i => [(0, .list 3 (rulesD a)), (1, .list 3 (rulesD b)), (2, .fn (.func 37) []), (15, .list 3 (rulesD a)), (16, .v (.int .i64 a.length)), (17, .v (.int .i64 i))]) (fun _ => []) [] 0 ⟨Nat.zero_le _, fun q h => by omega⟩ ⟨⟨rfl, rfl, rfl, rfl, congrArg (fun k : Nat => D.v (.int .i64 (k : Int))) (rules_len a), rfl, trivial⟩, trivial⟩ ?_
    rintro i ⟨h1, h2⟩
    repeat' ((conv => whnf); first | refine aB rfl ?_ | refine sY rfl ?_ | refine sN rfl ?_ | refine sM (fun _ => ?_) (fun _ => ?_))
    all_goals (conv => whnf)
    · rename_i h3
      have h3 := decT h3
      have hi : i < a.length := by omega
      have hj : i < b.length := by omega
      have hga := List.getElem?_eq_getElem hi
      have hgb := List.getElem?_eq_getElem hj
      refine IdxG.to i (ruleCells a[i]) rfl (rules_get hga) ?_
      repeat' ((conv => whnf); first | refine aB rfl ?_ | refine sY rfl ?_ | refine sN rfl ?_ | refine sM (fun _ => ?_) (fun _ => ?_))
      all_goals (conv => whnf)
      refine IdxG.to i (ruleCells b[i]) rfl (rules_get hgb) ?_
      repeat' ((conv => whnf); first | refine aB rfl ?_ | refine cK (by kernel_rfl) ?_ | refine And.intro rfl ?_ | refine sY rfl ?_ | refine sN rfl ?_ | refine sM (fun _ => ?_) (fun _ => ?_))
      all_goals (conv => whnf)
      refine call0 (cfgRules a[i] b[i] (hz _ (List.getElem_mem hi)) (hz2 _ (List.getElem_mem hj))) ?_
      repeat' ((conv => whnf); first | refine aB rfl ?_ | refine cK (by kernel_rfl) ?_ | refine And.intro rfl ?_ | refine sY rfl ?_ | refine sN rfl ?_ | refine sM (fun _ => ?_) (fun _ => ?_))
      all_goals (conv => whnf)
      · rename_i h4
        have h4 : (!decide (a[i] = b[i])) = true := h4
        have h4 := decF (notT h4)
        obtain rfl : R = false := by
          rw [← hR]
          refine decide_eq_false fun e => h4 ?_
          have := congrArg (fun l => l[i]?) e
          simp only [hga, hgb] at this
          injection this
        rfl
      · rename_i h4
        have h4 : (!decide (a[i] = b[i])) = false := h4
        have h4 := decT (notF h4)
        refine KI.i64 ((i + 1 : Nat) : Int) (by simp) (by omega) ?_
        repeat' ((conv => whnf); first | refine aB rfl ?_ | refine sY rfl ?_ | refine sN rfl ?_ | refine sM (fun _ => ?_) (fun _ => ?_))
        all_goals (conv => whnf)
        refine NextG.to (i + 1) ⟨by omega, fun q hq => ?_⟩ (by omega) ⟨⟨rfl, rfl, rfl, rfl, rfl, rfl, trivial⟩, trivial⟩
        by_cases hqi : q < i
        · exact h2 q hqi
        · obtain rfl : q = i := by omega
          rw [hga, hgb, h4]
    · rename_i h3
      have h3 := decF h3
      obtain rfl : R = true := by
        rw [← hR]
        refine decide_eq_true (List.ext_getElem? fun q => ?_)
        by_cases hq : q < i
        · exact h2 q hq
        · rw [List.getElem?_eq_none (by omega), List.getElem?_eq_none (by omega)]
      rfl
theorem cfgSame (g h : GramS) (hg : g.terms.length < 9223372036854775808 ∧ g.nons.length < 9223372036854775808 ∧ g.rules.length < 9223372036854775808 ∧ ∀ r ∈ g.rules, r.right.length < 9223372036854775808) (hh : h.terms.length < 9223372036854775808 ∧ h.nons.length < 9223372036854775808 ∧ h.rules.length < 9223372036854775808 ∧ ∀ r ∈ h.rules, r.right.length < 9223372036854775808) :
    PCall Tryz.prog 15 [] [gramD g, gramD h] (.ret (.v (.bool (sameS g h))) []) := by
  obtain ⟨g1, g2, g3, g4⟩ := hg
  obtain ⟨h1, h2, h3, h4⟩ := hh
  generalize hR : sameS g h = R
  refine pcall_ofR (news := []) cxOK Tryz.func15 rfl Tryz.ntmps15 rfl rfl rfl (by decide) ?_
  repeat' ((conv => whnf); first | refine aB rfl ?_ | refine sY rfl ?_ | refine sN rfl ?_ | refine sM (fun _ => ?_) (fun _ => ?_))
  all_goals (conv => whnf)
  refine call0 (eqTerms g.terms h.terms (by omega) (by omega)) ?_
  repeat' ((conv => whnf); first | refine aB rfl ?_ | refine sY rfl ?_ | refine sN rfl ?_ | refine sM (fun _ => ?_) (fun _ => ?_))
  all_goals (conv => whnf)
  · rename_i k1
    have k1 : decide (g.terms = h.terms) = true := k1
    refine call0 (eqStrs g.nons h.nons (by omega) (by omega)) ?_
    repeat' ((conv => whnf); first | refine aB rfl ?_ | refine sY rfl ?_ | refine sN rfl ?_ | refine sM (fun _ => ?_) (fun _ => ?_))
    all_goals (conv => whnf)
    · rename_i k2
      have k2 : decide (g.nons = h.nons) = true := k2
      refine call0 (eqRules g.rules h.rules g4 h4 (by omega) (by omega)) ?_
      repeat' ((conv => whnf); first | refine aB rfl ?_ | refine sY rfl ?_ | refine sN rfl ?_ | refine sM (fun _ => ?_) (fun _ => ?_))
      all_goals (conv => whnf)
      · rename_i k3
        have k3 : decide (g.rules = h.rules) = true := k3
        obtain rfl : R = decide (g.start = h.start) := by rw [← hR]; unfold sameS; rw [k1, k2, k3]; rfl
        exact rfl
      · rename_i k3
        have k3 : decide (g.rules = h.rules) = false := k3
        obtain rfl : R = false := by rw [← hR]; unfold sameS; rw [k1, k2, k3]; rfl
        exact rfl
    · rename_i k2
      have k2 : decide (g.nons = h.nons) = false := k2
      obtain rfl : R = false := by rw [← hR]; unfold sameS; rw [k1, k2]; rfl
      exact rfl
  · rename_i k1
    have k1 : decide (g.terms = h.terms) = false := k1
    obtain rfl : R = false := by rw [← hR]; unfold sameS; rw [k1]; rfl
    exact rfl
end Tryz
end Go.Dm
namespace Go.Dm
/-! ### ref09: Same -/
theorem upto_ne {α : Type} {a b : List α} {i : Nat} (hi : i < a.length) (hj : i < b.length) (h : a[i] ≠ b[i]) : a ≠ b := by
  intro e; subst e; exact h rfl
theorem upto_ext {α : Type} {a b : List α} {i : Nat} (h : ∀ q, q < i → a[q]? = b[q]?) (hi : i < a.length) (hj : i < b.length) (e : a[i] = b[i]) : ∀ q, q < i + 1 → a[q]? = b[q]? := by
  intro q hq
  by_cases hqi : q < i
  · exact h q hqi
  · obtain rfl : q = i := by omega
    rw [List.getElem?_eq_getElem hi, List.getElem?_eq_getElem hj, e]
theorem upto_eq {α : Type} {a b : List α} {i : Nat} (h : ∀ q, q < i → a[q]? = b[q]?) (hi : a.length ≤ i) (hl : a.length = b.length) : a = b := by
  refine List.ext_getElem? fun q => ?_
  by_cases hq : q < i
  · exact h q hq
  · rw [List.getElem?_eq_none (by omega), List.getElem?_eq_none (by omega)]
theorem same_no {g h : GramS} (e : g.terms ≠ h.terms ∨ g.nons ≠ h.nons ∨ g.rules ≠ h.rules ∨ g.start ≠ h.start) : sameS g h = false := by
  unfold sameS
  rcases e with e | e | e | e <;> rw [decide_eq_false e] <;> simp
theorem same_yes {g h : GramS} (e1 : g.terms = h.terms) (e2 : g.nons = h.nons) (e3 : g.rules = h.rules) (e4 : g.start = h.start) : sameS g h = true := by
  unfold sameS
  rw [decide_eq_true e1, decide_eq_true e2, decide_eq_true e3, decide_eq_true e4]; rfl
theorem rule_ext {a b : RuleS} (h1 : a.left = b.left) (h2 : a.prec = b.prec) (h3 : a.right = b.right) : a = b := by
  obtain ⟨l, r, p⟩ := a
  obtain ⟨l', r', p'⟩ := b
  simp only at h1 h2 h3
  rw [h1, h2, h3]
namespace Tryz
open Go.Proofs
theorem refSame (g h : GramS) (hg : g.terms.length < 9223372036854775808 ∧ g.nons.length < 9223372036854775808 ∧ g.rules.length < 9223372036854775808 ∧ ∀ r ∈ g.rules, r.right.length < 9223372036854775808) (hh : h.terms.length < 9223372036854775808 ∧ h.nons.length < 9223372036854775808 ∧ h.rules.length < 9223372036854775808 ∧ ∀ r ∈ h.rules, r.right.length < 9223372036854775808) :
    PCall Tryz.prog 16 [] [gramD g, gramD h] (.ret (.v (.bool (sameS g h))) []) := by
  obtain ⟨g1, g2, g3, g4⟩ := hg
  obtain ⟨h1, h2, h3, h4⟩ := hh
  generalize hR : sameS g h = R
  refine pcall_ofR (news := [8, 9]) cxOK Tryz.func16 rfl Tryz.ntmps16 rfl rfl rfl (by decide) ?_
  repeat' ((conv => whnf); first | refine aB rfl ?_ | refine sY rfl ?_ | refine sN rfl ?_ | refine sM (fun _ => ?_) (fun _ => ?_))
  all_goals (conv => whnf)
  · rename_i k
    have k : ¬ (((termsD g.terms).length : Int) = ((termsD h.terms).length : Int)) := decF (notT k)
    rw [terms_len, terms_len] at k
    obtain rfl : R = false := by rw [← hR]; exact same_no (.inl fun e => k (by rw [e]))
    exact rfl
  · rename_i k
    have k : ¬ (((strsD g.nons).length : Int) = ((strsD h.nons).length : Int)) := decF (notT k)
    rw [strs_len, strs_len] at k
    obtain rfl : R = false := by rw [← hR]; exact same_no (.inr (.inl fun e => k (by rw [e])))
    exact rfl
  · rename_i k
    have k : ¬ (((rulesD g.rules).length : Int) = ((rulesD h.rules).length : Int)) := decF (notT k)
    rw [rules_len, rules_len] at k
    obtain rfl : R = false := by rw [← hR]; exact same_no (.inr (.inr (.inl fun e => k (by rw [e]))))
    exact rfl
  · rename_i k
    have k : ¬ (g.start = h.start) := decF (notT k)
    obtain rfl : R = false := by rw [← hR]; exact same_no (.inr (.inr (.inr k)))
    exact rfl
  rename_i k1 k2 k3 k4
  have k1 : (((termsD g.terms).length : Int) = ((termsD h.terms).length : Int)) := decT (notF k1)
  have k2 : (((strsD g.nons).length : Int) = ((strsD h.nons).length : Int)) := decT (notF k2)
  have k3 : (((rulesD g.rules).length : Int) = ((rulesD h.rules).length : Int)) := decT (notF k3)
  have k4 : g.start = h.start := decT (notF k4)
  rw [terms_len, terms_len] at k1
  rw [strs_len, strs_len] at k2
  rw [rules_len, rules_len] at k3
  refine LoopW.to (ι := Nat) (fun i => i ≤ g.terms.length ∧ ∀ q, q < i → g.terms[q]? = h.terms[q]?) (fun i => g.terms.length - i)
    (fun i => [(2, .ptr (gramCells g)), (3, .ptr (gramCells h)), (5, .v (.int .i64 i))]) (fun _ => []) [] 0 ⟨Nat.zero_le _, fun q h => by omega⟩ ⟨⟨rfl, rfl, rfl, trivial⟩, trivial⟩ ?_
  rintro i ⟨a1, i2⟩
  repeat' ((conv => whnf); first | refine aB rfl ?_ | refine sY rfl ?_ | refine sN rfl ?_ | refine sM (fun _ => ?_) (fun _ => ?_))
  all_goals (conv => whnf)
  · rename_i a3
    have a3 : (i : Int) < ((termsD g.terms).length : Int) := decT a3
    rw [terms_len] at a3
    have hi : i < g.terms.length := by omega
    have hj : i < h.terms.length := by omega
    refine IdxG.to i (termCells g.terms[i]) rfl (terms_get (List.getElem?_eq_getElem hi)) ?_
    repeat' ((conv => whnf); first | refine aB rfl ?_ | refine sY rfl ?_ | refine sN rfl ?_ | refine sM (fun _ => ?_) (fun _ => ?_))
    all_goals (conv => whnf)
    refine IdxG.to i (termCells h.terms[i]) rfl (terms_get (List.getElem?_eq_getElem hj)) ?_
    repeat' ((conv => whnf); first | refine aB rfl ?_ | refine sY rfl ?_ | refine sN rfl ?_ | refine sM (fun _ => ?_) (fun _ => ?_))
    all_goals (conv => whnf)
    refine BinG.to (.v (.bool (!decide (g.terms[i] = h.terms[i])))) (bs_termNe g.terms[i] h.terms[i]) ?_
    repeat' ((conv => whnf); first | refine aB rfl ?_ | refine cK (by kernel_rfl) ?_ | refine And.intro rfl ?_ | refine sY rfl ?_ | refine sN rfl ?_ | refine sM (fun _ => ?_) (fun _ => ?_))
    all_goals (conv => whnf)
    · rename_i a4
      have a4 : (!decide (g.terms[i] = h.terms[i])) = true := a4
      have a4 := decF (notT a4)
      obtain rfl : R = false := by rw [← hR]; exact same_no (.inl (upto_ne hi hj a4))
      exact rfl
    · rename_i a4
      have a4 : (!decide (g.terms[i] = h.terms[i])) = false := a4
      have a4 := decT (notF a4)
      refine KI.i64 ((i + 1 : Nat) : Int) (by simp) (by omega) ?_
      repeat' ((conv => whnf); first | refine aB rfl ?_ | refine sY rfl ?_ | refine sN rfl ?_ | refine sM (fun _ => ?_) (fun _ => ?_))
      all_goals (conv => whnf)
      exact NextG.to (i + 1) ⟨by omega, upto_ext i2 hi hj a4⟩ (by omega) ⟨⟨rfl, rfl, rfl, trivial⟩, trivial⟩
  rename_i a3
  have a3 : ¬ (i : Int) < ((termsD g.terms).length : Int) := decF a3
  rw [terms_len] at a3
  have e1 : g.terms = h.terms := upto_eq i2 (by omega) (by omega)
  refine LoopW.to (ι := Nat) (fun i => i ≤ g.nons.length ∧ ∀ q, q < i → g.nons[q]? = h.nons[q]?) (fun i => g.nons.length - i)
    (fun i => [(2, .ptr (gramCells g)), (3, .ptr (gramCells h)), (6, .v (.int .i64 i))]) (fun _ => []) [] 0 ⟨Nat.zero_le _, fun q h => by omega⟩ ⟨⟨rfl, rfl, rfl, trivial⟩, trivial⟩ ?_
  rintro j ⟨a1, j2⟩
  repeat' ((conv => whnf); first | refine aB rfl ?_ | refine sY rfl ?_ | refine sN rfl ?_ | refine sM (fun _ => ?_) (fun _ => ?_))
  all_goals (conv => whnf)
  · rename_i a3
    have a3 : (j : Int) < ((strsD g.nons).length : Int) := decT a3
    rw [strs_len] at a3
    have hi : j < g.nons.length := by omega
    have hj : j < h.nons.length := by omega
    refine IdxG.to j (strC g.nons[j]) rfl (strs_get (List.getElem?_eq_getElem hi)) ?_
    repeat' ((conv => whnf); first | refine aB rfl ?_ | refine sY rfl ?_ | refine sN rfl ?_ | refine sM (fun _ => ?_) (fun _ => ?_))
    all_goals (conv => whnf)
    refine IdxG.to j (strC h.nons[j]) rfl (strs_get (List.getElem?_eq_getElem hj)) ?_
    repeat' ((conv => whnf); first | refine aB rfl ?_ | refine cK (by kernel_rfl) ?_ | refine And.intro rfl ?_ | refine sY rfl ?_ | refine sN rfl ?_ | refine sM (fun _ => ?_) (fun _ => ?_))
    all_goals (conv => whnf)
    · rename_i a4
      have a4 : g.nons[j] ≠ h.nons[j] := strEq_ff.1 (notT a4)
      obtain rfl : R = false := by rw [← hR]; exact same_no (.inr (.inl (upto_ne hi hj a4)))
      exact rfl
    · rename_i a4
      have a4 : g.nons[j] = h.nons[j] := strEq_iff.1 (notF a4)
      refine KI.i64 ((j + 1 : Nat) : Int) (by simp) (by omega) ?_
      repeat' ((conv => whnf); first | refine aB rfl ?_ | refine sY rfl ?_ | refine sN rfl ?_ | refine sM (fun _ => ?_) (fun _ => ?_))
      all_goals (conv => whnf)
      exact NextG.to (j + 1) ⟨by omega, upto_ext j2 hi hj a4⟩ (by omega) ⟨⟨rfl, rfl, rfl, trivial⟩, trivial⟩
  rename_i a3
  have a3 : ¬ (j : Int) < ((strsD g.nons).length : Int) := decF a3
  rw [strs_len] at a3
  have e2 : g.nons = h.nons := upto_eq j2 (by omega) (by omega)
  refine LoopW.to (ι := Nat) (fun i => i ≤ g.rules.length ∧ ∀ q, q < i → g.rules[q]? = h.rules[q]?) (fun i => g.rules.length - i)
    (fun i => [(2, .ptr (gramCells g)), (3, .ptr (gramCells h)), (7, .v (.int .i64 i))]) (fun _ => []) [] 0 ⟨Nat.zero_le _, fun q h => by omega⟩ ⟨⟨rfl, rfl, rfl, trivial⟩, trivial⟩ ?_
  rintro l ⟨a1, l2⟩
  repeat' ((conv => whnf); first | refine aB rfl ?_ | refine sY rfl ?_ | refine sN rfl ?_ | refine sM (fun _ => ?_) (fun _ => ?_))
  all_goals (conv => whnf)
  · rename_i a3
    have a3 : (l : Int) < ((rulesD g.rules).length : Int) := decT a3
    rw [rules_len] at a3
    have hi : l < g.rules.length := by omega
    have hj : l < h.rules.length := by omega
    refine IdxG.to l (ruleCells g.rules[l]) rfl (rules_get (List.getElem?_eq_getElem hi)) ?_
    repeat' ((conv => whnf); first | refine aB rfl ?_ | refine sY rfl ?_ | refine sN rfl ?_ | refine sM (fun _ => ?_) (fun _ => ?_))
    all_goals (conv => whnf)
    refine IdxG.to l (ruleCells h.rules[l]) rfl (rules_get (List.getElem?_eq_getElem hj)) ?_
    have hne : (¬ g.rules[l].left = h.rules[l].left ∨ ¬ g.rules[l].prec = h.rules[l].prec ∨ ¬ g.rules[l].right = h.rules[l].right) → R = false := fun e => by
      rw [← hR]; refine same_no (.inr (.inr (.inl (upto_ne hi hj fun e' => ?_)))); rw [e'] at e; simp at e
    repeat' ((conv => whnf); first | refine aB rfl ?_ | refine cK (by kernel_rfl) ?_ | refine And.intro rfl ?_ | refine sY rfl ?_ | refine sN rfl ?_ | refine sM (fun _ => ?_) (fun _ => ?_))
    all_goals (conv => whnf)
    · rename_i b1
      have b1 : (!decide (g.rules[l].left = h.rules[l].left)) = true := b1
      obtain rfl := hne (.inl (decF (notT b1)))
      exact rfl
    · rename_i b1 b2
      have b2 : (!decide (g.rules[l].prec = h.rules[l].prec)) = true := b2
      obtain rfl := hne (.inr (.inl (decF (notT b2))))
      exact rfl
    rename_i b1 b2
    have b1 : (!decide (g.rules[l].left = h.rules[l].left)) = false := b1
    have b2 : (!decide (g.rules[l].prec = h.rules[l].prec)) = false := b2
    refine call0 (refInts g.rules[l].right h.rules[l].right (by have := g4 _ (List.getElem_mem hi); omega) (by have := h4 _ (List.getElem_mem hj); omega)) ?_
    repeat' ((conv => whnf); first | refine aB rfl ?_ | refine cK (by kernel_rfl) ?_ | refine And.intro rfl ?_ | refine sY rfl ?_ | refine sN rfl ?_ | refine sM (fun _ => ?_) (fun _ => ?_))
    all_goals (conv => whnf)
    · rename_i b3
      have b3 : (!decide (g.rules[l].right = h.rules[l].right)) = true := b3
      obtain rfl := hne (.inr (.inr (decF (notT b3))))
      exact rfl
    · rename_i b3
      have b3 : (!decide (g.rules[l].right = h.rules[l].right)) = false := b3
      have a4 : g.rules[l] = h.rules[l] := rule_ext (decT (notF b1)) (decT (notF b2)) (decT (notF b3))
      refine KI.i64 ((l + 1 : Nat) : Int) (by simp) (by omega) ?_
      repeat' ((conv => whnf); first | refine aB rfl ?_ | refine sY rfl ?_ | refine sN rfl ?_ | refine sM (fun _ => ?_) (fun _ => ?_))
      all_goals (conv => whnf)
      exact NextG.to (l + 1) ⟨by omega, upto_ext l2 hi hj a4⟩ (by omega) ⟨⟨rfl, rfl, rfl, trivial⟩, trivial⟩
  rename_i a3
  have a3 : ¬ (l : Int) < ((rulesD g.rules).length : Int) := decF a3
  rw [rules_len] at a3
  have e3 : g.rules = h.rules := upto_eq l2 (by omega) (by omega)
  obtain rfl : R = true := by rw [← hR]; exact same_yes e1 e2 e3 k4
  exact rfl
end Tryz
end Go.Dm
namespace Go.Dm
/-! ### ref09: level, nons -/
def levGo (n : Int) : Int → List TermS → Bool
  | s, [] => !decide (s = 0)
  | s, t :: r => match decide (t.level = n) with
    | false => levGo n s r
    | true => match !decide (s = 0) && !decide (s = t.assoc) with
      | true => false
      | false => levGo n t.assoc r
def idxAll {α : Type} (p : Nat → α → Bool) : Nat → List α → Bool
  | _, [] => true
  | i, x :: r => match p i x with
    | true => idxAll p (i + 1) r
    | false => false
def nonOne (g : GramS) (i : Nat) (s : List UInt8) : Bool := NameS s && (decide (strIx g.nons s = i) && decide (termIx g.terms s < 0))
def nonsR (g : GramS) : Bool := !decide ((g.nons.length : Int) < 1) && (!decide ((g.nons.length : Int) > 16) && idxAll (nonOne g) 0 g.nons)
theorem levGo_skip {n s : Int} {t : TermS} {r : List TermS} (h : decide (t.level = n) = false) : levGo n s (t :: r) = levGo n s r := by simp only [levGo, h]
theorem levGo_bad {n s : Int} {t : TermS} {r : List TermS} (h : decide (t.level = n) = true) (h2 : (!decide (s = 0) && !decide (s = t.assoc)) = true) : levGo n s (t :: r) = false := by simp only [levGo, h, h2]
theorem levGo_go {n s : Int} {t : TermS} {r : List TermS} (h : decide (t.level = n) = true) (h2 : (!decide (s = 0) && !decide (s = t.assoc)) = false) : levGo n s (t :: r) = levGo n t.assoc r := by simp only [levGo, h, h2]
theorem idxAll_go {α : Type} {p : Nat → α → Bool} {i : Nat} {l : List α} {R : Bool} (hi : i < l.length) (h : p i l[i] = true) (k : idxAll p i (l.drop i) = R) : idxAll p (i + 1) (l.drop (i + 1)) = R := by
  rw [List.drop_eq_getElem_cons hi] at k
  simpa only [idxAll, h] using k
theorem idxAll_bad {α : Type} {p : Nat → α → Bool} {i : Nat} {l : List α} {R : Bool} (hi : i < l.length) (h : p i l[i] = false) (k : idxAll p i (l.drop i) = R) : R = false := by
  rw [List.drop_eq_getElem_cons hi] at k
  simp only [idxAll, h] at k
  exact k.symm
theorem idxAll_end {α : Type} {p : Nat → α → Bool} {i : Nat} {l : List α} {R : Bool} (hi : i = l.length) (k : idxAll p i (l.drop i) = R) : R = true := by
  rw [hi, List.drop_length] at k
  exact k.symm
structure LvSt where
  i : Nat
  s : Int
namespace Tryz
open Go.Proofs
theorem refLevel (g : GramS) (n : Int) (hg : g.terms.length < 9223372036854775808) : PCall Tryz.prog 63 [] [gramD g, .v (.int .i64 n)] (.ret (.v (.bool (levGo n 0 g.terms))) []) := by
  generalize hR : levGo n 0 g.terms = R
  refine pcall_ofR (news := [7]) cxOK Tryz.func63 rfl Tryz.ntmps63 rfl rfl rfl (by decide) ?_
  repeat' ((conv => whnf); first | refine aB rfl ?_ | refine sY rfl ?_ | refine sN rfl ?_ | refine sM (fun _ => ?_) (fun _ => ?_))
  all_goals (conv => whnf)
  refine LoopW.to (ι := LvSt) (fun s => s.i ≤ g.terms.length ∧ levGo n s.s (g.terms.drop s.i) = R) (fun s => g.terms.length - s.i)
    (fun s => [(1, .v (.int .i64 n)), (2, .ptr (gramCells g)), (5, .v (.int .i64 s.s)), (6, .v (.int .i64 s.i))]) (fun _ => []) [] ⟨0, 0⟩ ⟨Nat.zero_le _, hR⟩ ⟨⟨rfl, rfl, rfl, rfl, trivial⟩, trivial⟩ ?_
  rintro ⟨i, s⟩ ⟨h1, h2⟩
  simp only at h1 h2
  repeat' ((conv => whnf); first | refine aB rfl ?_ | refine sY rfl ?_ | refine sN rfl ?_ | refine sM (fun _ => ?_) (fun _ => ?_))
  all_goals (conv => whnf)
  · rename_i h
    have h : (i : Int) < ((termsD g.terms).length : Int) := decT h
    rw [terms_len] at h
    have hi : i < g.terms.length := by omega
    rw [List.drop_eq_getElem_cons hi] at h2
    refine IdxG.to i (termCells g.terms[i]) rfl (terms_get (List.getElem?_eq_getElem hi)) ?_
    repeat' ((conv => whnf); first | refine aB rfl ?_ | refine cK (by kernel_rfl) ?_ | refine And.intro rfl ?_ | refine sY rfl ?_ | refine sN rfl ?_ | refine sM (fun _ => ?_) (fun _ => ?_))
    all_goals (conv => whnf)
    · rename_i b1
      have b1 : decide (g.terms[i].level = n) = false := notT b1
      have h2 := (levGo_skip b1).symm.trans h2
      refine KI.i64 ((i + 1 : Nat) : Int) (by simp) (by omega) ?_
      repeat' ((conv => whnf); first | refine aB rfl ?_ | refine sY rfl ?_ | refine sN rfl ?_ | refine sM (fun _ => ?_) (fun _ => ?_))
      all_goals (conv => whnf)
      refine NextG.to ⟨i + 1, s⟩ ⟨by simp only; omega, h2⟩ (by simp only; omega) ⟨⟨rfl, rfl, rfl, rfl, trivial⟩, trivial⟩
    · rename_i b1 b2 b3
      have b1 : decide (g.terms[i].level = n) = true := notF b1
      have b2 : (!decide (s = 0)) = true := b2
      have b3 : (!decide (s = g.terms[i].assoc)) = true := b3
      obtain rfl : R = false := (((levGo_bad b1 (by rw [b2, b3]; rfl)).symm.trans h2)).symm
      exact rfl
    · rename_i b1 b2 b3
      have b1 : decide (g.terms[i].level = n) = true := notF b1
      have b3 : (!decide (s = g.terms[i].assoc)) = false := b3
      have h2 := (levGo_go b1 (by rw [b3, Bool.and_false])).symm.trans h2
      refine KI.i64 ((i + 1 : Nat) : Int) (by simp) (by omega) ?_
      repeat' ((conv => whnf); first | refine aB rfl ?_ | refine sY rfl ?_ | refine sN rfl ?_ | refine sM (fun _ => ?_) (fun _ => ?_))
      all_goals (conv => whnf)
      refine NextG.to ⟨i + 1, g.terms[i].assoc⟩ ⟨by simp only; omega, h2⟩ (by simp only; omega) ⟨⟨rfl, rfl, rfl, rfl, trivial⟩, trivial⟩
    · rename_i b1 b2
      have b1 : decide (g.terms[i].level = n) = true := notF b1
      have b2 : (!decide (s = 0)) = false := b2
      have h2 := (levGo_go b1 (by rw [b2, Bool.false_and])).symm.trans h2
      refine KI.i64 ((i + 1 : Nat) : Int) (by simp) (by omega) ?_
      repeat' ((conv => whnf); first | refine aB rfl ?_ | refine sY rfl ?_ | refine sN rfl ?_ | refine sM (fun _ => ?_) (fun _ => ?_))
      all_goals (conv => whnf)
      refine NextG.to ⟨i + 1, g.terms[i].assoc⟩ ⟨by simp only; omega, h2⟩ (by simp only; omega) ⟨⟨rfl, rfl, rfl, rfl, trivial⟩, trivial⟩
  · rename_i h
    have h : ¬ (i : Int) < ((termsD g.terms).length : Int) := decF h
    rw [terms_len] at h
    rw [show i = g.terms.length by omega, List.drop_length] at h2
    obtain rfl : R = !decide (s = 0) := h2.symm
    exact rfl
theorem refNons (g : GramS) (hg : g.nons.length < 9223372036854775808) (hl : ∀ s ∈ g.nons, s.length < 9223372036854775808) (ht : g.terms.length < 9223372036854775808) : PCall Tryz.prog 32 [] [gramD g] (.ret (.v (.bool (nonsR g))) []) := by
  generalize hR : nonsR g = R
  refine pcall_ofR (news := []) cxOK Tryz.func32 rfl Tryz.ntmps32 rfl rfl rfl (by decide) ?_
  repeat' ((conv => whnf); first | refine aB rfl ?_ | refine sY rfl ?_ | refine sN rfl ?_ | refine sM (fun _ => ?_) (fun _ => ?_))
  all_goals (conv => whnf)
  · rename_i h
    have h : decide (((strsD g.nons).length : Int) < 1) = true := h
    rw [strs_len] at h
    obtain rfl : R = false := by rw [← hR]; unfold nonsR; rw [h]; rfl
    exact rfl
  · rename_i h h2
    have h2 : decide (((strsD g.nons).length : Int) > 16) = true := h2
    rw [strs_len] at h2
    obtain rfl : R = false := by rw [← hR]; unfold nonsR; rw [h2]; simp
    exact rfl
  rename_i h h2
  have h : decide (((strsD g.nons).length : Int) < 1) = false := h
  have h2 : decide (((strsD g.nons).length : Int) > 16) = false := h2
  rw [strs_len] at h h2
  have hR : idxAll (nonOne g) 0 g.nons = R := by rw [← hR]; unfold nonsR; rw [h, h2]; rfl
  refine LoopW.to (ι := Nat) (fun i => i ≤ g.nons.length ∧ idxAll (nonOne g) i (g.nons.drop i) = R) (fun i => g.nons.length - i)
    (fun i => [(1, .ptr (gramCells g)), (3, .v (.int .i64 i))]) (fun _ => []) [] 0 ⟨Nat.zero_le _, hR⟩ ⟨⟨rfl, rfl, trivial⟩, trivial⟩ ?_
  rintro i ⟨h1, h2⟩
  repeat' ((conv => whnf); first | refine aB rfl ?_ | refine sY rfl ?_ | refine sN rfl ?_ | refine sM (fun _ => ?_) (fun _ => ?_))
  all_goals (conv => whnf)
  · rename_i h
    have h : (i : Int) < ((strsD g.nons).length : Int) := decT h
    rw [strs_len] at h
    have hi : i < g.nons.length := by omega
    have hm := hl _ (List.getElem_mem hi)
    refine IdxG.to i (strC g.nons[i]) rfl (strs_get (List.getElem?_eq_getElem hi)) ?_
    repeat' ((conv => whnf); first | refine aB rfl ?_ | refine sY rfl ?_ | refine sN rfl ?_ | refine sM (fun _ => ?_) (fun _ => ?_))
    all_goals (conv => whnf)
    refine call0 (refName7 g.nons[i] hm) ?_
    repeat' ((conv => whnf); first | refine aB rfl ?_ | refine cK (by kernel_rfl) ?_ | refine And.intro rfl ?_ | refine sY rfl ?_ | refine sN rfl ?_ | refine sM (fun _ => ?_) (fun _ => ?_))
    all_goals (conv => whnf)
    · rename_i b1
      have b1 : NameS g.nons[i] = false := notT b1
      obtain rfl := idxAll_bad hi (by simp only [nonOne, b1, Bool.false_and]) h2
      exact rfl
    rename_i b1
    have b1 : NameS g.nons[i] = true := notF b1
    refine IdxG.to i (strC g.nons[i]) rfl (strs_get (List.getElem?_eq_getElem hi)) ?_
    repeat' ((conv => whnf); first | refine aB rfl ?_ | refine sY rfl ?_ | refine sN rfl ?_ | refine sM (fun _ => ?_) (fun _ => ?_))
    all_goals (conv => whnf)
    refine call0 (refNon g g.nons[i] hg) ?_
    repeat' ((conv => whnf); first | refine aB rfl ?_ | refine cK (by kernel_rfl) ?_ | refine And.intro rfl ?_ | refine sY rfl ?_ | refine sN rfl ?_ | refine sM (fun _ => ?_) (fun _ => ?_))
    all_goals (conv => whnf)
    · rename_i b2
      have b2 : (!decide (strIx g.nons g.nons[i] = (i : Int))) = true := b2
      have b2 : decide (strIx g.nons g.nons[i] = (i : Int)) = false := notT b2
      obtain rfl := idxAll_bad hi (by simp only [nonOne, b2, Bool.false_and, Bool.and_false]) h2
      exact rfl
    rename_i b2
    have b2 : (!decide (strIx g.nons g.nons[i] = (i : Int))) = false := b2
    have b2 : decide (strIx g.nons g.nons[i] = (i : Int)) = true := notF b2
    refine IdxG.to i (strC g.nons[i]) rfl (strs_get (List.getElem?_eq_getElem hi)) ?_
    repeat' ((conv => whnf); first | refine aB rfl ?_ | refine sY rfl ?_ | refine sN rfl ?_ | refine sM (fun _ => ?_) (fun _ => ?_))
    all_goals (conv => whnf)
    refine call0 (refTerm g g.nons[i] ht) ?_
    repeat' ((conv => whnf); first | refine aB rfl ?_ | refine cK (by kernel_rfl) ?_ | refine And.intro rfl ?_ | refine sY rfl ?_ | refine sN rfl ?_ | refine sM (fun _ => ?_) (fun _ => ?_))
    all_goals (conv => whnf)
    · rename_i b3
      have b3 : decide (termIx g.terms g.nons[i] ≥ 0) = true := b3
      have b3 : decide (termIx g.terms g.nons[i] < 0) = false := decide_eq_false (by have := decT b3; omega)
      obtain rfl := idxAll_bad hi (by simp only [nonOne, b3, Bool.and_false]) h2
      exact rfl
    · rename_i b3
      have b3 : decide (termIx g.terms g.nons[i] ≥ 0) = false := b3
      have b3 : decide (termIx g.terms g.nons[i] < 0) = true := decide_eq_true (by have := decF b3; omega)
      have h2 := idxAll_go hi (by simp only [nonOne, b1, b2, b3, Bool.and_self]) h2
      refine KI.i64 ((i + 1 : Nat) : Int) (by simp) (by omega) ?_
      repeat' ((conv => whnf); first | refine aB rfl ?_ | refine sY rfl ?_ | refine sN rfl ?_ | refine sM (fun _ => ?_) (fun _ => ?_))
      all_goals (conv => whnf)
      exact NextG.to (i + 1) ⟨by omega, h2⟩ (by omega) ⟨⟨rfl, rfl, trivial⟩, trivial⟩
  · rename_i h
    have h : ¬ (i : Int) < ((strsD g.nons).length : Int) := decF h
    rw [strs_len] at h
    obtain rfl := idxAll_end (by omega) h2
    exact rfl
end Tryz
end Go.Dm
