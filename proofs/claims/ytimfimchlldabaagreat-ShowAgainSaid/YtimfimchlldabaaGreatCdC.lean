/- Texts of one proof, joined by a program of this claim's: a semantic evaluator for the walks; the contracts of the functions; the plain laws. -/
import Derived.Shelf.Strings.Builder1
import Derived.Shelf.Strings.Builder2
import Derived.Shelf.Small.Bits
import Derived.Shelf.Strconv.Itoa0
import Derived.Shelf.Strings.Search1
import Derived.Shelf.Sort.Plain
import Derived.Ground.Names2Prog
import Derived.Shelf.Slices.Clone
import Derived.Shelf.Slices.CompactS
import Derived.Shelf.Slices.Cells
import Derived.Shelf.Slices.In.SortNone
import Derived.Shelf.Bytes.SlSearch1
import Derived.Ground.SlgnProg
import Derived.Shelf.SlicesE.Clone
import Derived.Shelf.Bytes.IndexByte
import Derived.Test.YtimfimchlldabaaGreatProg
import Derived.Lib.IndexBytes
import Derived.Lib.IndexEntry
import Derived.Lib.IndexMore
import Derived.Test.YtimfimchlldabaaGreatCdB
set_option linter.all false
namespace Go.Dm
def plainS (c : Int) : Bool := decide (32 ≤ c) && (decide (c ≤ 126) && (!decide (c = 39) && !decide (c = 92)))
def escapedS (c : Int) : Bool := decide (c = 110) || (decide (c = 116) || (decide (c = 92) || decide (c = 39)))
def smallS (c : Int) : Bool := decide (97 ≤ c) && decide (c ≤ 122)
def litEnd (b : List UInt8) (n : Nat) : Nat × Nat := match b[n]? with
  | none => (0, 4)
  | some c => match decide ((c.toNat : Int) = 39) with
    | true => (n + 1, 0)
    | false => (0, 3)
def literalS (b : List UInt8) : Nat × Nat := match b with
  | _ :: c :: r => match plainS c.toNat with
    | true => litEnd b 2
    | false => match decide ((c.toNat : Int) = 92) with
      | false => (0, 3)
      | true => match r with
        | [] => (0, 4)
        | d :: _ => match escapedS d.toNat with
          | false => (0, 3)
          | true => litEnd b 3
  | _ => (0, 4)
def LiteralS (s : List UInt8) : Bool := match s with
  | [] => false
  | c :: _ => match decide ((c.toNat : Int) = 39) with
    | false => false
    | true => decide ((literalS s).2 = 0) && decide ((literalS s).1 = s.length)
def spanS (p : UInt8 → Bool) : List UInt8 → Nat
  | [] => 0
  | c :: r => match p c with
    | true => spanS p r + 1
    | false => 0
def runS (p : UInt8 → Bool) (b : List UInt8) : Nat := match b with
  | [] => 1
  | _ :: r => spanS p r + 1
def lineS (b : List UInt8) : Nat := match decide (0 ≤ Lib.indexByte b 10) with
  | true => (Lib.indexByte b 10).toNat
  | false => b.length
def textGo (q : UInt8) : List UInt8 → Nat → Bool → Nat
  | [], _, _ => 0
  | _ :: r, i, true => textGo q r (i + 1) false
  | c :: r, i, false => match decide ((c.toNat : Int) = q.toNat) with
    | true => i + 1
    | false => textGo q r (i + 1) (decide ((c.toNat : Int) = 92))
def textS (b : List UInt8) : Nat := match b with
  | [] => 0
  | q :: r => textGo q r 1 false
theorem spanS_drop {p : UInt8 → Bool} : ∀ {b : List UInt8} {i : Nat}, (∀ k, k < i → ∀ c, b[k]? = some c → p c = true) → i ≤ b.length → spanS p b = i + spanS p (b.drop i)
  | b, 0, _, _ => by simp
  | [], i + 1, _, h => by simp at h
  | c :: r, i + 1, h, hl => by
    have h0 := h 0 (by omega) c rfl
    have := spanS_drop (p := p) (b := r) (i := i) (fun k hk d hd => h (k + 1) (by omega) d (by simpa using hd)) (by simpa using hl)
    simp only [spanS, h0, List.drop_succ_cons]
    omega
def litD (p : Nat × Nat) : D := .tup [.v (.int .i64 p.1), .v (.int .i64 p.2)]
namespace Tryz
open Go.Proofs
theorem lexPlain (c : Int) : PCall Tryz.prog 140 [] [.v (.int .u8 c)] (.ret (.v (.bool (plainS c))) []) := by
  refine pcall_of (news := []) cxOK Tryz.func140 rfl Tryz.ntmps140 rfl rfl rfl (by decide) ?_
  repeat' ((conv => whnf); first | exact trivial | refine xB ?_ | refine xY ?_ | refine xN ?_ | refine sM ?_ ?_ <;> intro _ | refine KI.to _ rfl ?_ | refine xC ?_ | refine And.intro ?_ ?_ | exact Or.inl ⟨rfl, rfl⟩)
  all_goals (conv => whnf)
  all_goals (simp_all [plainS]; try omega)
theorem lexEscaped (c : Int) : PCall Tryz.prog 141 [] [.v (.int .u8 c)] (.ret (.v (.bool (escapedS c))) []) := by
  refine pcall_of (news := []) cxOK Tryz.func141 rfl Tryz.ntmps141 rfl rfl rfl (by decide) ?_
  repeat' ((conv => whnf); first | exact trivial | refine xB ?_ | refine xY ?_ | refine xN ?_ | refine sM ?_ ?_ <;> intro _ | refine KI.to _ rfl ?_ | refine xC ?_ | refine And.intro ?_ ?_ | exact Or.inl ⟨rfl, rfl⟩)
  all_goals (conv => whnf)
  all_goals (simp_all [escapedS]; try omega)
theorem lexSmall (c : Int) : PCall Tryz.prog 118 [] [.v (.int .u8 c)] (.ret (.v (.bool (smallS c))) []) := by
  refine pcall_of (news := []) cxOK Tryz.func118 rfl Tryz.ntmps118 rfl rfl rfl (by decide) ?_
  repeat' ((conv => whnf); first | exact trivial | refine xB ?_ | refine xY ?_ | refine xN ?_ | refine sM ?_ ?_ <;> intro _ | refine KI.to _ rfl ?_ | refine xC ?_ | refine And.intro ?_ ?_ | exact Or.inl ⟨rfl, rfl⟩)
  all_goals (conv => whnf)
  all_goals (simp_all [smallS]; try omega)
theorem byD_none {b : List UInt8} {n : Nat} (h : decide (((byD b).length : Int) ≤ (n : Int)) = true) : b[n]? = none := by
  have h := decT h
  rw [byD_length] at h
  exact List.getElem?_eq_none (by omega)
theorem byD_some {b : List UInt8} {n : Nat} (h : decide (((byD b).length : Int) ≤ (n : Int)) = false) : ∃ c, b[n]? = some c := by
  have h := decF h
  rw [byD_length] at h
  exact ⟨b[n], List.getElem?_eq_getElem (by omega)⟩
set_option maxHeartbeats 1000000 in
theorem lexliteral (b : List UInt8) : PCall Tryz.prog 107 [] [.list 1 (byD b)] (.ret (litD (literalS b)) []) := by
  refine pcall_of (news := []) cxOK Tryz.func107 rfl Tryz.ntmps107 rfl rfl rfl (by decide) ?_
  repeat' ((conv => whnf); first | exact trivial | refine xB ?_ | refine xY ?_ | refine xN ?_ | refine sM ?_ ?_ <;> intro _ | refine xC ?_ | refine And.intro ?_ ?_ | exact Or.inl ⟨rfl, rfl⟩ | exact rfl)
  all_goals (conv => whnf)
  · rename_i h
    have h := decT h
    rw [byD_length] at h
    match b, h with
    | [], _ => rfl
    | [_], _ => rfl
    | _ :: _ :: _, h => simp at h; omega
  · rename_i h
    have h := decT h
    rw [byD_length] at h
    match b, h with
    | [], _ => rfl
    | [_], _ => rfl
    | _ :: _ :: _, h => simp at h; omega
  rename_i h
  have h := decF h
  rw [byD_length] at h
  match b, h with
  | [], h => exact absurd (by simp) h
  | [_], h => exact absurd (by simp) h
  | q :: c :: r, _ =>
  refine IdxG.by 1 c rfl rfl ?_
  conv => whnf
  refine call0 (lexPlain _) ?_
  repeat' ((conv => whnf); first | exact trivial | refine xB ?_ | refine xY ?_ | refine xN ?_ | refine sM ?_ ?_ <;> intro _ | refine xC ?_ | refine And.intro ?_ ?_ | exact Or.inl ⟨rfl, rfl⟩ | exact rfl)
  all_goals (conv => whnf)
  · rename_i hp h2
    simp only [literalS, hp, litEnd, byD_none (n := 2) h2]; rfl
  · rename_i hp h2
    simp only [literalS, hp, litEnd, byD_none (n := 2) h2]; rfl
  · rename_i hp h2
    obtain ⟨d, hd⟩ := byD_some (n := 2) h2
    refine IdxG.by 2 d rfl hd ?_
    repeat' ((conv => whnf); first | exact trivial | refine xB ?_ | refine xY ?_ | refine xN ?_ | refine sM ?_ ?_ <;> intro _ | refine KI.to _ rfl ?_ | refine xC ?_ | refine And.intro ?_ ?_ | exact Or.inl ⟨rfl, rfl⟩)
    all_goals (conv => whnf)
    all_goals (rename_i h3; first | have h3 := notT h3 | have h3 := notF h3)
    all_goals (have hs : literalS (q :: c :: r) = litEnd (q :: c :: r) 2 := by simp only [literalS, hp])
    all_goals (simp only [hs, litEnd, hd, h3]; rfl)
  rename_i hp
  refine IdxG.by 1 c rfl rfl ?_
  repeat' ((conv => whnf); first | exact trivial | refine xB ?_ | refine xY ?_ | refine xN ?_ | refine sM ?_ ?_ <;> intro _ | refine xC ?_ | refine And.intro ?_ ?_ | exact Or.inl ⟨rfl, rfl⟩ | exact rfl)
  all_goals (conv => whnf)
  · rename_i h2
    have h2 := notT h2
    simp only [literalS, hp, h2]; rfl
  · rename_i h2
    have h2 := notT h2
    simp only [literalS, hp, h2]; rfl
  · rename_i h2 h3
    have h2 := notF h2
    have h3 := decT h3
    rw [byD_length] at h3
    cases r with
    | nil => simp only [literalS, hp, h2]; rfl
    | cons d r => simp at h3; omega
  · rename_i h2 h3
    have h2 := notF h2
    have h3 := decT h3
    rw [byD_length] at h3
    cases r with
    | nil => simp only [literalS, hp, h2]; rfl
    | cons d r => simp at h3; omega
  · rename_i h2 h3
    have h2 := notF h2
    have h3 := decF h3
    rw [byD_length] at h3
    cases r with
    | nil => simp at h3
    | cons d r =>
    refine IdxG.by 2 d rfl rfl ?_
    conv => whnf
    refine call0 (lexEscaped _) ?_
    repeat' ((conv => whnf); first | exact trivial | refine xB ?_ | refine xY ?_ | refine xN ?_ | refine sM ?_ ?_ <;> intro _ | refine xC ?_ | refine And.intro ?_ ?_ | exact Or.inl ⟨rfl, rfl⟩ | exact rfl)
    all_goals (conv => whnf)
    · rename_i h4
      have h4 := notT h4
      simp only [literalS, hp, h2, h4]; rfl
    · rename_i h4
      have h4 := notT h4
      simp only [literalS, hp, h2, h4]; rfl
    · rename_i h4 h5
      have h4 := notF h4
      simp only [literalS, hp, h2, h4, litEnd, byD_none (n := 3) h5]; rfl
    · rename_i h4 h5
      have h4 := notF h4
      simp only [literalS, hp, h2, h4, litEnd, byD_none (n := 3) h5]; rfl
    · rename_i h4 h5
      have h4 := notF h4
      obtain ⟨e, he⟩ := byD_some (n := 3) h5
      refine IdxG.by 3 e rfl he ?_
      repeat' ((conv => whnf); first | exact trivial | refine xB ?_ | refine xY ?_ | refine xN ?_ | refine sM ?_ ?_ <;> intro _ | refine KI.to _ rfl ?_ | refine xC ?_ | refine And.intro ?_ ?_ | exact Or.inl ⟨rfl, rfl⟩)
      all_goals (conv => whnf)
      all_goals (rename_i h6; first | have h6 := notT h6 | have h6 := notF h6)
      all_goals (have hs : literalS (q :: c :: d :: r) = litEnd (q :: c :: d :: r) 3 := by simp only [literalS, hp, h2, h4])
      all_goals (simp only [hs, litEnd, he, h6]; rfl)
theorem lexLiteral (s : List UInt8) : PCall Tryz.prog 80 [] [.v (str s)] (.ret (.v (.bool (LiteralS s))) []) := by
  refine pcall_of (news := []) cxOK Tryz.func80 rfl Tryz.ntmps80 rfl rfl rfl (by decide) ?_
  repeat' ((conv => whnf); first | exact trivial | refine xB ?_ | refine xY ?_ | refine xN ?_ | refine sM ?_ ?_ <;> intro _ | refine xC ?_ | refine And.intro ?_ ?_ | exact Or.inl ⟨rfl, rfl⟩ | exact rfl)
  all_goals (conv => whnf)
  · rename_i h
    have := strEq_iff.1 h
    subst this; rfl
  rename_i h0
  cases s with
  | nil => exact absurd rfl (strEq_ff.1 h0)
  | cons c s =>
  refine ChrG.to 0 c rfl rfl ?_
  repeat' ((conv => whnf); first | exact trivial | refine xB ?_ | refine xY ?_ | refine xN ?_ | refine sM ?_ ?_ <;> intro _ | refine xC ?_ | refine And.intro ?_ ?_ | exact Or.inl ⟨rfl, rfl⟩ | exact rfl)
  all_goals (conv => whnf)
  · rename_i h
    have h : decide ((c.toNat : Int) = 39) = false := notT h
    simp only [LiteralS, h]
  · rename_i h
    have h : decide ((c.toNat : Int) = 39) = true := notF h
    refine call0 (lexliteral (c :: s)) ?_
    repeat' ((conv => whnf); first | exact trivial | refine xB ?_ | refine xY ?_ | refine xN ?_ | refine sM ?_ ?_ <;> intro _ | refine xC ?_ | refine And.intro ?_ ?_ | exact Or.inl ⟨rfl, rfl⟩ | exact rfl)
    all_goals (conv => whnf)
    · rename_i h1
      have h1 := decT h1
      have e1 : (literalS (c :: s)).2 = 0 := by omega
      refine congrArg Value.bool ?_
      show (bif true then decide (((literalS (c :: s)).1 : Int) = ((c :: s).length : Int)) else false) = _
      simp only [LiteralS, h, e1, cond_true]
      by_cases e : (literalS (c :: s)).1 = (c :: s).length
      · rw [decide_eq_true e, decide_eq_true (by rw [e])]; rfl
      · rw [decide_eq_false e, decide_eq_false (by omega)]; rfl
    · rename_i h1
      have h1 := decF h1
      have e1 : ¬ (literalS (c :: s)).2 = 0 := by omega
      simp only [LiteralS, h, decide_eq_false e1, Bool.false_and]
def FnByte (f : FuncId) (p : UInt8 → Bool) : Prop := ∀ c : UInt8, PCall Tryz.prog f [] [.v (.int .u8 c.toNat)] (.ret (.v (.bool (p c))) [])
theorem lexRun (b : List UInt8) (f : FuncId) (p : UInt8 → Bool) (hf : FnByte f p) (hb : b.length ≤ 4294967295) : PCall Tryz.prog 117 [] [.list 1 (byD b), .fn (.func f) []] (.ret (.v (.int .i64 (runS p b))) []) := by
  refine pcall_of (news := []) cxOK Tryz.func117 rfl Tryz.ntmps117 rfl rfl rfl (by decide) ?_
  conv => whnf
  refine LoopW.to (ι := Nat) (fun i => 1 ≤ i ∧ (1 < i → i ≤ b.length) ∧ ∀ k, 1 ≤ k → k < i → ∀ c, b[k]? = some c → p c = true) (fun i => b.length + 1 - i)
    (fun i => [(0, .list 1 (byD b)), (1, .fn (.func f) []), (5, .v (.int .i64 i))]) (fun _ => []) [] 1 ⟨Nat.le_refl _, fun h => by omega, fun k _ h => by omega⟩ ⟨⟨rfl, rfl, rfl, trivial⟩, trivial⟩ ?_
  rintro i ⟨h1, hle, hk⟩
  have stop : (∀ c, b[i]? = some c → p c = false) → i = runS p b := by
    intro hs
    cases b with
    | nil =>
      have : i = 1 := by
        rcases Nat.lt_or_ge 1 i with h | h
        · have := hle h; simp at this; omega
        · omega
      subst this; rfl
    | cons d r =>
      have hi : i - 1 ≤ r.length := by
        rcases Nat.lt_or_ge 1 i with h | h
        · have := hle h; simp at this; omega
        · omega
      have := spanS_drop (p := p) (b := r) (i := i - 1) (fun k hk' c hc => hk (k + 1) (by omega) (by omega) c (by simpa using hc)) hi
      have h2 : spanS p (r.drop (i - 1)) = 0 := by
        cases hd : r.drop (i - 1) with
        | nil => rfl
        | cons c t =>
          have : r[i - 1]? = some c := by
            have := congrArg (·[0]?) hd
            simpa using this
          have := hs c (by rw [show i = (i - 1) + 1 from by omega]; simpa using this)
          simp [spanS, this]
      simp only [runS]
      omega
  repeat' ((conv => whnf); first | exact trivial | refine xB ?_ | refine xY ?_ | refine xN ?_ | refine sM ?_ ?_ <;> intro _ | refine xC ?_ | refine And.intro ?_ ?_ | exact Or.inl ⟨rfl, rfl⟩ | exact rfl)
  all_goals (conv => whnf)
  · rename_i h
    have h := decT h
    rw [byD_length] at h
    have hi : i < b.length := by omega
    refine IdxG.by i b[i] rfl (List.getElem?_eq_getElem hi) ?_
    conv => whnf
    refine call0 (hf b[i]) ?_
    repeat' ((conv => whnf); first | exact trivial | refine xB ?_ | refine xY ?_ | refine xN ?_ | refine sM ?_ ?_ <;> intro _ | refine xC ?_ | refine And.intro ?_ ?_ | exact Or.inl ⟨rfl, rfl⟩ | exact rfl)
    all_goals (conv => whnf)
    · rename_i h2
      refine KI.i64 ((i + 1 : Nat) : Int) (by simp) (by omega) ?_
      conv => whnf
      refine NextG.to (i + 1) ⟨by omega, fun _ => by omega, fun k hk1 hk2 c hc => ?_⟩ (by omega) ⟨⟨rfl, rfl, rfl, trivial⟩, trivial⟩
      by_cases e : k = i
      · subst e
        rw [List.getElem?_eq_getElem hi] at hc
        injection hc with hc
        subst hc; exact h2
      · exact hk k hk1 (by omega) c hc
    · rename_i h2
      have h2 : p b[i] = false := h2
      rw [stop fun c hc => by rw [List.getElem?_eq_getElem hi] at hc; injection hc with hc; subst hc; exact h2]
  · rename_i h
    have h := decF h
    rw [byD_length] at h
    rw [stop fun c hc => by have := (List.getElem?_eq_some_iff.1 hc).1; omega]
theorem lexLine (b : List UInt8) : PCall Tryz.prog 114 [] [.list 1 (byD b)] (.ret (.v (.int .i64 (lineS b))) []) := by
  refine pcall_of (news := []) cxOK Tryz.func114 rfl Tryz.ntmps114 rfl rfl rfl (by decide) ?_
  conv => whnf
  refine call0 (bytesIndexByte b 10) ?_
  repeat' ((conv => whnf); first | exact trivial | refine xB ?_ | refine xY ?_ | refine xN ?_ | refine sM ?_ ?_ <;> intro _ | refine xC ?_ | refine And.intro ?_ ?_ | exact Or.inl ⟨rfl, rfl⟩ | exact rfl)
  all_goals (conv => whnf)
  · rename_i h
    have h1 : (0 : Int) ≤ Lib.indexByte b 10 := decT h
    simp only [lineS, decide_eq_true h1]
    congr 1
    omega
  · rename_i h
    have h1 : ¬ (0 : Int) ≤ Lib.indexByte b 10 := decF h
    simp only [lineS, decide_eq_false h1, byD_length]
end Tryz
end Go.Dm
namespace Go.Dm
def kw (b : List UInt8) (s : List UInt8) : Bool := strEq ⟨s.toArray⟩ ⟨b.toArray⟩
def wordS (s : List UInt8) : Nat :=
  match kw [37, 116, 111, 107, 101, 110] s with
  | true => 3
  | false => match kw [37, 108, 101, 102, 116] s with
    | true => 4
    | false => match kw [37, 114, 105, 103, 104, 116] s with
      | true => 5
      | false => match kw [37, 110, 111, 110, 97, 115, 115, 111, 99] s with
        | true => 6
        | false => match kw [37, 115, 116, 97, 114, 116] s with
          | true => 7
          | false => match kw [37, 112, 114, 101, 99] s with
            | true => 8
            | false => match kw [37, 37] s with
              | true => 9
              | false => match kw [58] s with
                | true => 10
                | false => match kw [124] s with
                  | true => 11
                  | false => match kw [59] s with
                    | true => 12
                    | false => 0
namespace Tryz
open Go.Proofs
theorem lexWord (s : List UInt8) : PCall Tryz.prog 119 [] [.v (str s)] (.ret (.v (.int .i64 (wordS s))) []) := by
  refine pcall_of (news := []) cxOK Tryz.func119 rfl Tryz.ntmps119 rfl rfl rfl (by decide) ?_
  repeat' ((conv => whnf); first | exact trivial | refine xB ?_ | refine xY ?_ | refine xN ?_ | refine sM ?_ ?_ <;> intro _ | refine xC ?_ | refine And.intro ?_ ?_ | exact Or.inl ⟨rfl, rfl⟩ | exact rfl)
  all_goals (conv => whnf)
  all_goals simp [wordS, kw, *]
theorem lexText (b : List UInt8) (hb : b.length ≤ 4294967295) : PCall Tryz.prog 156 [] [.list 1 (byD b)] (.ret (.v (.int .i64 (textS b))) []) := by
  refine pcall_of (news := []) cxOK Tryz.func156 rfl Tryz.ntmps156 rfl rfl rfl (by decide) ?_
  conv => whnf
  refine LoopW.to (ι := Nat) (fun i => 1 ≤ i ∧ i ≤ b.length + 1 ∧ textS b = (match b with | [] => 0 | q :: _ => textGo q (b.drop i) i false)) (fun i => b.length + 1 - i)
    (fun i => [(0, .list 1 (byD b)), (3, .v (.int .i64 i))]) (fun _ => []) [] 1 ⟨Nat.le_refl _, by omega, by cases b <;> rfl⟩ ⟨⟨rfl, rfl, trivial⟩, trivial⟩ ?_
  rintro i ⟨h1, hle, ht⟩
  cases b with
  | nil =>
    repeat' ((conv => whnf); first | exact trivial | refine xB ?_ | refine xY ?_ | refine xN ?_ | refine sM ?_ ?_ <;> intro _ | refine xC ?_ | refine And.intro ?_ ?_ | exact Or.inl ⟨rfl, rfl⟩ | exact rfl)
    all_goals (conv => whnf)
    all_goals rfl
  | cons q r =>
  simp only at ht
  repeat' ((conv => whnf); first | exact trivial | refine xB ?_ | refine xY ?_ | refine xN ?_ | refine sM ?_ ?_ <;> intro _ | refine xC ?_ | refine And.intro ?_ ?_ | exact Or.inl ⟨rfl, rfl⟩ | exact rfl)
  all_goals (conv => whnf)
  · rename_i h
    have h := decT h
    rw [byD_length] at h
    have hi : i < (q :: r).length := by omega
    have hd : (q :: r).drop i = (q :: r)[i] :: (q :: r).drop (i + 1) := List.drop_eq_getElem_cons hi
    rw [hd] at ht
    refine IdxG.by i (q :: r)[i] rfl (List.getElem?_eq_getElem hi) ?_
    conv => whnf
    refine IdxG.by 0 q rfl rfl ?_
    repeat' ((conv => whnf); first | exact trivial | refine xB ?_ | refine xY ?_ | refine xN ?_ | refine sM ?_ ?_ <;> intro _ | refine xC ?_ | refine And.intro ?_ ?_ | exact Or.inl ⟨rfl, rfl⟩ | exact rfl)
    all_goals (conv => whnf)
    · rename_i h2
      refine KI.i64 ((i + 1 : Nat) : Int) (by simp) (by omega) ?_
      conv => whnf
      rw [ht, textGo, h2]
    · rename_i h2 h3
      refine KI.i64 ((i + 1 : Nat) : Int) (by simp) (by omega) ?_
      conv => whnf
      refine KI.i64 ((i + 2 : Nat) : Int) (by simp; omega) (by omega) ?_
      conv => whnf
      rw [textGo, h2] at ht
      simp only [h3] at ht
      refine NextG.to (i + 2) ⟨by omega, by omega, ?_⟩ (by omega) ⟨⟨rfl, rfl, trivial⟩, trivial⟩
      rw [ht]
      rcases Nat.lt_or_ge (i + 1) (q :: r).length with h | h
      · rw [List.drop_eq_getElem_cons h, textGo]
      · rw [List.drop_eq_nil_of_le h, List.drop_eq_nil_of_le (by omega : (q :: r).length ≤ i + 2)]; rfl
    · rename_i h2 h3
      refine KI.i64 ((i + 1 : Nat) : Int) (by simp) (by omega) ?_
      conv => whnf
      rw [textGo, h2] at ht
      simp only [h3] at ht
      exact NextG.to (i + 1) ⟨by omega, by omega, ht⟩ (by omega) ⟨⟨rfl, rfl, trivial⟩, trivial⟩
  · rename_i h
    have h := decF h
    rw [byD_length] at h
    rw [ht, List.drop_eq_nil_of_le (by omega)]; rfl
end Tryz
def actGo (b : List UInt8) : Nat → Nat → Int → Nat
  | 0, _, _ => 0
  | fuel + 1, i, deep => match b[i]? with
    | none => 0
    | some c => match decide ((c.toNat : Int) = 123) with
      | true => match decide (deep + 1 > 0) with
        | true => actGo b fuel (i + 1) (deep + 1)
        | false => i + 1
      | false => match decide ((c.toNat : Int) = 125) with
        | true => match decide (deep - 1 > 0) with
          | true => actGo b fuel (i + 1) (deep - 1)
          | false => i + 1
        | false => match decide ((c.toNat : Int) = 39) || decide ((c.toNat : Int) = 34) with
          | true => match decide (textS (b.drop i) = 0) with
            | true => 0
            | false => actGo b fuel (i + textS (b.drop i)) deep
          | false => match decide (deep > 0) with
            | true => actGo b fuel (i + 1) deep
            | false => i + 1
def actionS (b : List UInt8) : Nat := actGo b (b.length + 1) 0 0
theorem textGo_le (q : UInt8) : ∀ (b : List UInt8) (i : Nat) (e : Bool), textGo q b i e = 0 ∨ (i < textGo q b i e ∧ textGo q b i e ≤ i + b.length)
  | [], _, _ => .inl rfl
  | c :: r, i, true => by
    rw [textGo]
    rcases textGo_le q r (i + 1) false with h | h
    · exact .inl h
    · simp only [List.length_cons]; right; omega
  | c :: r, i, false => by
    rw [textGo]
    split
    · simp only [List.length_cons]; right; omega
    · rcases textGo_le q r (i + 1) (decide ((c.toNat : Int) = 92)) with h | h
      · exact .inl h
      · simp only [List.length_cons]; right; omega
theorem textS_le (b : List UInt8) : textS b ≤ b.length := by
  cases b with
  | nil => exact Nat.le_refl _
  | cons q r =>
    simp only [textS, List.length_cons]
    rcases textGo_le q r 1 false with h | h <;> omega
theorem actGo_fuel (b : List UInt8) : ∀ (n m i : Nat) (d : Int), b.length < n + i → b.length < m + i → actGo b n i d = actGo b m i d
  | 0, 0, _, _, _, _ => rfl
  | 0, m + 1, i, d, h1, _ => by
    have : b[i]? = none := List.getElem?_eq_none (by omega)
    simp [actGo, this]
  | n + 1, 0, i, d, _, h2 => by
    have : b[i]? = none := List.getElem?_eq_none (by omega)
    simp [actGo, this]
  | n + 1, m + 1, i, d, h1, h2 => by
    have s1 : ∀ d, actGo b n (i + 1) d = actGo b m (i + 1) d := fun d => actGo_fuel b n m (i + 1) d (by omega) (by omega)
    have s2 : ∀ t d, 0 < t → actGo b n (i + t) d = actGo b m (i + t) d := fun t d ht => actGo_fuel b n m (i + t) d (by omega) (by omega)
    simp only [actGo, s1]
    cases hb : b[i]? with
    | none => rfl
    | some c =>
      simp only
      by_cases h0 : textS (b.drop i) = 0
      · simp [h0]
      · rw [s2 _ _ (by omega)]
namespace Tryz
open Go.Proofs
theorem lexAction (b : List UInt8) (hb : b.length ≤ 4294967295) : PCall Tryz.prog 115 [] [.list 1 (byD b)] (.ret (.v (.int .i64 (actionS b))) []) := by
  refine pcall_of (news := []) cxOK Tryz.func115 rfl Tryz.ntmps115 rfl rfl rfl (by decide) ?_
  conv => whnf
  refine ScopeW.loop (ι := Nat × Int) 0 (fun p => p.1 ≤ b.length ∧ (-(p.1 : Int) ≤ p.2 ∧ p.2 ≤ p.1) ∧ actionS b = actGo b (b.length + 1 - p.1) p.1 p.2) (fun p => b.length - p.1)
    (fun p => [(0, .list 1 (byD b)), (3, .v (.int .i64 p.2)), (4, .v (.int .i64 p.1))]) (fun _ => []) rfl ?_ ?_
  · conv => whnf
    exact GotoG.first (0, 0) [] ⟨Nat.zero_le _, by simp, rfl⟩ ⟨⟨rfl, rfl, rfl, trivial⟩, trivial⟩
  rintro ⟨i, deep⟩ ⟨hi, ⟨hd1, hd2⟩, ht⟩
  simp only at hi hd1 hd2 ht
  repeat' ((conv => whnf); first | exact trivial | refine xB ?_ | refine xY ?_ | refine xN ?_ | refine sM ?_ ?_ <;> intro _ | refine xC ?_ | refine And.intro ?_ ?_ | exact Or.inl ⟨rfl, rfl⟩ | exact rfl)
  all_goals (conv => whnf)
  · rename_i h
    have h := decT h
    rw [byD_length] at h
    rw [ht]
    have : b[i]? = none := List.getElem?_eq_none (by omega)
    have e : b.length + 1 - i = 0 + 1 := by omega
    rw [e]; simp only [actGo, this]; rfl
  rename_i h
  have h := decF h
  rw [byD_length] at h
  have hlt : i < b.length := by omega
  have hc := List.getElem?_eq_getElem hlt
  have e : b.length + 1 - i = (b.length - i) + 1 := by omega
  have e2 : b.length + 1 - (i + 1) = b.length - i := by omega
  rw [e] at ht
  refine IdxG.by i b[i] rfl hc ?_
  repeat' ((conv => whnf); first | exact trivial | refine xB ?_ | refine xY ?_ | refine xN ?_ | refine sM ?_ ?_ <;> intro _ | refine xC ?_ | refine And.intro ?_ ?_ | exact Or.inl ⟨rfl, rfl⟩ | exact rfl)
  all_goals (conv => whnf)
  · rename_i h1
    rw [actGo, hc] at ht
    simp only [h1] at ht
    refine KI.i64 (deep + 1) rfl (by omega) ?_
    conv => whnf
    refine KI.i64 ((i + 1 : Nat) : Int) (by simp) (by omega) ?_
    repeat' ((conv => whnf); first | exact trivial | refine xB ?_ | refine xY ?_ | refine xN ?_ | refine sM ?_ ?_ <;> intro _ | refine xC ?_ | refine And.intro ?_ ?_ | exact Or.inl ⟨rfl, rfl⟩ | exact rfl)
    all_goals (conv => whnf)
    · rename_i h2
      have h2 : decide (deep + 1 > 0) = true := h2
      simp only [h2] at ht
      exact GotoG.again (i + 1, deep + 1) ⟨by omega, ⟨by simp only; omega, by simp only; omega⟩, by rw [ht]; exact actGo_fuel b _ _ _ _ (by omega) (by simp only; omega)⟩ (by simp only; omega) ⟨⟨rfl, rfl, rfl, trivial⟩, trivial⟩
    · rename_i h2
      have h2 : decide (deep + 1 > 0) = false := h2
      simp only [h2] at ht
      rw [ht]
  · rename_i h1 h1'
    rw [actGo, hc] at ht
    simp only [h1, h1'] at ht
    refine KI.i64 (deep - 1) rfl (by omega) ?_
    conv => whnf
    refine KI.i64 ((i + 1 : Nat) : Int) (by simp) (by omega) ?_
    repeat' ((conv => whnf); first | exact trivial | refine xB ?_ | refine xY ?_ | refine xN ?_ | refine sM ?_ ?_ <;> intro _ | refine xC ?_ | refine And.intro ?_ ?_ | exact Or.inl ⟨rfl, rfl⟩ | exact rfl)
    all_goals (conv => whnf)
    · rename_i h2
      have h2 : decide (deep - 1 > 0) = true := h2
      simp only [h2] at ht
      exact GotoG.again (i + 1, deep - 1) ⟨by omega, ⟨by simp only; omega, by simp only; omega⟩, by rw [ht]; exact actGo_fuel b _ _ _ _ (by omega) (by simp only; omega)⟩ (by simp only; omega) ⟨⟨rfl, rfl, rfl, trivial⟩, trivial⟩
    · rename_i h2
      have h2 : decide (deep - 1 > 0) = false := h2
      simp only [h2] at ht
      rw [ht]
  · rename_i h1 h1' h3
    rw [actGo, hc] at ht
    simp only [h1, h1', h3, Bool.true_or] at ht
    refine BndG.to i rfl ?_
    conv => whnf
    refine CutL.by (b.drop i) (by rw [byD_length]; omega) (by rw [byD_length]; exact Nat.le_refl _) (by rw [byD_length, List.take_length]) ?_
    conv => whnf
    refine call0 (lexText (b.drop i) (by simp; omega)) ?_
    have hte := textS_le (b.drop i)
    rw [List.length_drop] at hte
    repeat' ((conv => whnf); first | exact trivial | refine xB ?_ | refine xY ?_ | refine xN ?_ | refine sM ?_ ?_ <;> intro _ | refine xC ?_ | refine And.intro ?_ ?_ | exact Or.inl ⟨rfl, rfl⟩ | exact rfl)
    all_goals (conv => whnf)
    · rename_i h4
      have h4 := decT h4
      have h5 : textS (b.drop i) = 0 := by omega
      simp only [decide_eq_true h5] at ht
      rw [ht]; rfl
    · rename_i h4
      have h4 := decF h4
      have h5 : ¬ textS (b.drop i) = 0 := by omega
      simp only [decide_eq_false h5] at ht
      refine KI.i64 ((i + textS (b.drop i) : Nat) : Int) (by simp) (by omega) ?_
      conv => whnf
      exact GotoG.again (i + textS (b.drop i), deep) ⟨by simp only; omega, ⟨by simp only; omega, by simp only; omega⟩, by rw [ht]; exact actGo_fuel b _ _ _ _ (by omega) (by simp only; omega)⟩ (by simp only; omega) ⟨⟨rfl, rfl, rfl, trivial⟩, trivial⟩
  · rename_i h1 h1' h3 h3'
    rw [actGo, hc] at ht
    simp only [h1, h1', h3, h3', Bool.or_true] at ht
    refine BndG.to i rfl ?_
    conv => whnf
    refine CutL.by (b.drop i) (by rw [byD_length]; omega) (by rw [byD_length]; exact Nat.le_refl _) (by rw [byD_length, List.take_length]) ?_
    conv => whnf
    refine call0 (lexText (b.drop i) (by simp; omega)) ?_
    have hte := textS_le (b.drop i)
    rw [List.length_drop] at hte
    repeat' ((conv => whnf); first | exact trivial | refine xB ?_ | refine xY ?_ | refine xN ?_ | refine sM ?_ ?_ <;> intro _ | refine xC ?_ | refine And.intro ?_ ?_ | exact Or.inl ⟨rfl, rfl⟩ | exact rfl)
    all_goals (conv => whnf)
    · rename_i h4
      have h4 := decT h4
      have h5 : textS (b.drop i) = 0 := by omega
      simp only [decide_eq_true h5] at ht
      rw [ht]; rfl
    · rename_i h4
      have h4 := decF h4
      have h5 : ¬ textS (b.drop i) = 0 := by omega
      simp only [decide_eq_false h5] at ht
      refine KI.i64 ((i + textS (b.drop i) : Nat) : Int) (by simp) (by omega) ?_
      conv => whnf
      exact GotoG.again (i + textS (b.drop i), deep) ⟨by simp only; omega, ⟨by simp only; omega, by simp only; omega⟩, by rw [ht]; exact actGo_fuel b _ _ _ _ (by omega) (by simp only; omega)⟩ (by simp only; omega) ⟨⟨rfl, rfl, rfl, trivial⟩, trivial⟩
  · rename_i h1 h1' h3 h3'
    rw [actGo, hc] at ht
    simp only [h1, h1', h3, h3', Bool.or_false] at ht
    refine KI.i64 ((i + 1 : Nat) : Int) (by simp) (by omega) ?_
    repeat' ((conv => whnf); first | exact trivial | refine xB ?_ | refine xY ?_ | refine xN ?_ | refine sM ?_ ?_ <;> intro _ | refine xC ?_ | refine And.intro ?_ ?_ | exact Or.inl ⟨rfl, rfl⟩ | exact rfl)
    all_goals (conv => whnf)
    · rename_i h2
      have h2 : decide (deep > 0) = true := h2
      simp only [h2] at ht
      exact GotoG.again (i + 1, deep) ⟨by omega, ⟨by simp only; omega, by simp only; omega⟩, by rw [ht]; exact actGo_fuel b _ _ _ _ (by omega) (by simp only; omega)⟩ (by simp only; omega) ⟨⟨rfl, rfl, rfl, trivial⟩, trivial⟩
    · rename_i h2
      have h2 : decide (deep > 0) = false := h2
      simp only [h2] at ht
      rw [ht]
end Tryz
end Go.Dm
namespace Go.Dm
open Ieee
theorem log2_shift {n k : Nat} (h : 1 ≤ n) : (n * 2 ^ k).log2 = n.log2 + k := by
  have hn : n ≠ 0 := by omega
  have h2 : n * 2 ^ k ≠ 0 := Nat.mul_ne_zero hn (Nat.pos_iff_ne_zero.1 (Nat.two_pow_pos k))
  rw [Nat.log2_eq_iff h2]
  have h3 := Nat.log2_self_le hn
  have h4 := @Nat.lt_log2_self n
  constructor
  · rw [Nat.pow_add]; exact Nat.mul_le_mul_right _ h3
  · rw [show n.log2 + k + 1 = (n.log2 + 1) + k from by omega, Nat.pow_add]
    exact Nat.mul_lt_mul_of_pos_right h4 (Nat.two_pow_pos k)
theorem cut_exact (way : Toward) (m d : Nat) (h : d ≤ (m * 2 ^ d).log2 + 2) : way.cut false (m * 2 ^ d) d = m := by
  have hp := Nat.two_pow_pos d
  have hg : 1 <<< min d ((m * 2 ^ d).log2 + 2) = 2 ^ d := by rw [Nat.min_eq_left h, Nat.one_shiftLeft]
  have h1 : m * 2 ^ d / 2 ^ d = m := Nat.mul_div_cancel _ hp
  have h2 : m * 2 ^ d % 2 ^ d = 0 := Nat.mul_mod_left _ _
  have h3 : ¬ 2 ^ d < 2 * 0 := by omega
  have h4 : (2 ^ d == 2 * 0) = false := by simp
  cases way <;> simp only [Toward.cut, hg, h1, h2] <;> simp [h3, h4]
def flW (n : Nat) : Nat := (n.log2 + 1022) * 2 ^ 52 + n * 2 ^ (52 - n.log2)
theorem log2_lt52 {n : Nat} (h1 : 1 ≤ n) (h2 : n < 2 ^ 52) : n.log2 < 52 := (Nat.log2_lt (by omega)).2 h2
theorem kept_lo {n : Nat} (h1 : 1 ≤ n) (h2 : n < 2 ^ 52) : 2 ^ 52 ≤ n * 2 ^ (52 - n.log2) ∧ n * 2 ^ (52 - n.log2) < 2 * 2 ^ 52 := by
  have hL := log2_lt52 h1 h2
  have h3 := Nat.log2_self_le (n := n) (by omega)
  have h4 := @Nat.lt_log2_self n
  have e1 : (2 : Nat) ^ 52 = 2 ^ n.log2 * 2 ^ (52 - n.log2) := by rw [← Nat.pow_add]; congr 1; omega
  have e2 : 2 * (2 : Nat) ^ 52 = 2 ^ (n.log2 + 1) * 2 ^ (52 - n.log2) := by rw [← Nat.pow_add, ← Nat.pow_succ']; congr 1; omega
  rw [e2, e1]
  exact ⟨Nat.mul_le_mul_right _ h3, Nat.mul_lt_mul_of_pos_right h4 (Nat.two_pow_pos _)⟩
theorem word_false (r : Nat) : double.word false r = r := rfl
theorem mul_le_of {a c : Nat} (h : a ≤ c) (B : Nat) : a * B ≤ c * B := Nat.mul_le_mul_right B h
set_option maxRecDepth 20000 in
theorem nearest_scaled {n k : Nat} (h1 : 1 ≤ n) (h2 : n < 2 ^ 52) (hk : k ≤ 1074) : double.nearest false (n * 2 ^ k) (-(k : Int)) = flW n := by
  have hL := log2_lt52 h1 h2
  obtain ⟨k1, k2⟩ := kept_lo h1 h2
  have hne : n * 2 ^ k ≠ 0 := Nat.mul_ne_zero (by omega) (Nat.pos_iff_ne_zero.1 (Nat.two_pow_pos k))
  have hleast : double.leastPlace = -1074 := by decide
  have hlast : max (-(k : Int) + ((n * 2 ^ k).log2 : Int) - ((52 : Nat) : Int)) (-1074) = (n.log2 : Int) - 52 := by
    rw [log2_shift h1]; omega
  have hkept : Toward.even.cut false ((n * 2 ^ k) <<< (-(k : Int) - ((n.log2 : Int) - 52)).toNat) (((n.log2 : Int) - 52) - -(k : Int)).toNat = n * 2 ^ (52 - n.log2) := by
    by_cases hc : k ≤ 52 - n.log2
    · have e1 : (-(k : Int) - ((n.log2 : Int) - 52)).toNat = 52 - n.log2 - k := by omega
      have e2 : (((n.log2 : Int) - 52) - -(k : Int)).toNat = 0 := by omega
      rw [e1, e2, Nat.shiftLeft_eq, Nat.mul_assoc, ← Nat.pow_add, show k + (52 - n.log2 - k) = 52 - n.log2 from by omega]
      have := cut_exact .even (n * 2 ^ (52 - n.log2)) 0 (by omega)
      simpa using this
    · have e1 : (-(k : Int) - ((n.log2 : Int) - 52)).toNat = 0 := by omega
      have e2 : (((n.log2 : Int) - 52) - -(k : Int)).toNat = k - (52 - n.log2) := by omega
      rw [e1, e2, Nat.shiftLeft_zero]
      have e3 : n * 2 ^ k = n * 2 ^ (52 - n.log2) * 2 ^ (k - (52 - n.log2)) := by
        rw [Nat.mul_assoc, ← Nat.pow_add]; congr 2; omega
      rw [e3]
      refine cut_exact .even _ _ ?_
      rw [← e3, log2_shift h1]; omega
  unfold Format.nearest
  rw [if_neg hne]
  simp only [hleast]
  show double.word false (min ((max (-(k : Int) + ((n * 2 ^ k).log2 : Int) - ((52 : Nat) : Int)) (-1074) - -1074).toNat * double.binade + Toward.even.cut false ((n * 2 ^ k) <<< (-(k : Int) - max (-(k : Int) + ((n * 2 ^ k).log2 : Int) - ((52 : Nat) : Int)) (-1074)).toNat) (max (-(k : Int) + ((n * 2 ^ k).log2 : Int) - ((52 : Nat) : Int)) (-1074) - -(k : Int)).toNat) double.infRung) = _
  rw [hlast, hkept]
  have e4 : ((n.log2 : Int) - 52 - -1074).toNat = n.log2 + 1022 := by omega
  rw [e4, show double.binade = 2 ^ 52 from rfl, show double.infRung = 2047 * 2 ^ 52 from rfl, word_false]
  unfold flW
  have h9 := mul_le_of (show n.log2 + 1022 ≤ 1073 by omega) (2 ^ 52)
  rw [Nat.min_eq_left]
  generalize (2 : Nat) ^ 52 = B at *
  generalize n * 2 ^ (52 - n.log2) = X at *
  generalize (n.log2 + 1022) * B = Y at *
  clear hkept hlast e4 hne
  omega
set_option maxRecDepth 20000 in
theorem read_flW {n : Nat} (h1 : 1 ≤ n) (h2 : n < 2 ^ 52) : double.read (flW n) = .number false (n * 2 ^ (52 - n.log2)) ((n.log2 : Int) - 52) := by
  have hL := log2_lt52 h1 h2
  obtain ⟨k1, k2⟩ := kept_lo h1 h2
  have hB : 0 < (2 : Nat) ^ 52 := Nat.two_pow_pos 52
  have hread : ∀ (B X L : Nat), 0 < B → L < 52 → B ≤ X → X < 2 * B → ((L + 1022) * B + X) < 2048 * B ∧ ((L + 1022) * B + X) / B = L + 1023 ∧ ((L + 1022) * B + X) % B = X - B ∧ ¬ ((L + 1022) * B + X < B) ∧ (L + 1022) * B + X < 2047 * B := by
    intro B X L hB hL h3 h4
    obtain ⟨Z, rfl⟩ := Nat.exists_eq_add_of_le h3
    have hZ : Z < B := by omega
    have e : (L + 1022) * B + (B + Z) = (L + 1023) * B + Z := by
      rw [show L + 1023 = (L + 1022) + 1 from rfl, Nat.add_mul (L + 1022) 1 B, Nat.one_mul]; omega
    have h5 := mul_le_of (show L + 1023 ≤ 1074 by omega) B
    have h6 := mul_le_of (show 1 ≤ L + 1023 by omega) B
    rw [e]
    refine ⟨by omega, ?_, ?_, by omega, by omega⟩
    · rw [Nat.mul_comm, Nat.mul_add_div hB, Nat.div_eq_of_lt hZ]
    · rw [Nat.mul_comm, Nat.mul_add_mod, Nat.mod_eq_of_lt hZ, Nat.add_sub_cancel_left]
  obtain ⟨r1, r2, r3, r4, r5⟩ := hread (2 ^ 52) (n * 2 ^ (52 - n.log2)) n.log2 hB hL k1 k2
  have hs : (2 : Nat) ^ 63 = 2048 * 2 ^ 52 := by rw [show (2048 : Nat) = 2 ^ 11 from rfl, ← Nat.pow_add]
  unfold Format.read
  simp only [show double.signWeight = 2 ^ 63 from rfl, show double.binade = 2 ^ 52 from rfl, show double.infRung = 2047 * 2 ^ 52 from rfl, show double.leastPlace = -1074 from by decide]
  unfold flW
  rw [hs, Nat.div_eq_of_lt r1, Nat.mod_eq_of_lt r1, if_neg r4, if_pos r5, r2, r3]
  have e1 : 2 ^ 52 + (n * 2 ^ (52 - n.log2) - 2 ^ 52) = n * 2 ^ (52 - n.log2) := Nat.add_sub_cancel' k1
  rw [e1]
  have e2 : (-1074 : Int) + ((n.log2 + 1023 - 1 : Nat) : Int) = (n.log2 : Int) - 52 := by clear r1 r2 r3 r4 r5 hs e1 k1 k2 hread; omega
  rw [e2]
  rfl
def fl (n : Nat) : Nat := FloatKind.f64.nearest (n : Int)
theorem fl_eq {n : Nat} (h1 : 1 ≤ n) (h2 : n < 2 ^ 52) : fl n = flW n := by
  have := nearest_scaled (n := n) (k := 0) h1 h2 (by omega)
  have e : fl n = double.nearest (decide ((n : Int) < 0)) (n : Int).natAbs 0 := rfl
  rw [e, decide_eq_false (by omega), Int.natAbs_natCast]
  simpa using this
theorem shl_flat {n L : Nat} {base : Int} (hL : L < 52) (hb : base ≤ (L : Int) - 52) : (n * 2 ^ (52 - L)) <<< ((L : Int) - 52 - base).toNat = n * 2 ^ (-base).toNat := by
  rw [Nat.shiftLeft_eq, Nat.mul_assoc, ← Nat.pow_add]
  congr 2; omega
theorem order_fl {n m : Nat} (h1 : 1 ≤ n) (h2 : n < 2 ^ 52) (g1 : 1 ≤ m) (g2 : m < 2 ^ 52) : FloatKind.f64.format.order (fl n) (fl m) = some (compare (n : Int) (m : Int)) := by
  have hL := log2_lt52 h1 h2
  have gL := log2_lt52 g1 g2
  show (double.read (fl n)).order (double.read (fl m)) = _
  rw [fl_eq h1 h2, fl_eq g1 g2, read_flW h1 h2, read_flW g1 g2]
  simp only [Datum.order, signed, Bool.false_eq_true, if_false]
  rw [shl_flat hL (Int.min_le_left _ _), shl_flat gL (Int.min_le_right _ _)]
  have hP := Nat.two_pow_pos (-(min ((n.log2 : Int) - 52) ((m.log2 : Int) - 52))).toNat
  generalize 2 ^ (-(min ((n.log2 : Int) - 52) ((m.log2 : Int) - 52))).toNat = P at *
  have hc : ∀ a b : Int, compare a b = if a < b then .lt else if a = b then .eq else .gt := fun a b => rfl
  rw [hc, hc]
  rcases Nat.lt_trichotomy n m with h | h | h
  · have := Nat.mul_lt_mul_of_pos_right h hP
    rw [if_pos (by omega), if_pos (by omega)]
  · subst h; simp
  · have := Nat.mul_lt_mul_of_pos_right h hP
    rw [if_neg (by omega), if_neg (by omega), if_neg (by omega), if_neg (by omega)]
theorem add_fl {n m : Nat} (h1 : 1 ≤ n) (h2 : n < 2 ^ 52) (g1 : 1 ≤ m) (g2 : m < 2 ^ 52) (hs : n + m < 2 ^ 52) : FloatKind.f64.format.add (fl n) (fl m) = some (fl (n + m)) := by
  have hL := log2_lt52 h1 h2
  have gL := log2_lt52 g1 g2
  show ((double.read (fl n)).sum (double.read (fl m))).map double.write = _
  rw [fl_eq h1 h2, fl_eq g1 g2, read_flW h1 h2, read_flW g1 g2]
  simp only [Datum.sum, signed, Bool.false_eq_true, if_false]
  rw [shl_flat hL (Int.min_le_left _ _), shl_flat gL (Int.min_le_right _ _)]
  have hk : ∃ k : Nat, k ≤ 1074 ∧ min ((n.log2 : Int) - 52) ((m.log2 : Int) - 52) = -(k : Int) := ⟨(-(min ((n.log2 : Int) - 52) ((m.log2 : Int) - 52))).toNat, by omega, by omega⟩
  obtain ⟨k, hk1, hk2⟩ := hk
  rw [hk2]
  simp only [Int.neg_neg, Int.toNat_natCast, Option.map_some, Option.some.injEq]
  have e : ((n * 2 ^ k : Nat) : Int) + ((m * 2 ^ k : Nat) : Int) = (((n + m) * 2 ^ k : Nat) : Int) := by rw [Nat.add_mul]; rfl
  rw [e]
  have hpos : 0 < (n + m) * 2 ^ k := Nat.mul_pos (by omega) (Nat.two_pow_pos k)
  rw [if_neg (by omega), decide_eq_false (by omega), Int.natAbs_natCast]
  show double.nearest false ((n + m) * 2 ^ k) (-(k : Int)) = _
  rw [nearest_scaled (by omega) hs hk1, fl_eq (by omega) hs]
theorem add_zero {n : Nat} (h1 : 1 ≤ n) (h2 : n < 2 ^ 52) : FloatKind.f64.format.add (fl n) 0 = some (fl n) := by
  have hL := log2_lt52 h1 h2
  show ((double.read (fl n)).sum (double.read 0)).map double.write = _
  rw [fl_eq h1 h2, read_flW h1 h2]
  have e : double.read 0 = .number false 0 (-1074) := by decide
  rw [e]
  simp only [Datum.sum, signed, Bool.false_eq_true, if_false]
  rw [shl_flat hL (Int.min_le_left _ _)]
  have hk2 : min ((n.log2 : Int) - 52) (-1074) = -((1074 : Nat) : Int) := by omega
  rw [hk2]
  simp only [Int.neg_neg, Int.toNat_natCast, Option.map_some, Option.some.injEq, Nat.zero_shiftLeft]
  have e : ((n * 2 ^ 1074 : Nat) : Int) + ((0 : Nat) : Int) = ((n * 2 ^ 1074 : Nat) : Int) := Int.add_zero _
  rw [e]
  have hpos : 0 < n * 2 ^ 1074 := Nat.mul_pos (by omega) (Nat.two_pow_pos 1074)
  generalize hX : n * 2 ^ 1074 = X at *
  rw [if_neg (by omega), decide_eq_false (by omega), Int.natAbs_natCast]
  subst hX
  show double.nearest false (n * 2 ^ 1074) (-((1074 : Nat) : Int)) = _
  rw [nearest_scaled h1 h2 (Nat.le_refl _)]
def truncF (x : Nat) : Option Nat := match FloatKind.f64.decode x with
  | .nan _ _ => none
  | d => some (FloatKind.f64.encode (d.integral .zero))
theorem trunc_fl {n : Nat} (h1 : 1 ≤ n) (h2 : n < 2 ^ 52) : truncF (fl n) = some (fl n) := by
  have hL := log2_lt52 h1 h2
  unfold truncF
  show (match double.read (fl n) with
  | .nan _ _ => none
  | d => some (double.write (d.integral .zero))) = _
  rw [fl_eq h1 h2, read_flW h1 h2]
  simp only [Datum.integral, Option.some.injEq]
  have e1 : ((n.log2 : Int) - 52).toNat = 0 := by omega
  have e2 : (-((n.log2 : Int) - 52)).toNat = 52 - n.log2 := by omega
  rw [e1, e2, Nat.shiftLeft_zero, cut_exact _ _ _ (by rw [log2_shift h1]; omega)]
  show double.nearest false n 0 = _
  have := nearest_scaled (n := n) (k := 0) h1 h2 (by omega)
  simpa using this
end Go.Dm
namespace Go.Dm
section
variable {P : Program} {t : TypeId} {x y : Operand}
def fcmp (op : BinOp) (a b : Nat) : Option Bool := match op with
  | .eql => some (FloatKind.f64.format.order a b == some .eq)
  | .geq => some (FloatKind.f64.format.order a b == some .gt || FloatKind.f64.format.order a b == some .eq)
  | .leq => some (FloatKind.f64.format.order a b == some .lt || FloatKind.f64.format.order a b == some .eq)
  | .lss => some (FloatKind.f64.format.order a b == some .lt)
  | _ => none
theorem bs_fcmp {op : BinOp} {a b : Nat} {r : Bool} (h : fcmp op a b = some r) : BinSem P op t x y (.v (.float .f64 a)) (.v (.float .f64 b)) (.v (.bool r)) := by
  intro E w u v hu hv
  obtain rfl : u = _ := hu
  obtain rfl : v = _ := hv
  refine ⟨run_eqGuard_other P w (by simp) (by simp), .bool r, ?_, rfl⟩
  cases op <;> simp [fcmp] at h <;> simp [binOp, Op.floatCmp, h]
theorem bs_fadd {a b r : Nat} (h : FloatKind.f64.format.add a b = some r) : BinSem P .add t x y (.v (.float .f64 a)) (.v (.float .f64 b)) (.v (.float .f64 r)) := by
  intro E w u v hu hv
  obtain rfl : u = _ := hu
  obtain rfl : v = _ := hv
  refine ⟨run_eqGuard_other P w (by simp) (by simp), .float .f64 r, ?_, rfl⟩
  simp [binOp, Op.floatArith, h]
theorem bs_cadd {a b c d r s : Nat} (h : FloatKind.f64.format.add a c = some r) (h' : FloatKind.f64.format.add b d = some s) : BinSem P .add t x y (.v (.complex .f64 a b)) (.v (.complex .f64 c d)) (.v (.complex .f64 r s)) := by
  intro E w u v hu hv
  obtain rfl : u = _ := hu
  obtain rfl : v = _ := hv
  refine ⟨run_eqGuard_other P w (by simp) (by simp), .complex .f64 r s, ?_, rfl⟩
  simp [binOp, Op.complexOp, Op.Complex.arith, Op.floatArith, h, h']
end
def stepS (p : Nat × Nat) (c : UInt8) : Nat × Nat := match decide ((c.toNat : Int) = 10) with
  | true => (p.1 + 1, 1)
  | false => (p.1, p.2 + 1)
def pl (l c : Nat) : Value := .complex .f64 (fl l) (fl c)
theorem one_fl : (4607182418800017408 : Nat) = fl 1 := by decide +kernel
theorem big_fl : (4742290407621132288 : Nat) = fl 1073741824 := by decide +kernel
theorem fl_ge {n m : Nat} (h1 : 1 ≤ n) (h2 : n < 2 ^ 52) (g1 : 1 ≤ m) (g2 : m < 2 ^ 52) (h : m ≤ n) : fcmp .geq (fl n) (fl m) = some true := by
  have hc : ∀ a b : Int, compare a b = if a < b then .lt else if a = b then .eq else .gt := fun a b => rfl
  simp only [fcmp, order_fl h1 h2 g1 g2, hc]
  rw [if_neg (by omega)]
  split <;> rfl
theorem fl_le {n m : Nat} (h1 : 1 ≤ n) (h2 : n < 2 ^ 52) (g1 : 1 ≤ m) (g2 : m < 2 ^ 52) (h : n ≤ m) : fcmp .leq (fl n) (fl m) = some true := by
  have hc : ∀ a b : Int, compare a b = if a < b then .lt else if a = b then .eq else .gt := fun a b => rfl
  simp only [fcmp, order_fl h1 h2 g1 g2, hc]
  split
  · rfl
  · rw [if_pos (by omega)]; rfl
theorem fl_eqq {n : Nat} (h1 : 1 ≤ n) (h2 : n < 2 ^ 52) : fcmp .eql (fl n) (fl n) = some true := by
  have hc : ∀ a b : Int, compare a b = if a < b then .lt else if a = b then .eq else .gt := fun a b => rfl
  simp only [fcmp, order_fl h1 h2 h1 h2, hc]
  simp
namespace Tryz
open Go.Proofs
theorem eArchTrunc {g : D} {a b : Nat} (h : truncF a = some b) : ECall Tryz.prog g 192 [.v (.float .f64 a)] (.v (.float .f64 b)) := by
  intro E w vs hi _ ⟨v, ws, e1, h1, e2⟩
  subst e1; subst e2
  obtain rfl : v = _ := h1
  refine ⟨_, ?_, rfl⟩
  rw [run_callFunc_extern Tryz.func192 (by kernel_rfl) (by kernel_rfl) (by kernel_rfl) (e := Extern.MathFloor.toIntegral "math.archTrunc" .zero) (by kernel_rfl)]
  show Result.andThen (Sem.run Tryz.prog (Extern.MathFloor.toIntegral "math.archTrunc" .zero #[.float .f64 a]) w) _ = _
  unfold truncF at h
  have : (Extern.MathFloor.toIntegral "math.archTrunc" .zero #[.float .f64 a]).run Tryz.prog w = .ok (.float .f64 b) w := by
    have hg : ∃ g : Bool → Nat → Sem Value, Extern.MathFloor.toIntegral "math.archTrunc" .zero #[.float .f64 a] = (match FloatKind.f64.decode a with
      | .nan s t => g s t
      | d => pure (.float .f64 (FloatKind.f64.encode (d.integral .zero)))) := ⟨_, rfl⟩
    obtain ⟨g, hg⟩ := hg
    rw [hg]
    cases hd : FloatKind.f64.decode a with
    | nan s u => rw [hd] at h; cases h
    | number s m p => rw [hd] at h; simp at h; simp [h]
    | infinity s => rw [hd] at h; simp at h; simp [h]
  rw [this]
  rfl
theorem mathTrunc {a b : Nat} (h : truncF a = some b) : PCall Tryz.prog 191 [] [.v (.float .f64 a)] (.ret (.v (.float .f64 b)) []) := by
  refine pcall_of (news := []) cxOK Tryz.func191 rfl Tryz.ntmps191 rfl rfl rfl (by decide) ?_
  repeat' ((conv => whnf); first | exact trivial | refine xB ?_ | refine xY ?_ | refine xN ?_ | refine sM ?_ ?_ <;> intro _ | refine xC ?_ | refine And.intro ?_ ?_ | exact Or.inl ⟨rfl, rfl⟩ | exact rfl)
  all_goals (conv => whnf)
  exact callE (eArchTrunc h) rfl
theorem placeWhole {n : Nat} (h1 : 1 ≤ n) (h2 : n ≤ 1073741824) : PCall Tryz.prog 186 [] [.v (.float .f64 (fl n))] (.ret (.v (.bool true)) []) := by
  have h3 : n < 2 ^ 52 := by omega
  refine pcall_of (news := []) cxOK Tryz.func186 rfl Tryz.ntmps186 rfl rfl rfl (by decide) ?_
  conv => whnf
  refine BinG.to (.v (.bool true)) (bs_fcmp (by rw [one_fl]; exact fl_ge h1 h3 (by omega) (by omega) h1)) ?_
  repeat' ((conv => whnf); first | exact trivial | refine xB ?_ | refine xY ?_ | refine xN ?_ | refine sM ?_ ?_ <;> intro _ | refine xC ?_ | refine And.intro ?_ ?_ | exact Or.inl ⟨rfl, rfl⟩ | exact rfl)
  all_goals (conv => whnf)
  refine BinG.to (.v (.bool true)) (bs_fcmp (by rw [big_fl]; exact fl_le h1 h3 (by omega) (by omega) h2)) ?_
  repeat' ((conv => whnf); first | exact trivial | refine xB ?_ | refine xY ?_ | refine xN ?_ | refine sM ?_ ?_ <;> intro _ | refine xC ?_ | refine And.intro ?_ ?_ | exact Or.inl ⟨rfl, rfl⟩ | exact rfl)
  all_goals (conv => whnf)
  refine call0 (mathTrunc (trunc_fl h1 h3)) ?_
  repeat' ((conv => whnf); first | exact trivial | refine xB ?_ | refine xY ?_ | refine xN ?_ | refine sM ?_ ?_ <;> intro _ | refine xC ?_ | refine And.intro ?_ ?_ | exact Or.inl ⟨rfl, rfl⟩ | exact rfl)
  all_goals (conv => whnf)
  refine BinG.to (.v (.bool true)) (bs_fcmp (fl_eqq h1 h3)) ?_
  conv => whnf
  rfl
theorem placeRight {l c : Nat} (h1 : 1 ≤ l) (h2 : l ≤ 1073741824) (g1 : 1 ≤ c) (g2 : c ≤ 1073741824) : PCall Tryz.prog 157 [] [.v (pl l c)] (.ret (.v (.bool true)) []) := by
  refine pcall_of (news := []) cxOK Tryz.func157 rfl Tryz.ntmps157 rfl rfl rfl (by decide) ?_
  conv => whnf
  refine call0 (placeWhole h1 h2) ?_
  repeat' ((conv => whnf); first | exact trivial | refine xB ?_ | refine xY ?_ | refine xN ?_ | refine sM ?_ ?_ <;> intro _ | refine xC ?_ | refine And.intro ?_ ?_ | exact Or.inl ⟨rfl, rfl⟩ | exact rfl)
  all_goals (conv => whnf)
  refine call0 (placeWhole g1 g2) ?_
  conv => whnf
  rfl
theorem placeKept {l c : Nat} (h1 : 1 ≤ l) (h2 : l ≤ 1073741824) (g1 : 1 ≤ c) (g2 : c ≤ 1073741824) : PCall Tryz.prog 158 [] [.v (pl l c)] (.ret (.v (pl l c)) []) := by
  refine pcall_of (news := []) cxOK Tryz.func158 rfl Tryz.ntmps158 rfl rfl rfl (by decide) ?_
  conv => whnf
  refine call0 (placeRight h1 h2 g1 g2) ?_
  repeat' ((conv => whnf); first | exact trivial | refine xB ?_ | refine xY ?_ | refine xN ?_ | refine sM ?_ ?_ <;> intro _ | refine xC ?_ | refine And.intro ?_ ?_ | exact Or.inl ⟨rfl, rfl⟩ | exact rfl)
  all_goals (conv => whnf)
theorem placeStep {l c : Nat} (b : UInt8) (h1 : 1 ≤ l) (h2 : l < 1073741824) (g1 : 1 ≤ c) (g2 : c < 1073741824) : PCall Tryz.prog 116 [] [.v (pl l c), .v (.int .u8 b.toNat)] (.ret (.v (pl (stepS (l, c) b).1 (stepS (l, c) b).2)) []) := by
  refine pcall_of (news := []) cxOK Tryz.func116 rfl Tryz.ntmps116 rfl rfl rfl (by decide) ?_
  conv => whnf
  refine call0 (placeRight h1 (by omega) g1 (by omega)) ?_
  repeat' ((conv => whnf); first | exact trivial | refine xB ?_ | refine xY ?_ | refine xN ?_ | refine sM ?_ ?_ <;> intro _ | refine xC ?_ | refine And.intro ?_ ?_ | exact Or.inl ⟨rfl, rfl⟩ | exact rfl)
  all_goals (conv => whnf)
  · rename_i h
    have h : decide ((b.toNat : Int) = 10) = true := h
    simp only [stepS, h]
    refine BinG.to (.v (.float .f64 (fl (l + 1)))) (bs_fadd (by rw [one_fl]; exact add_fl h1 (by omega) (by omega) (by omega) (by omega))) ?_
    repeat' ((conv => whnf); first | exact trivial | refine xB ?_ | refine xY ?_ | refine xN ?_ | refine sM ?_ ?_ <;> intro _ | refine xC ?_ | refine And.intro ?_ ?_ | exact Or.inl ⟨rfl, rfl⟩ | exact rfl)
    all_goals (conv => whnf)
    refine call0 (placeKept (l := l + 1) (c := 1) (by omega) (by omega) (by omega) (by omega)) ?_
    conv => whnf
  · rename_i h
    have h : decide ((b.toNat : Int) = 10) = false := h
    simp only [stepS, h]
    refine BinG.to (.v (pl l (c + 1))) (bs_cadd (add_zero h1 (by omega)) (by rw [one_fl]; exact add_fl g1 (by omega) (by omega) (by omega) (by omega))) ?_
    repeat' ((conv => whnf); first | exact trivial | refine xB ?_ | refine xY ?_ | refine xN ?_ | refine sM ?_ ?_ <;> intro _ | refine xC ?_ | refine And.intro ?_ ?_ | exact Or.inl ⟨rfl, rfl⟩ | exact rfl)
    all_goals (conv => whnf)
    refine call0 (placeKept (l := l) (c := c + 1) (by omega) (by omega) (by omega) (by omega)) ?_
    conv => whnf
theorem placeOf {l c : Nat} (h1 : 1 ≤ l) (h2 : l ≤ 1073741824) (g1 : 1 ≤ c) (g2 : c ≤ 1073741824) : PCall Tryz.prog 88 [] [.v (.int .i64 l), .v (.int .i64 c)] (.ret (.v (pl l c)) []) := by
  refine pcall_of (news := []) cxOK Tryz.func88 rfl Tryz.ntmps88 rfl rfl rfl (by decide) ?_
  repeat' ((conv => whnf); first | exact trivial | refine xB ?_ | refine xY ?_ | refine xN ?_ | refine sM ?_ ?_ <;> intro _ | refine xC ?_ | refine And.intro ?_ ?_ | exact Or.inl ⟨rfl, rfl⟩ | exact rfl)
  all_goals (conv => whnf)
  · rename_i h; have := decT h; omega
  · rename_i h; have := decT (p := (l : Int) > 1073741824) h; omega
  · rename_i h; have := decT (p := (c : Int) < 1) h; omega
  · rename_i h; have := decT (p := (c : Int) > 1073741824) h; omega
  refine FltG.to (fl l) Tryz.underlying160 rfl ?_
  repeat' ((conv => whnf); first | exact trivial | refine xB ?_ | refine xY ?_ | refine xN ?_ | refine sM ?_ ?_ <;> intro _ | refine xC ?_ | refine And.intro ?_ ?_ | exact Or.inl ⟨rfl, rfl⟩ | exact rfl)
  all_goals (conv => whnf)
  refine FltG.to (fl c) Tryz.underlying160 rfl ?_
  conv => whnf
  rfl
end Tryz
end Go.Dm
namespace Go.Dm
def stepsS (p : Nat × Nat) (b : List UInt8) : Nat × Nat := b.foldl stepS p
theorem stepS_le (p : Nat × Nat) (c : UInt8) (h1 : 1 ≤ p.1) (h2 : 1 ≤ p.2) : 1 ≤ (stepS p c).1 ∧ 1 ≤ (stepS p c).2 ∧ (stepS p c).1 ≤ p.1 + 1 ∧ (stepS p c).2 ≤ p.2 + 1 := by
  unfold stepS
  split <;> simp only <;> omega
theorem stepsS_le : ∀ (b : List UInt8) (p : Nat × Nat), 1 ≤ p.1 → 1 ≤ p.2 → 1 ≤ (stepsS p b).1 ∧ 1 ≤ (stepsS p b).2 ∧ (stepsS p b).1 ≤ p.1 + b.length ∧ (stepsS p b).2 ≤ p.2 + b.length
  | [], p, h1, h2 => ⟨h1, h2, Nat.le_refl _, Nat.le_refl _⟩
  | c :: r, p, h1, h2 => by
    obtain ⟨g1, g2, g3, g4⟩ := stepS_le p c h1 h2
    obtain ⟨k1, k2, k3, k4⟩ := stepsS_le r (stepS p c) g1 g2
    simp only [stepsS, List.foldl_cons, List.length_cons] at *
    exact ⟨k1, k2, by omega, by omega⟩
def readerM (id : Nat) (b : List UInt8) (p : Nat × Nat) : Mem := [(id, .cells [.list 1 (byD b), .v (pl p.1 p.2)])]
namespace Tryz
open Go.Proofs
theorem readerPass (b : List UInt8) (p : Nat × Nat) (n : Nat) (hn : n ≤ b.length) (hp1 : 1 ≤ p.1) (hp2 : 1 ≤ p.2) (hp : p.1 + b.length < 1073741824 ∧ p.2 + b.length < 1073741824) :
    PCall Tryz.prog 90 (readerM 1000 b p) [.ref 1000 0, .v (.int .i64 n)] (.ret (.tup []) (readerM 1000 (b.drop n) (stepsS p (b.take n)))) := by
  refine pcall_of (news := []) cxOK Tryz.func90 rfl Tryz.ntmps90 rfl rfl rfl (by decide) ?_
  conv => whnf
  refine BndG.to n rfl ?_
  conv => whnf
  refine CutL.by (b.take n) (Nat.zero_le _) hn (by simp) ?_
  conv => whnf
  have hlen : (b.take n).length = n := by simp; omega
  refine LoopW.to (ι := Nat) (fun i => i ≤ n) (fun i => n - i)
    (fun i => [(0, .ref 1000 0), (1, .v (.int .i64 n)), (11, .list 1 (byD (b.take n))), (12, .v (.int .i64 n)), (13, .v (.int .i64 i))])
    (fun i => readerM 1000 b (stepsS p (b.take i))) [] 0 (Nat.zero_le _) ⟨⟨rfl, rfl, rfl, congrArg (fun k : Nat => D.v (.int .i64 (k : Int))) (by rw [byD_length, hlen]), rfl, trivial⟩, rfl, trivial⟩ ?_
  intro i hi
  obtain ⟨k1, k2, k3, k4⟩ := stepsS_le (b.take i) p hp1 hp2
  have hti : (b.take i).length = i := by simp; omega
  repeat' ((conv => whnf); first | exact trivial | refine xB ?_ | refine xY ?_ | refine xN ?_ | refine sM ?_ ?_ <;> intro _ | refine xC ?_ | refine And.intro ?_ ?_ | exact Or.inl ⟨rfl, rfl⟩ | exact rfl)
  all_goals (conv => whnf)
  · rename_i h
    have h := decT h
    have hlt : i < n := by omega
    have hb : b[i]? = some b[i] := List.getElem?_eq_getElem (by omega)
    refine IdxG.by i b[i] rfl (by rw [List.getElem?_take_of_lt hlt]; exact hb) ?_
    conv => whnf
    refine call0 (placeStep b[i] k1 (by omega) k2 (by omega)) ?_
    repeat' ((conv => whnf); first | exact trivial | refine xB ?_ | refine xY ?_ | refine xN ?_ | refine sM ?_ ?_ <;> intro _ | refine xC ?_ | refine And.intro ?_ ?_ | exact Or.inl ⟨rfl, rfl⟩ | exact rfl)
    all_goals (conv => whnf)
    refine KI.i64 ((i + 1 : Nat) : Int) (by simp) (by omega) ?_
    conv => whnf
    have hst : stepsS p (b.take (i + 1)) = stepS (stepsS p (b.take i)) b[i] := by
      unfold stepsS
      rw [List.take_add_one, hb, List.foldl_append]; rfl
    refine NextG.to (i + 1) (by omega) (by omega) ⟨⟨rfl, rfl, rfl, rfl, rfl, trivial⟩, ?_, trivial⟩
    show _ = some (Ob.cells [D.list 1 (byD b), D.v (pl (stepsS p (b.take (i + 1))).1 (stepsS p (b.take (i + 1))).2)])
    rw [hst]
    rfl
  · rename_i h
    have h := decF h
    have hin : i = n := by omega
    subst hin
    refine BndG.to i rfl ?_
    conv => whnf
    refine CutL.by (b.drop i) (by rw [byD_length]; omega) (by rw [byD_length]; exact Nat.le_refl _) (by rw [byD_length, List.take_length]) ?_
    repeat' ((conv => whnf); first | exact trivial | refine xB ?_ | refine xY ?_ | refine xN ?_ | refine sM ?_ ?_ <;> intro _ | refine xC ?_ | refine And.intro ?_ ?_ | exact Or.inl ⟨rfl, rfl⟩ | exact rfl)
    all_goals (conv => whnf)
end Tryz
end Go.Dm
namespace Go.Proofs
open Go.Shelf
def Tryz.lays224_ren : Go.Shelf.Ren := ⟨fun | 224 => 184 | n => n, fun | 3 => 3 | n => n, fun | n => n⟩
theorem Tryz.lays224 : Go.Proofs.Lays.n224 Tryz.prog Tryz.lays224_ren := {
  mixed := by kernel_rfl
  f224 := Tryz.func184.trans (congrArg some (by kernel_rfl))
  t3 := Tryz.underlying3
  a3 := Tryz.isAgg3
  z3 := Tryz.sizeOf3
  v3 := Tryz.zeroValue3 }
open Go.RowKit Go.Lib in
theorem Tryz.bytealg_Cutover (n : Int) (h0 : 0 ≤ n) (h1 : n < 4611686018427387904) (w : World) :
    Calls Tryz.prog 184 #[.int .i64 n] w fun e w' => e = .returned (.int .i64 ((n + 16) / 8)) ∧ w' = w := Any.bytealg_Cutover Tryz.lays224 n h0 h1 w
def Tryz.lays190_ren : Go.Shelf.Ren := ⟨fun | 190 => 82 | 125 => 110 | 258 => 109 | 128 => 151 | 129 => 152 | 302 => 142 | 303 => 143 | 304 => 144 | 305 => 145 | 306 => 146 | 307 => 147 | 308 => 148 | 309 => 149 | 310 => 150 | 333 => 177 | 329 => 178 | 330 => 179 | 334 => 180 | 335 => 181 | 336 => 182 | 344 => 189 | n => n, fun | 31 => 23 | 9 => 9 | 3 => 3 | 46 => 154 | 0 => 0 | 51 => 43 | 53 => 197 | 4 => 4 | 183 => 189 | 182 => 188 | 131 => 38 | 5 => 5 | 218 => 212 | 222 => 216 | 228 => 221 | 229 => 222 | n => n, fun | n => n⟩
theorem Tryz.lays190 : Go.Proofs.Lays.n190 Tryz.prog Tryz.lays190_ren := {
  mixed := by kernel_rfl
  f125 := Tryz.func110.trans (congrArg some (by kernel_rfl))
  f128 := Tryz.func151.trans (congrArg some (by kernel_rfl))
  f129 := Tryz.func152.trans (congrArg some (by kernel_rfl))
  f190 := Tryz.func82.trans (congrArg some (by kernel_rfl))
  f258 := Tryz.func109.trans (congrArg some (by kernel_rfl))
  f302 := Tryz.func142.trans (congrArg some (by kernel_rfl))
  f303 := Tryz.func143.trans (congrArg some (by kernel_rfl))
  f304 := Tryz.func144.trans (congrArg some (by kernel_rfl))
  f305 := Tryz.func145.trans (congrArg some (by kernel_rfl))
  f306 := Tryz.func146.trans (congrArg some (by kernel_rfl))
  f307 := Tryz.func147.trans (congrArg some (by kernel_rfl))
  f308 := Tryz.func148.trans (congrArg some (by kernel_rfl))
  f309 := Tryz.func149.trans (congrArg some (by kernel_rfl))
  f310 := Tryz.func150.trans (congrArg some (by kernel_rfl))
  f329 := Tryz.func178.trans (congrArg some (by kernel_rfl))
  f330 := Tryz.func179.trans (congrArg some (by kernel_rfl))
  f333 := Tryz.func177.trans (congrArg some (by kernel_rfl))
  f334 := Tryz.func180.trans (congrArg some (by kernel_rfl))
  f335 := Tryz.func181.trans (congrArg some (by kernel_rfl))
  f336 := Tryz.func182.trans (congrArg some (by kernel_rfl))
  f344 := Tryz.func189.trans (congrArg some (by kernel_rfl))
  t0 := Tryz.underlying0
  a0 := Tryz.isAgg0
  z0 := Tryz.sizeOf0
  v0 := Tryz.zeroValue0
  t3 := Tryz.underlying3
  a3 := Tryz.isAgg3
  z3 := Tryz.sizeOf3
  v3 := Tryz.zeroValue3
  t4 := Tryz.underlying4
  a4 := Tryz.isAgg4
  z4 := Tryz.sizeOf4
  v4 := Tryz.zeroValue4
  t5 := Tryz.underlying5
  a5 := Tryz.isAgg5
  z5 := Tryz.sizeOf5
  v5 := Tryz.zeroValue5
  t9 := Tryz.underlying9
  a9 := Tryz.isAgg9
  z9 := Tryz.sizeOf9
  v9 := Tryz.zeroValue9
  t31 := Tryz.underlying23
  a31 := Tryz.isAgg23
  z31 := Tryz.sizeOf23
  v31 := Tryz.zeroValue23
  t46 := Tryz.underlying154
  a46 := Tryz.isAgg154
  z46 := Tryz.sizeOf154
  v46 := Tryz.zeroValue154
  t51 := Tryz.underlying43
  a51 := Tryz.isAgg43
  z51 := Tryz.sizeOf43
  v51 := Tryz.zeroValue43
  t53 := Tryz.underlying197
  a53 := Tryz.isAgg197
  z53 := Tryz.sizeOf197
  v53 := Tryz.zeroValue197
  t131 := Tryz.underlying38
  a131 := Tryz.isAgg38
  z131 := Tryz.sizeOf38
  v131 := Tryz.zeroValue38
  t182 := Tryz.underlying188
  a182 := Tryz.isAgg188
  z182 := Tryz.sizeOf188
  v182 := Tryz.zeroValue188
  t183 := Tryz.underlying189
  a183 := Tryz.isAgg189
  z183 := Tryz.sizeOf189
  v183 := Tryz.zeroValue189
  t218 := Tryz.underlying212
  a218 := Tryz.isAgg212
  z218 := Tryz.sizeOf212
  v218 := Tryz.zeroValue212
  t222 := Tryz.underlying216
  a222 := Tryz.isAgg216
  z222 := Tryz.sizeOf216
  v222 := Tryz.zeroValue216
  t228 := Tryz.underlying221
  a228 := Tryz.isAgg221
  z228 := Tryz.sizeOf221
  v228 := Tryz.zeroValue221
  t229 := Tryz.underlying222
  a229 := Tryz.isAgg222
  z229 := Tryz.sizeOf222
  v229 := Tryz.zeroValue222 }
open Go.Sort Go.RowKit in
theorem Tryz.slices_Sort_string (blk off cap : Nat) (ss : List (List UInt8)) (w : World) (hH : Holds encStr w blk off ss.toArray) (hblk : blk < w.heap.size) (hsz : ss.length < 4611686018427387904) :
    Calls Tryz.prog 82 #[.slice (some ⟨blk, off, none⟩) ss.length cap] w fun e w' =>
      e = .returned (.tuple #[]) ∧ ∃ n os, w' = grow (putRow encStr (Sort.ahead w n) blk off (ss.mergeSort fun x y => decide (x ≤ y)).toArray) os := Any.slices_Sort_string Tryz.lays190 blk off cap ss w hH hblk hsz
def Tryz.laysNm216_ren : Go.Shelf.Ren := ⟨fun | 16 => 23 | n => n, fun | 24 => 23 | 9 => 9 | 4 => 4 | n => n, fun | n => n⟩
theorem Tryz.laysNm216 : Go.Proofs.Lays2.n16 Tryz.prog Tryz.laysNm216_ren := {
  mixed := by kernel_rfl
  f16 := Tryz.func23.trans (congrArg some (by kernel_rfl))
  t4 := Tryz.underlying4
  a4 := Tryz.isAgg4
  z4 := Tryz.sizeOf4
  v4 := Tryz.zeroValue4
  t9 := Tryz.underlying9
  a9 := Tryz.isAgg9
  z9 := Tryz.sizeOf9
  v9 := Tryz.zeroValue9
  t24 := Tryz.underlying23
  a24 := Tryz.isAgg23
  z24 := Tryz.sizeOf23
  v24 := Tryz.zeroValue23
  i9 := by kernel_rfl }
open Go.RowKit Go.Lib in
theorem Tryz.slices_Clone_string (b off n c : Nat) (zs : List ByteArray) (w : World) (hz : n ≤ zs.length) (hbig : n * 16 ≤ 140737488355328) (hc : ∀ j, j < zs.length → w.cell? ⟨b, off + j, none⟩ = some (.string (zs.getD j ByteArray.empty))) :
    Calls Tryz.prog 23 #[.slice (some ⟨b, off, none⟩) n c] w fun e w' => ∃ v', e = .returned v' ∧ w'.ownsRow w.heap.size 9 1 v' n ((zs.take n).map (Value.string)) ∧ v' ≠ .slice none 0 0 ∧ Below w.heap.size w w' := Any.slices_Clone_string Tryz.laysNm216 b off n c zs w hz hbig hc
open Go.RowKit Go.Lib in
theorem Tryz.slices_Clone_string_nil (n c : Nat) (w : World) :
    Calls Tryz.prog 23 #[.slice none n c] w fun e w' => e = .returned (.slice none 0 0) ∧ w' = w := Any.slices_Clone_string_nil Tryz.laysNm216 n c w
open Go.RowKit Go.Lib in
theorem Tryz.slices_Clone_string_zero (a : Addr) (c : Nat) (w : World) :
    Calls Tryz.prog 23 #[.slice (some a) 0 c] w fun e w' => ∃ v', e = .returned v' ∧ w'.ownsRow w.heap.size 9 1 v' 0 [] ∧ v' ≠ .slice none 0 0 ∧ Below w.heap.size w w' := Any.slices_Clone_string_zero Tryz.laysNm216 a c w
def Tryz.lays194_ren : Go.Shelf.Ren := ⟨fun | 194 => 55 | n => n, fun | 31 => 23 | 9 => 9 | 3 => 3 | 4 => 4 | 0 => 0 | n => n, fun | n => n⟩
theorem Tryz.lays194 : Go.Proofs.Lays.n194 Tryz.prog Tryz.lays194_ren := {
  mixed := by kernel_rfl
  f194 := Tryz.func55.trans (congrArg some (by kernel_rfl))
  t0 := Tryz.underlying0
  a0 := Tryz.isAgg0
  z0 := Tryz.sizeOf0
  v0 := Tryz.zeroValue0
  t3 := Tryz.underlying3
  a3 := Tryz.isAgg3
  z3 := Tryz.sizeOf3
  v3 := Tryz.zeroValue3
  t4 := Tryz.underlying4
  a4 := Tryz.isAgg4
  z4 := Tryz.sizeOf4
  v4 := Tryz.zeroValue4
  t9 := Tryz.underlying9
  a9 := Tryz.isAgg9
  z9 := Tryz.sizeOf9
  v9 := Tryz.zeroValue9
  t31 := Tryz.underlying23
  a31 := Tryz.isAgg23
  z31 := Tryz.sizeOf23
  v31 := Tryz.zeroValue23 }
open Go.RowKit Go.Lib Go.Sort in
theorem Tryz.slices_Compact_string (blk off cap : Nat) (zs : List (List UInt8)) (w : World) (hH : Holds encStr w blk off zs.toArray) (hsz : zs.length ≤ 9223372036854775807) (hcap : zs.length ≤ cap) :
    Calls Tryz.prog 55 #[.slice (some ⟨blk, off, none⟩) zs.length cap] w fun e w' => e = .returned (.slice (some ⟨blk, off, none⟩) (Lib.compact zs).length cap) ∧ ∃ q, w' = putRow encStr (Sort.ahead w q) blk off (Lib.compact zs ++ List.replicate (zs.length - (Lib.compact zs).length) []).toArray := Any.slices_Compact_string Tryz.lays194 blk off cap zs w hH hsz hcap
open Go.RowKit Go.Lib Go.Sort in
theorem Tryz.slices_Compact_string_empty (a : Option Addr) (cap : Nat) (w : World) :
    Calls Tryz.prog 55 #[.slice a 0 cap] w fun e w' => e = .returned (.slice a 0 cap) ∧ w' = w := Any.slices_Compact_string_empty Tryz.lays194 a cap w
open Go.RowKit Go.Sort in
theorem Tryz.slices_Sort_string_none (p : Option Addr) (cap : Nat) (w : World) :
    Calls Tryz.prog 82 #[.slice p 0 cap] w fun e w' => e = .returned (.tuple #[]) ∧ w' = w := Any.slices_Sort_string_none Tryz.lays190 p cap w
def Tryz.lays254_ren : Go.Shelf.Ren := ⟨fun | 254 => 185 | 291 => 190 | n => n, fun | 37 => 33 | 3 => 3 | 146 => 224 | 51 => 43 | 4 => 4 | 0 => 0 | 5 => 5 | 9 => 9 | 46 => 154 | n => n, fun | n => n⟩
theorem Tryz.lays254 : Go.Proofs.Lays.n254 Tryz.prog Tryz.lays254_ren := {
  mixed := by kernel_rfl
  f254 := Tryz.func185.trans (congrArg some (by kernel_rfl))
  f291 := Tryz.func190.trans (congrArg some (by kernel_rfl))
  t0 := Tryz.underlying0
  a0 := Tryz.isAgg0
  z0 := Tryz.sizeOf0
  v0 := Tryz.zeroValue0
  t3 := Tryz.underlying3
  a3 := Tryz.isAgg3
  z3 := Tryz.sizeOf3
  v3 := Tryz.zeroValue3
  t4 := Tryz.underlying4
  a4 := Tryz.isAgg4
  z4 := Tryz.sizeOf4
  v4 := Tryz.zeroValue4
  t5 := Tryz.underlying5
  a5 := Tryz.isAgg5
  z5 := Tryz.sizeOf5
  v5 := Tryz.zeroValue5
  t9 := Tryz.underlying9
  a9 := Tryz.isAgg9
  z9 := Tryz.sizeOf9
  v9 := Tryz.zeroValue9
  t37 := Tryz.underlying33
  a37 := Tryz.isAgg33
  z37 := Tryz.sizeOf33
  v37 := Tryz.zeroValue33
  t46 := Tryz.underlying154
  a46 := Tryz.isAgg154
  z46 := Tryz.sizeOf154
  v46 := Tryz.zeroValue154
  t51 := Tryz.underlying43
  a51 := Tryz.isAgg43
  z51 := Tryz.sizeOf43
  v51 := Tryz.zeroValue43
  t146 := Tryz.underlying224
  a146 := Tryz.isAgg224
  z146 := Tryz.sizeOf224
  v146 := Tryz.zeroValue224 }
open Go.RowKit Go.Lib in
theorem Tryz.bytealg_IndexRabinKarp_bytes (b1 o1 c1 b2 o2 c2 : Nat) (s sep : ByteArray) (h1 : 1 ≤ sep.size) (h2 : sep.size ≤ s.size) (hs : s.size < 4294967281) (w : World) (hc1 : Lib.Bytes w b1 o1 s) (hc2 : Lib.Bytes w b2 o2 sep) (hcap : s.size ≤ c1) :
    Calls Tryz.prog 185 #[.slice (some ⟨b1, o1, none⟩) s.size c1, .slice (some ⟨b2, o2, none⟩) sep.size c2] w fun e w' => e = .returned (.int .i64 (Lib.index s.data.toList sep.data.toList)) ∧ ∃ q, w' = w.drewN q := Any.bytealg_IndexRabinKarp_bytes Tryz.lays254 b1 o1 c1 b2 o2 c2 s sep h1 h2 hs w hc1 hc2 hcap
end Go.Proofs
namespace Go.Dm
theorem pcall_same {P : Program} {f : FuncId} {ds : List D} {d : D} (hf : FnOK P f)
    (h : ∀ (E : Env) (w : World) (vs : List Value), ImOK E w → GlOK E → rels ds E vs → ∃ v, rel d E v ∧ Calls P f vs.toArray w fun e w' => e = .returned v ∧ ∃ q, w' = w.drewN q) : PCall P f [] ds (.ret d []) := by
  refine ⟨hf, fun E w vs hi hnew hr => ?_⟩
  obtain ⟨v, h1, h2⟩ := h E w vs hi.im hi.gl hr
  refine Calls.mono h2 fun e w' he => ?_
  obtain ⟨rfl, q, rfl⟩ := he
  have hh : (w.drewN q).heap = w.heap := rfl
  exact ⟨v, E, rfl, ⟨Step.heap hh rfl rfl rfl, hi.heap hh, fun _ _ => ⟨rfl, rfl⟩, fun _ hp => (by cases hp)⟩, h1⟩
namespace Tryz
open Go.Proofs
theorem bytealgCutover {n : Nat} (h : n < 4611686018427387904) : PCall Tryz.prog 184 [] [.v (.int .i64 n)] (.ret (.v (.int .i64 (((n : Int) + 16) / 8))) []) := by
  refine pcall_same ⟨_, Tryz.func184, rfl, by decide⟩ fun E w vs him hgl hr => ?_
  obtain ⟨v, ws, e1, h1, e2⟩ := hr
  subst e1; subst e2
  obtain rfl : v = _ := h1
  exact ⟨_, rfl, Calls.mono (Tryz.bytealg_Cutover n (by omega) (by omega) w) fun e w' ⟨h1, h2⟩ => ⟨h1, 0, h2⟩⟩
theorem bytealgRabinKarp (b s : List UInt8) (h1 : 1 ≤ s.length) (h2 : s.length ≤ b.length) (h3 : b.length < 4294967281) :
    PCall Tryz.prog 185 [] [.list 1 (byD b), .list 1 (byD s)] (.ret (.v (.int .i64 (Lib.index b s))) []) := by
  refine pcall_same ⟨_, Tryz.func185, rfl, by decide⟩ fun E w vs him hgl hr => ?_
  obtain ⟨v, ws, e1, g1, u, ws', e2, g2, e3⟩ := hr
  subst e1; subst e2; subst e3
  obtain ⟨a1, c1, rfl, g3, g4⟩ := list_by g1
  obtain ⟨a2, c2, rfl, g5, g6⟩ := list_by g2
  obtain ⟨b1, o1, rfl, g7⟩ := g4 (by intro e; rw [e] at h2; have := Nat.le_trans h1 h2; simp at this)
  obtain ⟨b2, o2, rfl, g8⟩ := g6 (by intro e; rw [e] at h1; simp at h1)
  refine ⟨_, rfl, ?_⟩
  have cell : ∀ (l : List UInt8) (k o : Nat), (∀ i, i < l.length → E.im k (o + i) = some (Value.int .u8 ((l.map fun c => (c.toNat : Int)).getD i 0))) → Lib.Bytes w k o ⟨l.toArray⟩ := by
    intro l k o hh i hi
    have hi' : i < l.length := hi
    have := him _ _ _ (hh i hi')
    rw [this]
    simp [hi']
    rfl
  exact Tryz.bytealg_IndexRabinKarp_bytes b1 o1 c1 b2 o2 c2 ⟨b.toArray⟩ ⟨s.toArray⟩ h1 h2 h3 w (cell b b1 o1 g7) (cell s b2 o2 g8) g3
theorem eIndex {m : Int} (b s : List UInt8) (h2 : 2 ≤ s.length) (hm : (s.length : Int) ≤ m) (hb : b.length < 4294967281) :
    ECall Tryz.prog (.ptr [.v (.int .i64 m)]) 183 [.list 1 (byD b), .list 1 (byD s)] (.v (.int .i64 (Lib.index b s))) := by
  intro E w vs him hg ⟨v, ws, e1, g1, u, ws', e2, g2, e3⟩
  subst e1; subst e2; subst e3
  obtain ⟨a1, c1, rfl, g3, g4⟩ := list_by g1
  obtain ⟨a2, c2, rfl, g5, g6⟩ := list_by g2
  obtain ⟨b2, o2, rfl, g8⟩ := g6 (by intro e; rw [e] at h2; simp at h2)
  obtain ⟨kb, ko, hk1, ⟨mv, hk2, hk3⟩, _⟩ := hg
  injection hk1 with hk1; injection hk1 with hk1; injection hk1 with hk1 hk4
  subst hk1; subst hk4
  obtain rfl : mv = _ := hk3
  have hcell : w.cell? ⟨maxLenG, 0, none⟩ = some (.int .i64 m) := him _ _ _ hk2
  have ld : ∀ (l : List UInt8) (k o : Nat), (∀ i, i < l.length → E.im k (o + i) = some (Value.int .u8 ((l.map fun c => (c.toNat : Int)).getD i 0))) →
      (Extern.Bytes.loadBytes ⟨k, o, none⟩ l.length .empty).run Tryz.prog w = .ok ⟨l.toArray⟩ w := by
    intro l k o hh
    have := Lib.run_loadBytesX (P := Tryz.prog) w (l.map fun c => (c.toNat : Int)) ⟨k, o, none⟩ .empty (fun j x hj => by
      have hjl : j < l.length := by have := (List.getElem?_eq_some_iff.1 hj).1; simpa using this
      rw [add_plain, him _ _ _ (hh j hjl), List.getD_eq_getElem?_getD, hj]; rfl)
    rw [List.length_map, bytesOf_nat] at this
    rw [this]
    congr 1
    show ByteArray.mk (#[] ++ l.toArray) = _
    simp
  have hrest : ∃ rest : ByteArray → ByteArray → Sem Value, ∀ x y, Extern.BytealgIndex.index #[x, y] = Extern.Bytes.bytesOf x >>= fun a => Extern.Bytes.bytesOf y >>= fun b => rest a b := ⟨_, fun _ _ => rfl⟩
  obtain ⟨rest, hrest⟩ := hrest
  have hb1 : (Extern.Bytes.bytesOf (.slice a1 b.length c1)).run Tryz.prog w = .ok ⟨b.toArray⟩ w := by
    cases b with
    | nil =>
      cases a1 with
      | none => rfl
      | some a => rfl
    | cons c b =>
      obtain ⟨b1, o1, rfl, g7⟩ := g4 (by simp)
      exact ld _ _ _ g7
  have hb2 : (Extern.Bytes.bytesOf (.slice (some ⟨b2, o2, none⟩) s.length c2)).run Tryz.prog w = .ok ⟨s.toArray⟩ w := ld _ _ _ g8
  have hs := Lib.run_indexString (P := Tryz.prog) ⟨b.toArray⟩ ⟨s.toArray⟩ w maxLenG m (by kernel_rfl) hcell h2 hm hb
  have hrun : (Extern.BytealgIndex.index #[.slice a1 b.length c1, .slice (some ⟨b2, o2, none⟩) s.length c2]).run Tryz.prog w = .ok (.int .i64 (Lib.index b s)) w := by
    rw [hrest] at hs ⊢
    rw [Sem.run_bind, hb1]
    simp only [Result.andThen_ok]
    rw [Sem.run_bind, hb2]
    simp only [Result.andThen_ok]
    exact hs
  refine ⟨_, ?_, rfl⟩
  rw [run_callFunc_extern Tryz.func183 (by kernel_rfl) (by kernel_rfl) (by kernel_rfl) (e := Extern.BytealgIndex.index) (by kernel_rfl)]
  show Result.andThen (Sem.run Tryz.prog (Extern.BytealgIndex.index #[.slice a1 b.length c1, .slice (some ⟨b2, o2, none⟩) s.length c2]) w) _ = _
  rw [hrun]
  rfl
end Tryz
end Go.Dm
namespace Go.Dm
theorem frOK_two (d1 d2 : D) (m : Int) : FrOK [(0, d1), (1, d2), (100000 + maxLenG, .ptr [.v (.int .i64 m)])] [d1, d2] m := by
  intro t
  unfold gd
  simp only [argsFr, get_cons]
  by_cases h0 : 0 = t
  · exact .inl (by rw [if_pos h0, if_pos h0])
  by_cases h1 : 1 = t
  · exact .inl (by rw [if_neg h0, if_pos h1, if_neg h0, if_pos (by omega)])
  by_cases h2 : 100000 + maxLenG = t
  · exact .inr ⟨h2.symm, by rw [if_neg h0, if_neg h1, if_pos h2]⟩
  · refine .inl ?_
    rw [if_neg h0, if_neg h1, if_neg h2, if_neg h0, if_neg (by omega)]
theorem occ_piece {b s : List UInt8} {j : Nat} (h : j + s.length ≤ b.length) : Lib.occAt b s j = true ↔ (b.take (j + s.length)).drop j = s := by
  unfold Lib.occAt
  rw [List.isPrefixOf_iff_prefix, List.prefix_iff_eq_take, List.drop_take, Nat.add_sub_cancel_left]
  exact eq_comm
namespace Tryz
open Go.Proofs
set_option maxHeartbeats 2000000 in
theorem bytesIndex (b s : List UInt8) (h1 : 1 ≤ s.length) (hb : b.length < 4294967281) :
    PCall Tryz.prog 155 [] [.list 1 (byD b), .list 1 (byD s)] (.ret (.v (.int .i64 (Lib.index b s))) []) := by
  refine pcall_gen (news := []) cxOK Tryz.func155 rfl Tryz.ntmps155 rfl rfl rfl (by decide) (fun m => [(0, .list 1 (byD b)), (1, .list 1 (byD s)), (100000 + maxLenG, .ptr [.v (.int .i64 m)])]) (fun m => frOK_two _ _ m) fun m => ?_
  repeat' ((conv => whnf); first | exact trivial | refine xB ?_ | refine xY ?_ | refine xN ?_ | refine sM ?_ ?_ <;> intro _ | refine xC ?_ | refine And.intro ?_ ?_ | exact Or.inl ⟨rfl, rfl⟩ | exact rfl)
  all_goals (conv => whnf)
  · rename_i h
    have h := decT h
    rw [byD_length] at h
    omega
  · rename_i h0 h
    have h := decT h
    rw [byD_length] at h
    match s, h with
    | [c], _ =>
    refine IdxG.by 0 c rfl rfl ?_
    conv => whnf
    refine call0 (bytesIndexByte b c) ?_
    conv => whnf
    rw [Lib.index_one]
  · rename_i h0 h2 h
    have h := decT h
    rw [byD_length, byD_length] at h
    refine call0 (bytesEqual s b) ?_
    repeat' ((conv => whnf); first | exact trivial | refine xB ?_ | refine xY ?_ | refine xN ?_ | refine sM ?_ ?_ <;> intro _ | refine xC ?_ | refine And.intro ?_ ?_ | exact Or.inl ⟨rfl, rfl⟩ | exact rfl)
    all_goals (conv => whnf)
    · rename_i h3
      have h3 := decT h3
      subst h3
      rw [Lib.index_self]
    · rename_i h3
      have h3 := decF h3
      rw [Lib.index_long (by omega) h3]
  · rename_i h0 h2 h3 h
    have h := decT h
    rw [byD_length, byD_length] at h
    rw [Lib.index_long (by omega) (by intro e; subst e; omega)]
  · rename_i h0 h2 h3 h4 hm h
    have h0 := decF h0
    have h2 := decF h2
    have hm := decT hm
    rw [byD_length] at h0 h2 hm
    exact callE (eIndex b s (by omega) hm hb) rfl
  · rename_i h0 h2 h3 h4 hm h
    have h0 := decF h0
    have h2 := decF h2
    have h3 := decF h3
    have h4 := decF h4
    have hm := decT hm
    rw [byD_length] at h0 h2 h3 h4 hm
    rw [byD_length] at h3 h4
    obtain ⟨c0, c1, tl, hs2⟩ : ∃ c0 c1 tl, s = c0 :: c1 :: tl := by
      match s, h0, h2 with
      | [], h0, _ => exact absurd rfl h0
      | [_], _, h2 => exact absurd rfl h2
      | c0 :: c1 :: tl, _, _ => exact ⟨c0, c1, tl, rfl⟩
    refine IdxG.by 0 c0 rfl (by rw [hs2]; rfl) ?_
    conv => whnf
    refine IdxG.by 1 c1 rfl (by rw [hs2]; rfl) ?_
    conv => whnf
    refine KI.i64 ((b.length : Int) - s.length) (by rw [byD_length, byD_length]) (by omega) ?_
    conv => whnf
    refine KI.i64 ((b.length - s.length + 1 : Nat) : Int) (by omega) (by omega) ?_
    conv => whnf
    refine LoopW.to (ι := Nat × Nat) (fun p => Lib.NoOcc b s p.1 ∧ p.1 ≤ b.length ∧ p.2 ≤ p.1) (fun p => b.length + 1 - p.1)
      (fun p => [(0, .list 1 (byD b)), (1, .list 1 (byD s)), (5, .v (.int .i64 s.length)), (6, .v (.int .u8 c0.toNat)), (7, .v (.int .u8 c1.toNat)), (8, .v (.int .i64 p.1)), (9, .v (.int .i64 (b.length - s.length + 1 : Nat))), (10, .v (.int .i64 p.2)), (100000 + maxLenG, .ptr [.v (.int .i64 m)])])
      (fun _ => []) [] (0, 0) ⟨Lib.NoOcc.zero b s, Nat.zero_le _, Nat.le_refl _⟩ ⟨⟨rfl, rfl, congrArg (fun k : Nat => D.v (.int .i64 (k : Int))) (byD_length s), rfl, rfl, rfl, rfl, rfl, rfl, trivial⟩, trivial⟩ ?_
    rintro ⟨i, fails⟩ ⟨hno, hi, hfl⟩
    simp only at hno hi hfl
    repeat' ((conv => whnf); first | exact trivial | refine xB ?_ | refine xY ?_ | refine xN ?_ | refine sM ?_ ?_ <;> intro _ | refine xC ?_ | refine And.intro ?_ ?_ | exact Or.inl ⟨rfl, rfl⟩ | exact rfl)
    all_goals (conv => whnf)
    · rename_i hlt
      have hlt : (i : Int) < ((b.length - s.length + 1 : Nat) : Int) := decT hlt
      have hsl : s.length = tl.length + 2 := by rw [hs2]; rfl
      refine IdxG.by i b[i] rfl (List.getElem?_eq_getElem (by omega)) ?_
      repeat' ((conv => whnf); first | exact trivial | refine xB ?_ | refine xY ?_ | refine xN ?_ | refine sM ?_ ?_ <;> intro _ | refine xC ?_ | refine And.intro ?_ ?_ | exact Or.inl ⟨rfl, rfl⟩ | exact rfl)
      all_goals (conv => whnf)
      · rename_i hc
        have hc : b[i]? ≠ some c0 := by
          rw [List.getElem?_eq_getElem (by omega)]
          intro e
          injection e with e
          have hc := decF (notT hc)
          rw [e] at hc
          exact hc rfl
        refine KI.i64 ((i + 1 : Nat) : Int) (by simp) (by omega) ?_
        conv => whnf
        refine BndG.to (i + 1) rfl ?_
        conv => whnf
        refine BndG.to (b.length - s.length + 1) rfl ?_
        conv => whnf
        refine CutL.by ((b.drop (i + 1)).take (b.length - s.length + 1 - (i + 1))) (by omega) (by omega) (by rw [List.drop_take]) ?_
        conv => whnf
        refine call0 (bytesIndexByte _ c0) ?_
        have hge := Lib.indexByte_ge ((b.drop (i + 1)).take (b.length - s.length + 1 - (i + 1))) c0
        repeat' ((conv => whnf); first | exact trivial | refine xB ?_ | refine xY ?_ | refine xN ?_ | refine sM ?_ ?_ <;> intro _ | refine xC ?_ | refine And.intro ?_ ?_ | exact Or.inl ⟨rfl, rfl⟩ | exact rfl)
        all_goals (conv => whnf)
        · rename_i ho
          have ho := decT ho
          rw [Lib.index_skip_none (t := b.length - s.length + 1) hs2 hno hc (by omega) (by omega)]
        · rename_i ho
          have ho := decF ho
          obtain ⟨o, ho2⟩ : ∃ o : Nat, Lib.indexByte ((b.drop (i + 1)).take (b.length - s.length + 1 - (i + 1))) c0 = (o : Int) := ⟨_, (Int.toNat_of_nonneg (by omega)).symm⟩
          obtain ⟨hno2, _, hjt⟩ := Lib.noOcc_skip hs2 hno hc ho2
          refine KI.i64 ((o + 1 : Nat) : Int) (by rw [ho2]; simp) (by omega) ?_
          conv => whnf
          refine KI.i64 ((i + o + 1 : Nat) : Int) (by simp; omega) (by omega) ?_
          conv => whnf
          refine KI.i64 ((i + o + 1 + 1 : Nat) : Int) (by simp) (by omega) ?_
          conv => whnf
          refine IdxG.by (i + o + 1 + 1) b[i + o + 1 + 1] rfl (List.getElem?_eq_getElem (by omega)) ?_
          repeat' ((conv => whnf); first | exact trivial | refine xB ?_ | refine xY ?_ | refine xN ?_ | refine sM ?_ ?_ <;> intro _ | refine xC ?_ | refine And.intro ?_ ?_ | exact Or.inl ⟨rfl, rfl⟩ | exact rfl)
          all_goals (conv => whnf)
          · rename_i hc1
            refine KI.i64 ((i + o + 1 + s.length : Nat) : Int) (by simp) (by omega) ?_
            conv => whnf
            refine BndG.to (i + o + 1) rfl ?_
            conv => whnf
            refine BndG.to (i + o + 1 + s.length) rfl ?_
            conv => whnf
            refine CutL.by ((b.take (i + o + 1 + s.length)).drop (i + o + 1)) (by omega) (by omega) rfl ?_
            conv => whnf
            refine call0 (bytesEqual _ _) ?_
            repeat' ((conv => whnf); first | exact trivial | refine xB ?_ | refine xY ?_ | refine xN ?_ | refine sM ?_ ?_ <;> intro _ | refine xC ?_ | refine And.intro ?_ ?_ | exact Or.inl ⟨rfl, rfl⟩ | exact rfl)
            all_goals (conv => whnf)
            · rename_i he
              have he := decT he
              rw [Lib.index_hit hno2 (by omega) ((occ_piece (by omega)).2 he)]
            · rename_i he
              have he := decF he
              have hmiss : Lib.NoOcc b s (i + o + 1 + 1) := hno2.succ (by
                cases ho : Lib.occAt b s (i + o + 1) with
                | false => rfl
                | true => exact absurd ((occ_piece (by omega)).1 ho) he)
              refine KI.i64 ((fails + 1 : Nat) : Int) (by simp) (by omega) ?_
              conv => whnf
              refine KI.i64 ((i + o + 1 + 1 : Nat) : Int) (by simp) (by omega) ?_
              conv => whnf
              refine call0 (bytealgCutover (n := i + o + 1 + 1) (by omega)) ?_
              repeat' ((conv => whnf); first | exact trivial | refine xB ?_ | refine xY ?_ | refine xN ?_ | refine sM ?_ ?_ <;> intro _ | refine xC ?_ | refine And.intro ?_ ?_ | exact Or.inl ⟨rfl, rfl⟩ | exact rfl)
              all_goals (conv => whnf)
              · refine BndG.to (i + o + 1 + 1) rfl ?_
                conv => whnf
                refine CutL.by (b.drop (i + o + 1 + 1)) (by rw [byD_length]; omega) (by rw [byD_length]; exact Nat.le_refl _) (by rw [byD_length, List.take_length]) ?_
                conv => whnf
                refine callE (eIndex (b.drop (i + o + 1 + 1)) s (by omega) hm (by simp; omega)) ?_
                have hdr := Lib.index_drop hmiss (by omega : i + o + 1 + 1 ≤ b.length)
                have hle := Lib.index_le (b.drop (i + o + 1 + 1)) s
                rw [List.length_drop] at hle
                repeat' ((conv => whnf); first | exact trivial | refine xB ?_ | refine xY ?_ | refine xN ?_ | refine sM ?_ ?_ <;> intro _ | refine xC ?_ | refine And.intro ?_ ?_ | exact Or.inl ⟨rfl, rfl⟩ | exact rfl)
                all_goals (conv => whnf)
                · rename_i hr
                  have hr := decT hr
                  refine KI.i64 (Lib.index (b.drop (i + o + 1 + 1)) s + ((i + o + 1 + 1 : Nat) : Int)) rfl (by omega) ?_
                  conv => whnf
                  rw [hdr, if_neg (by rw [beq_iff_eq]; omega)]
                · rename_i hr
                  have hr := decF hr
                  have hge := Lib.index_ge (b.drop (i + o + 1 + 1)) s
                  rw [hdr, if_pos (by rw [beq_iff_eq]; omega)]
              · exact NextG.to (i + o + 1 + 1, fails + 1) ⟨hmiss, by simp only; omega, by simp only; omega⟩ (by simp only; omega) ⟨⟨rfl, rfl, rfl, rfl, rfl, rfl, rfl, rfl, rfl, trivial⟩, trivial⟩
          · rename_i hc1
            have hmiss : Lib.NoOcc b s (i + o + 1 + 1) := hno2.succ (by
              cases ho : Lib.occAt b s (i + o + 1) with
              | false => rfl
              | true =>
                exfalso
                have hx := Lib.occAt_second hs2 ho
                rw [List.getElem?_eq_getElem (by omega)] at hx
                injection hx with hx
                have hc1 := decF hc1
                rw [hx] at hc1
                exact hc1 rfl)
            refine KI.i64 ((fails + 1 : Nat) : Int) (by simp) (by omega) ?_
            conv => whnf
            refine KI.i64 ((i + o + 1 + 1 : Nat) : Int) (by simp) (by omega) ?_
            conv => whnf
            refine call0 (bytealgCutover (n := i + o + 1 + 1) (by omega)) ?_
            repeat' ((conv => whnf); first | exact trivial | refine xB ?_ | refine xY ?_ | refine xN ?_ | refine sM ?_ ?_ <;> intro _ | refine xC ?_ | refine And.intro ?_ ?_ | exact Or.inl ⟨rfl, rfl⟩ | exact rfl)
            all_goals (conv => whnf)
            · refine BndG.to (i + o + 1 + 1) rfl ?_
              conv => whnf
              refine CutL.by (b.drop (i + o + 1 + 1)) (by rw [byD_length]; omega) (by rw [byD_length]; exact Nat.le_refl _) (by rw [byD_length, List.take_length]) ?_
              conv => whnf
              refine callE (eIndex (b.drop (i + o + 1 + 1)) s (by omega) hm (by simp; omega)) ?_
              have hdr := Lib.index_drop hmiss (by omega : i + o + 1 + 1 ≤ b.length)
              have hle := Lib.index_le (b.drop (i + o + 1 + 1)) s
              rw [List.length_drop] at hle
              repeat' ((conv => whnf); first | exact trivial | refine xB ?_ | refine xY ?_ | refine xN ?_ | refine sM ?_ ?_ <;> intro _ | refine xC ?_ | refine And.intro ?_ ?_ | exact Or.inl ⟨rfl, rfl⟩ | exact rfl)
              all_goals (conv => whnf)
              · rename_i hr
                have hr := decT hr
                refine KI.i64 (Lib.index (b.drop (i + o + 1 + 1)) s + ((i + o + 1 + 1 : Nat) : Int)) rfl (by omega) ?_
                conv => whnf
                rw [hdr, if_neg (by rw [beq_iff_eq]; omega)]
              · rename_i hr
                have hr := decF hr
                have hge := Lib.index_ge (b.drop (i + o + 1 + 1)) s
                rw [hdr, if_pos (by rw [beq_iff_eq]; omega)]
            · exact NextG.to (i + o + 1 + 1, fails + 1) ⟨hmiss, by simp only; omega, by simp only; omega⟩ (by simp only; omega) ⟨⟨rfl, rfl, rfl, rfl, rfl, rfl, rfl, rfl, rfl, trivial⟩, trivial⟩
      · rename_i hc
        refine KI.i64 ((i + 1 : Nat) : Int) (by simp) (by omega) ?_
        conv => whnf
        refine IdxG.by (i + 1) b[i + 1] rfl (List.getElem?_eq_getElem (by omega)) ?_
        repeat' ((conv => whnf); first | exact trivial | refine xB ?_ | refine xY ?_ | refine xN ?_ | refine sM ?_ ?_ <;> intro _ | refine xC ?_ | refine And.intro ?_ ?_ | exact Or.inl ⟨rfl, rfl⟩ | exact rfl)
        all_goals (conv => whnf)
        · rename_i hc1
          refine KI.i64 ((i + s.length : Nat) : Int) (by simp) (by omega) ?_
          conv => whnf
          refine BndG.to (i) rfl ?_
          conv => whnf
          refine BndG.to (i + s.length) rfl ?_
          conv => whnf
          refine CutL.by ((b.take (i + s.length)).drop (i)) (by omega) (by omega) rfl ?_
          conv => whnf
          refine call0 (bytesEqual _ _) ?_
          repeat' ((conv => whnf); first | exact trivial | refine xB ?_ | refine xY ?_ | refine xN ?_ | refine sM ?_ ?_ <;> intro _ | refine xC ?_ | refine And.intro ?_ ?_ | exact Or.inl ⟨rfl, rfl⟩ | exact rfl)
          all_goals (conv => whnf)
          · rename_i he
            have he := decT he
            rw [Lib.index_hit hno (by omega) ((occ_piece (by omega)).2 he)]
          · rename_i he
            have he := decF he
            have hmiss : Lib.NoOcc b s (i + 1) := hno.succ (by
              cases ho : Lib.occAt b s (i) with
              | false => rfl
              | true => exact absurd ((occ_piece (by omega)).1 ho) he)
            refine KI.i64 ((fails + 1 : Nat) : Int) (by simp) (by omega) ?_
            conv => whnf
            refine KI.i64 ((i + 1 : Nat) : Int) (by simp) (by omega) ?_
            conv => whnf
            refine call0 (bytealgCutover (n := i + 1) (by omega)) ?_
            repeat' ((conv => whnf); first | exact trivial | refine xB ?_ | refine xY ?_ | refine xN ?_ | refine sM ?_ ?_ <;> intro _ | refine xC ?_ | refine And.intro ?_ ?_ | exact Or.inl ⟨rfl, rfl⟩ | exact rfl)
            all_goals (conv => whnf)
            · refine BndG.to (i + 1) rfl ?_
              conv => whnf
              refine CutL.by (b.drop (i + 1)) (by rw [byD_length]; omega) (by rw [byD_length]; exact Nat.le_refl _) (by rw [byD_length, List.take_length]) ?_
              conv => whnf
              refine callE (eIndex (b.drop (i + 1)) s (by omega) hm (by simp; omega)) ?_
              have hdr := Lib.index_drop hmiss (by omega : i + 1 ≤ b.length)
              have hle := Lib.index_le (b.drop (i + 1)) s
              rw [List.length_drop] at hle
              repeat' ((conv => whnf); first | exact trivial | refine xB ?_ | refine xY ?_ | refine xN ?_ | refine sM ?_ ?_ <;> intro _ | refine xC ?_ | refine And.intro ?_ ?_ | exact Or.inl ⟨rfl, rfl⟩ | exact rfl)
              all_goals (conv => whnf)
              · rename_i hr
                have hr := decT hr
                refine KI.i64 (Lib.index (b.drop (i + 1)) s + ((i + 1 : Nat) : Int)) rfl (by omega) ?_
                conv => whnf
                rw [hdr, if_neg (by rw [beq_iff_eq]; omega)]
              · rename_i hr
                have hr := decF hr
                have hge := Lib.index_ge (b.drop (i + 1)) s
                rw [hdr, if_pos (by rw [beq_iff_eq]; omega)]
            · exact NextG.to (i + 1, fails + 1) ⟨hmiss, by simp only; omega, by simp only; omega⟩ (by simp only; omega) ⟨⟨rfl, rfl, rfl, rfl, rfl, rfl, rfl, rfl, rfl, trivial⟩, trivial⟩
        · rename_i hc1
          have hmiss : Lib.NoOcc b s (i + 1) := hno.succ (by
            cases ho : Lib.occAt b s (i) with
            | false => rfl
            | true =>
              exfalso
              have hx := Lib.occAt_second hs2 ho
              rw [List.getElem?_eq_getElem (by omega)] at hx
              injection hx with hx
              have hc1 := decF hc1
              rw [hx] at hc1
              exact hc1 rfl)
          refine KI.i64 ((fails + 1 : Nat) : Int) (by simp) (by omega) ?_
          conv => whnf
          refine KI.i64 ((i + 1 : Nat) : Int) (by simp) (by omega) ?_
          conv => whnf
          refine call0 (bytealgCutover (n := i + 1) (by omega)) ?_
          repeat' ((conv => whnf); first | exact trivial | refine xB ?_ | refine xY ?_ | refine xN ?_ | refine sM ?_ ?_ <;> intro _ | refine xC ?_ | refine And.intro ?_ ?_ | exact Or.inl ⟨rfl, rfl⟩ | exact rfl)
          all_goals (conv => whnf)
          · refine BndG.to (i + 1) rfl ?_
            conv => whnf
            refine CutL.by (b.drop (i + 1)) (by rw [byD_length]; omega) (by rw [byD_length]; exact Nat.le_refl _) (by rw [byD_length, List.take_length]) ?_
            conv => whnf
            refine callE (eIndex (b.drop (i + 1)) s (by omega) hm (by simp; omega)) ?_
            have hdr := Lib.index_drop hmiss (by omega : i + 1 ≤ b.length)
            have hle := Lib.index_le (b.drop (i + 1)) s
            rw [List.length_drop] at hle
            repeat' ((conv => whnf); first | exact trivial | refine xB ?_ | refine xY ?_ | refine xN ?_ | refine sM ?_ ?_ <;> intro _ | refine xC ?_ | refine And.intro ?_ ?_ | exact Or.inl ⟨rfl, rfl⟩ | exact rfl)
            all_goals (conv => whnf)
            · rename_i hr
              have hr := decT hr
              refine KI.i64 (Lib.index (b.drop (i + 1)) s + ((i + 1 : Nat) : Int)) rfl (by omega) ?_
              conv => whnf
              rw [hdr, if_neg (by rw [beq_iff_eq]; omega)]
            · rename_i hr
              have hr := decF hr
              have hge := Lib.index_ge (b.drop (i + 1)) s
              rw [hdr, if_pos (by rw [beq_iff_eq]; omega)]
          · exact NextG.to (i + 1, fails + 1) ⟨hmiss, by simp only; omega, by simp only; omega⟩ (by simp only; omega) ⟨⟨rfl, rfl, rfl, rfl, rfl, rfl, rfl, rfl, rfl, trivial⟩, trivial⟩
    · rename_i hlt
      have hlt : ¬ (i : Int) < ((b.length - s.length + 1 : Nat) : Int) := decF hlt
      rw [Lib.index_past (by rw [hs2]; simp) hno (by omega)]
  · rename_i h0 h2 h3 h4 hm
    have h0 := decF h0
    have h2 := decF h2
    have h3 := decF h3
    have h4 := decF h4
    rw [byD_length] at h0 h2 h3 h4
    rw [byD_length] at h3 h4
    obtain ⟨c0, c1, tl, hs2⟩ : ∃ c0 c1 tl, s = c0 :: c1 :: tl := by
      match s, h0, h2 with
      | [], h0, _ => exact absurd rfl h0
      | [_], _, h2 => exact absurd rfl h2
      | c0 :: c1 :: tl, _, _ => exact ⟨c0, c1, tl, rfl⟩
    refine IdxG.by 0 c0 rfl (by rw [hs2]; rfl) ?_
    conv => whnf
    refine IdxG.by 1 c1 rfl (by rw [hs2]; rfl) ?_
    conv => whnf
    refine KI.i64 ((b.length : Int) - s.length) (by rw [byD_length, byD_length]) (by omega) ?_
    conv => whnf
    refine KI.i64 ((b.length - s.length + 1 : Nat) : Int) (by omega) (by omega) ?_
    conv => whnf
    refine LoopW.to (ι := Nat × Nat) (fun p => Lib.NoOcc b s p.1 ∧ p.1 ≤ b.length ∧ p.2 ≤ p.1) (fun p => b.length + 1 - p.1)
      (fun p => [(0, .list 1 (byD b)), (1, .list 1 (byD s)), (5, .v (.int .i64 s.length)), (13, .v (.int .u8 c0.toNat)), (14, .v (.int .u8 c1.toNat)), (15, .v (.int .i64 p.1)), (16, .v (.int .i64 p.2)), (17, .v (.int .i64 (b.length - s.length + 1 : Nat)))])
      (fun _ => []) [] (0, 0) ⟨Lib.NoOcc.zero b s, Nat.zero_le _, Nat.le_refl _⟩ ⟨⟨rfl, rfl, congrArg (fun k : Nat => D.v (.int .i64 (k : Int))) (byD_length s), rfl, rfl, rfl, rfl, rfl, trivial⟩, trivial⟩ ?_
    rintro ⟨i, fails⟩ ⟨hno, hi, hfl⟩
    simp only at hno hi hfl
    repeat' ((conv => whnf); first | exact trivial | refine xB ?_ | refine xY ?_ | refine xN ?_ | refine sM ?_ ?_ <;> intro _ | refine xC ?_ | refine And.intro ?_ ?_ | exact Or.inl ⟨rfl, rfl⟩ | exact rfl)
    all_goals (conv => whnf)
    · rename_i hlt
      have hlt : (i : Int) < ((b.length - s.length + 1 : Nat) : Int) := decT hlt
      have hsl : s.length = tl.length + 2 := by rw [hs2]; rfl
      refine IdxG.by i b[i] rfl (List.getElem?_eq_getElem (by omega)) ?_
      repeat' ((conv => whnf); first | exact trivial | refine xB ?_ | refine xY ?_ | refine xN ?_ | refine sM ?_ ?_ <;> intro _ | refine xC ?_ | refine And.intro ?_ ?_ | exact Or.inl ⟨rfl, rfl⟩ | exact rfl)
      all_goals (conv => whnf)
      · rename_i hc
        have hc : b[i]? ≠ some c0 := by
          rw [List.getElem?_eq_getElem (by omega)]
          intro e
          injection e with e
          have hc := decF (notT hc)
          rw [e] at hc
          exact hc rfl
        refine KI.i64 ((i + 1 : Nat) : Int) (by simp) (by omega) ?_
        conv => whnf
        refine BndG.to (i + 1) rfl ?_
        conv => whnf
        refine BndG.to (b.length - s.length + 1) rfl ?_
        conv => whnf
        refine CutL.by ((b.drop (i + 1)).take (b.length - s.length + 1 - (i + 1))) (by omega) (by omega) (by rw [List.drop_take]) ?_
        conv => whnf
        refine call0 (bytesIndexByte _ c0) ?_
        have hge := Lib.indexByte_ge ((b.drop (i + 1)).take (b.length - s.length + 1 - (i + 1))) c0
        repeat' ((conv => whnf); first | exact trivial | refine xB ?_ | refine xY ?_ | refine xN ?_ | refine sM ?_ ?_ <;> intro _ | refine xC ?_ | refine And.intro ?_ ?_ | exact Or.inl ⟨rfl, rfl⟩ | exact rfl)
        all_goals (conv => whnf)
        · rename_i ho
          have ho := decT ho
          rw [Lib.index_skip_none (t := b.length - s.length + 1) hs2 hno hc (by omega) (by omega)]
        · rename_i ho
          have ho := decF ho
          obtain ⟨o, ho2⟩ : ∃ o : Nat, Lib.indexByte ((b.drop (i + 1)).take (b.length - s.length + 1 - (i + 1))) c0 = (o : Int) := ⟨_, (Int.toNat_of_nonneg (by omega)).symm⟩
          obtain ⟨hno2, _, hjt⟩ := Lib.noOcc_skip hs2 hno hc ho2
          refine KI.i64 ((o + 1 : Nat) : Int) (by rw [ho2]; simp) (by omega) ?_
          conv => whnf
          refine KI.i64 ((i + o + 1 : Nat) : Int) (by simp; omega) (by omega) ?_
          conv => whnf
          refine KI.i64 ((i + o + 1 + 1 : Nat) : Int) (by simp) (by omega) ?_
          conv => whnf
          refine IdxG.by (i + o + 1 + 1) b[i + o + 1 + 1] rfl (List.getElem?_eq_getElem (by omega)) ?_
          repeat' ((conv => whnf); first | exact trivial | refine xB ?_ | refine xY ?_ | refine xN ?_ | refine sM ?_ ?_ <;> intro _ | refine xC ?_ | refine And.intro ?_ ?_ | exact Or.inl ⟨rfl, rfl⟩ | exact rfl)
          all_goals (conv => whnf)
          · rename_i hc1
            refine KI.i64 ((i + o + 1 + s.length : Nat) : Int) (by simp) (by omega) ?_
            conv => whnf
            refine BndG.to (i + o + 1) rfl ?_
            conv => whnf
            refine BndG.to (i + o + 1 + s.length) rfl ?_
            conv => whnf
            refine CutL.by ((b.take (i + o + 1 + s.length)).drop (i + o + 1)) (by omega) (by omega) rfl ?_
            conv => whnf
            refine call0 (bytesEqual _ _) ?_
            repeat' ((conv => whnf); first | exact trivial | refine xB ?_ | refine xY ?_ | refine xN ?_ | refine sM ?_ ?_ <;> intro _ | refine xC ?_ | refine And.intro ?_ ?_ | exact Or.inl ⟨rfl, rfl⟩ | exact rfl)
            all_goals (conv => whnf)
            · rename_i he
              have he := decT he
              rw [Lib.index_hit hno2 (by omega) ((occ_piece (by omega)).2 he)]
            · rename_i he
              have he := decF he
              have hmiss : Lib.NoOcc b s (i + o + 1 + 1) := hno2.succ (by
                cases ho : Lib.occAt b s (i + o + 1) with
                | false => rfl
                | true => exact absurd ((occ_piece (by omega)).1 ho) he)
              refine KI.i64 ((i + o + 1 + 1 : Nat) : Int) (by simp) (by omega) ?_
              conv => whnf
              refine KI.i64 ((fails + 1 : Nat) : Int) (by simp) (by omega) ?_
              conv => whnf
              refine And.intro (by decide) ?_
              refine KI.to (((i + o + 1 + 1) / 16 : Nat) : Int) (by show Int.fdiv _ 16 = _; rw [Int.fdiv_eq_ediv_of_nonneg _ (by decide)]; omega) ?_
              conv => whnf
              refine KI.i64 ((4 + (i + o + 1 + 1) / 16 : Nat) : Int) (by simp) (by omega) ?_
              repeat' ((conv => whnf); first | exact trivial | refine xB ?_ | refine xY ?_ | refine xN ?_ | refine sM ?_ ?_ <;> intro _ | refine xC ?_ | refine And.intro ?_ ?_ | exact Or.inl ⟨rfl, rfl⟩ | exact rfl)
              all_goals (conv => whnf)
              · rename_i hr1 hr2
                have hr2 := decT (p := (((i + o + 1 + 1 : Nat) : Int) < ((b.length - s.length + 1 : Nat) : Int))) hr2
                refine BndG.to (i + o + 1 + 1) rfl ?_
                conv => whnf
                refine CutL.by (b.drop (i + o + 1 + 1)) (by rw [byD_length]; omega) (by rw [byD_length]; exact Nat.le_refl _) (by rw [byD_length, List.take_length]) ?_
                conv => whnf
                refine call0 (bytealgRabinKarp (b.drop (i + o + 1 + 1)) s (by omega) (by rw [List.length_drop]; omega) (by rw [List.length_drop]; omega)) ?_
                have hdr := Lib.index_drop hmiss (by omega : i + o + 1 + 1 ≤ b.length)
                have hle := Lib.index_le (b.drop (i + o + 1 + 1)) s
                rw [List.length_drop] at hle
                have hge := Lib.index_ge (b.drop (i + o + 1 + 1)) s
                repeat' ((conv => whnf); first | exact trivial | refine xB ?_ | refine xY ?_ | refine xN ?_ | refine sM ?_ ?_ <;> intro _ | refine xC ?_ | refine And.intro ?_ ?_ | exact Or.inl ⟨rfl, rfl⟩ | exact rfl)
                all_goals (conv => whnf)
                · rename_i hr
                  have hr := decT hr
                  rw [hdr, if_pos (by rw [beq_iff_eq]; omega)]
                · rename_i hr
                  have hr := decF hr
                  refine KI.i64 (Lib.index (b.drop (i + o + 1 + 1)) s + ((i + o + 1 + 1 : Nat) : Int)) (Int.add_comm _ _) (by omega) ?_
                  conv => whnf
                  rw [hdr, if_neg (by rw [beq_iff_eq]; omega)]
              · exact NextG.to (i + o + 1 + 1, fails + 1) ⟨hmiss, by simp only; omega, by simp only; omega⟩ (by simp only; omega) ⟨⟨rfl, rfl, rfl, rfl, rfl, rfl, rfl, rfl, trivial⟩, trivial⟩
              · exact NextG.to (i + o + 1 + 1, fails + 1) ⟨hmiss, by simp only; omega, by simp only; omega⟩ (by simp only; omega) ⟨⟨rfl, rfl, rfl, rfl, rfl, rfl, rfl, rfl, trivial⟩, trivial⟩
          · rename_i hc1
            have hmiss : Lib.NoOcc b s (i + o + 1 + 1) := hno2.succ (by
              cases ho : Lib.occAt b s (i + o + 1) with
              | false => rfl
              | true =>
                exfalso
                have hx := Lib.occAt_second hs2 ho
                rw [List.getElem?_eq_getElem (by omega)] at hx
                injection hx with hx
                have hc1 := decF hc1
                rw [hx] at hc1
                exact hc1 rfl)
            refine KI.i64 ((i + o + 1 + 1 : Nat) : Int) (by simp) (by omega) ?_
            conv => whnf
            refine KI.i64 ((fails + 1 : Nat) : Int) (by simp) (by omega) ?_
            conv => whnf
            refine And.intro (by decide) ?_
            refine KI.to (((i + o + 1 + 1) / 16 : Nat) : Int) (by show Int.fdiv _ 16 = _; rw [Int.fdiv_eq_ediv_of_nonneg _ (by decide)]; omega) ?_
            conv => whnf
            refine KI.i64 ((4 + (i + o + 1 + 1) / 16 : Nat) : Int) (by simp) (by omega) ?_
            repeat' ((conv => whnf); first | exact trivial | refine xB ?_ | refine xY ?_ | refine xN ?_ | refine sM ?_ ?_ <;> intro _ | refine xC ?_ | refine And.intro ?_ ?_ | exact Or.inl ⟨rfl, rfl⟩ | exact rfl)
            all_goals (conv => whnf)
            · rename_i hr1 hr2
              have hr2 := decT (p := (((i + o + 1 + 1 : Nat) : Int) < ((b.length - s.length + 1 : Nat) : Int))) hr2
              refine BndG.to (i + o + 1 + 1) rfl ?_
              conv => whnf
              refine CutL.by (b.drop (i + o + 1 + 1)) (by rw [byD_length]; omega) (by rw [byD_length]; exact Nat.le_refl _) (by rw [byD_length, List.take_length]) ?_
              conv => whnf
              refine call0 (bytealgRabinKarp (b.drop (i + o + 1 + 1)) s (by omega) (by rw [List.length_drop]; omega) (by rw [List.length_drop]; omega)) ?_
              have hdr := Lib.index_drop hmiss (by omega : i + o + 1 + 1 ≤ b.length)
              have hle := Lib.index_le (b.drop (i + o + 1 + 1)) s
              rw [List.length_drop] at hle
              have hge := Lib.index_ge (b.drop (i + o + 1 + 1)) s
              repeat' ((conv => whnf); first | exact trivial | refine xB ?_ | refine xY ?_ | refine xN ?_ | refine sM ?_ ?_ <;> intro _ | refine xC ?_ | refine And.intro ?_ ?_ | exact Or.inl ⟨rfl, rfl⟩ | exact rfl)
              all_goals (conv => whnf)
              · rename_i hr
                have hr := decT hr
                rw [hdr, if_pos (by rw [beq_iff_eq]; omega)]
              · rename_i hr
                have hr := decF hr
                refine KI.i64 (Lib.index (b.drop (i + o + 1 + 1)) s + ((i + o + 1 + 1 : Nat) : Int)) (Int.add_comm _ _) (by omega) ?_
                conv => whnf
                rw [hdr, if_neg (by rw [beq_iff_eq]; omega)]
            · exact NextG.to (i + o + 1 + 1, fails + 1) ⟨hmiss, by simp only; omega, by simp only; omega⟩ (by simp only; omega) ⟨⟨rfl, rfl, rfl, rfl, rfl, rfl, rfl, rfl, trivial⟩, trivial⟩
            · exact NextG.to (i + o + 1 + 1, fails + 1) ⟨hmiss, by simp only; omega, by simp only; omega⟩ (by simp only; omega) ⟨⟨rfl, rfl, rfl, rfl, rfl, rfl, rfl, rfl, trivial⟩, trivial⟩
      · rename_i hc
        refine KI.i64 ((i + 1 : Nat) : Int) (by simp) (by omega) ?_
        conv => whnf
        refine IdxG.by (i + 1) b[i + 1] rfl (List.getElem?_eq_getElem (by omega)) ?_
        repeat' ((conv => whnf); first | exact trivial | refine xB ?_ | refine xY ?_ | refine xN ?_ | refine sM ?_ ?_ <;> intro _ | refine xC ?_ | refine And.intro ?_ ?_ | exact Or.inl ⟨rfl, rfl⟩ | exact rfl)
        all_goals (conv => whnf)
        · rename_i hc1
          refine KI.i64 ((i + s.length : Nat) : Int) (by simp) (by omega) ?_
          conv => whnf
          refine BndG.to (i) rfl ?_
          conv => whnf
          refine BndG.to (i + s.length) rfl ?_
          conv => whnf
          refine CutL.by ((b.take (i + s.length)).drop (i)) (by omega) (by omega) rfl ?_
          conv => whnf
          refine call0 (bytesEqual _ _) ?_
          repeat' ((conv => whnf); first | exact trivial | refine xB ?_ | refine xY ?_ | refine xN ?_ | refine sM ?_ ?_ <;> intro _ | refine xC ?_ | refine And.intro ?_ ?_ | exact Or.inl ⟨rfl, rfl⟩ | exact rfl)
          all_goals (conv => whnf)
          · rename_i he
            have he := decT he
            rw [Lib.index_hit hno (by omega) ((occ_piece (by omega)).2 he)]
          · rename_i he
            have he := decF he
            have hmiss : Lib.NoOcc b s (i + 1) := hno.succ (by
              cases ho : Lib.occAt b s (i) with
              | false => rfl
              | true => exact absurd ((occ_piece (by omega)).1 ho) he)
            refine KI.i64 ((i + 1 : Nat) : Int) (by simp) (by omega) ?_
            conv => whnf
            refine KI.i64 ((fails + 1 : Nat) : Int) (by simp) (by omega) ?_
            conv => whnf
            refine And.intro (by decide) ?_
            refine KI.to (((i + 1) / 16 : Nat) : Int) (by show Int.fdiv _ 16 = _; rw [Int.fdiv_eq_ediv_of_nonneg _ (by decide)]; omega) ?_
            conv => whnf
            refine KI.i64 ((4 + (i + 1) / 16 : Nat) : Int) (by simp) (by omega) ?_
            repeat' ((conv => whnf); first | exact trivial | refine xB ?_ | refine xY ?_ | refine xN ?_ | refine sM ?_ ?_ <;> intro _ | refine xC ?_ | refine And.intro ?_ ?_ | exact Or.inl ⟨rfl, rfl⟩ | exact rfl)
            all_goals (conv => whnf)
            · rename_i hr1 hr2
              have hr2 := decT (p := (((i + 1 : Nat) : Int) < ((b.length - s.length + 1 : Nat) : Int))) hr2
              refine BndG.to (i + 1) rfl ?_
              conv => whnf
              refine CutL.by (b.drop (i + 1)) (by rw [byD_length]; omega) (by rw [byD_length]; exact Nat.le_refl _) (by rw [byD_length, List.take_length]) ?_
              conv => whnf
              refine call0 (bytealgRabinKarp (b.drop (i + 1)) s (by omega) (by rw [List.length_drop]; omega) (by rw [List.length_drop]; omega)) ?_
              have hdr := Lib.index_drop hmiss (by omega : i + 1 ≤ b.length)
              have hle := Lib.index_le (b.drop (i + 1)) s
              rw [List.length_drop] at hle
              have hge := Lib.index_ge (b.drop (i + 1)) s
              repeat' ((conv => whnf); first | exact trivial | refine xB ?_ | refine xY ?_ | refine xN ?_ | refine sM ?_ ?_ <;> intro _ | refine xC ?_ | refine And.intro ?_ ?_ | exact Or.inl ⟨rfl, rfl⟩ | exact rfl)
              all_goals (conv => whnf)
              · rename_i hr
                have hr := decT hr
                rw [hdr, if_pos (by rw [beq_iff_eq]; omega)]
              · rename_i hr
                have hr := decF hr
                refine KI.i64 (Lib.index (b.drop (i + 1)) s + ((i + 1 : Nat) : Int)) (Int.add_comm _ _) (by omega) ?_
                conv => whnf
                rw [hdr, if_neg (by rw [beq_iff_eq]; omega)]
            · exact NextG.to (i + 1, fails + 1) ⟨hmiss, by simp only; omega, by simp only; omega⟩ (by simp only; omega) ⟨⟨rfl, rfl, rfl, rfl, rfl, rfl, rfl, rfl, trivial⟩, trivial⟩
            · exact NextG.to (i + 1, fails + 1) ⟨hmiss, by simp only; omega, by simp only; omega⟩ (by simp only; omega) ⟨⟨rfl, rfl, rfl, rfl, rfl, rfl, rfl, rfl, trivial⟩, trivial⟩
        · rename_i hc1
          have hmiss : Lib.NoOcc b s (i + 1) := hno.succ (by
            cases ho : Lib.occAt b s (i) with
            | false => rfl
            | true =>
              exfalso
              have hx := Lib.occAt_second hs2 ho
              rw [List.getElem?_eq_getElem (by omega)] at hx
              injection hx with hx
              have hc1 := decF hc1
              rw [hx] at hc1
              exact hc1 rfl)
          refine KI.i64 ((i + 1 : Nat) : Int) (by simp) (by omega) ?_
          conv => whnf
          refine KI.i64 ((fails + 1 : Nat) : Int) (by simp) (by omega) ?_
          conv => whnf
          refine And.intro (by decide) ?_
          refine KI.to (((i + 1) / 16 : Nat) : Int) (by show Int.fdiv _ 16 = _; rw [Int.fdiv_eq_ediv_of_nonneg _ (by decide)]; omega) ?_
          conv => whnf
          refine KI.i64 ((4 + (i + 1) / 16 : Nat) : Int) (by simp) (by omega) ?_
          repeat' ((conv => whnf); first | exact trivial | refine xB ?_ | refine xY ?_ | refine xN ?_ | refine sM ?_ ?_ <;> intro _ | refine xC ?_ | refine And.intro ?_ ?_ | exact Or.inl ⟨rfl, rfl⟩ | exact rfl)
          all_goals (conv => whnf)
          · rename_i hr1 hr2
            have hr2 := decT (p := (((i + 1 : Nat) : Int) < ((b.length - s.length + 1 : Nat) : Int))) hr2
            refine BndG.to (i + 1) rfl ?_
            conv => whnf
            refine CutL.by (b.drop (i + 1)) (by rw [byD_length]; omega) (by rw [byD_length]; exact Nat.le_refl _) (by rw [byD_length, List.take_length]) ?_
            conv => whnf
            refine call0 (bytealgRabinKarp (b.drop (i + 1)) s (by omega) (by rw [List.length_drop]; omega) (by rw [List.length_drop]; omega)) ?_
            have hdr := Lib.index_drop hmiss (by omega : i + 1 ≤ b.length)
            have hle := Lib.index_le (b.drop (i + 1)) s
            rw [List.length_drop] at hle
            have hge := Lib.index_ge (b.drop (i + 1)) s
            repeat' ((conv => whnf); first | exact trivial | refine xB ?_ | refine xY ?_ | refine xN ?_ | refine sM ?_ ?_ <;> intro _ | refine xC ?_ | refine And.intro ?_ ?_ | exact Or.inl ⟨rfl, rfl⟩ | exact rfl)
            all_goals (conv => whnf)
            · rename_i hr
              have hr := decT hr
              rw [hdr, if_pos (by rw [beq_iff_eq]; omega)]
            · rename_i hr
              have hr := decF hr
              refine KI.i64 (Lib.index (b.drop (i + 1)) s + ((i + 1 : Nat) : Int)) (Int.add_comm _ _) (by omega) ?_
              conv => whnf
              rw [hdr, if_neg (by rw [beq_iff_eq]; omega)]
          · exact NextG.to (i + 1, fails + 1) ⟨hmiss, by simp only; omega, by simp only; omega⟩ (by simp only; omega) ⟨⟨rfl, rfl, rfl, rfl, rfl, rfl, rfl, rfl, trivial⟩, trivial⟩
          · exact NextG.to (i + 1, fails + 1) ⟨hmiss, by simp only; omega, by simp only; omega⟩ (by simp only; omega) ⟨⟨rfl, rfl, rfl, rfl, rfl, rfl, rfl, rfl, trivial⟩, trivial⟩
    · rename_i hlt
      have hlt : ¬ (i : Int) < ((b.length - s.length + 1 : Nat) : Int) := decF hlt
      rw [Lib.index_past (by rw [hs2]; simp) hno (by omega)]
end Tryz
end Go.Dm
namespace Go.Dm
def throughS (b : List UInt8) (head : Nat) (s : List UInt8) : Nat := match decide (Lib.index (b.drop head) s < 0) with
  | true => 0
  | false => head + (Lib.index (b.drop head) s).toNat + s.length
def skippedS (b : List UInt8) : Nat × Bool := match b with
  | [] => (0, false)
  | c :: _ => match decide (Lib.indexByte [32, 9, 10, 13] c ≥ 0) with
    | true => (1, true)
    | false => match [47, 42].isPrefixOf b with
      | true => (throughS b 2 [42, 47], true)
      | false => match [47, 47].isPrefixOf b with
        | true => (lineS b, true)
        | false => match [37, 123].isPrefixOf b with
          | true => (throughS b 2 [37, 125], true)
          | false => match decide ((c.toNat : Int) = 60) with
            | true => (throughS (b.take (lineS b)) 1 [62], true)
            | false => match decide ((c.toNat : Int) = 123) with
              | true => (actionS b, true)
              | false => (0, false)
theorem lineS_le (b : List UInt8) : lineS b ≤ b.length := by
  unfold lineS
  split
  · rename_i h
    have h := decT h
    have hx : Lib.indexByte b 10 = (((Lib.indexByte b 10).toNat : Nat) : Int) := (Int.toNat_of_nonneg h).symm
    have := (Lib.indexByte_some hx).1
    have := (List.getElem?_eq_some_iff.1 this).1
    omega
  · exact Nat.le_refl _
theorem lineS_pos {c : UInt8} {r : List UInt8} (h : c ≠ 10) : 1 ≤ lineS (c :: r) := by
  unfold lineS
  split
  · rename_i h2
    have h2 := decT h2
    have hx : Lib.indexByte (c :: r) 10 = (((Lib.indexByte (c :: r) 10).toNat : Nat) : Int) := (Int.toNat_of_nonneg h2).symm
    have h3 := (Lib.indexByte_some hx).1
    rcases Nat.eq_zero_or_pos (Lib.indexByte (c :: r) 10).toNat with h4 | h4
    · rw [h4] at h3
      simp at h3
      exact absurd h3 h
    · exact h4
  · simp
def boolD (p : Nat × Bool) : D := .tup [.v (.int .i64 p.1), .v (.bool p.2)]
namespace Tryz
open Go.Proofs
theorem lexThrough (b : List UInt8) (head : Nat) (s : List UInt8) (hh : head ≤ b.length) (h1 : 1 ≤ s.length) (hb : b.length < 4294967281) (hs : s.length < 4294967281) :
    PCall Tryz.prog 113 [] [.list 1 (byD b), .v (.int .i64 head), .v (str s)] (.ret (.v (.int .i64 (throughS b head s))) []) := by
  refine pcall_of (news := []) cxOK Tryz.func113 rfl Tryz.ntmps113 rfl rfl rfl (by decide) ?_
  conv => whnf
  refine BndG.to head rfl ?_
  conv => whnf
  refine CutL.by (b.drop head) (by rw [byD_length]; exact hh) (by rw [byD_length]; exact Nat.le_refl _) (by rw [byD_length, List.take_length]) ?_
  conv => whnf
  refine call0 (bytesIndex (b.drop head) s h1 (by simp; omega)) ?_
  have hle := Lib.index_le (b.drop head) s
  rw [List.length_drop] at hle
  repeat' ((conv => whnf); first | exact trivial | refine xB ?_ | refine xY ?_ | refine xN ?_ | refine sM ?_ ?_ <;> intro _ | refine xC ?_ | refine And.intro ?_ ?_ | exact Or.inl ⟨rfl, rfl⟩ | exact rfl)
  all_goals (conv => whnf)
  · rename_i h
    have h : decide (Lib.index (b.drop head) s < 0) = true := h
    simp only [throughS, h]; rfl
  · rename_i h
    have h : decide (Lib.index (b.drop head) s < 0) = false := h
    have h' := decF h
    refine KI.i64 ((head + (Lib.index (b.drop head) s).toNat : Nat) : Int) (by omega) (by omega) ?_
    conv => whnf
    refine KI.i64 ((head + (Lib.index (b.drop head) s).toNat + s.length : Nat) : Int) (by simp; rfl) (by omega) ?_
    conv => whnf
    simp only [throughS, h]
theorem lexSkipped (c : UInt8) (r : List UInt8) (hb : (c :: r).length < 4294967281) : PCall Tryz.prog 89 [] [.list 1 (byD (c :: r))] (.ret (boolD (skippedS (c :: r))) []) := by
  refine pcall_of (news := [5, 14, 21, 28]) cxOK Tryz.func89 rfl Tryz.ntmps89 rfl rfl rfl (by decide) ?_
  repeat' ((conv => whnf); first | exact trivial | refine xB ?_ | refine xY ?_ | refine xN ?_ | refine sM ?_ ?_ <;> intro _ | refine xC ?_ | refine And.intro ?_ ?_ | exact Or.inl ⟨rfl, rfl⟩ | exact rfl)
  all_goals (conv => whnf)
  refine IdxG.by 0 c rfl rfl ?_
  conv => whnf
  refine call0 (bytesIndexByte [32, 9, 10, 13] c) ?_
  repeat' ((conv => whnf); first | exact trivial | refine xB ?_ | refine xY ?_ | refine xN ?_ | refine sM ?_ ?_ <;> intro _ | refine xC ?_ | refine And.intro ?_ ?_ | exact Or.inl ⟨rfl, rfl⟩ | exact rfl)
  all_goals (conv => whnf)
  · rename_i h; simp only [skippedS, h]; rfl
  · rename_i h; simp only [skippedS, h]
  rename_i h0
  refine call0 (bytesHasPrefix (c :: r) [47, 42]) ?_
  repeat' ((conv => whnf); first | exact trivial | refine xB ?_ | refine xY ?_ | refine xN ?_ | refine sM ?_ ?_ <;> intro _ | refine xC ?_ | refine And.intro ?_ ?_ | exact Or.inl ⟨rfl, rfl⟩ | exact rfl)
  all_goals (conv => whnf)
  · rename_i h1
    have h1 : [47, 42].isPrefixOf (c :: r) = true := h1
    have hl : 2 ≤ (c :: r).length := by have := (List.isPrefixOf_iff_prefix.1 h1).length_le; simpa using this
    refine call0 (lexThrough (c :: r) 2 [42, 47] hl (by decide) hb (by decide)) ?_
    repeat' ((conv => whnf); first | exact trivial | refine xB ?_ | refine xY ?_ | refine xN ?_ | refine sM ?_ ?_ <;> intro _ | refine xC ?_ | refine And.intro ?_ ?_ | exact Or.inl ⟨rfl, rfl⟩ | exact rfl)
    all_goals (conv => whnf)
    · simp only [skippedS, h0, h1]
    · simp only [skippedS, h0, h1]
  rename_i h1
  have h1 : [47, 42].isPrefixOf (c :: r) = false := h1
  refine call0 (bytesHasPrefix (c :: r) [47, 47]) ?_
  repeat' ((conv => whnf); first | exact trivial | refine xB ?_ | refine xY ?_ | refine xN ?_ | refine sM ?_ ?_ <;> intro _ | refine xC ?_ | refine And.intro ?_ ?_ | exact Or.inl ⟨rfl, rfl⟩ | exact rfl)
  all_goals (conv => whnf)
  · rename_i h2
    have h2 : [47, 47].isPrefixOf (c :: r) = true := h2
    refine call0 (lexLine (c :: r)) ?_
    repeat' ((conv => whnf); first | exact trivial | refine xB ?_ | refine xY ?_ | refine xN ?_ | refine sM ?_ ?_ <;> intro _ | refine xC ?_ | refine And.intro ?_ ?_ | exact Or.inl ⟨rfl, rfl⟩ | exact rfl)
    all_goals (conv => whnf)
    · simp only [skippedS, h0, h1, h2]
    · simp only [skippedS, h0, h1, h2]
  rename_i h2
  have h2 : [47, 47].isPrefixOf (c :: r) = false := h2
  refine call0 (bytesHasPrefix (c :: r) [37, 123]) ?_
  repeat' ((conv => whnf); first | exact trivial | refine xB ?_ | refine xY ?_ | refine xN ?_ | refine sM ?_ ?_ <;> intro _ | refine xC ?_ | refine And.intro ?_ ?_ | exact Or.inl ⟨rfl, rfl⟩ | exact rfl)
  all_goals (conv => whnf)
  · rename_i h3
    have h3 : [37, 123].isPrefixOf (c :: r) = true := h3
    have hl : 2 ≤ (c :: r).length := by have := (List.isPrefixOf_iff_prefix.1 h3).length_le; simpa using this
    refine call0 (lexThrough (c :: r) 2 [37, 125] hl (by decide) hb (by decide)) ?_
    repeat' ((conv => whnf); first | exact trivial | refine xB ?_ | refine xY ?_ | refine xN ?_ | refine sM ?_ ?_ <;> intro _ | refine xC ?_ | refine And.intro ?_ ?_ | exact Or.inl ⟨rfl, rfl⟩ | exact rfl)
    all_goals (conv => whnf)
    · simp only [skippedS, h0, h1, h2, h3]
    · simp only [skippedS, h0, h1, h2, h3]
  rename_i h3
  have h3 : [37, 123].isPrefixOf (c :: r) = false := h3
  refine IdxG.by 0 c rfl rfl ?_
  repeat' ((conv => whnf); first | exact trivial | refine xB ?_ | refine xY ?_ | refine xN ?_ | refine sM ?_ ?_ <;> intro _ | refine xC ?_ | refine And.intro ?_ ?_ | exact Or.inl ⟨rfl, rfl⟩ | exact rfl)
  all_goals (conv => whnf)
  · rename_i h4
    have h4 : decide ((c.toNat : Int) = 60) = true := h4
    refine call0 (lexLine (c :: r)) ?_
    have hpos : 1 ≤ lineS (c :: r) := lineS_pos (by intro e; subst e; exact absurd (decT h4) (by decide))
    have hle := lineS_le (c :: r)
    repeat' ((conv => whnf); first | exact trivial | refine xB ?_ | refine xY ?_ | refine xN ?_ | refine sM ?_ ?_ <;> intro _ | refine xC ?_ | refine And.intro ?_ ?_ | exact Or.inl ⟨rfl, rfl⟩ | exact rfl)
    all_goals (conv => whnf)
    refine BndG.to (lineS (c :: r)) rfl ?_
    conv => whnf
    refine CutL.by ((c :: r).take (lineS (c :: r))) (Nat.zero_le _) hle rfl ?_
    conv => whnf
    refine call0 (lexThrough ((c :: r).take (lineS (c :: r))) 1 [62] (by rw [List.length_take]; omega) (by decide) (by rw [List.length_take]; omega) (by decide)) ?_
    repeat' ((conv => whnf); first | exact trivial | refine xB ?_ | refine xY ?_ | refine xN ?_ | refine sM ?_ ?_ <;> intro _ | refine xC ?_ | refine And.intro ?_ ?_ | exact Or.inl ⟨rfl, rfl⟩ | exact rfl)
    all_goals (conv => whnf)
    · simp only [skippedS, h0, h1, h2, h3, h4]
    · simp only [skippedS, h0, h1, h2, h3, h4]
  rename_i h4
  have h4 : decide ((c.toNat : Int) = 60) = false := h4
  refine IdxG.by 0 c rfl rfl ?_
  repeat' ((conv => whnf); first | exact trivial | refine xB ?_ | refine xY ?_ | refine xN ?_ | refine sM ?_ ?_ <;> intro _ | refine xC ?_ | refine And.intro ?_ ?_ | exact Or.inl ⟨rfl, rfl⟩ | exact rfl)
  all_goals (conv => whnf)
  · rename_i h5
    have h5 : decide ((c.toNat : Int) = 123) = true := h5
    refine call0 (lexAction (c :: r) (by omega)) ?_
    repeat' ((conv => whnf); first | exact trivial | refine xB ?_ | refine xY ?_ | refine xN ?_ | refine sM ?_ ?_ <;> intro _ | refine xC ?_ | refine And.intro ?_ ?_ | exact Or.inl ⟨rfl, rfl⟩ | exact rfl)
    all_goals (conv => whnf)
    · simp only [skippedS, h0, h1, h2, h3, h4, h5]
    · simp only [skippedS, h0, h1, h2, h3, h4, h5]
  · rename_i h5
    have h5 : decide ((c.toNat : Int) = 123) = false := h5
    simp only [skippedS, h0, h1, h2, h3, h4, h5]; rfl
  · rename_i h5
    have h5 : decide ((c.toNat : Int) = 123) = false := h5
    simp only [skippedS, h0, h1, h2, h3, h4, h5]
end Tryz
end Go.Dm
namespace Go.Dm
structure Tok where
  kind : Nat
  text : List UInt8
  n : Nat
  e : Nat
def tokEnd (b : List UInt8) (n : Nat) : Tok := match decide (wordS (b.take n) = 0) with
  | true => ⟨0, [], n, 3⟩
  | false => ⟨wordS (b.take n), [], n, 0⟩
def innerU (c : UInt8) : Bool := innerS c.toNat
def smallU (c : UInt8) : Bool := smallS c.toNat
def tokenS (b : List UInt8) : Tok := match b with
  | [] => ⟨0, [], 0, 0⟩
  | c :: _ => match letterS c.toNat with
    | true => match decide (runS innerU b > 20) with
      | true => ⟨0, [], runS innerU b, 5⟩
      | false => ⟨1, b.take (runS innerU b), runS innerU b, 0⟩
    | false => match decide ((c.toNat : Int) = 39) with
      | true => match decide ((literalS b).2 = 0) with
        | false => ⟨0, [], (literalS b).1, (literalS b).2⟩
        | true => ⟨2, b.take (literalS b).1, (literalS b).1, 0⟩
      | false => match [37, 37].isPrefixOf b with
        | true => tokEnd b 2
        | false => match decide ((c.toNat : Int) = 37) with
          | true => tokEnd b (runS smallU b)
          | false => tokEnd b 1
def tokCells (k : Nat) (t : List UInt8) (at' : Value) : List D := [.v (.int .i64 k), .v (str t), .v at']
def noPl : Value := .complex .f64 0 0
def tokD (t : Tok) : D := .tup [.agg (tokCells t.kind t.text noPl), .v (.int .i64 t.n), .v (.int .i64 t.e)]
theorem spanS_le (p : UInt8 → Bool) : ∀ b : List UInt8, spanS p b ≤ b.length
  | [] => Nat.le_refl _
  | c :: r => by
    have := spanS_le p r
    simp only [spanS]
    split <;> simp <;> omega
theorem runS_le (p : UInt8 → Bool) {b : List UInt8} (h : b ≠ []) : runS p b ≤ b.length := by
  cases b with
  | nil => exact absurd rfl h
  | cons c r => have := spanS_le p r; simp only [runS, List.length_cons]; omega
theorem litEnd_le {b : List UInt8} {n : Nat} (h : (litEnd b n).2 = 0) : (litEnd b n).1 ≤ b.length := by
  unfold litEnd at h ⊢
  split at h
  · simp at h
  · rename_i c hc
    have := (List.getElem?_eq_some_iff.1 hc).1
    split at h
    · rename_i hd; simp only [hc, hd]; omega
    · simp at h
theorem literalS_le {b : List UInt8} (h : (literalS b).2 = 0) : (literalS b).1 ≤ b.length := by
  unfold literalS at h ⊢
  split
  · split
    · rename_i hp; simp only [hp] at h; exact litEnd_le h
    · rename_i hp
      simp only [hp] at h
      split
      · simp
      · rename_i hc
        simp only [hc] at h
        split
        · simp
        · split
          · simp
          · rename_i he; simp only [he] at h; exact litEnd_le h
  · simp
namespace Tryz
open Go.Proofs
set_option maxHeartbeats 20000000 in
theorem lexToken (c : UInt8) (r : List UInt8) (hb : (c :: r).length < 4294967281) : PCall Tryz.prog 91 [] [.list 1 (byD (c :: r))] (.ret (tokD (tokenS (c :: r))) []) := by
  generalize hT : tokenS (c :: r) = T
  refine pcall_of (news := [2, 45]) cxOK Tryz.func91 rfl Tryz.ntmps91 rfl rfl rfl (by decide) ?_
  repeat' ((conv => whnf); first | refine xB ?_ | refine xY ?_ | refine xN ?_ | refine sM ?_ ?_ <;> intro _)
  all_goals (conv => whnf)
  refine IdxG.by 0 c rfl rfl ?_
  conv => whnf
  refine call0 (lexLetter _) ?_
  repeat' ((conv => whnf); first | refine xB ?_ | refine xY ?_ | refine xN ?_ | refine sM ?_ ?_ <;> intro _)
  all_goals (conv => whnf)
  · rename_i h0
    refine call0 (lexRun (c :: r) 58 innerU (fun d => lexInner d.toNat) (by omega)) ?_
    repeat' ((conv => whnf); first | refine xB ?_ | refine xY ?_ | refine xN ?_ | refine sM ?_ ?_ <;> intro _)
    all_goals (conv => whnf)
    · rename_i h1
      have ht : tokenS (c :: r) = ⟨0, [], runS innerU (c :: r), 5⟩ := by simp only [tokenS, h0, show decide (runS innerU (c :: r) > 20) = true from decide_eq_true (by have := decT h1; omega)]
      obtain rfl : T = ⟨0, [], runS innerU (c :: r), 5⟩ := hT.symm.trans ht
      exact ⟨Or.inl ⟨rfl, rfl⟩, rfl, rfl, trivial⟩
    · rename_i h1
      have hle := runS_le innerU (b := c :: r) (by simp)
      have ht : tokenS (c :: r) = ⟨1, (c :: r).take (runS innerU (c :: r)), runS innerU (c :: r), 0⟩ := by simp only [tokenS, h0, show decide (runS innerU (c :: r) > 20) = false from decide_eq_false (by have := decF h1; omega)]
      obtain rfl : T = ⟨1, (c :: r).take (runS innerU (c :: r)), runS innerU (c :: r), 0⟩ := hT.symm.trans ht
      refine BndG.to (runS innerU (c :: r)) rfl ?_
      conv => whnf
      refine CutL.by ((c :: r).take (runS innerU (c :: r))) (Nat.zero_le _) hle rfl ?_
      conv => whnf
      refine StrG.by ?_
      repeat' ((conv => whnf); first | refine xB ?_ | refine xY ?_ | refine xN ?_ | refine sM ?_ ?_ <;> intro _)
      all_goals (conv => whnf)
      exact ⟨Or.inl ⟨rfl, rfl⟩, rfl, rfl, trivial⟩
  rename_i h0
  refine IdxG.by 0 c rfl rfl ?_
  repeat' ((conv => whnf); first | refine xB ?_ | refine xY ?_ | refine xN ?_ | refine sM ?_ ?_ <;> intro _)
  all_goals (conv => whnf)
  · rename_i h1
    have h1 : decide ((c.toNat : Int) = 39) = true := h1
    refine call0 (lexliteral (c :: r)) ?_
    repeat' ((conv => whnf); first | refine xB ?_ | refine xY ?_ | refine xN ?_ | refine sM ?_ ?_ <;> intro _)
    all_goals (conv => whnf)
    · rename_i h2
      have h2 := decF (notT h2)
      have ht : tokenS (c :: r) = ⟨0, [], (literalS (c :: r)).1, (literalS (c :: r)).2⟩ := by simp only [tokenS, h0, h1, show decide ((literalS (c :: r)).2 = 0) = false from decide_eq_false (by omega)]
      obtain rfl : T = ⟨0, [], (literalS (c :: r)).1, (literalS (c :: r)).2⟩ := hT.symm.trans ht
      exact ⟨Or.inl ⟨rfl, rfl⟩, rfl, rfl, trivial⟩
    · rename_i h2
      have h2 := decT (notF h2)
      have h3 : (literalS (c :: r)).2 = 0 := by omega
      have hle := literalS_le h3
      have ht : tokenS (c :: r) = ⟨2, (c :: r).take (literalS (c :: r)).1, (literalS (c :: r)).1, 0⟩ := by simp only [tokenS, h0, h1, show decide ((literalS (c :: r)).2 = 0) = true from decide_eq_true h3]
      obtain rfl : T = ⟨2, (c :: r).take (literalS (c :: r)).1, (literalS (c :: r)).1, 0⟩ := hT.symm.trans ht
      refine BndG.to (literalS (c :: r)).1 rfl ?_
      conv => whnf
      refine CutL.by ((c :: r).take (literalS (c :: r)).1) (Nat.zero_le _) hle rfl ?_
      conv => whnf
      refine StrG.by ?_
      repeat' ((conv => whnf); first | refine xB ?_ | refine xY ?_ | refine xN ?_ | refine sM ?_ ?_ <;> intro _)
      all_goals (conv => whnf)
      exact ⟨Or.inl ⟨rfl, rfl⟩, rfl, rfl, trivial⟩
  rename_i h1
  have h1 : decide ((c.toNat : Int) = 39) = false := h1
  refine call0 (bytesHasPrefix (c :: r) [37, 37]) ?_
  repeat' ((conv => whnf); first | refine xB ?_ | refine xY ?_ | refine xN ?_ | refine sM ?_ ?_ <;> intro _)
  all_goals (conv => whnf)
  · rename_i h2
    have h2 : [37, 37].isPrefixOf (c :: r) = true := h2
    have hl : 2 ≤ (c :: r).length := by have := (List.isPrefixOf_iff_prefix.1 h2).length_le; simpa using this
    have ht0 : tokenS (c :: r) = tokEnd (c :: r) 2 := by simp only [tokenS, h0, h1, h2]
    refine BndG.to (2) rfl ?_
    conv => whnf
    refine CutL.by ((c :: r).take (2)) (Nat.zero_le _) hl rfl ?_
    conv => whnf
    refine StrG.by ?_
    conv => whnf
    refine call0 (lexWord ((c :: r).take (2))) ?_
    repeat' ((conv => whnf); first | refine xB ?_ | refine xY ?_ | refine xN ?_ | refine sM ?_ ?_ <;> intro _)
    all_goals (conv => whnf)
    · rename_i hw
      have hw := decT hw
      have h9 : wordS ((c :: r).take (2)) = 0 := by omega
      have ht : tokenS (c :: r) = ⟨0, [], 2, 3⟩ := by simp only [ht0, tokEnd, decide_eq_true h9]
      obtain rfl : T = ⟨0, [], 2, 3⟩ := hT.symm.trans ht
      exact ⟨Or.inl ⟨congrArg (fun k : Nat => D.agg (tokCells k [] noPl)) h9, rfl⟩, rfl, rfl, trivial⟩
    · rename_i hw
      have hw := decF hw
      have h9 : ¬ wordS ((c :: r).take (2)) = 0 := by omega
      have ht : tokenS (c :: r) = ⟨wordS ((c :: r).take (2)), [], 2, 0⟩ := by simp only [ht0, tokEnd, decide_eq_false h9]
      obtain rfl : T = ⟨wordS ((c :: r).take (2)), [], 2, 0⟩ := hT.symm.trans ht
      exact ⟨Or.inl ⟨rfl, rfl⟩, rfl, rfl, trivial⟩
  rename_i h2
  have h2 : [37, 37].isPrefixOf (c :: r) = false := h2
  refine IdxG.by 0 c rfl rfl ?_
  repeat' ((conv => whnf); first | refine xB ?_ | refine xY ?_ | refine xN ?_ | refine sM ?_ ?_ <;> intro _)
  all_goals (conv => whnf)
  · rename_i h3
    have h3 : decide ((c.toNat : Int) = 37) = true := h3
    have hle := runS_le smallU (b := c :: r) (by simp)
    have ht0 : tokenS (c :: r) = tokEnd (c :: r) (runS smallU (c :: r)) := by simp only [tokenS, h0, h1, h2, h3]
    refine call0 (lexRun (c :: r) 118 smallU (fun d => lexSmall d.toNat) (by omega)) ?_
    conv => whnf
    refine BndG.to (runS smallU (c :: r)) rfl ?_
    conv => whnf
    refine CutL.by ((c :: r).take (runS smallU (c :: r))) (Nat.zero_le _) hle rfl ?_
    conv => whnf
    refine StrG.by ?_
    conv => whnf
    refine call0 (lexWord ((c :: r).take (runS smallU (c :: r)))) ?_
    repeat' ((conv => whnf); first | refine xB ?_ | refine xY ?_ | refine xN ?_ | refine sM ?_ ?_ <;> intro _)
    all_goals (conv => whnf)
    · rename_i hw
      have hw := decT hw
      have h9 : wordS ((c :: r).take (runS smallU (c :: r))) = 0 := by omega
      have ht : tokenS (c :: r) = ⟨0, [], runS smallU (c :: r), 3⟩ := by simp only [ht0, tokEnd, decide_eq_true h9]
      obtain rfl : T = ⟨0, [], runS smallU (c :: r), 3⟩ := hT.symm.trans ht
      exact ⟨Or.inl ⟨congrArg (fun k : Nat => D.agg (tokCells k [] noPl)) h9, rfl⟩, rfl, rfl, trivial⟩
    · rename_i hw
      have hw := decF hw
      have h9 : ¬ wordS ((c :: r).take (runS smallU (c :: r))) = 0 := by omega
      have ht : tokenS (c :: r) = ⟨wordS ((c :: r).take (runS smallU (c :: r))), [], runS smallU (c :: r), 0⟩ := by simp only [ht0, tokEnd, decide_eq_false h9]
      obtain rfl : T = ⟨wordS ((c :: r).take (runS smallU (c :: r))), [], runS smallU (c :: r), 0⟩ := hT.symm.trans ht
      exact ⟨Or.inl ⟨rfl, rfl⟩, rfl, rfl, trivial⟩
  · rename_i h3
    have h3 : decide ((c.toNat : Int) = 37) = false := h3
    have ht0 : tokenS (c :: r) = tokEnd (c :: r) 1 := by simp only [tokenS, h0, h1, h2, h3]
    refine BndG.to (1) rfl ?_
    conv => whnf
    refine CutL.by ((c :: r).take (1)) (Nat.zero_le _) (by simp) rfl ?_
    conv => whnf
    refine StrG.by ?_
    conv => whnf
    refine call0 (lexWord ((c :: r).take (1))) ?_
    repeat' ((conv => whnf); first | refine xB ?_ | refine xY ?_ | refine xN ?_ | refine sM ?_ ?_ <;> intro _)
    all_goals (conv => whnf)
    · rename_i hw
      have hw := decT hw
      have h9 : wordS ((c :: r).take (1)) = 0 := by omega
      have ht : tokenS (c :: r) = ⟨0, [], 1, 3⟩ := by simp only [ht0, tokEnd, decide_eq_true h9]
      obtain rfl : T = ⟨0, [], 1, 3⟩ := hT.symm.trans ht
      exact ⟨Or.inl ⟨congrArg (fun k : Nat => D.agg (tokCells k [] noPl)) h9, rfl⟩, rfl, rfl, trivial⟩
    · rename_i hw
      have hw := decF hw
      have h9 : ¬ wordS ((c :: r).take (1)) = 0 := by omega
      have ht : tokenS (c :: r) = ⟨wordS ((c :: r).take (1)), [], 1, 0⟩ := by simp only [ht0, tokEnd, decide_eq_false h9]
      obtain rfl : T = ⟨wordS ((c :: r).take (1)), [], 1, 0⟩ := hT.symm.trans ht
      exact ⟨Or.inl ⟨rfl, rfl⟩, rfl, rfl, trivial⟩
end Tryz
end Go.Dm
namespace Go.Dm
structure TokP where
  kind : Nat
  text : List UInt8
  at' : Nat × Nat
def tokRow (t : TokP) : List D := tokCells t.kind t.text (pl t.at'.1 t.at'.2)
def tokensGo : Nat → List UInt8 → Nat × Nat → Nat → List TokP → Option (List TokP) × (Nat × Nat) × Nat
  | 0, _, p, _, acc => (some acc, p, 0)
  | fuel + 1, b, p, marks, acc => match b with
    | [] => (some acc, p, 0)
    | c :: r => match decide (marks = 2) with
      | true => (some acc, stepsS p (c :: r), 0)
      | false => match (skippedS (c :: r)).2 with
        | true => match decide ((skippedS (c :: r)).1 = 0) with
          | true => (none, p, 4)
          | false => tokensGo fuel ((c :: r).drop (skippedS (c :: r)).1) (stepsS p ((c :: r).take (skippedS (c :: r)).1)) marks acc
        | false => match decide ((tokenS (c :: r)).e = 0) with
          | false => (none, p, (tokenS (c :: r)).e)
          | true => tokensGo fuel ((c :: r).drop (tokenS (c :: r)).n) (stepsS p ((c :: r).take (tokenS (c :: r)).n)) (match decide ((tokenS (c :: r)).kind = 9) with | true => marks + 1 | false => marks) (acc ++ [⟨(tokenS (c :: r)).kind, (tokenS (c :: r)).text, p⟩])
theorem throughS_le {b : List UInt8} {h : Nat} {s : List UInt8} (hh : h ≤ b.length) : throughS b h s ≤ b.length := by
  unfold throughS
  split
  · omega
  · rename_i hx
    have hx := decF hx
    have := Lib.index_room (b.drop h) s (by omega)
    rw [List.length_drop] at this
    omega
theorem litEnd_pos {b : List UInt8} {n : Nat} (h : (litEnd b n).2 = 0) : 1 ≤ (litEnd b n).1 := by
  unfold litEnd at h ⊢
  split at h
  · simp at h
  · rename_i c hc
    split at h
    · rename_i hd; simp only [hc, hd]; omega
    · simp at h
theorem literalS_pos {b : List UInt8} (h : (literalS b).2 = 0) : 1 ≤ (literalS b).1 := by
  unfold literalS at h ⊢
  split
  · split
    · rename_i hp; simp only [hp] at h; exact litEnd_pos h
    · rename_i hp
      simp only [hp] at h
      split
      · rename_i hc; simp [hc] at h
      · rename_i hc
        simp only [hc] at h
        split
        · simp at h
        · split
          · rename_i he; simp [he] at h
          · rename_i he; simp only [he] at h; exact litEnd_pos h
  · rename_i hn
    split at h
    · rename_i a c r
      exact absurd rfl (hn a c r)
    · simp at h
theorem tokEnd_n (b : List UInt8) (n : Nat) : (tokEnd b n).n = n := by unfold tokEnd; split <;> rfl
theorem runS_pos (p : UInt8 → Bool) (b : List UInt8) : 1 ≤ runS p b := by cases b <;> simp [runS]
theorem tokenS_n {c : UInt8} {r : List UInt8} (h : (tokenS (c :: r)).e = 0) : 1 ≤ (tokenS (c :: r)).n ∧ (tokenS (c :: r)).n ≤ (c :: r).length := by
  have hr := fun p => runS_le p (b := c :: r) (by simp)
  have hp := fun p => runS_pos p (c :: r)
  unfold tokenS at h ⊢
  simp only at h ⊢
  split
  · split
    · exact ⟨hp _, hr _⟩
    · exact ⟨hp _, hr _⟩
  · rename_i h0
    simp only [h0] at h
    split
    · rename_i h1
      simp only [h1] at h
      split
      · rename_i h2
        simp only [h2] at h
        exact absurd h (decF h2)
      · rename_i h2
        have h2 := decT h2
        exact ⟨literalS_pos h2, literalS_le h2⟩
    · split
      · rename_i h2
        rw [tokEnd_n]
        have := (List.isPrefixOf_iff_prefix.1 h2).length_le
        simpa using this
      · split
        · rw [tokEnd_n]; exact ⟨hp _, hr _⟩
        · rw [tokEnd_n]; simp
theorem actGo_le (b : List UInt8) : ∀ (n i : Nat) (d : Int), actGo b n i d = 0 ∨ (i < actGo b n i d ∧ actGo b n i d ≤ b.length)
  | 0, _, _ => .inl rfl
  | n + 1, i, d => by
    unfold actGo
    split
    · exact .inl rfl
    · rename_i c hc
      have hi := (List.getElem?_eq_some_iff.1 hc).1
      have step : ∀ j d, i < j → actGo b n j d = 0 ∨ (i < actGo b n j d ∧ actGo b n j d ≤ b.length) := by
        intro j d hj
        rcases actGo_le b n j d with h | h
        · exact .inl h
        · exact .inr (by omega)
      split
      · split
        · exact step _ _ (by omega)
        · exact .inr (by omega)
      · split
        · split
          · exact step _ _ (by omega)
          · exact .inr (by omega)
        · split
          · split
            · exact .inl rfl
            · rename_i h0
              have h0 := decF h0
              exact step _ _ (by omega)
          · split
            · exact step _ _ (by omega)
            · exact .inr (by omega)
theorem actionS_le (b : List UInt8) : actionS b ≤ b.length := by
  rcases actGo_le b (b.length + 1) 0 0 with h | h <;> unfold actionS <;> omega
theorem skippedS_le (c : UInt8) (r : List UInt8) : (skippedS (c :: r)).1 ≤ (c :: r).length := by
  have pre : ∀ x y : UInt8, [x, y].isPrefixOf (c :: r) = true → 2 ≤ (c :: r).length := fun x y h => by
    have := (List.isPrefixOf_iff_prefix.1 h).length_le; simpa using this
  unfold skippedS
  simp only
  split
  · simp
  · split
    · rename_i h; exact throughS_le (pre _ _ h)
    · split
      · exact lineS_le _
      · split
        · rename_i h; exact throughS_le (pre _ _ h)
        · split
          · rename_i h
            have hpos : 1 ≤ lineS (c :: r) := lineS_pos (by intro e; subst e; exact absurd (decT h) (by decide))
            have h1 := lineS_le (c :: r)
            have h2 := throughS_le (b := (c :: r).take (lineS (c :: r))) (h := 1) (s := [62]) (by rw [List.length_take]; omega)
            rw [List.length_take] at h2
            omega
          · split
            · exact actionS_le (c :: r)
            · simp
end Go.Dm
namespace Go.Dm
theorem ResS.row {ids : List Nat} {M : Mem} {id n s : Nat} {e : TypeId} {xs ys : List (List D)} (h : get M id = some (.row e s xs)) (hy : xs.take n = ys) : ResS ids M (.row id n) (.list s ys) := by
  subst hy
  exact .inr (.inl ⟨[(id, .row e s xs)], by simp only [purify, h]⟩)
theorem Adapts.nilL {M : Mem} {s : Nat} {ds ds0 : List D} {p : Mem} (h : Adapts M ds ds0 p) : Adapts M (.v (.slice none 0 0) :: ds) (.list s [] :: ds0) p :=
  ⟨h.1, fun E N w vs hi hN ⟨v, ws, h1, h2, h3⟩ => ⟨v, ws, h1, ⟨none, 0, h2, Nat.le_refl _, fun h => absurd rfl h⟩, h.2 E N w ws hi hN h3⟩⟩
def PurTo (M : Mem) (c d : D) : Prop := ∃ p, purify M c = some (d, p)
def PurL (M : Mem) (cs ds : List D) : Prop := ∃ p, purifyL M cs = some (ds, p)
theorem PurL.nil {M : Mem} : PurL M [] [] := ⟨[], rfl⟩
theorem PurL.cons {M : Mem} {c d : D} {cs ds : List D} (h : PurTo M c d) (k : PurL M cs ds) : PurL M (c :: cs) (d :: ds) := by
  obtain ⟨p, h⟩ := h
  obtain ⟨q, k⟩ := k
  exact ⟨p ++ q, by simp only [purifyL, h, k]⟩
theorem PurTo.v {M : Mem} {x : Value} : PurTo M (.v x) (.v x) := ⟨[], rfl⟩
theorem PurTo.list {M : Mem} {s : Nat} {xs : List (List D)} : PurTo M (.list s xs) (.list s xs) := ⟨[], rfl⟩
theorem PurTo.leq {M : Mem} {s : Nat} {xs ys : List (List D)} (h : xs = ys) : PurTo M (.list s xs) (.list s ys) := ⟨[], by rw [h]; rfl⟩
theorem PurTo.row {M : Mem} {id n s : Nat} {e : TypeId} {xs ys : List (List D)} (h : get M id = some (.row e s xs)) (hy : xs.take n = ys) : PurTo M (.row id n) (.list s ys) := ⟨[(id, .row e s xs)], by subst hy; simp only [purify, h]⟩
theorem PurTo.agg {M : Mem} {cs ds : List D} (h : PurL M cs ds) : PurTo M (.agg cs) (.agg ds) := let ⟨p, h⟩ := h; ⟨p, by simp only [purify, h]⟩
theorem PurTo.tup {M : Mem} {cs ds : List D} (h : PurL M cs ds) : PurTo M (.tup cs) (.tup ds) := let ⟨p, h⟩ := h; ⟨p, by simp only [purify, h]⟩
theorem ResTo.pur {ids : List Nat} {M : Mem} {c d : D} (h : PurTo M c d) : ResTo ids M c d := .inr (.inl h)
theorem ResS.of {ids : List Nat} {M : Mem} {c d : D} (h : ResTo ids M c d) (hc : ∀ x, c ≠ .v x) : ResS ids M c d := by
  cases c with
  | v x => exact absurd rfl (hc x)
  | _ => exact h
theorem ResS.pur {ids : List Nat} {M : Mem} {c d : D} (h : PurTo M c d) (hc : ∀ x, c ≠ .v x) : ResS ids M c d := .of (.pur h) hc
theorem AppG.rows {e s n by' : Nat} {xs ys : List (List D)} {Z : Unit → Prop} {C : Nat → List (List D) → Prop} (n' : Nat) (xs' : List (List D)) (h1 : n = xs.length) (h2 : ∀ r ∈ ys, allOne r = true) (h3 : (xs.length + ys.length) * by' ≤ 140737488355328) (hb : 0 < by') (hn : ys ≠ []) (hC : C n' xs') :
    AppG (e = e ∧ s = s ∧ n = xs.length ∧ 0 < by' ∧ (∀ r ∈ ys, allOne r = true) ∧ (xs.length + ys.length) * by' ≤ 140737488355328) ys Z C :=
  AppG.to n' xs' ⟨rfl, rfl, h1, hb, h2, h3⟩ hn hC
theorem AppG.rows0 {e s n by' : Nat} {xs ys : List (List D)} {Z : Unit → Prop} {C : Nat → List (List D) → Prop} (h1 : n = xs.length) (h3 : xs.length * by' ≤ 140737488355328) (hb : 0 < by') (hn : ys = []) (hC : Z ()) :
    AppG (e = e ∧ s = s ∧ n = xs.length ∧ 0 < by' ∧ (∀ r ∈ ys, allOne r = true) ∧ (xs.length + ys.length) * by' ≤ 140737488355328) ys Z C :=
  AppG.nil ⟨rfl, rfl, h1, hb, fun r hr => (by rw [hn] at hr; cases hr), (by rw [hn]; simpa using h3)⟩ hn hC
theorem AppG.row1 {e s n by' : Nat} {xs : List (List D)} {y : List D} {Z : Unit → Prop} {C : Nat → List (List D) → Prop} (xs' : List (List D)) (h1 : n = xs.length) (h2 : allOne y = true) (h3 : (xs.length + 1) * by' ≤ 140737488355328) (hb : 0 < by') (hC : C (n + 1) xs') :
    AppG (e = e ∧ s = s ∧ n = xs.length ∧ 0 < by' ∧ (∀ r ∈ [y], allOne r = true) ∧ (xs.length + [y].length) * by' ≤ 140737488355328) [y] Z C :=
  AppG.to (n + 1) xs' ⟨rfl, rfl, h1, hb, fun r hr => by simp at hr; subst hr; exact h2, h3⟩ (by simp) hC
theorem take_map_all {α : Type} (f : α → List D) (l : List α) : (l.map f).take l.length = l.map f := by rw [← List.length_map (f := f), List.take_length]
def ksD (ks : List Int) : List (List D) := ks.map fun k => [.v (.int .i64 k)]
theorem ksD_get {ks : List Int} {j : Nat} {c : Int} (h : ks[j]? = some c) : (ksD ks)[j]? = some [.v (.int .i64 c)] := by simp [ksD, h]
theorem ksD_length (ks : List Int) : (ksD ks).length = ks.length := by simp [ksD]
def indexS (k : Int) : List Int → Nat → Int
  | [], _ => -1
  | x :: r, i => match decide (x = k) with
    | true => i
    | false => indexS k r (i + 1)
theorem indexS_drop {k : Int} : ∀ (l : List Int) (i j : Nat), (∀ q, q < j → ∀ c, l[q]? = some c → c ≠ k) → j ≤ l.length → indexS k l i = indexS k (l.drop j) (i + j)
  | [], i, j, _, hj => by simp [indexS]
  | x :: r, i, 0, _, _ => by simp
  | x :: r, i, j + 1, h, hj => by
    have h0 : decide (x = k) = false := decide_eq_false (h 0 (by omega) x rfl)
    simp only [indexS, h0, List.drop_succ_cons]
    rw [indexS_drop r (i + 1) j (fun q hq c hc => h (q + 1) (by omega) c (by simpa using hc)) (by simpa using hj)]
    congr 1; omega
theorem indexS_has {k : Int} : ∀ (l : List Int) (i : Nat), decide (indexS k l i ≥ 0) = l.contains k
  | [], i => by simp [indexS]
  | x :: r, i => by
    have ih := indexS_has (k := k) r (i + 1)
    by_cases h : x = k
    · subst h; simp [indexS]
    · have e : indexS k (x :: r) i = indexS k r (i + 1) := by simp [indexS, h]
      rw [e, ih, List.contains_cons]
      have : (k == x) = false := by simp; omega
      rw [this]; simp
namespace Tryz
open Go.Proofs
theorem intsIndex (ks : List Int) (k : Int) (hk : ks.length < 1000000) : PCall Tryz.prog 187 [] [.list 1 (ksD ks), .v (.int .i64 k)] (.ret (.v (.int .i64 (indexS k ks 0))) []) := by
  generalize hR : indexS k ks 0 = R
  refine pcall_of (news := []) cxOK Tryz.func187 rfl Tryz.ntmps187 rfl rfl rfl (by decide) ?_
  conv => whnf
  refine LoopW.to (ι := Nat) (fun i => i ≤ ks.length ∧ (∀ q, q < i → ∀ c, ks[q]? = some c → c ≠ k)) (fun i => ks.length - i)
    (fun i => [(0, .list 1 (ksD ks)), (1, .v (.int .i64 k)), (7, .v (.int .i64 ks.length)), (8, .v (.int .i64 i))]) (fun _ => []) [] 0 ⟨Nat.zero_le _, fun q h => by omega⟩ ⟨⟨rfl, rfl, congrArg (fun k : Nat => D.v (.int .i64 (k : Int))) (ksD_length ks), rfl, trivial⟩, trivial⟩ ?_
  rintro i ⟨h1, h2⟩
  repeat' ((conv => whnf); first | exact trivial | refine xB ?_ | refine xY ?_ | refine xN ?_ | refine sM ?_ ?_ <;> intro _ | refine xC ?_ | refine And.intro ?_ ?_ | exact Or.inl ⟨rfl, rfl⟩ | exact rfl)
  all_goals (conv => whnf)
  · rename_i h
    have h := decT h
    have hi : i < ks.length := by omega
    refine IdxG.to i [.v (.int .i64 ks[i])] rfl (ksD_get (List.getElem?_eq_getElem hi)) ?_
    repeat' ((conv => whnf); first | refine xB ?_ | refine xY ?_ | refine xN ?_ | refine sM ?_ ?_ <;> intro _)
    all_goals (conv => whnf)
    · rename_i h3
      have h3 : decide (k = ks[i]) = true := h3
      have h3 := decT h3
      have : R = i := by
        rw [← hR, indexS_drop ks 0 i h2 h1, List.drop_eq_getElem_cons hi]
        simp [indexS, h3]
      subst this
      trivial
    · rename_i h3
      have h3 : decide (k = ks[i]) = false := h3
      have h3 := decF h3
      refine KI.i64 ((i + 1 : Nat) : Int) (by simp) (by omega) ?_
      conv => whnf
      refine NextG.to (i + 1) ⟨by omega, fun q hq c hc => ?_⟩ (by omega) ⟨⟨rfl, rfl, rfl, rfl, trivial⟩, trivial⟩
      by_cases hqi : q < i
      · exact h2 q hqi c hc
      · obtain rfl : q = i := by omega
        rw [List.getElem?_eq_getElem hi] at hc
        injection hc with hc
        subst hc; exact fun e => h3 e.symm
  · rename_i h
    have h := decF h
    have hi : i = ks.length := by omega
    subst hi
    have : R = -1 := by
      rw [← hR, indexS_drop ks 0 _ h2 (Nat.le_refl _), List.drop_length]; rfl
    subst this
    trivial
theorem intsContains (ks : List Int) (k : Int) (hk : ks.length < 1000000) : PCall Tryz.prog 159 [] [.list 1 (ksD ks), .v (.int .i64 k)] (.ret (.v (.bool (ks.contains k))) []) := by
  rw [← indexS_has ks 0]
  refine pcall_of (news := []) cxOK Tryz.func159 rfl Tryz.ntmps159 rfl rfl rfl (by decide) ?_
  conv => whnf
  refine call0 (intsIndex ks k hk) ?_
  repeat' ((conv => whnf); first | exact trivial | refine xB ?_ | refine xY ?_ | refine xN ?_ | refine sM ?_ ?_ <;> intro _ | refine xC ?_ | refine And.intro ?_ ?_ | exact Or.inl ⟨rfl, rfl⟩ | exact rfl)
  all_goals (conv => whnf)
end Tryz
end Go.Dm
namespace Go.Dm
def tokensS (b : List UInt8) : Option (List TokP) × Option (Nat × Nat) × Nat := match decide (b.length > 4000) with
  | true => (none, none, 5)
  | false => ((tokensGo (b.length + 1) b (1, 1) 0 []).1, some (tokensGo (b.length + 1) b (1, 1) 0 []).2.1, (tokensGo (b.length + 1) b (1, 1) 0 []).2.2)
def plA : Option (Nat × Nat) → Nat
  | none => 0
  | some p => fl p.1
def plB : Option (Nat × Nat) → Nat
  | none => 0
  | some p => fl p.2
def plO (p : Option (Nat × Nat)) : Value := .complex .f64 (plA p) (plB p)
def tokLD : Option (List TokP) → D
  | none => .v (.slice none 0 0)
  | some l => .list 3 (l.map tokRow)
def tokensD (r : Option (List TokP) × Option (Nat × Nat) × Nat) : D := .tup [tokLD r.1, .v (plO r.2.1), .v (.int .i64 r.2.2)]
namespace Tryz
open Go.Proofs
theorem tok_len (l : List TokP) : (l.map tokRow).length = l.length := by simp
structure TokSt where
  b : List UInt8
  p : Nat × Nat
  m : Nat
  acc : List TokP
def TokInv (R : Option (List TokP) × (Nat × Nat) × Nat) (s : TokSt) : Prop :=
  (∃ n, tokensGo n s.b s.p s.m s.acc = R ∧ s.b.length < n) ∧ 1 ≤ s.p.1 ∧ 1 ≤ s.p.2 ∧ s.p.1 + s.b.length ≤ 4001 ∧ s.p.2 + s.b.length ≤ 4001 ∧ s.m ≤ 2 ∧ s.acc.length + s.b.length ≤ 4000
def tokF (b0 : List UInt8) (s : TokSt) : Fr := [(0, .list 1 (byD b0)), (2, .row 2 s.acc.length), (3, .v noPl), (4, .v (.int .i64 0)), (5, .ref 18 0), (6, .v (.int .i64 s.m))]
def tokG (s : TokSt) : Mem := [(18, .cells [.list 1 (byD s.b), .v (pl s.p.1 s.p.2)]), (2, .row 127 3 (s.acc.map tokRow))]
theorem lexTokensBig (b : List UInt8) (hb : 4000 < b.length) : PCall Tryz.prog 67 [] [.list 1 (byD b)] (.ret (tokensD (tokensS b)) []) := by
  rw [show tokensS b = (none, none, 5) from by simp only [tokensS, show decide (b.length > 4000) = true from decide_eq_true hb]]
  refine pcall_of (news := [18, 9]) cxOK Tryz.func67 rfl Tryz.ntmps67 rfl rfl rfl (by decide) ?_
  repeat' ((conv => whnf); first | refine xB ?_ | refine xY ?_ | refine xN ?_ | refine sM ?_ ?_ <;> intro _)
  all_goals (conv => whnf)
  refine ScopeW.straight ?_
  repeat' ((conv => whnf); first | refine xB ?_ | refine xY ?_ | refine xN ?_ | refine sM ?_ ?_ <;> intro _)
  all_goals (conv => whnf)
  · exact ⟨rfl, rfl, rfl, trivial⟩
  · rename_i h
    have h := decF h
    rw [byD_length] at h
    omega
set_option maxHeartbeats 4000000 in
theorem lexTokensSmall (b : List UInt8) (hb : b.length ≤ 4000) : PCall Tryz.prog 67 [] [.list 1 (byD b)] (.ret (tokensD (tokensS b)) []) := by
  rw [show tokensS b = ((tokensGo (b.length + 1) b (1, 1) 0 []).1, some (tokensGo (b.length + 1) b (1, 1) 0 []).2.1, (tokensGo (b.length + 1) b (1, 1) 0 []).2.2) from by simp only [tokensS, show decide (b.length > 4000) = false from decide_eq_false (by omega)]]
  generalize hR' : tokensGo (b.length + 1) b (1, 1) 0 [] = R'
  refine pcall_of (news := [18, 9]) cxOK Tryz.func67 rfl Tryz.ntmps67 rfl rfl rfl (by decide) ?_
  repeat' ((conv => whnf); first | refine xB ?_ | refine xY ?_ | refine xN ?_ | refine sM ?_ ?_ <;> intro _)
  all_goals (conv => whnf)
  refine ScopeW.loop (ι := TokSt) 1 (TokInv R') (fun s => s.b.length) (tokF b) tokG rfl ?_ ?_
  · repeat' ((conv => whnf); first | refine xB ?_ | refine xY ?_ | refine xN ?_ | refine sM ?_ ?_ <;> intro _)
    all_goals (conv => whnf)
    · rename_i h
      have h := decT h
      rw [byD_length] at h
      omega
    · refine call0 (placeOf (l := 1) (c := 1) (by omega) (by omega) (by omega) (by omega)) ?_
      repeat' ((conv => whnf); first | refine xB ?_ | refine xY ?_ | refine xN ?_ | refine sM ?_ ?_ <;> intro _)
      all_goals (conv => whnf)
      refine GotoG.first ⟨b, (1, 1), 0, []⟩ [⟨2, 127, 3, 2⟩] ⟨⟨b.length + 1, hR', Nat.lt_succ_self _⟩, Nat.le_refl _, Nat.le_refl _, ?_, ?_, by simp, ?_⟩ ⟨rfl, rfl, ⟨rfl, rfl, rfl, rfl, rfl, rfl, trivial⟩, rfl, rfl, trivial⟩
      · simp only; omega
      · simp only; omega
      · simp only [List.length_nil]; omega
  rintro ⟨c, p, m, acc⟩ ⟨⟨n, h1, h2⟩, h3, h4, h5, h6, h7, h8⟩
  simp only at h1 h2 h3 h4 h5 h6 h7 h8
  obtain ⟨n, rfl⟩ : ∃ k, n = k + 1 := ⟨n - 1, by omega⟩
  cases c with
  | nil =>
    obtain rfl : R' = (some acc, p, 0) := h1.symm
    repeat' ((conv => whnf); first | refine xB ?_ | refine xY ?_ | refine xN ?_ | refine sM ?_ ?_ <;> intro _)
    all_goals (conv => whnf)
    refine callM ((readerPass [] p 0 (Nat.le_refl _) h3 h4 ⟨by simp at h5 ⊢; omega, by simp at h6 ⊢; omega⟩).swap 1000 18) ⟨rfl, trivial⟩ rfl ?_
    repeat' ((conv => whnf); first | refine xB ?_ | refine xY ?_ | refine xN ?_ | refine sM ?_ ?_ <;> intro _)
    all_goals (conv => whnf)
    exact ⟨rfl, ResS.row (id := 2) (n := acc.length) (xs := acc.map tokRow) rfl (take_map_all _ _), rfl, rfl, trivial⟩
  | cons c r =>
    have hlen : (c :: r).length ≤ 4000 := by omega
    repeat' ((conv => whnf); first | refine xB ?_ | refine xY ?_ | refine xN ?_ | refine sM ?_ ?_ <;> intro _)
    all_goals (conv => whnf)
    · rename_i hm
      have hm : (m : Int) = 2 := decT hm
      have hm2 : m = 2 := by omega
      subst hm2
      obtain rfl : R' = (some acc, stepsS p (c :: r), 0) := by rw [← h1]; rfl
      have hp := readerPass (c :: r) p (byD (c :: r)).length (by rw [byD_length]; exact Nat.le_refl _) h3 h4 ⟨by omega, by omega⟩
      rw [show (c :: r).take (byD (c :: r)).length = c :: r from by rw [byD_length, List.take_length]] at hp
      refine callM (hp.swap 1000 18) ⟨rfl, trivial⟩ rfl ?_
      repeat' ((conv => whnf); first | refine xB ?_ | refine xY ?_ | refine xN ?_ | refine sM ?_ ?_ <;> intro _)
      all_goals (conv => whnf)
      exact ⟨rfl, ResS.row (id := 2) (n := acc.length) (xs := acc.map tokRow) rfl (take_map_all _ _), rfl, rfl, trivial⟩
    rename_i hm
    have hm : ¬ (m : Int) = 2 := decF hm
    have hm2 : decide (m = 2) = false := decide_eq_false (by omega)
    refine call0 (lexSkipped c r (by omega)) ?_
    repeat' ((conv => whnf); first | refine xB ?_ | refine xY ?_ | refine xN ?_ | refine sM ?_ ?_ <;> intro _)
    all_goals (conv => whnf)
    · rename_i hs hz
      have hs : (skippedS (c :: r)).2 = true := hs
      have hz : ((skippedS (c :: r)).1 : Int) = 0 := decT hz
      have hz2 : decide ((skippedS (c :: r)).1 = 0) = true := decide_eq_true (by omega)
      obtain rfl : R' = (none, p, 4) := by rw [← h1]; simp only [tokensGo, hm2, hs, hz2]
      exact ⟨rfl, rfl, rfl, rfl, trivial⟩
    · rename_i hs hz
      have hs : (skippedS (c :: r)).2 = true := hs
      have hz : ¬ ((skippedS (c :: r)).1 : Int) = 0 := decF hz
      have hz2 : decide ((skippedS (c :: r)).1 = 0) = false := decide_eq_false (by omega)
      have hle := skippedS_le c r
      refine callM ((readerPass (c :: r) p (skippedS (c :: r)).1 hle h3 h4 ⟨by omega, by omega⟩).swap 1000 18) ⟨rfl, trivial⟩ rfl ?_
      repeat' ((conv => whnf); first | refine xB ?_ | refine xY ?_ | refine xN ?_ | refine sM ?_ ?_ <;> intro _)
      all_goals (conv => whnf)
      have hst := stepsS_le ((c :: r).take (skippedS (c :: r)).1) p h3 h4
      rw [List.length_take, Nat.min_eq_left hle] at hst
      have hd : ((c :: r).drop (skippedS (c :: r)).1).length = (c :: r).length - (skippedS (c :: r)).1 := List.length_drop
      refine GotoG.again ⟨(c :: r).drop (skippedS (c :: r)).1, stepsS p ((c :: r).take (skippedS (c :: r)).1), m, acc⟩ ⟨⟨n, ?_, ?_⟩, hst.1, hst.2.1, ?_, ?_, h7, ?_⟩ ?_ ⟨⟨rfl, rfl, rfl, rfl, rfl, rfl, trivial⟩, rfl, rfl, trivial⟩
      · rw [← h1]; simp only [tokensGo, hm2, hs, hz2]
      all_goals simp only
      all_goals omega
    · rename_i hs
      have hs : (skippedS (c :: r)).2 = false := hs
      refine call0 (lexToken c r (by omega)) ?_
      repeat' ((conv => whnf); first | refine xB ?_ | refine xY ?_ | refine xN ?_ | refine sM ?_ ?_ <;> intro _)
      all_goals (conv => whnf)
      · rename_i he
        have he := decF (notT he)
        have he2 : decide ((tokenS (c :: r)).e = 0) = false := decide_eq_false (fun h => he (by rw [h]; rfl))
        obtain rfl : R' = (none, p, (tokenS (c :: r)).e) := by rw [← h1]; simp only [tokensGo, hm2, hs, he2]
        exact ⟨rfl, rfl, rfl, rfl, trivial⟩
      · rename_i he hk
        have he := decT (notF he)
        have he1 : (tokenS (c :: r)).e = 0 := by omega
        have he2 : decide ((tokenS (c :: r)).e = 0) = true := decide_eq_true he1
        have hk : ((tokenS (c :: r)).kind : Int) = 9 := decT hk
        have hk2 : decide ((tokenS (c :: r)).kind = 9) = true := decide_eq_true (by omega)
        obtain ⟨hn1, hn2⟩ := tokenS_n he1
        refine KI.i64 ((m + 1 : Nat) : Int) (by simp) (by omega) ?_
        repeat' ((conv => whnf); first | refine xB ?_ | refine xY ?_ | refine xN ?_ | refine sM ?_ ?_ <;> intro _)
        all_goals (conv => whnf)
        refine AppG.row1 ((acc ++ [TokP.mk (tokenS (c :: r)).kind (tokenS (c :: r)).text p]).map tokRow) (tok_len _).symm rfl ?_ (by decide) ⟨rfl, ?_, ?_⟩
        · rw [tok_len]; simp only; omega
        · rw [List.map_append]; rfl
        repeat' ((conv => whnf); first | refine xB ?_ | refine xY ?_ | refine xN ?_ | refine sM ?_ ?_ <;> intro _)
        all_goals (conv => whnf)
        refine callM ((readerPass (c :: r) p (tokenS (c :: r)).n hn2 h3 h4 ⟨by omega, by omega⟩).swap 1000 18) ⟨rfl, trivial⟩ rfl ?_
        repeat' ((conv => whnf); first | refine xB ?_ | refine xY ?_ | refine xN ?_ | refine sM ?_ ?_ <;> intro _)
        all_goals (conv => whnf)
        have hst := stepsS_le ((c :: r).take (tokenS (c :: r)).n) p h3 h4
        rw [List.length_take, Nat.min_eq_left hn2] at hst
        have hd : ((c :: r).drop (tokenS (c :: r)).n).length = (c :: r).length - (tokenS (c :: r)).n := List.length_drop
        have ha : (acc ++ [TokP.mk (tokenS (c :: r)).kind (tokenS (c :: r)).text p]).length = acc.length + 1 := by simp
        refine GotoG.again ⟨(c :: r).drop (tokenS (c :: r)).n, stepsS p ((c :: r).take (tokenS (c :: r)).n), m + 1, acc ++ [TokP.mk (tokenS (c :: r)).kind (tokenS (c :: r)).text p]⟩ ⟨⟨n, ?_, ?_⟩, hst.1, hst.2.1, ?_, ?_, ?_, ?_⟩ ?_ ⟨⟨rfl, congrArg (D.row 2) ha.symm, rfl, rfl, rfl, rfl, trivial⟩, rfl, rfl, trivial⟩
        · rw [← h1]; simp only [tokensGo, hm2, hs, he2, hk2]
        all_goals simp only
        all_goals omega
      · rename_i he hk
        have he := decT (notF he)
        have he1 : (tokenS (c :: r)).e = 0 := by omega
        have he2 : decide ((tokenS (c :: r)).e = 0) = true := decide_eq_true he1
        have hk : ¬ ((tokenS (c :: r)).kind : Int) = 9 := decF hk
        have hk2 : decide ((tokenS (c :: r)).kind = 9) = false := decide_eq_false (by omega)
        obtain ⟨hn1, hn2⟩ := tokenS_n he1
        refine AppG.row1 ((acc ++ [TokP.mk (tokenS (c :: r)).kind (tokenS (c :: r)).text p]).map tokRow) (tok_len _).symm rfl ?_ (by decide) ⟨rfl, ?_, ?_⟩
        · rw [tok_len]; simp only; omega
        · rw [List.map_append]; rfl
        repeat' ((conv => whnf); first | refine xB ?_ | refine xY ?_ | refine xN ?_ | refine sM ?_ ?_ <;> intro _)
        all_goals (conv => whnf)
        refine callM ((readerPass (c :: r) p (tokenS (c :: r)).n hn2 h3 h4 ⟨by omega, by omega⟩).swap 1000 18) ⟨rfl, trivial⟩ rfl ?_
        repeat' ((conv => whnf); first | refine xB ?_ | refine xY ?_ | refine xN ?_ | refine sM ?_ ?_ <;> intro _)
        all_goals (conv => whnf)
        have hst := stepsS_le ((c :: r).take (tokenS (c :: r)).n) p h3 h4
        rw [List.length_take, Nat.min_eq_left hn2] at hst
        have hd : ((c :: r).drop (tokenS (c :: r)).n).length = (c :: r).length - (tokenS (c :: r)).n := List.length_drop
        have ha : (acc ++ [TokP.mk (tokenS (c :: r)).kind (tokenS (c :: r)).text p]).length = acc.length + 1 := by simp
        refine GotoG.again ⟨(c :: r).drop (tokenS (c :: r)).n, stepsS p ((c :: r).take (tokenS (c :: r)).n), m, acc ++ [TokP.mk (tokenS (c :: r)).kind (tokenS (c :: r)).text p]⟩ ⟨⟨n, ?_, ?_⟩, hst.1, hst.2.1, ?_, ?_, ?_, ?_⟩ ?_ ⟨⟨rfl, congrArg (D.row 2) ha.symm, rfl, rfl, rfl, rfl, trivial⟩, rfl, rfl, trivial⟩
        · rw [← h1]; simp only [tokensGo, hm2, hs, he2, hk2]
        all_goals simp only
        all_goals omega
theorem lexTokens (b : List UInt8) : PCall Tryz.prog 67 [] [.list 1 (byD b)] (.ret (tokensD (tokensS b)) []) := by
  rcases Nat.lt_or_ge 4000 b.length with h | h
  · exact lexTokensBig b h
  · exact lexTokensSmall b h
end Tryz
end Go.Dm
namespace Go.Dm
structure RefS where
  text : List UInt8
  at' : Option (Nat × Nat)
def refCells (r : RefS) : List D := [.v (str r.text), .v (plO r.at')]
abbrev Wr := Option (Nat × Nat) × Nat
def exO {α : Type} (wr : Wr → D) (f : α → Out) : Except Wr α → Out
  | .ok a => f a
  | .error w => .pan (wr w)
def refOf (t : TokP) : RefS := ⟨t.text, some t.at'⟩
def takeS (l : List TokP) (e : Nat × Nat) (ks : List Int) : Except Wr (RefS × List TokP) := match l with
  | [] => .error (some e, 4)
  | t :: r => match ks.contains (t.kind : Int) with
    | true => .ok (refOf t, r)
    | false => .error (some t.at', 3)
def nextS (l : List TokP) (ks : List Int) : Bool := match l with
  | [] => false
  | t :: _ => ks.contains (t.kind : Int)
def refsS : List TokP → List RefS × List TokP
  | [] => ([], [])
  | t :: r => match [1, 2].contains (t.kind : Int) with
    | true => (refOf t :: (refsS r).1, (refsS r).2)
    | false => ([], t :: r)
def yrM (l : List TokP) (e : Nat × Nat) : Mem := [(1000, .cells [.list 3 (l.map tokRow), .v (pl e.1 e.2)])]
namespace Tryz
open Go.Proofs
def yWr (w : Wr) : D := .iface 131 (.agg [.v (plO w.1), .v (.int .i64 w.2)])
def takeO (l : List TokP) (e : Nat × Nat) (ks : List Int) : Out := exO yWr (fun p => .ret (.agg (refCells p.1)) (yrM p.2 e)) (takeS l e ks)
theorem yaccNext (l : List TokP) (e : Nat × Nat) (ks : List Int) (hk : ks.length < 1000000) : PCall Tryz.prog 120 (yrM l e) [.ref 1000 0, .list 1 (ksD ks)] (.ret (.v (.bool (nextS l ks))) (yrM l e)) := by
  refine pcall_of (news := []) cxOK Tryz.func120 rfl Tryz.ntmps120 rfl rfl rfl (by decide) ?_
  cases l with
  | nil =>
    repeat' ((conv => whnf); first | exact trivial | refine xB ?_ | refine xY ?_ | refine xN ?_ | refine sM ?_ ?_ <;> intro _ | refine xC ?_ | refine And.intro ?_ ?_ | exact Or.inl ⟨rfl, rfl⟩ | exact rfl)
    all_goals (conv => whnf)
  | cons t r =>
    repeat' ((conv => whnf); first | refine xB ?_ | refine xY ?_ | refine xN ?_ | refine sM ?_ ?_ <;> intro _)
    all_goals (conv => whnf)
    · refine IdxG.to 0 (tokRow t) rfl rfl ?_
      repeat' ((conv => whnf); first | refine xB ?_ | refine xY ?_ | refine xN ?_ | refine sM ?_ ?_ <;> intro _)
      all_goals (conv => whnf)
      refine call0 (intsContains ks t.kind hk) ?_
      repeat' ((conv => whnf); first | exact trivial | refine xB ?_ | refine xY ?_ | refine xN ?_ | refine sM ?_ ?_ <;> intro _ | refine xC ?_ | refine And.intro ?_ ?_ | exact Or.inl ⟨rfl, rfl⟩ | exact rfl)
      all_goals (conv => whnf)
    · rename_i h
      have := decF h
      simp at this
theorem yaccTake (l : List TokP) (e : Nat × Nat) (ks : List Int) (hk : ks.length < 1000000) : PCall Tryz.prog 122 (yrM l e) [.ref 1000 0, .list 1 (ksD ks)] (takeO l e ks) := by
  cases l with
  | nil =>
    refine pcall_of (news := [4, 5]) cxOK Tryz.func122 rfl Tryz.ntmps122 rfl rfl rfl (by decide) ?_
    repeat' ((conv => whnf); first | refine xB ?_ | refine xY ?_ | refine xN ?_ | refine sM ?_ ?_ <;> intro _)
    all_goals (conv => whnf)
    exact ⟨_, rfl, Or.inl ⟨rfl, rfl⟩⟩
  | cons t r =>
    refine pcall_of (news := [4, 5]) cxOK Tryz.func122 rfl Tryz.ntmps122 rfl rfl rfl (by decide) ?_
    repeat' ((conv => whnf); first | refine xB ?_ | refine xY ?_ | refine xN ?_ | refine sM ?_ ?_ <;> intro _)
    all_goals (conv => whnf)
    refine IdxG.to 0 (tokRow t) rfl rfl ?_
    repeat' ((conv => whnf); first | refine xB ?_ | refine xY ?_ | refine xN ?_ | refine sM ?_ ?_ <;> intro _)
    all_goals (conv => whnf)
    refine call0 (intsContains ks t.kind hk) ?_
    repeat' ((conv => whnf); first | refine xB ?_ | refine xY ?_ | refine xN ?_ | refine sM ?_ ?_ <;> intro _)
    all_goals (conv => whnf)
    · rename_i h
      have h := notT h
      have ht : takeO (t :: r) e ks = .pan (yWr (some t.at', 3)) := by simp only [takeO, takeS, h]; rfl
      rw [ht]
      exact ⟨_, rfl, Or.inl ⟨rfl, rfl⟩⟩
    · rename_i h
      have h := notF h
      have ht : takeO (t :: r) e ks = .ret (.agg (refCells (refOf t))) (yrM r e) := by simp only [takeO, takeS, h]; rfl
      rw [ht]
      refine BndG.to 1 rfl ?_
      conv => whnf
      refine CutL.to (r.map tokRow) (by simp) (Nat.le_refl _) (by simp [take_map_all]) ?_
      repeat' ((conv => whnf); first | exact trivial | refine xB ?_ | refine xY ?_ | refine xN ?_ | refine sM ?_ ?_ <;> intro _ | refine xC ?_ | refine And.intro ?_ ?_ | exact Or.inl ⟨rfl, rfl⟩ | exact rfl)
      all_goals (conv => whnf)
end Tryz
end Go.Dm
namespace Go.Dm
structure DeclS where
  kind : Nat
  names : List RefS
def declCells (d : DeclS) : List D := [.v (.int .i64 d.kind), .list 2 (d.names.map refCells)]
def kindS : List TokP → Nat
  | [] => 0
  | t :: _ => t.kind
def declS (l : List TokP) (e : Nat × Nat) : Except Wr (DeclS × List TokP) := match takeS l e [3, 4, 5, 6, 7] with
  | .error w => .error w
  | .ok p => match decide (kindS l = 7) with
    | true => match takeS p.2 e [1] with
      | .error w => .error w
      | .ok q => .ok (⟨kindS l, [q.1]⟩, q.2)
    | false => match takeS p.2 e [1, 2] with
      | .error w => .error w
      | .ok q => .ok (⟨kindS l, q.1 :: (refsS q.2).1⟩, (refsS q.2).2)
theorem takeS_len {l : List TokP} {e : Nat × Nat} {ks : List Int} {p : RefS × List TokP} (h : takeS l e ks = .ok p) : p.2.length + 1 = l.length := by
  cases l with
  | nil => simp [takeS] at h
  | cons t r =>
    simp only [takeS] at h
    split at h
    · injection h with h; subst h; rfl
    · cases h
theorem refsS_len : ∀ l : List TokP, (refsS l).1.length + (refsS l).2.length = l.length
  | [] => rfl
  | t :: r => by
    have := refsS_len r
    simp only [refsS]
    split
    · simp only [List.length_cons]; omega
    · simp
theorem nextS_take {l : List TokP} {e : Nat × Nat} {ks : List Int} (h : nextS l ks = true) : ∃ t r, l = t :: r ∧ takeS l e ks = .ok (refOf t, r) ∧ ks.contains (t.kind : Int) = true := by
  cases l with
  | nil => simp [nextS] at h
  | cons t r =>
    simp only [nextS] at h
    exact ⟨t, r, rfl, by simp only [takeS, h], h⟩
namespace Tryz
open Go.Proofs
theorem takeOk {l : List TokP} {e : Nat × Nat} {ks : List Int} {p : RefS × List TokP} (h : takeS l e ks = .ok p) (hk : ks.length < 1000000) : PCall Tryz.prog 122 (yrM l e) [.ref 1000 0, .list 1 (ksD ks)] (.ret (.agg (refCells p.1)) (yrM p.2 e)) := by
  have := yaccTake l e ks hk
  rwa [takeO, h] at this
theorem takeBad {l : List TokP} {e : Nat × Nat} {ks : List Int} {w : Wr} (h : takeS l e ks = .error w) (hk : ks.length < 1000000) : PCall Tryz.prog 122 (yrM l e) [.ref 1000 0, .list 1 (ksD ks)] (.pan (yWr w)) := by
  have := yaccTake l e ks hk
  rwa [takeO, h] at this
theorem refsS_stop {l : List TokP} (h : nextS l [1, 2] = false) : refsS l = ([], l) := by
  cases l with
  | nil => rfl
  | cons t r => simp only [nextS] at h; simp only [refsS, h]
structure RefSt where
  l : List TokP
  acc : List RefS
theorem ref_len (l : List RefS) : (l.map refCells).length = l.length := by simp
theorem yaccRefs (l : List TokP) (e : Nat × Nat) (hl : l.length ≤ 4000) : PCall Tryz.prog 160 (yrM l e) [.ref 1000 0] (.ret (.list 2 ((refsS l).1.map refCells)) (yrM (refsS l).2 e)) := by
  generalize hR : refsS l = R
  refine pcall_of (news := []) cxOK Tryz.func160 rfl Tryz.ntmps160 rfl rfl rfl (by decide) ?_
  conv => whnf
  refine LoopW.to (ι := RefSt) (fun s => s.l.length + s.acc.length ≤ l.length ∧ R = (s.acc ++ (refsS s.l).1, (refsS s.l).2)) (fun s => s.l.length)
    (fun s => [(0, .ref 1000 0), (2, .row 2 s.acc.length)]) (fun s => (2, .row 141 2 (s.acc.map refCells)) :: yrM s.l e) [⟨2, 141, 2, 2⟩] ⟨l, []⟩ ⟨by simp, by simp [hR]⟩ ⟨rfl, rfl, ⟨rfl, rfl, trivial⟩, rfl, rfl, trivial⟩ ?_
  rintro ⟨l', acc⟩ ⟨h1, h2⟩
  simp only at h1 h2
  repeat' ((conv => whnf); first | exact trivial | refine xB ?_ | refine xY ?_ | refine xN ?_ | refine sM ?_ ?_ <;> intro _ | refine xC ?_ | refine And.intro ?_ ?_ | exact Or.inl ⟨rfl, rfl⟩ | exact rfl)
  all_goals (conv => whnf)
  refine callM (yaccNext l' e [1, 2] (by decide)) ⟨rfl, trivial⟩ rfl ?_
  repeat' ((conv => whnf); first | refine xB ?_ | refine xY ?_ | refine xN ?_ | refine sM ?_ ?_ <;> intro _)
  all_goals (conv => whnf)
  · rename_i h
    obtain ⟨t, r, rfl, h3, h4⟩ := nextS_take (e := e) h
    refine callM (takeOk h3 (by decide)) ⟨rfl, trivial⟩ rfl ?_
    repeat' ((conv => whnf); first | refine xB ?_ | refine xY ?_ | refine xN ?_ | refine sM ?_ ?_ <;> intro _)
    all_goals (conv => whnf)
    have ha : (acc ++ [refOf t]).length = acc.length + 1 := by simp
    simp only [List.length_cons] at h1
    refine AppG.row1 ((acc ++ [refOf t]).map refCells) (ref_len _).symm rfl ?_ (by decide) ⟨rfl, ?_, ?_⟩
    · rw [ref_len]; simp only; omega
    · rw [List.map_append]; rfl
    repeat' ((conv => whnf); first | refine xB ?_ | refine xY ?_ | refine xN ?_ | refine sM ?_ ?_ <;> intro _)
    all_goals (conv => whnf)
    refine NextG.to ⟨r, acc ++ [refOf t]⟩ ⟨?_, ?_⟩ (by simp) ⟨⟨rfl, congrArg (D.row 2) ha.symm, trivial⟩, rfl, rfl, trivial⟩
    · simp only; omega
    · rw [h2]
      have h5 : [1, 2].contains (t.kind : Int) = true := h4
      simp only [refsS, h5, List.append_assoc, List.singleton_append]
  · rename_i h
    rw [refsS_stop h] at h2
    obtain rfl : R = (acc, l') := by simpa using h2
    exact ⟨ResS.row (id := 2) (n := acc.length) (xs := acc.map refCells) rfl (take_map_all _ _), ⟨Or.inl ⟨rfl, rfl⟩, Or.inl ⟨rfl, rfl⟩, trivial⟩, trivial⟩
theorem yaccDecl (l : List TokP) (e : Nat × Nat) (hl : l.length ≤ 4000) : PCall Tryz.prog 121 (yrM l e) [.ref 1000 0] (exO yWr (fun p => .ret (.agg (declCells p.1)) (yrM p.2 e)) (declS l e)) := by
  generalize hR : declS l e = R
  refine pcall_of (news := [2, 3, 534]) cxOK Tryz.func121 rfl Tryz.ntmps121 rfl rfl rfl (by decide) ?_
  cases l with
  | nil =>
    obtain rfl : R = .error (some e, 4) := hR.symm
    repeat' ((conv => whnf); first | refine xB ?_ | refine xY ?_ | refine xN ?_ | refine sM ?_ ?_ <;> intro _)
    all_goals (conv => whnf)
    refine callM (takeBad (l := []) (e := e) (ks := [3, 4, 5, 6, 7]) rfl (by decide)) ⟨rfl, trivial⟩ rfl ?_
    conv => whnf
    exact ⟨_, rfl, Or.inl ⟨rfl, rfl⟩⟩
  | cons t r =>
    repeat' ((conv => whnf); first | refine xB ?_ | refine xY ?_ | refine xN ?_ | refine sM ?_ ?_ <;> intro _)
    all_goals (conv => whnf)
    · refine IdxG.to 0 (tokRow t) rfl rfl ?_
      repeat' ((conv => whnf); first | refine xB ?_ | refine xY ?_ | refine xN ?_ | refine sM ?_ ?_ <;> intro _)
      all_goals (conv => whnf)
      cases ht : takeS (t :: r) e [3, 4, 5, 6, 7] with
      | error w =>
        obtain rfl : R = .error w := by rw [← hR]; simp only [declS, ht]
        refine callM (takeBad ht (by decide)) ⟨rfl, trivial⟩ rfl ?_
        conv => whnf
        exact ⟨_, rfl, Or.inl ⟨rfl, rfl⟩⟩
      | ok p =>
        have hp := takeS_len ht
        refine callM (takeOk ht (by decide)) ⟨rfl, trivial⟩ rfl ?_
        repeat' ((conv => whnf); first | refine xB ?_ | refine xY ?_ | refine xN ?_ | refine sM ?_ ?_ <;> intro _)
        all_goals (conv => whnf)
        · rename_i h7
          have h7 : (t.kind : Int) = 7 := decT h7
          have h7' : decide (kindS (t :: r) = 7) = true := decide_eq_true (by simp only [kindS]; omega)
          cases hq : takeS p.2 e [1] with
          | error w =>
            obtain rfl : R = .error w := by rw [← hR]; simp only [declS, ht, h7', hq]
            refine callM (takeBad hq (by decide)) ⟨rfl, trivial⟩ rfl ?_
            conv => whnf
            exact ⟨_, rfl, Or.inl ⟨rfl, rfl⟩⟩
          | ok q =>
            obtain rfl : R = .ok (⟨t.kind, [q.1]⟩, q.2) := by rw [← hR]; simp only [declS, ht, h7', hq]; rfl
            refine callM (takeOk hq (by decide)) ⟨rfl, trivial⟩ rfl ?_
            repeat' ((conv => whnf); first | exact trivial | refine xB ?_ | refine xY ?_ | refine xN ?_ | refine sM ?_ ?_ <;> intro _ | refine xC ?_ | refine And.intro ?_ ?_ | exact Or.inl ⟨rfl, rfl⟩ | exact rfl)
            all_goals (conv => whnf)
        · rename_i h7
          have h7 : ¬ (t.kind : Int) = 7 := decF h7
          have h7' : decide (kindS (t :: r) = 7) = false := decide_eq_false (by simp only [kindS]; omega)
          cases hq : takeS p.2 e [1, 2] with
          | error w =>
            obtain rfl : R = .error w := by rw [← hR]; simp only [declS, ht, h7', hq]
            refine callM (takeBad hq (by decide)) ⟨rfl, trivial⟩ rfl ?_
            conv => whnf
            exact ⟨_, rfl, Or.inl ⟨rfl, rfl⟩⟩
          | ok q =>
            have hql := takeS_len hq
            have hrl := refsS_len q.2
            obtain rfl : R = .ok (⟨t.kind, q.1 :: (refsS q.2).1⟩, (refsS q.2).2) := by rw [← hR]; simp only [declS, ht, h7', hq]; rfl
            refine callM (takeOk hq (by decide)) ⟨rfl, trivial⟩ rfl ?_
            repeat' ((conv => whnf); first | refine xB ?_ | refine xY ?_ | refine xN ?_ | refine sM ?_ ?_ <;> intro _)
            all_goals (conv => whnf)
            refine callM (yaccRefs q.2 e (by simp only [List.length_cons] at hl hp; omega)) ⟨rfl, trivial⟩ rfl ?_
            repeat' ((conv => whnf); first | refine xB ?_ | refine xY ?_ | refine xN ?_ | refine sM ?_ ?_ <;> intro _)
            all_goals (conv => whnf)
            have hbd : q.2.length ≤ 4000 := by simp only [List.length_cons] at hl hp; omega
            cases hrs : (refsS q.2).1 with
            | nil =>
              refine AppG.rows0 rfl (Nat.le_of_ble_eq_true rfl) (by decide) rfl ?_
              repeat' ((conv => whnf); first | refine xB ?_ | refine xY ?_ | refine xN ?_ | refine sM ?_ ?_ <;> intro _)
              all_goals (conv => whnf)
              refine ⟨rfl, ?_⟩
              repeat' ((conv => whnf); first | refine xB ?_ | refine xY ?_ | refine xN ?_ | refine sM ?_ ?_ <;> intro _)
              all_goals (conv => whnf)
              refine ⟨ResS.pur (.agg (.cons .v (.cons (.row (id := 34) (n := 1) (xs := [refCells q.1]) rfl rfl) .nil))) (by intro x h; cases h), ⟨Or.inl ⟨rfl, rfl⟩, Or.inl ⟨rfl, rfl⟩, trivial⟩, trivial⟩
            | cons r1 rs =>
              rw [hrs] at hrl
              refine AppG.rows (rs.length + 2) ((q.1 :: r1 :: rs).map refCells) rfl ?_ ?_ (by decide) (by simp) ⟨?_, ?_, ?_⟩
              · intro r hr
                obtain ⟨x, _, rfl⟩ := List.mem_map.1 hr
                rfl
              · rw [ref_len]; simp only [List.length_cons, List.length_nil] at hrl ⊢; omega
              · rw [ref_len]; simp only [List.length_cons]; omega
              · rfl
              repeat' ((conv => whnf); first | refine xB ?_ | refine xY ?_ | refine xN ?_ | refine sM ?_ ?_ <;> intro _)
              all_goals (conv => whnf)
              refine ⟨rfl, ?_⟩
              repeat' ((conv => whnf); first | refine xB ?_ | refine xY ?_ | refine xN ?_ | refine sM ?_ ?_ <;> intro _)
              all_goals (conv => whnf)
              refine ⟨ResS.pur (.agg (.cons .v (.cons (.row (id := 34) (n := rs.length + 2) (xs := (q.1 :: r1 :: rs).map refCells) rfl ?_) .nil))) (by intro x h; cases h), ⟨Or.inl ⟨rfl, rfl⟩, Or.inl ⟨rfl, rfl⟩, trivial⟩, trivial⟩
              exact take_map_all _ (q.1 :: r1 :: rs)
    · rename_i h
      have := decF h
      simp at this
end Tryz
end Go.Dm
namespace Go.Dm
structure ProdS where
  left : RefS
  right : List RefS
  prec : RefS
def prodCells (p : ProdS) : List D := [.v (str p.left.text), .v (plO p.left.at'), .list 2 (p.right.map refCells), .v (str p.prec.text), .v (plO p.prec.at')]
def precS (l : List TokP) (e : Nat × Nat) : Except Wr (RefS × List TokP) := match nextS l [8] with
  | true => match takeS l e [8] with
    | .error w => .error w
    | .ok p => takeS p.2 e [1, 2]
  | false => .ok (⟨[], none⟩, l)
def groupGo : Nat → RefS → List TokP → Nat × Nat → List ProdS → Except Wr (List ProdS × List TokP)
  | 0, _, l, _, acc => .ok (acc, l)
  | n + 1, left, l, e, acc => match precS (refsS l).2 e with
    | .error w => .error w
    | .ok p => match nextS p.2 [11] with
      | true => match takeS p.2 e [11] with
        | .error w => .error w
        | .ok q => groupGo n left q.2 e (acc ++ [⟨left, (refsS l).1, p.1⟩])
      | false => match takeS p.2 e [12] with
        | .error w => .error w
        | .ok q => .ok (acc ++ [⟨left, (refsS l).1, p.1⟩], q.2)
def groupS (l : List TokP) (e : Nat × Nat) : Except Wr (List ProdS × List TokP) := match takeS l e [1] with
  | .error w => .error w
  | .ok p => match takeS p.2 e [10] with
    | .error w => .error w
    | .ok q => groupGo (q.2.length + 1) p.1 q.2 e []
theorem prod_len (l : List ProdS) : (l.map prodCells).length = l.length := by simp
namespace Tryz
open Go.Proofs
structure GrSt where
  l : List TokP
  acc : List ProdS
set_option maxHeartbeats 4000000 in
theorem yaccGroup (l : List TokP) (e : Nat × Nat) (hl : l.length ≤ 4000) : PCall Tryz.prog 123 (yrM l e) [.ref 1000 0] (exO yWr (fun p => .ret (.row 2 p.1.length) ((2, .row 143 5 (p.1.map prodCells)) :: yrM p.2 e)) (groupS l e)) := by
  cases ht : takeS l e [1] with
  | error w =>
    rw [show groupS l e = .error w from by simp only [groupS, ht]]
    refine pcall_of (news := [3, 4]) cxOK Tryz.func123 rfl Tryz.ntmps123 rfl rfl rfl (by decide) ?_
    repeat' ((conv => whnf); first | refine xB ?_ | refine xY ?_ | refine xN ?_ | refine sM ?_ ?_ <;> intro _)
    all_goals (conv => whnf)
    refine ScopeW.straight ?_
    repeat' ((conv => whnf); first | refine xB ?_ | refine xY ?_ | refine xN ?_ | refine sM ?_ ?_ <;> intro _)
    all_goals (conv => whnf)
    refine callM (takeBad ht (by decide)) ⟨rfl, trivial⟩ rfl ?_
    conv => whnf
    exact ⟨_, rfl, Or.inl ⟨rfl, rfl⟩⟩
  | ok p =>
  cases hq : takeS p.2 e [10] with
  | error w =>
    rw [show groupS l e = .error w from by simp only [groupS, ht, hq]]
    refine pcall_of (news := [3, 4]) cxOK Tryz.func123 rfl Tryz.ntmps123 rfl rfl rfl (by decide) ?_
    repeat' ((conv => whnf); first | refine xB ?_ | refine xY ?_ | refine xN ?_ | refine sM ?_ ?_ <;> intro _)
    all_goals (conv => whnf)
    refine ScopeW.straight ?_
    repeat' ((conv => whnf); first | refine xB ?_ | refine xY ?_ | refine xN ?_ | refine sM ?_ ?_ <;> intro _)
    all_goals (conv => whnf)
    refine callM (takeOk ht (by decide)) ⟨rfl, trivial⟩ rfl ?_
    repeat' ((conv => whnf); first | refine xB ?_ | refine xY ?_ | refine xN ?_ | refine sM ?_ ?_ <;> intro _)
    all_goals (conv => whnf)
    refine callM (takeBad hq (by decide)) ⟨rfl, trivial⟩ rfl ?_
    conv => whnf
    exact ⟨_, rfl, Or.inl ⟨rfl, rfl⟩⟩
  | ok q =>
  have hpl := takeS_len ht
  have hql := takeS_len hq
  rw [show groupS l e = groupGo (q.2.length + 1) p.1 q.2 e [] from by simp only [groupS, ht, hq]]
  obtain ⟨left, p2⟩ := p
  simp only at hpl hql hq ⊢
  generalize hR : groupGo (q.2.length + 1) left q.2 e [] = R
  refine pcall_of (news := [3, 4]) cxOK Tryz.func123 rfl Tryz.ntmps123 rfl rfl rfl (by decide) ?_
  repeat' ((conv => whnf); first | refine xB ?_ | refine xY ?_ | refine xN ?_ | refine sM ?_ ?_ <;> intro _)
  all_goals (conv => whnf)
  refine ScopeW.loop (ι := GrSt) 0 (fun s => (∃ n, groupGo n left s.l e s.acc = R ∧ s.l.length < n) ∧ s.l.length + s.acc.length ≤ 4000) (fun s => s.l.length)
    (fun s => [(0, .ref 1000 0), (2, .row 2 s.acc.length), (3, .ref 3 0)]) (fun s => (2, .row 143 5 (s.acc.map prodCells)) :: (3, .cells (refCells left)) :: yrM s.l e) rfl ?_ ?_
  · repeat' ((conv => whnf); first | refine xB ?_ | refine xY ?_ | refine xN ?_ | refine sM ?_ ?_ <;> intro _)
    all_goals (conv => whnf)
    refine callM (takeOk ht (by decide)) ⟨rfl, trivial⟩ rfl ?_
    repeat' ((conv => whnf); first | refine xB ?_ | refine xY ?_ | refine xN ?_ | refine sM ?_ ?_ <;> intro _)
    all_goals (conv => whnf)
    refine callM (takeOk hq (by decide)) ⟨rfl, trivial⟩ rfl ?_
    repeat' ((conv => whnf); first | refine xB ?_ | refine xY ?_ | refine xN ?_ | refine sM ?_ ?_ <;> intro _)
    all_goals (conv => whnf)
    refine GotoG.first ⟨q.2, []⟩ [⟨2, 143, 5, 2⟩] ⟨⟨q.2.length + 1, hR, Nat.lt_succ_self _⟩, ?_⟩ ⟨rfl, rfl, ⟨rfl, rfl, rfl, trivial⟩, rfl, rfl, rfl, trivial⟩
    simp only [List.length_nil]; omega
  rintro ⟨l', acc⟩ ⟨⟨n, h1, h2⟩, h3⟩
  simp only at h1 h2 h3
  obtain ⟨n, rfl⟩ : ∃ k, n = k + 1 := ⟨n - 1, by omega⟩
  have hrl := refsS_len l'
  repeat' ((conv => whnf); first | refine xB ?_ | refine xY ?_ | refine xN ?_ | refine sM ?_ ?_ <;> intro _)
  all_goals (conv => whnf)
  refine callM (yaccRefs l' e (by omega)) ⟨rfl, trivial⟩ rfl ?_
  repeat' ((conv => whnf); first | refine xB ?_ | refine xY ?_ | refine xN ?_ | refine sM ?_ ?_ <;> intro _)
  all_goals (conv => whnf)
  refine ⟨rfl, ?_⟩
  repeat' ((conv => whnf); first | refine xB ?_ | refine xY ?_ | refine xN ?_ | refine sM ?_ ?_ <;> intro _)
  all_goals (conv => whnf)
  refine callM (yaccNext (refsS l').2 e [8] (by decide)) ⟨rfl, trivial⟩ rfl ?_
  repeat' ((conv => whnf); first | refine xB ?_ | refine xY ?_ | refine xN ?_ | refine sM ?_ ?_ <;> intro _)
  all_goals (conv => whnf)
  · rename_i h8
    obtain ⟨t, r, er, g3, g4⟩ := nextS_take (e := e) h8
    have hl8 : r.length + 1 = (refsS l').2.length := by rw [er]; rfl
    refine callM (takeOk (p := (refOf t, r)) g3 (by decide)) ⟨rfl, trivial⟩ rfl ?_
    repeat' ((conv => whnf); first | refine xB ?_ | refine xY ?_ | refine xN ?_ | refine sM ?_ ?_ <;> intro _)
    all_goals (conv => whnf)
    cases hp0 : takeS r e [1, 2] with
    | error w =>
      have hp : precS (refsS l').2 e = .error w := by simp only [precS, h8, g3, hp0]
      obtain rfl : R = .error w := by rw [← h1]; simp only [groupGo, hp]
      refine callM (takeBad hp0 (by decide)) ⟨rfl, trivial⟩ rfl ?_
      conv => whnf
      exact ⟨_, rfl, Or.inl ⟨rfl, rfl⟩⟩
    | ok pp =>
      have hppl := takeS_len hp0
      have hp : precS (refsS l').2 e = .ok pp := by simp only [precS, h8, g3, hp0]
      refine callM (takeOk hp0 (by decide)) ⟨rfl, trivial⟩ rfl ?_
      repeat' ((conv => whnf); first | refine xB ?_ | refine xY ?_ | refine xN ?_ | refine sM ?_ ?_ <;> intro _)
      all_goals (conv => whnf)
      have ha : (acc ++ [ProdS.mk left (refsS l').1 pp.1]).length = acc.length + 1 := by simp
      refine AppG.row1 ((acc ++ [ProdS.mk left (refsS l').1 pp.1]).map prodCells) (prod_len _).symm rfl ?_ (by decide) ⟨rfl, ?_, ?_⟩
      · rw [prod_len]; simp only; omega
      · rw [List.map_append]; rfl
      repeat' ((conv => whnf); first | refine xB ?_ | refine xY ?_ | refine xN ?_ | refine sM ?_ ?_ <;> intro _)
      all_goals (conv => whnf)
      refine callM (yaccNext pp.2 e [11] (by decide)) ⟨rfl, trivial⟩ rfl ?_
      repeat' ((conv => whnf); first | refine xB ?_ | refine xY ?_ | refine xN ?_ | refine sM ?_ ?_ <;> intro _)
      all_goals (conv => whnf)
      · rename_i hn
        obtain ⟨t1, r1, e1, g1, g2⟩ := nextS_take (e := e) hn
        refine callM (takeOk (p := (refOf t1, r1)) g1 (by decide)) ⟨rfl, trivial⟩ rfl ?_
        have hl1 : r1.length + 1 = pp.2.length := by rw [e1]; rfl
        repeat' ((conv => whnf); first | refine xB ?_ | refine xY ?_ | refine xN ?_ | refine sM ?_ ?_ <;> intro _)
        all_goals (conv => whnf)
        refine GotoG.again ⟨r1, acc ++ [ProdS.mk left (refsS l').1 pp.1]⟩ ⟨⟨n, ?_, ?_⟩, ?_⟩ ?_ ⟨⟨rfl, congrArg (D.row 2) ha.symm, rfl, trivial⟩, rfl, rfl, rfl, trivial⟩
        · rw [← h1]; simp only [groupGo, hp, hn, g1]
        all_goals simp only
        all_goals omega
      · rename_i hn
        cases hq : takeS pp.2 e [12] with
        | error w =>
          obtain rfl : R = .error w := by rw [← h1]; simp only [groupGo, hp, hn, hq]
          refine callM (takeBad hq (by decide)) ⟨rfl, trivial⟩ rfl ?_
          conv => whnf
          exact ⟨_, rfl, Or.inl ⟨rfl, rfl⟩⟩
        | ok q =>
          obtain rfl : R = .ok (acc ++ [ProdS.mk left (refsS l').1 pp.1], q.2) := by rw [← h1]; simp only [groupGo, hp, hn, hq]
          refine callM (takeOk hq (by decide)) ⟨rfl, trivial⟩ rfl ?_
          repeat' ((conv => whnf); first | refine xB ?_ | refine xY ?_ | refine xN ?_ | refine sM ?_ ?_ <;> intro _)
          all_goals (conv => whnf)
          refine ⟨Or.inl ⟨congrArg (D.row 2) ha.symm, rfl⟩, rfl, ⟨Or.inl ⟨rfl, rfl⟩, Or.inl ⟨rfl, rfl⟩, trivial⟩, trivial⟩
  · rename_i h8
    have hp : precS (refsS l').2 e = .ok (⟨[], none⟩, (refsS l').2) := by simp only [precS, h8]
    repeat' ((conv => whnf); first | refine xB ?_ | refine xY ?_ | refine xN ?_ | refine sM ?_ ?_ <;> intro _)
    all_goals (conv => whnf)
    have ha : (acc ++ [ProdS.mk left (refsS l').1 ⟨[], none⟩]).length = acc.length + 1 := by simp
    refine AppG.row1 ((acc ++ [ProdS.mk left (refsS l').1 ⟨[], none⟩]).map prodCells) (prod_len _).symm rfl ?_ (by decide) ⟨rfl, ?_, ?_⟩
    · rw [prod_len]; simp only; omega
    · rw [List.map_append]; rfl
    repeat' ((conv => whnf); first | refine xB ?_ | refine xY ?_ | refine xN ?_ | refine sM ?_ ?_ <;> intro _)
    all_goals (conv => whnf)
    refine callM (yaccNext (refsS l').2 e [11] (by decide)) ⟨rfl, trivial⟩ rfl ?_
    repeat' ((conv => whnf); first | refine xB ?_ | refine xY ?_ | refine xN ?_ | refine sM ?_ ?_ <;> intro _)
    all_goals (conv => whnf)
    · rename_i hn
      obtain ⟨t1, r1, e1, g1, g2⟩ := nextS_take (e := e) hn
      refine callM (takeOk (p := (refOf t1, r1)) g1 (by decide)) ⟨rfl, trivial⟩ rfl ?_
      have hl1 : r1.length + 1 = (refsS l').2.length := by rw [e1]; rfl
      repeat' ((conv => whnf); first | refine xB ?_ | refine xY ?_ | refine xN ?_ | refine sM ?_ ?_ <;> intro _)
      all_goals (conv => whnf)
      refine GotoG.again ⟨r1, acc ++ [ProdS.mk left (refsS l').1 ⟨[], none⟩]⟩ ⟨⟨n, ?_, ?_⟩, ?_⟩ ?_ ⟨⟨rfl, congrArg (D.row 2) ha.symm, rfl, trivial⟩, rfl, rfl, rfl, trivial⟩
      · rw [← h1]; simp only [groupGo, hp, hn, g1]
      all_goals simp only
      all_goals omega
    · rename_i hn
      cases hq : takeS (refsS l').2 e [12] with
      | error w =>
        obtain rfl : R = .error w := by rw [← h1]; simp only [groupGo, hp, hn, hq]
        refine callM (takeBad hq (by decide)) ⟨rfl, trivial⟩ rfl ?_
        conv => whnf
        exact ⟨_, rfl, Or.inl ⟨rfl, rfl⟩⟩
      | ok q =>
        obtain rfl : R = .ok (acc ++ [ProdS.mk left (refsS l').1 ⟨[], none⟩], q.2) := by rw [← h1]; simp only [groupGo, hp, hn, hq]
        refine callM (takeOk hq (by decide)) ⟨rfl, trivial⟩ rfl ?_
        repeat' ((conv => whnf); first | refine xB ?_ | refine xY ?_ | refine xN ?_ | refine sM ?_ ?_ <;> intro _)
        all_goals (conv => whnf)
        refine ⟨Or.inl ⟨congrArg (D.row 2) ha.symm, rfl⟩, rfl, ⟨Or.inl ⟨rfl, rfl⟩, Or.inl ⟨rfl, rfl⟩, trivial⟩, trivial⟩
end Tryz
end Go.Dm
namespace Go.Dm
structure SourceS where
  decls : List DeclS
  prods : List ProdS
def sourceCells (s : SourceS) : List D := [.list 2 (s.decls.map declCells), .list 5 (s.prods.map prodCells)]
def moreS (l : List TokP) : Bool := match l with
  | [] => false
  | _ :: _ => match nextS l [9] with
    | true => false
    | false => true
def declsGo : Nat → List TokP → Nat × Nat → List DeclS → Except Wr (List DeclS × List TokP)
  | 0, l, _, acc => .ok (acc, l)
  | n + 1, l, e, acc => match moreS l with
    | false => .ok (acc, l)
    | true => match declS l e with
      | .error w => .error w
      | .ok p => declsGo n p.2 e (acc ++ [p.1])
def groupsGo : Nat → List TokP → Nat × Nat → List ProdS → Except Wr (List ProdS × List TokP)
  | 0, l, _, acc => .ok (acc, l)
  | n + 1, l, e, acc => match moreS l with
    | false => .ok (acc, l)
    | true => match groupS l e with
      | .error w => .error w
      | .ok p => groupsGo n p.2 e (acc ++ p.1)
def endS (l : List TokP) (e : Nat × Nat) : Except Wr (List TokP) := match nextS l [9] with
  | true => match takeS l e [9] with
    | .error w => .error w
    | .ok p => .ok p.2
  | false => .ok l
def lastS (l : List TokP) (e : Nat × Nat) : Except Wr (List TokP) := match endS l e with
  | .error w => .error w
  | .ok l => match l with
    | [] => .ok []
    | t :: r => match takeS (t :: r) e [] with
      | .error w => .error w
      | .ok p => .ok p.2
def sourceS (l : List TokP) (e : Nat × Nat) : Except Wr (SourceS × List TokP) := match declsGo (l.length + 1) l e [] with
  | .error w => .error w
  | .ok p => match takeS p.2 e [9] with
    | .error w => .error w
    | .ok q => match groupS q.2 e with
      | .error w => .error w
      | .ok g => match groupsGo (g.2.length + 1) g.2 e g.1 with
        | .error w => .error w
        | .ok h => match lastS h.2 e with
          | .error w => .error w
          | .ok r => .ok (⟨p.1, h.1⟩, r)
theorem declS_len {l : List TokP} {e : Nat × Nat} {p : DeclS × List TokP} (h : declS l e = .ok p) : p.2.length + 2 ≤ l.length ∧ p.1.names.length + p.2.length + 1 ≤ l.length := by
  unfold declS at h
  cases ht : takeS l e [3, 4, 5, 6, 7] with
  | error w => rw [ht] at h; cases h
  | ok a =>
    have h1 := takeS_len ht
    rw [ht] at h
    simp only at h
    split at h
    · cases hq : takeS a.2 e [1] with
      | error w => rw [hq] at h; cases h
      | ok q =>
        have h2 := takeS_len hq
        rw [hq] at h
        injection h with h; subst h
        simp only [List.length_cons, List.length_nil]; omega
    · cases hq : takeS a.2 e [1, 2] with
      | error w => rw [hq] at h; cases h
      | ok q =>
        have h2 := takeS_len hq
        have h3 := refsS_len q.2
        rw [hq] at h
        injection h with h; subst h
        simp only [List.length_cons]; omega
theorem precS_len {l : List TokP} {e : Nat × Nat} {p : RefS × List TokP} (h : precS l e = .ok p) : p.2.length ≤ l.length := by
  unfold precS at h
  split at h
  · cases hq : takeS l e [8] with
    | error w => rw [hq] at h; cases h
    | ok q =>
      rw [hq] at h
      have := takeS_len hq
      have := takeS_len h
      omega
  · injection h with h; subst h; exact Nat.le_refl _
theorem groupGo_len : ∀ (n : Nat) (left : RefS) (l : List TokP) (e : Nat × Nat) (acc : List ProdS) {p : List ProdS × List TokP}, l.length < n → groupGo n left l e acc = .ok p → p.2.length + 1 ≤ l.length ∧ p.1.length + p.2.length ≤ acc.length + l.length
  | 0, _, _, _, _, _, h, _ => by omega
  | n + 1, left, l, e, acc, p, hn, h => by
    have hr := refsS_len l
    simp only [groupGo] at h
    cases hp : precS (refsS l).2 e with
    | error w => rw [hp] at h; cases h
    | ok a =>
      have h1 := precS_len hp
      rw [hp] at h
      simp only at h
      split at h
      · cases hq : takeS a.2 e [11] with
        | error w => rw [hq] at h; cases h
        | ok q =>
          have h2 := takeS_len hq
          rw [hq] at h
          have := groupGo_len n left q.2 e _ (by omega) h
          simp only [List.length_append, List.length_cons, List.length_nil] at this
          omega
      · cases hq : takeS a.2 e [12] with
        | error w => rw [hq] at h; cases h
        | ok q =>
          have h2 := takeS_len hq
          rw [hq] at h
          injection h with h; subst h
          simp only [List.length_append, List.length_cons, List.length_nil]
          omega
theorem groupS_len {l : List TokP} {e : Nat × Nat} {p : List ProdS × List TokP} (h : groupS l e = .ok p) : p.2.length + 3 ≤ l.length ∧ p.1.length + p.2.length + 2 ≤ l.length := by
  unfold groupS at h
  cases ht : takeS l e [1] with
  | error w => rw [ht] at h; cases h
  | ok a =>
    have h1 := takeS_len ht
    rw [ht] at h
    simp only at h
    cases hq : takeS a.2 e [10] with
    | error w => rw [hq] at h; cases h
    | ok q =>
      have h2 := takeS_len hq
      rw [hq] at h
      have := groupGo_len _ _ _ _ _ (Nat.lt_succ_self _) h
      simp only [List.length_nil] at this
      omega
theorem groupGo_ne : ∀ (n : Nat) (left : RefS) (l : List TokP) (e : Nat × Nat) (acc : List ProdS) {p : List ProdS × List TokP}, l.length < n → groupGo n left l e acc = .ok p → p.1 ≠ []
  | 0, _, _, _, _, _, h, _ => by omega
  | n + 1, left, l, e, acc, p, hn, h => by
    have hr := refsS_len l
    simp only [groupGo] at h
    cases hp : precS (refsS l).2 e with
    | error w => rw [hp] at h; cases h
    | ok a =>
      have h1 := precS_len hp
      rw [hp] at h
      simp only at h
      split at h
      · cases hq : takeS a.2 e [11] with
        | error w => rw [hq] at h; cases h
        | ok q =>
          have h2 := takeS_len hq
          rw [hq] at h
          exact groupGo_ne n left q.2 e _ (by omega) h
      · cases hq : takeS a.2 e [12] with
        | error w => rw [hq] at h; cases h
        | ok q =>
          rw [hq] at h
          injection h with h; subst h
          simp
theorem groupS_ne {l : List TokP} {e : Nat × Nat} {p : List ProdS × List TokP} (h : groupS l e = .ok p) : p.1 ≠ [] := by
  unfold groupS at h
  cases ht : takeS l e [1] with
  | error w => rw [ht] at h; cases h
  | ok a =>
    rw [ht] at h
    simp only at h
    cases hq : takeS a.2 e [10] with
    | error w => rw [hq] at h; cases h
    | ok q =>
      rw [hq] at h
      exact groupGo_ne _ _ _ _ _ (Nat.lt_succ_self _) h
theorem decl_len (l : List DeclS) : (l.map declCells).length = l.length := by simp
namespace Tryz
open Go.Proofs
theorem declOk {l : List TokP} {e : Nat × Nat} {p : DeclS × List TokP} (h : declS l e = .ok p) (hl : l.length ≤ 4000) : PCall Tryz.prog 121 (yrM l e) [.ref 1000 0] (.ret (.agg (declCells p.1)) (yrM p.2 e)) := by
  have := yaccDecl l e hl
  rwa [h] at this
theorem declBad {l : List TokP} {e : Nat × Nat} {w : Wr} (h : declS l e = .error w) (hl : l.length ≤ 4000) : PCall Tryz.prog 121 (yrM l e) [.ref 1000 0] (.pan (yWr w)) := by
  have := yaccDecl l e hl
  rwa [h] at this
theorem groupOk {l : List TokP} {e : Nat × Nat} {p : List ProdS × List TokP} (h : groupS l e = .ok p) (hl : l.length ≤ 4000) : PCall Tryz.prog 123 (yrM l e) [.ref 1000 0] (.ret (.row 2 p.1.length) ((2, .row 143 5 (p.1.map prodCells)) :: yrM p.2 e)) := by
  have := yaccGroup l e hl
  rwa [h] at this
theorem groupBad {l : List TokP} {e : Nat × Nat} {w : Wr} (h : groupS l e = .error w) (hl : l.length ≤ 4000) : PCall Tryz.prog 123 (yrM l e) [.ref 1000 0] (.pan (yWr w)) := by
  have := yaccGroup l e hl
  rwa [h] at this
structure DcSt where
  l : List TokP
  acc : List DeclS
set_option maxHeartbeats 4000000 in
theorem yaccSource (l : List TokP) (e : Nat × Nat) (hl : l.length ≤ 4000) : PCall Tryz.prog 93 (yrM l e) [.ref 1000 0] (exO yWr (fun p => .ret (.agg (sourceCells p.1)) (yrM p.2 e)) (sourceS l e)) := by
  generalize hS : sourceS l e = S
  generalize hR : declsGo (l.length + 1) l e [] = R
  refine pcall_of (news := [2, 43]) cxOK Tryz.func93 rfl Tryz.ntmps93 rfl rfl rfl (by decide) ?_
  repeat' ((conv => whnf); first | refine xB ?_ | refine xY ?_ | refine xN ?_ | refine sM ?_ ?_ <;> intro _)
  all_goals (conv => whnf)
  refine LoopW.to (ι := DcSt) (fun s => (∃ n, declsGo n s.l e s.acc = R ∧ s.l.length < n) ∧ s.l.length + s.acc.length ≤ 4000) (fun s => s.l.length)
    (fun s => [(0, .ref 1000 0), (2, .ref 2 0)]) (fun s => (2, .cells [.row 60 s.acc.length, .v (.slice none 0 0)]) :: (60, .row 138 2 (s.acc.map declCells)) :: yrM s.l e)
    [⟨60, 138, 2, 1002000⟩] ⟨l, []⟩ ⟨⟨_, hR, Nat.lt_succ_self _⟩, by simp; omega⟩ ⟨rfl, rfl, ⟨rfl, rfl, trivial⟩, rfl, rfl, rfl, trivial⟩ ?_
  rintro ⟨l', acc⟩ ⟨⟨n, h1, h2⟩, h3⟩
  simp only at h1 h2 h3
  obtain ⟨n, rfl⟩ : ∃ k, n = k + 1 := ⟨n - 1, by omega⟩
  cases l' with
  | nil =>
    obtain rfl : R = .ok (acc, []) := by rw [← h1]; rfl
    obtain rfl : S = .error (some e, 4) := by rw [← hS]; simp only [sourceS, hR, takeS]
    repeat' ((conv => whnf); first | refine xB ?_ | refine xY ?_ | refine xN ?_ | refine sM ?_ ?_ <;> intro _)
    all_goals (conv => whnf)
    refine callM (takeBad (l := []) (e := e) (ks := [9]) rfl (by decide)) ⟨rfl, trivial⟩ rfl ?_
    conv => whnf
    exact ⟨_, rfl, Or.inl ⟨rfl, rfl⟩⟩
  | cons t r =>
  repeat' ((conv => whnf); first | refine xB ?_ | refine xY ?_ | refine xN ?_ | refine sM ?_ ?_ <;> intro _)
  all_goals (conv => whnf)
  case refine_2 => rename_i h; have := decF h; simp at this
  refine callM (yaccNext (t :: r) e [9] (by decide)) ⟨rfl, trivial⟩ rfl ?_
  repeat' ((conv => whnf); first | refine xB ?_ | refine xY ?_ | refine xN ?_ | refine sM ?_ ?_ <;> intro _)
  all_goals (conv => whnf)
  · rename_i hn
    have hn : nextS (t :: r) [9] = false := notT hn
    have hm : moreS (t :: r) = true := by simp only [moreS, hn]
    cases hd : declS (t :: r) e with
    | error w =>
      obtain rfl : R = .error w := by rw [← h1]; simp only [declsGo, hm, hd]
      obtain rfl : S = .error w := by rw [← hS]; simp only [sourceS, hR]
      refine callM (declBad hd (by omega)) ⟨rfl, trivial⟩ rfl ?_
      repeat' ((conv => whnf); first | refine xB ?_ | refine xY ?_ | refine xN ?_ | refine sM ?_ ?_ <;> intro _)
      all_goals (conv => whnf)
      refine ⟨⟨_, rfl, Or.inl ⟨rfl, rfl⟩⟩, ?_⟩
      repeat' ((conv => whnf); first | refine xB ?_ | refine xY ?_ | refine xN ?_ | refine sM ?_ ?_ <;> intro _)
      all_goals (conv => whnf)
      exact ⟨rfl, trivial⟩
    | ok p =>
      have hdl := declS_len hd
      refine callM (declOk hd (by omega)) ⟨rfl, trivial⟩ rfl ?_
      repeat' ((conv => whnf); first | refine xB ?_ | refine xY ?_ | refine xN ?_ | refine sM ?_ ?_ <;> intro _)
      all_goals (conv => whnf)
      have ha : (acc ++ [p.1]).length = acc.length + 1 := by simp
      refine AppG.row1 ((acc ++ [p.1]).map declCells) (decl_len _).symm rfl ?_ (by decide) ⟨rfl, ?_, ?_⟩
      · rw [decl_len]; simp only; omega
      · rw [List.map_append]; rfl
      repeat' ((conv => whnf); first | refine xB ?_ | refine xY ?_ | refine xN ?_ | refine sM ?_ ?_ <;> intro _)
      all_goals (conv => whnf)
      refine ⟨rfl, ?_⟩
      repeat' ((conv => whnf); first | refine xB ?_ | refine xY ?_ | refine xN ?_ | refine sM ?_ ?_ <;> intro _)
      all_goals (conv => whnf)
      refine NextG.to ⟨p.2, acc ++ [p.1]⟩ ⟨⟨n, ?_, ?_⟩, ?_⟩ ?_ ⟨⟨rfl, rfl, trivial⟩, congrArg (fun n => some (Ob.cells [D.row 60 n, D.v (.slice none 0 0)])) ha.symm, rfl, rfl, trivial⟩
      · rw [← h1]; simp only [declsGo, hm, hd]
      all_goals simp only
      all_goals omega
  · rename_i hn
    have hn : nextS (t :: r) [9] = true := notF hn
    have hm : moreS (t :: r) = false := by simp only [moreS, hn]
    obtain rfl : R = .ok (acc, t :: r) := by rw [← h1]; simp only [declsGo, hm]
    obtain ⟨t1, r1, e1, g1, g2⟩ := nextS_take (e := e) hn
    injection e1 with e1 e2
    subst e1; subst e2
    refine callM (takeOk g1 (by decide)) ⟨rfl, trivial⟩ rfl ?_
    repeat' ((conv => whnf); first | refine xB ?_ | refine xY ?_ | refine xN ?_ | refine sM ?_ ?_ <;> intro _)
    all_goals (conv => whnf)
    cases hg : groupS r e with
    | error w =>
      obtain rfl : S = .error w := by rw [← hS]; simp only [sourceS, hR, g1, hg]
      refine callM (groupBad hg (by simp only [List.length_cons] at h3; omega)) ⟨rfl, trivial⟩ rfl ?_
      conv => whnf
      exact ⟨_, rfl, Or.inl ⟨rfl, rfl⟩⟩
    | ok g =>
      have hgl := groupS_len hg
      refine callM ((groupOk hg (by simp only [List.length_cons] at h3; omega)).swap 2 61) ⟨rfl, trivial⟩ rfl ?_
      repeat' ((conv => whnf); first | refine xB ?_ | refine xY ?_ | refine xN ?_ | refine sM ?_ ?_ <;> intro _)
      all_goals (conv => whnf)
      have hlr : (t :: r).length ≤ 4000 := by omega
      simp only [List.length_cons] at hlr
      generalize hQ : groupsGo (g.2.length + 1) g.2 e g.1 = Q
      have hS1 : ∀ w, Q = .error w → S = .error w := fun w hw => by rw [← hS]; simp only [sourceS, hR, g1, hg, hQ, hw]
      have hS2 : ∀ h w, Q = .ok h → lastS h.2 e = .error w → S = .error w := fun h w hw hl => by rw [← hS]; simp only [sourceS, hR, g1, hg, hQ, hw, hl]
      have hS3 : ∀ h l, Q = .ok h → lastS h.2 e = .ok l → S = .ok (⟨acc, h.1⟩, l) := fun h l hw hl => by rw [← hS]; simp only [sourceS, hR, g1, hg, hQ, hw, hl]
      clear hS
      refine LoopW.to (ι := GrSt) (fun s => (∃ n, groupsGo n s.l e s.acc = Q ∧ s.l.length < n) ∧ s.l.length + s.acc.length ≤ 4000) (fun s => s.l.length)
        (fun s => [(0, .ref 1000 0), (2, .ref 2 0)]) (fun s => (2, .cells [.row 60 acc.length, .row 61 s.acc.length]) :: (60, .row 138 2 (acc.map declCells)) :: (61, .row 143 5 (s.acc.map prodCells)) :: yrM s.l e)
        [] ⟨g.2, g.1⟩ ⟨⟨_, hQ, Nat.lt_succ_self _⟩, by simp only; omega⟩ ⟨⟨rfl, rfl, trivial⟩, rfl, rfl, rfl, rfl, trivial⟩ ?_
      rintro ⟨l2, acc2⟩ ⟨⟨n2, k1, k2⟩, k3⟩
      simp only at k1 k2 k3
      obtain ⟨n2, rfl⟩ : ∃ k, n2 = k + 1 := ⟨n2 - 1, by omega⟩
      have hres : ∀ {ids : List Nat} {M : Mem}, get M 60 = some (.row 138 2 (acc.map declCells)) → get M 61 = some (.row 143 5 (acc2.map prodCells)) → ResS ids M (.agg [.row 60 acc.length, .row 61 acc2.length]) (.agg (sourceCells ⟨acc, acc2⟩)) :=
        fun h1 h2 => ResS.pur (.agg (.cons (.row h1 (take_map_all _ _)) (.cons (.row h2 (take_map_all _ _)) .nil))) (by intro x h; cases h)
      cases l2 with
      | nil =>
        have hq : Q = .ok (acc2, []) := by rw [← k1]; rfl
        obtain rfl := hS3 _ [] hq rfl
        repeat' ((conv => whnf); first | refine xB ?_ | refine xY ?_ | refine xN ?_ | refine sM ?_ ?_ <;> intro _)
        all_goals (conv => whnf)
        refine callM (yaccNext [] e [9] (by decide)) ⟨rfl, trivial⟩ rfl ?_
        repeat' ((conv => whnf); first | refine xB ?_ | refine xY ?_ | refine xN ?_ | refine sM ?_ ?_ <;> intro _)
        all_goals (conv => whnf)
        exact ⟨hres rfl rfl, ⟨Or.inl ⟨rfl, rfl⟩, Or.inl ⟨rfl, rfl⟩, trivial⟩, trivial⟩
      | cons t2 r2 =>
      repeat' ((conv => whnf); first | refine xB ?_ | refine xY ?_ | refine xN ?_ | refine sM ?_ ?_ <;> intro _)
      all_goals (conv => whnf)
      case refine_2 => rename_i h; have := decF h; simp at this
      refine callM (yaccNext (t2 :: r2) e [9] (by decide)) ⟨rfl, trivial⟩ rfl ?_
      repeat' ((conv => whnf); first | refine xB ?_ | refine xY ?_ | refine xN ?_ | refine sM ?_ ?_ <;> intro _)
      all_goals (conv => whnf)
      · rename_i hn2
        have hn2 : nextS (t2 :: r2) [9] = false := notT hn2
        have hm2 : moreS (t2 :: r2) = true := by simp only [moreS, hn2]
        cases hd : groupS (t2 :: r2) e with
        | error w =>
          obtain rfl := hS1 w (by rw [← k1]; simp only [groupsGo, hm2, hd])
          refine callM (groupBad hd (by omega)) ⟨rfl, trivial⟩ rfl ?_
          repeat' ((conv => whnf); first | refine xB ?_ | refine xY ?_ | refine xN ?_ | refine sM ?_ ?_ <;> intro _)
          all_goals (conv => whnf)
          refine ⟨⟨_, rfl, Or.inl ⟨rfl, rfl⟩⟩, ?_⟩
          repeat' ((conv => whnf); first | refine xB ?_ | refine xY ?_ | refine xN ?_ | refine sM ?_ ?_ <;> intro _)
          all_goals (conv => whnf)
          exact ⟨rfl, trivial⟩
        | ok p =>
          have hdl := groupS_len hd
          have hne := groupS_ne hd
          refine callM ((groupOk hd (by omega)).swap 2 43) ⟨rfl, trivial⟩ rfl ?_
          repeat' ((conv => whnf); first | refine xB ?_ | refine xY ?_ | refine xN ?_ | refine sM ?_ ?_ <;> intro _)
          all_goals (conv => whnf)
          have ha : (acc2 ++ p.1).length = acc2.length + p.1.length := by simp
          refine AppG.rows (acc2.length + p.1.length) ((acc2 ++ p.1).map prodCells) (prod_len _).symm ?_ ?_ (by decide) ?_ ⟨?_, ?_, ?_⟩
          · rw [take_map_all]
            intro r hr
            obtain ⟨x, _, rfl⟩ := List.mem_map.1 hr
            rfl
          · rw [take_map_all, prod_len, prod_len]; simp only; omega
          · rw [take_map_all]
            intro h
            exact hne (List.map_eq_nil_iff.1 h)
          · rw [take_map_all, prod_len]
          · rw [take_map_all, List.map_append]
          repeat' ((conv => whnf); first | refine xB ?_ | refine xY ?_ | refine xN ?_ | refine sM ?_ ?_ <;> intro _)
          all_goals (conv => whnf)
          refine ⟨rfl, ?_⟩
          repeat' ((conv => whnf); first | refine xB ?_ | refine xY ?_ | refine xN ?_ | refine sM ?_ ?_ <;> intro _)
          all_goals (conv => whnf)
          refine NextG.to ⟨p.2, acc2 ++ p.1⟩ ⟨⟨n2, ?_, ?_⟩, ?_⟩ ?_ ⟨⟨rfl, rfl, trivial⟩, congrArg (fun n => some (Ob.cells [D.row 60 acc.length, D.row 61 n])) ha.symm, rfl, rfl, rfl, trivial⟩
          · rw [← k1]; simp only [groupsGo, hm2, hd]
          all_goals simp only
          all_goals omega
      · rename_i hn2
        have hn2 : nextS (t2 :: r2) [9] = true := notF hn2
        have hm2 : moreS (t2 :: r2) = false := by simp only [moreS, hn2]
        have hq : Q = .ok (acc2, t2 :: r2) := by rw [← k1]; simp only [groupsGo, hm2]
        obtain ⟨t1, r1, e1, j1, j2⟩ := nextS_take (e := e) hn2
        injection e1 with e1 e2
        subst e1; subst e2
        refine callM (yaccNext (t2 :: r2) e [9] (by decide)) ⟨rfl, trivial⟩ rfl ?_
        repeat' ((conv => whnf); first | refine xB ?_ | refine xY ?_ | refine xN ?_ | refine sM ?_ ?_ <;> intro _)
        all_goals (conv => whnf)
        all_goals try (rename_i h _; rw [hn2] at h; cases h; done)
        refine callM (takeOk j1 (by decide)) ⟨rfl, trivial⟩ rfl ?_
        have hend : endS (t2 :: r2) e = .ok r2 := by simp only [endS, hn2, j1]
        cases r2 with
        | nil =>
          obtain rfl := hS3 _ [] hq (by simp only [lastS, hend])
          repeat' ((conv => whnf); first | refine xB ?_ | refine xY ?_ | refine xN ?_ | refine sM ?_ ?_ <;> intro _)
          all_goals (conv => whnf)
          exact ⟨hres rfl rfl, ⟨Or.inl ⟨rfl, rfl⟩, Or.inl ⟨rfl, rfl⟩, trivial⟩, trivial⟩
        | cons t3 r3 =>
          obtain rfl := hS2 _ (some t3.at', 3) hq (by simp only [lastS, hend]; rfl)
          repeat' ((conv => whnf); first | refine xB ?_ | refine xY ?_ | refine xN ?_ | refine sM ?_ ?_ <;> intro _)
          all_goals (conv => whnf)
          case refine_2 => rename_i h; have := decF h; simp at this
          refine callA (.keep (.nilL (.refl _ _))) (takeBad (l := t3 :: r3) (e := e) (ks := []) (w := (some t3.at', 3)) rfl (by decide)) ⟨rfl, trivial⟩ rfl ?_
          conv => whnf
          exact ⟨_, rfl, Or.inl ⟨rfl, rfl⟩⟩
end Tryz
end Go.Dm
namespace Go.Dm
section
variable {P : Program} {t : TypeId} {ms : Array (String × TypeId)}
theorem run_equalIn_iface {w : World} (d : Nat) (hu : P.underlying t = some (.interface ms)) (s : TypeId) (y : Value) : (Op.equalIn (d + 1) t (.iface s y) .nilIface).run P w = .ok false w := by
  simp [Op.equalIn, run_underlying hu]
theorem run_equalIn_nil {w : World} (d : Nat) (hu : P.underlying t = some (.interface ms)) : (Op.equalIn (d + 1) t .nilIface .nilIface).run P w = .ok true w := by
  simp [Op.equalIn, run_underlying hu]
theorem bs_ifaceNe (hu : P.underlying t = some (.interface ms)) {x : Operand} {s : TypeId} {d : D} : BinSem P .neq t x (.const .nilIface) (.iface s d) (.v .nilIface) (.v (.bool true)) := by
  rintro E w u v ⟨y, rfl, h1⟩ hv
  obtain rfl : v = _ := hv
  refine ⟨run_eqGuard_other P w (by simp) (by simp), .bool true, ?_, rfl⟩
  have := run_equalIn_iface (P := P) (w := w) 9999 hu s y
  simp only [binOp, Op.equal, Op.maxDepth, Sem.run_bind, this, Result.andThen_ok]
  rfl
theorem bs_nilNe (hu : P.underlying t = some (.interface ms)) {x : Operand} : BinSem P .neq t x (.const .nilIface) (.v .nilIface) (.v .nilIface) (.v (.bool false)) := by
  intro E w u v hx hv
  obtain rfl : u = _ := hx
  obtain rfl : v = _ := hv
  refine ⟨by simp [eqGuard], .bool false, ?_, rfl⟩
  have := run_equalIn_nil (P := P) (w := w) 9999 hu
  simp only [binOp, Op.equal, Op.maxDepth, Sem.run_bind, this, Result.andThen_ok]
  rfl
end
def outT {α : Type} (f : α → D) (z : D) (r : Except Wr α) : D := match r with
  | .ok a => .tup [f a, .v noPl, .v (.int .i64 0)]
  | .error w => .tup [z, .v (plO w.1), .v (.int .i64 w.2)]
def nilD : D := .v (.slice none 0 0)
def ofS (l : List TokP) (e : Nat × Nat) : Except Wr SourceS := match sourceS l e with
  | .ok p => .ok p.1
  | .error w => .error w
namespace Tryz
open Go.Proofs
theorem ofClosure (w : Wr) : DCall Tryz.prog 92 (some (yWr w)) [(1006, .cells [.v (.int .i64 0)]), (1005, .cells [.v noPl]), (1004, .cells [nilD, nilD])] [.ref 1004 0, .ref 1005 0, .ref 1006 0]
    [(1006, .cells [.v (.int .i64 w.2)]), (1005, .cells [.v (plO w.1)]), (1004, .cells [nilD, nilD])] := by
  refine dcall_of (news := [4]) cxOK Tryz.func92 rfl Tryz.ntmps92 rfl rfl rfl rfl rfl (by decide) ?_
  repeat' ((conv => whnf); first | refine xB ?_ | refine xY ?_ | refine xN ?_ | refine sM ?_ ?_ <;> intro _)
  all_goals (conv => whnf)
  refine BinG.to (.v (.bool true)) (bs_ifaceNe Tryz.underlying20) ?_
  repeat' ((conv => whnf); first | refine xB ?_ | refine xY ?_ | refine xN ?_ | refine sM ?_ ?_ <;> intro _)
  all_goals (conv => whnf)
  refine ⟨rfl, ?_⟩
  repeat' ((conv => whnf); first | exact trivial | refine xB ?_ | refine xY ?_ | refine xN ?_ | refine sM ?_ ?_ <;> intro _ | refine xC ?_ | refine And.intro ?_ ?_ | exact Or.inl ⟨rfl, rfl⟩ | exact rfl)
  all_goals (conv => whnf)
theorem ofClosure0 (x y : List (List D)) : DCall Tryz.prog 92 none [(1006, .cells [.v (.int .i64 0)]), (1005, .cells [.v noPl]), (1004, .cells [.list 2 x, .list 5 y])] [.ref 1004 0, .ref 1005 0, .ref 1006 0]
    [(1006, .cells [.v (.int .i64 0)]), (1005, .cells [.v noPl]), (1004, .cells [.list 2 x, .list 5 y])] := by
  refine dcall_of (news := [4]) cxOK Tryz.func92 rfl Tryz.ntmps92 rfl rfl rfl rfl rfl (by decide) ?_
  repeat' ((conv => whnf); first | refine xB ?_ | refine xY ?_ | refine xN ?_ | refine sM ?_ ?_ <;> intro _)
  all_goals (conv => whnf)
  refine BinG.to (.v (.bool false)) (bs_nilNe Tryz.underlying20) ?_
  repeat' ((conv => whnf); first | exact trivial | refine xB ?_ | refine xY ?_ | refine xN ?_ | refine sM ?_ ?_ <;> intro _ | refine xC ?_ | refine And.intro ?_ ?_ | exact Or.inl ⟨rfl, rfl⟩ | exact rfl)
  all_goals (conv => whnf)
def ofD (r : Except Wr SourceS) : D := outT (fun s => .agg (sourceCells s)) (.agg [nilD, nilD]) r
theorem yaccOf (l : List TokP) (e : Nat × Nat) (hl : l.length ≤ 4000) : PCall Tryz.prog 68 [] [.list 3 (l.map tokRow), .v (pl e.1 e.2)] (.ret (ofD (ofS l e)) []) := by
  refine pcall_defer (news := [4, 5, 6, 12]) cxOK Tryz.func68 rfl Tryz.ntmps68 rfl rfl rfl rfl (by decide) ?_
  repeat' ((conv => whnf); first | refine xB ?_ | refine xY ?_ | refine xN ?_ | refine sM ?_ ?_ <;> intro _)
  all_goals (conv => whnf)
  cases hs : sourceS l e with
  | error w =>
    have h := yaccSource l e hl
    rw [hs] at h
    rw [show ofS l e = .error w from by simp only [ofS, hs]]
    refine callM (h.swap 1000 12) ⟨rfl, trivial⟩ rfl ?_
    conv => whnf
    refine ⟨rfl, DefEnd.to ((((ofClosure w).swap 1006 6).swap 1005 5).swap 1004 4) rfl ⟨rfl, rfl, rfl, trivial⟩ ?_⟩
    repeat' ((conv => whnf); first | exact trivial | refine xB ?_ | refine xY ?_ | refine xN ?_ | refine sM ?_ ?_ <;> intro _ | refine xC ?_ | refine And.intro ?_ ?_ | exact Or.inl ⟨rfl, rfl⟩ | exact rfl)
    all_goals (conv => whnf)
  | ok p =>
    have h := yaccSource l e hl
    rw [hs] at h
    rw [show ofS l e = .ok p.1 from by simp only [ofS, hs]]
    refine callM (h.swap 1000 12) ⟨rfl, trivial⟩ rfl ?_
    repeat' ((conv => whnf); first | refine xB ?_ | refine xY ?_ | refine xN ?_ | refine sM ?_ ?_ <;> intro _)
    all_goals (conv => whnf)
    refine DefEnd.to ((((ofClosure0 (p.1.decls.map declCells) (p.1.prods.map prodCells)).swap 1006 6).swap 1005 5).swap 1004 4) rfl ⟨rfl, rfl, rfl, trivial⟩ ?_
    repeat' ((conv => whnf); first | exact trivial | refine xB ?_ | refine xY ?_ | refine xN ?_ | refine sM ?_ ?_ <;> intro _ | refine xC ?_ | refine And.intro ?_ ?_ | exact Or.inl ⟨rfl, rfl⟩ | exact rfl)
    all_goals (conv => whnf)
end Tryz
end Go.Dm
namespace Go.Dm
def idxS {α : Type} (p : α → Bool) : List α → Nat → Int
  | [], _ => -1
  | x :: r, i => match p x with
    | true => i
    | false => idxS p r (i + 1)
theorem idxS_drop {α : Type} {p : α → Bool} : ∀ (l : List α) (i j : Nat), (∀ q, q < j → ∀ c, l[q]? = some c → p c = false) → j ≤ l.length → idxS p l i = idxS p (l.drop j) (i + j)
  | [], i, j, _, hj => by simp [idxS]
  | x :: r, i, 0, _, _ => by simp
  | x :: r, i, j + 1, h, hj => by
    have h0 : p x = false := h 0 (by omega) x rfl
    simp only [idxS, h0, List.drop_succ_cons]
    rw [idxS_drop r (i + 1) j (fun q hq c hc => h (q + 1) (by omega) c (by simpa using hc)) (by simpa using hj)]
    congr 1; omega
theorem idxS_at {α : Type} {p : α → Bool} {l : List α} {j : Nat} {c : α} (h : ∀ q, q < j → ∀ c, l[q]? = some c → p c = false) (hj : l[j]? = some c) (hc : p c = true) : idxS p l 0 = j := by
  have hl := (List.getElem?_eq_some_iff.1 hj).1
  have e := (List.getElem?_eq_some_iff.1 hj).2
  rw [idxS_drop l 0 j h (by omega), List.drop_eq_getElem_cons hl]
  simp [idxS, e, hc]
theorem idxS_no {α : Type} {p : α → Bool} {l : List α} (h : ∀ q, q < l.length → ∀ c, l[q]? = some c → p c = false) : idxS p l 0 = -1 := by
  rw [idxS_drop l 0 _ h (Nat.le_refl _), List.drop_length]; rfl
theorem idx_ext {α : Type} {p : α → Bool} {l : List α} {i : Nat} (h : ∀ q, q < i → ∀ c, l[q]? = some c → p c = false) (hi : i < l.length) (hc : p l[i] = false) : ∀ q, q < i + 1 → ∀ c, l[q]? = some c → p c = false := by
  intro q hq c hcq
  by_cases hqi : q < i
  · exact h q hqi c hcq
  · obtain rfl : q = i := by omega
    rw [List.getElem?_eq_getElem hi] at hcq
    injection hcq with hcq
    subst hcq; exact hc
def strC (s : List UInt8) : List D := [.v (str s)]
def strsD (l : List (List UInt8)) : List (List D) := l.map strC
theorem strs_len (l : List (List UInt8)) : (strsD l).length = l.length := by simp [strsD]
theorem strs_get {l : List (List UInt8)} {j : Nat} {c : List UInt8} (h : l[j]? = some c) : (strsD l)[j]? = some (strC c) := by simp [strsD, h]
structure TermS where
  name : List UInt8
  level : Int
  assoc : Int
  deriving DecidableEq
def termCells (t : TermS) : List D := [.v (str t.name), .v (.int .i64 t.level), .v (.int .i64 t.assoc)]
def termsD (l : List TermS) : List (List D) := l.map termCells
theorem terms_len (l : List TermS) : (termsD l).length = l.length := by simp [termsD]
theorem terms_get {l : List TermS} {j : Nat} {c : TermS} (h : l[j]? = some c) : (termsD l)[j]? = some (termCells c) := by simp [termsD, h]
structure RuleS where
  left : Int
  right : List Int
  prec : Int
  deriving DecidableEq
def ruleCells (r : RuleS) : List D := [.v (.int .i64 r.left), .list 1 (ksD r.right), .v (.int .i64 r.prec)]
def rulesD (l : List RuleS) : List (List D) := l.map ruleCells
theorem rules_len (l : List RuleS) : (rulesD l).length = l.length := by simp [rulesD]
theorem rules_get {l : List RuleS} {j : Nat} {c : RuleS} (h : l[j]? = some c) : (rulesD l)[j]? = some (ruleCells c) := by simp [rulesD, h]
structure GramS where
  terms : List TermS
  nons : List (List UInt8)
  rules : List RuleS
  start : Int
def gramD (g : GramS) : D := .agg [.list 3 (termsD g.terms), .list 1 (strsD g.nons), .list 3 (rulesD g.rules), .v (.int .i64 g.start)]
def i64 (n : Int) : Prop := -9223372036854775808 ≤ n ∧ n ≤ 9223372036854775807
def hasS (g : GramS) (s : Int) : Bool := match decide (s < 0) with
  | true => decide (-1 - s < (g.nons.length : Int))
  | false => decide (s < (g.terms.length : Int))
def nameOf (g : GramS) (s : Int) : List UInt8 := match hasS g s with
  | false => []
  | true => match decide (s < 0) with
    | true => g.nons.getD (-1 - s).toNat []
    | false => match g.terms[s.toNat]? with
      | some t => t.name
      | none => []
def namedS (s : List UInt8) : Bool := NameS s || LiteralS s
def termIx (l : List TermS) (s : List UInt8) : Int := idxS (fun t => decide (t.name = s)) l 0
def strIx (l : List (List UInt8)) (s : List UInt8) : Int := idxS (fun x => decide (s = x)) l 0
theorem strIx_range (l : List (List UInt8)) (s : List UInt8) : -1 ≤ strIx l s ∧ strIx l s < (l.length : Int) := by
  have : ∀ (l : List (List UInt8)) (i : Nat), -1 ≤ idxS (fun x => decide (s = x)) l i ∧ idxS (fun x => decide (s = x)) l i < (l.length : Int) + i := by
    intro l
    induction l with
    | nil => intro i; simp [idxS]; omega
    | cons x r ih =>
      intro i
      have := ih (i + 1)
      by_cases h : s = x
      · simp [idxS, h]; omega
      · have e : idxS (fun x => decide (s = x)) (x :: r) i = idxS (fun x => decide (s = x)) r (i + 1) := by simp [idxS, h]
        rw [e, List.length_cons]; omega
  have := this l 0
  unfold strIx; omega
theorem termIx_range (l : List TermS) (s : List UInt8) : -1 ≤ termIx l s ∧ termIx l s < (l.length : Int) := by
  have : ∀ (l : List TermS) (i : Nat), -1 ≤ idxS (fun t : TermS => decide (t.name = s)) l i ∧ idxS (fun t : TermS => decide (t.name = s)) l i < (l.length : Int) + i := by
    intro l
    induction l with
    | nil => intro i; simp [idxS]; omega
    | cons x r ih =>
      intro i
      have := ih (i + 1)
      by_cases h : x.name = s
      · simp [idxS, h]; omega
      · have e : idxS (fun t : TermS => decide (t.name = s)) (x :: r) i = idxS (fun t : TermS => decide (t.name = s)) r (i + 1) := by simp [idxS, h]
        rw [e, List.length_cons]; omega
  have := this l 0
  unfold termIx; omega
namespace Tryz
open Go.Proofs
theorem cfgNon (s : Int) (h : i64 (-1 - s)) : PCall Tryz.prog 22 [] [.v (.int .i64 s)] (.ret (.v (.int .i64 (-1 - s))) []) := by
  refine pcall_of (news := []) cxOK Tryz.func22 rfl Tryz.ntmps22 rfl rfl rfl (by decide) ?_
  repeat' ((conv => whnf); first | refine xB ?_ | refine xY ?_ | refine xN ?_ | refine sM ?_ ?_ <;> intro _)
  all_goals (conv => whnf)
  refine KI.i64 (-1 - s) rfl h ?_
  repeat' ((conv => whnf); first | exact trivial | refine xB ?_ | refine xY ?_ | refine xN ?_ | refine sM ?_ ?_ <;> intro _ | refine xC ?_ | refine And.intro ?_ ?_ | exact Or.inl ⟨rfl, rfl⟩ | exact rfl)
  all_goals (conv => whnf)
theorem cfgHas (g : GramS) (s : Int) (h : i64 s) (hg : i64 g.terms.length ∧ i64 g.nons.length) : PCall Tryz.prog 9 [] [gramD g, .v (.int .i64 s)] (.ret (.v (.bool (hasS g s))) []) := by
  refine pcall_of (news := []) cxOK Tryz.func9 rfl Tryz.ntmps9 rfl rfl rfl (by decide) ?_
  repeat' ((conv => whnf); first | refine xB ?_ | refine xY ?_ | refine xN ?_ | refine sM ?_ ?_ <;> intro _)
  all_goals (conv => whnf)
  · rename_i hs
    have hs' := decT hs
    have hs : decide (s < 0) = true := hs
    refine call0 (cfgNon s (by unfold i64 at *; omega)) ?_
    repeat' ((conv => whnf); first | refine xB ?_ | refine xY ?_ | refine xN ?_ | refine sM ?_ ?_ <;> intro _)
    all_goals (conv => whnf)
    refine ⟨rfl, ?_⟩
    have : hasS g s = decide (-1 - s < ((strsD g.nons).length : Int)) := by simp only [hasS, hs, strs_len]
    rw [this]
    repeat' ((conv => whnf); first | exact trivial | refine xB ?_ | refine xY ?_ | refine xN ?_ | refine sM ?_ ?_ <;> intro _ | refine xC ?_ | refine And.intro ?_ ?_ | exact Or.inl ⟨rfl, rfl⟩ | exact rfl)
    all_goals (conv => whnf)
  · rename_i hs
    have hs : decide (s < 0) = false := hs
    have : hasS g s = decide (s < ((termsD g.terms).length : Int)) := by simp only [hasS, hs, terms_len]
    rw [this]
theorem strsIndex (l : List (List UInt8)) (s : List UInt8) (hl : l.length < 9223372036854775808) : PCall Tryz.prog 42 [] [.list 1 (strsD l), .v (str s)] (.ret (.v (.int .i64 (strIx l s))) []) := by
  generalize hR : strIx l s = R
  refine pcall_of (news := []) cxOK Tryz.func42 rfl Tryz.ntmps42 rfl rfl rfl (by decide) ?_
  conv => whnf
  refine LoopW.to (ι := Nat) (fun i => i ≤ l.length ∧ (∀ q, q < i → ∀ c, l[q]? = some c → decide (s = c) = false)) (fun i => l.length - i)
    (fun i => [(0, .list 1 (strsD l)), (1, .v (str s)), (7, .v (.int .i64 l.length)), (8, .v (.int .i64 i))]) (fun _ => []) [] 0 ⟨Nat.zero_le _, fun q h => by omega⟩ ⟨⟨rfl, rfl, congrArg (fun k : Nat => D.v (.int .i64 (k : Int))) (strs_len l), rfl, trivial⟩, trivial⟩ ?_
  rintro i ⟨h1, h2⟩
  repeat' ((conv => whnf); first | exact trivial | refine xB ?_ | refine xY ?_ | refine xN ?_ | refine sM ?_ ?_ <;> intro _ | refine xC ?_ | refine And.intro ?_ ?_ | exact Or.inl ⟨rfl, rfl⟩ | exact rfl)
  all_goals (conv => whnf)
  · rename_i h
    have h := decT h
    have hi : i < l.length := by omega
    have hg := List.getElem?_eq_getElem hi
    refine IdxG.to i (strC l[i]) rfl (strs_get hg) ?_
    repeat' ((conv => whnf); first | refine xB ?_ | refine xY ?_ | refine xN ?_ | refine sM ?_ ?_ <;> intro _)
    all_goals (conv => whnf)
    · rename_i h3
      have h3 : s = l[i] := strEq_iff.1 h3
      obtain rfl : R = i := by rw [← hR]; exact idxS_at h2 hg (by simpa using h3)
      trivial
    · rename_i h3
      have h3 : s ≠ l[i] := strEq_ff.1 h3
      refine KI.i64 ((i + 1 : Nat) : Int) (by simp) (by omega) ?_
      conv => whnf
      exact NextG.to (i + 1) ⟨by omega, idx_ext h2 hi (by simpa using h3)⟩ (by omega) ⟨⟨rfl, rfl, rfl, rfl, trivial⟩, trivial⟩
  · rename_i h
    have h := decF h
    have hi : i = l.length := by omega
    subst hi
    obtain rfl : R = -1 := by rw [← hR]; exact idxS_no h2
    trivial
theorem strsContains (l : List (List UInt8)) (s : List UInt8) (hl : l.length < 9223372036854775808) : PCall Tryz.prog 126 [] [.list 1 (strsD l), .v (str s)] (.ret (.v (.bool (decide (strIx l s ≥ 0)))) []) := by
  refine pcall_of (news := []) cxOK Tryz.func126 rfl Tryz.ntmps126 rfl rfl rfl (by decide) ?_
  conv => whnf
  refine call0 (strsIndex l s hl) ?_
  repeat' ((conv => whnf); first | exact trivial | refine xB ?_ | refine xY ?_ | refine xN ?_ | refine sM ?_ ?_ <;> intro _ | refine xC ?_ | refine And.intro ?_ ?_ | exact Or.inl ⟨rfl, rfl⟩ | exact rfl)
  all_goals (conv => whnf)
theorem terminal1 (t : TermS) (s : List UInt8) : PCall Tryz.prog 72 [] [.agg (termCells t), .ptr [.v (str s)]] (.ret (.v (.bool (decide (t.name = s)))) []) := by
  have : decide (t.name = s) = strEq ⟨t.name.toArray⟩ ⟨s.toArray⟩ := by
    by_cases h : t.name = s
    · rw [decide_eq_true h, strEq_iff.2 h]
    · rw [decide_eq_false h, strEq_ff.2 h]
  rw [this]
  refine pcall_of (news := []) cxOK Tryz.func72 rfl Tryz.ntmps72 rfl rfl rfl (by decide) ?_
  repeat' ((conv => whnf); first | exact trivial | refine xB ?_ | refine xY ?_ | refine xN ?_ | refine sM ?_ ?_ <;> intro _ | refine xC ?_ | refine And.intro ?_ ?_ | exact Or.inl ⟨rfl, rfl⟩ | exact rfl)
  all_goals (conv => whnf)
theorem termsIndex (l : List TermS) (s : List UInt8) (hl : l.length < 9223372036854775808) : PCall Tryz.prog 71 [] [.list 3 (termsD l), .fn (.func 72) [.ptr [.v (str s)]]] (.ret (.v (.int .i64 (termIx l s))) []) := by
  generalize hR : termIx l s = R
  refine pcall_of (news := []) cxOK Tryz.func71 rfl Tryz.ntmps71 rfl rfl rfl (by decide) ?_
  conv => whnf
  refine LoopW.to (ι := Nat) (fun i => i ≤ l.length ∧ (∀ q, q < i → ∀ c, l[q]? = some c → decide (c.name = s) = false)) (fun i => l.length - i)
    (fun i => [(0, .list 3 (termsD l)), (1, .fn (.func 72) [.ptr [.v (str s)]]), (7, .v (.int .i64 l.length)), (8, .v (.int .i64 i))]) (fun _ => []) [] 0 ⟨Nat.zero_le _, fun q h => by omega⟩ ⟨⟨rfl, rfl, congrArg (fun k : Nat => D.v (.int .i64 (k : Int))) (terms_len l), rfl, trivial⟩, trivial⟩ ?_
  rintro i ⟨h1, h2⟩
  repeat' ((conv => whnf); first | exact trivial | refine xB ?_ | refine xY ?_ | refine xN ?_ | refine sM ?_ ?_ <;> intro _ | refine xC ?_ | refine And.intro ?_ ?_ | exact Or.inl ⟨rfl, rfl⟩ | exact rfl)
  all_goals (conv => whnf)
  · rename_i h
    have h := decT h
    have hi : i < l.length := by omega
    have hg := List.getElem?_eq_getElem hi
    refine IdxG.to i (termCells l[i]) rfl (terms_get hg) ?_
    repeat' ((conv => whnf); first | refine xB ?_ | refine xY ?_ | refine xN ?_ | refine sM ?_ ?_ <;> intro _)
    all_goals (conv => whnf)
    refine call0 (terminal1 l[i] s) ?_
    repeat' ((conv => whnf); first | refine xB ?_ | refine xY ?_ | refine xN ?_ | refine sM ?_ ?_ <;> intro _)
    all_goals (conv => whnf)
    · rename_i h3
      have h3 : decide (l[i].name = s) = true := h3
      obtain rfl : R = i := by rw [← hR]; exact idxS_at h2 hg h3
      trivial
    · rename_i h3
      have h3 : decide (l[i].name = s) = false := h3
      refine KI.i64 ((i + 1 : Nat) : Int) (by simp) (by omega) ?_
      conv => whnf
      exact NextG.to (i + 1) ⟨by omega, idx_ext h2 hi h3⟩ (by omega) ⟨⟨rfl, rfl, rfl, rfl, trivial⟩, trivial⟩
  · rename_i h
    have h := decF h
    have hi : i = l.length := by omega
    subst hi
    obtain rfl : R = -1 := by rw [← hR]; exact idxS_no h2
    trivial
theorem cfgTerminal (l : List TermS) (x y : List (List D)) (z : Int) (s : List UInt8) (hl : l.length < 9223372036854775808) : PCall Tryz.prog 41 [] [.agg [.list 3 (termsD l), .list 1 x, .list 3 y, .v (.int .i64 z)], .v (str s)] (.ret (.v (.int .i64 (termIx l s))) []) := by
  refine pcall_of (news := []) cxOK Tryz.func41 rfl Tryz.ntmps41 rfl rfl rfl (by decide) ?_
  repeat' ((conv => whnf); first | refine xB ?_ | refine xY ?_ | refine xN ?_ | refine sM ?_ ?_ <;> intro _)
  all_goals (conv => whnf)
  refine call0 (termsIndex l s hl) ?_
  repeat' ((conv => whnf); first | exact trivial | refine xB ?_ | refine xY ?_ | refine xN ?_ | refine sM ?_ ?_ <;> intro _ | refine xC ?_ | refine And.intro ?_ ?_ | exact Or.inl ⟨rfl, rfl⟩ | exact rfl)
  all_goals (conv => whnf)
theorem cfgWithin (n a b : Int) : PCall Tryz.prog 25 [] [.v (.int .i64 n), .v (.int .i64 a), .v (.int .i64 b)] (.ret (.v (.bool (decide (n ≥ a) && decide (n ≤ b)))) []) := by
  refine pcall_of (news := []) cxOK Tryz.func25 rfl Tryz.ntmps25 rfl rfl rfl (by decide) ?_
  repeat' ((conv => whnf); first | exact trivial | refine xB ?_ | refine xY ?_ | refine xN ?_ | refine sM ?_ ?_ <;> intro _ | refine xC ?_ | refine And.intro ?_ ?_ | exact Or.inl ⟨rfl, rfl⟩ | exact rfl)
  all_goals (conv => whnf)
  · rename_i h; rw [h]; rfl
  · rename_i h; rw [h]; rfl
theorem cfgNamed (s : List UInt8) : PCall Tryz.prog 51 [] [.v (str s)] (.ret (.v (.bool (namedS s))) []) := by
  refine pcall_of (news := []) cxOK Tryz.func51 rfl Tryz.ntmps51 rfl rfl rfl (by decide) ?_
  repeat' ((conv => whnf); first | refine xB ?_ | refine xY ?_ | refine xN ?_ | refine sM ?_ ?_ <;> intro _)
  all_goals (conv => whnf)
  refine call0 (lexName s) ?_
  repeat' ((conv => whnf); first | refine xB ?_ | refine xY ?_ | refine xN ?_ | refine sM ?_ ?_ <;> intro _)
  all_goals (conv => whnf)
  · rename_i h
    have h : NameS s = true := h
    rw [show namedS s = true from by simp only [namedS, h]; rfl]
  · rename_i h
    have h : NameS s = false := h
    rw [show namedS s = LiteralS s from by simp only [namedS, h]; rfl]
    refine call0 (lexLiteral s) ?_
    repeat' ((conv => whnf); first | exact trivial | refine xB ?_ | refine xY ?_ | refine xN ?_ | refine sM ?_ ?_ <;> intro _ | refine xC ?_ | refine And.intro ?_ ?_ | exact Or.inl ⟨rfl, rfl⟩ | exact rfl)
    all_goals (conv => whnf)
end Tryz
end Go.Dm
namespace Go.Dm
def parseS (b : List UInt8) : Except Wr SourceS := match tokensS b with
  | (some l, p, 0) => match p with
    | some e => ofS l e
    | none => .error (none, 0)
  | (_, p, e) => .error (p, e)
namespace Tryz
open Go.Proofs
theorem tokensGo_len : ∀ (n : Nat) (b : List UInt8) (p : Nat × Nat) (m : Nat) (acc : List TokP) {l : List TokP}, (tokensGo n b p m acc).1 = some l → l.length ≤ acc.length + b.length
  | 0, b, p, m, acc, l, h => by simp [tokensGo] at h; subst h; omega
  | n + 1, [], p, m, acc, l, h => by simp [tokensGo] at h; subst h; omega
  | n + 1, c :: r, p, m, acc, l, h => by
    simp only [tokensGo] at h
    split at h
    · simp at h; subst h; omega
    · split at h
      · split at h
        · cases h
        · have := tokensGo_len n _ _ _ _ h
          have := skippedS_le c r
          simp only [List.length_drop] at *
          omega
      · split at h
        · cases h
        · rename_i he
          have he := decT he
          obtain ⟨h1, h2⟩ := tokenS_n he
          have := tokensGo_len n _ _ _ _ h
          simp only [List.length_drop, List.length_append, List.length_cons, List.length_nil] at *
          omega
theorem tokensS_len {b : List UInt8} {l : List TokP} (h : (tokensS b).1 = some l) : l.length ≤ 4000 := by
  unfold tokensS at h
  split at h
  · cases h
  · rename_i hb
    have hb := decF hb
    have := tokensGo_len _ _ _ _ _ h
    simp at this
    omega
theorem tokensGo_e : ∀ (n : Nat) (b : List UInt8) (p : Nat × Nat) (m : Nat) (acc : List TokP), (tokensGo n b p m acc).1.isSome = true ↔ (tokensGo n b p m acc).2.2 = 0
  | 0, b, p, m, acc => by simp [tokensGo]
  | n + 1, [], p, m, acc => by simp [tokensGo]
  | n + 1, c :: r, p, m, acc => by
    cases hm : decide (m = 2) with
    | true => simp only [tokensGo, hm]; simp
    | false =>
      cases hs : (skippedS (c :: r)).2 with
      | true =>
        cases hz : decide ((skippedS (c :: r)).1 = 0) with
        | true => simp only [tokensGo, hm, hs, hz]; simp
        | false => simp only [tokensGo, hm, hs, hz]; exact tokensGo_e n _ _ _ _
      | false =>
        cases he : decide ((tokenS (c :: r)).e = 0) with
        | false => simp only [tokensGo, hm, hs, he]; simp [decF he]
        | true => simp only [tokensGo, hm, hs, he]; exact tokensGo_e n _ _ _ _
theorem tokensS_e (b : List UInt8) : (∃ l p, tokensS b = (some l, some p, 0)) ∨ ∃ p e, e ≠ 0 ∧ tokensS b = (none, p, e) := by
  unfold tokensS
  split
  · exact .inr ⟨none, 5, by simp, rfl⟩
  · have := tokensGo_e (b.length + 1) b (1, 1) 0 []
    generalize tokensGo (b.length + 1) b (1, 1) 0 [] = R at *
    obtain ⟨l, p, e⟩ := R
    cases l with
    | none => exact .inr ⟨some p, e, fun h => by simp [h] at this, rfl⟩
    | some l => exact .inl ⟨l, p, by simp at this; simp [this]⟩
theorem yaccParse (b : List UInt8) : PCall Tryz.prog 39 [] [.list 1 (byD b)] (.ret (ofD (parseS b)) []) := by
  have ht := lexTokens b
  rcases tokensS_e b with ⟨l, p, h⟩ | ⟨p, e, he, h⟩
  · have hl := tokensS_len (b := b) (l := l) (by rw [h])
    rw [show parseS b = ofS l p from by simp only [parseS, h]]
    rw [h] at ht
    have ho := yaccOf l p hl
    refine pcall_of (news := [2]) cxOK Tryz.func39 rfl Tryz.ntmps39 rfl rfl rfl (by decide) ?_
    repeat' ((conv => whnf); first | refine xB ?_ | refine xY ?_ | refine xN ?_ | refine sM ?_ ?_ <;> intro _)
    all_goals (conv => whnf)
    refine call0 ht ?_
    repeat' ((conv => whnf); first | refine xB ?_ | refine xY ?_ | refine xN ?_ | refine sM ?_ ?_ <;> intro _)
    all_goals (conv => whnf)
    refine call0 ho ?_
    generalize ofS l p = R
    cases R with
    | ok s =>
      repeat' ((conv => whnf); first | exact trivial | refine xB ?_ | refine xY ?_ | refine xN ?_ | refine sM ?_ ?_ <;> intro _ | refine xC ?_ | refine And.intro ?_ ?_ | exact Or.inl ⟨rfl, rfl⟩ | exact rfl)
      all_goals (conv => whnf)
    | error w =>
      repeat' ((conv => whnf); first | exact trivial | refine xB ?_ | refine xY ?_ | refine xN ?_ | refine sM ?_ ?_ <;> intro _ | refine xC ?_ | refine And.intro ?_ ?_ | exact Or.inl ⟨rfl, rfl⟩ | exact rfl)
      all_goals (conv => whnf)
  · have hp : parseS b = .error (p, e) := by
      simp only [parseS, h]
    rw [hp]
    rw [h] at ht
    refine pcall_of (news := [2]) cxOK Tryz.func39 rfl Tryz.ntmps39 rfl rfl rfl (by decide) ?_
    repeat' ((conv => whnf); first | refine xB ?_ | refine xY ?_ | refine xN ?_ | refine sM ?_ ?_ <;> intro _)
    all_goals (conv => whnf)
    refine call0 ht ?_
    repeat' ((conv => whnf); first | refine xB ?_ | refine xY ?_ | refine xN ?_ | refine sM ?_ ?_ <;> intro _)
    all_goals (conv => whnf)
    · repeat' ((conv => whnf); first | exact trivial | refine xB ?_ | refine xY ?_ | refine xN ?_ | refine sM ?_ ?_ <;> intro _ | refine xC ?_ | refine And.intro ?_ ?_ | exact Or.inl ⟨rfl, rfl⟩ | exact rfl)
      all_goals (conv => whnf)
    · rename_i h
      have := notF h
      simp at this
      exact absurd this he
end Tryz
end Go.Dm
namespace Go.Dm
theorem AppG.mrow1 {e v by' : Nat} {xs : List (List D)} {y : List D} {Z : Unit → Prop} {C : Nat → List (List D) → Prop} (xs' : List (List D)) (h2 : allOne y = true) (h3 : (xs.length + 1) * by' ≤ 140737488355328) (hb : 0 < by') (hC : C (v + 1) xs') :
    AppG (v = v ∧ e = e ∧ 0 < by' ∧ (∀ r ∈ [y], allOne r = true) ∧ (xs.length + [y].length) * by' ≤ 140737488355328) [y] Z C :=
  AppG.to (v + 1) xs' ⟨rfl, rfl, hb, fun r hr => by simp at hr; subst hr; exact h2, h3⟩ (by simp) hC
structure BS where
  terms : List TermS
  nons : List (List UInt8)
  rules : List RuleS
  start : Int
  tokens : List (List UInt8)
  starts : List RefS
  levels : Nat
def tokMap (l : List (List UInt8)) : List (Value × Value) := l.map fun s => (str s, .int .i64 1)
def BOK (b : BS) : Prop := b.terms.length ≤ 24 ∧ b.nons.length ≤ 16 ∧ b.rules.length ≤ 40 ∧ b.starts.length ≤ 1 ∧ b.levels ≤ 4000
def addS (b : BS) (r : RefS) : Except Wr (Int × BS) := match decide (termIx b.terms r.text ≥ 0) with
  | true => .ok (termIx b.terms r.text, b)
  | false => match decide (b.terms.length = 24) with
    | true => .error (r.at', 5)
    | false => .ok (b.terms.length, { b with terms := b.terms ++ [⟨r.text, 0, 0⟩] })
def levelAt (l : List TermS) (i : Int) : Int := match l[i.toNat]? with
  | some t => t.level
  | none => 0
def putLevel (l : List TermS) (i : Nat) (lv a : Int) : List TermS := match l[i]? with
  | some t => l.set i ⟨t.name, lv, a⟩
  | none => l
def precedeS (b : BS) (r : RefS) (a : Int) : Except Wr BS := match decide (termIx b.terms r.text ≥ 0) && decide (levelAt b.terms (termIx b.terms r.text) > 0) with
  | true => .error (r.at', 7)
  | false => match addS b r with
    | .error w => .error w
    | .ok p => .ok { p.2 with terms := putLevel p.2.terms p.1.toNat p.2.levels a }
theorem addS_len {b : BS} {r : RefS} {p : Int × BS} (hb : BOK b) (h : addS b r = .ok p) : BOK p.2 ∧ 0 ≤ p.1 ∧ p.1 < (p.2.terms.length : Int) := by
  unfold addS at h
  split at h
  · rename_i h1
    have h1 := decT h1
    injection h with h; subst h
    exact ⟨hb, h1, (termIx_range _ _).2⟩
  · split at h
    · cases h
    · rename_i h2
      have h2 := decF h2
      injection h with h; subst h
      obtain ⟨b1, b2, b3, b4, b5⟩ := hb
      refine ⟨⟨by simp; omega, b2, b3, b4, b5⟩, by simp, by simp; omega⟩
theorem putLevel_eq {l : List TermS} {i : Nat} {lv a : Int} (h : i < l.length) : putLevel l i lv a = l.set i ⟨l[i].name, lv, a⟩ := by
  unfold putLevel; simp [List.getElem?_eq_getElem h]
theorem putLevel_len (l : List TermS) (i : Nat) (lv a : Int) : (putLevel l i lv a).length = l.length := by
  unfold putLevel; split <;> simp
namespace Tryz
open Go.Proofs
def cWr (w : Wr) : D := .iface 98 (.agg [.v (plO w.1), .v (.int .i64 w.2)])
def builderM (b : BS) : Mem := [(1000, .cells [.row 1001 b.terms.length, .row 1002 b.nons.length, .row 1003 b.rules.length, .v (.int .i64 b.start), .mp 1004, .row 1005 b.starts.length, .v (.int .i64 b.levels)]),
  (1001, .mrow 50 3 b.terms.length (termsD b.terms)), (1002, .row 9 1 (strsD b.nons)), (1003, .row 48 3 (rulesD b.rules)), (1004, .mp (tokMap b.tokens)), (1005, .row 141 2 (b.starts.map refCells))]
theorem cfgRefuse (r : RefS) (e : Nat) : PCall Tryz.prog 97 [] [.agg (refCells r), .v (.int .i64 e)] (.pan (cWr (r.at', e))) := by
  refine pcall_of (news := []) cxOK Tryz.func97 rfl Tryz.ntmps97 rfl rfl rfl (by decide) ?_
  repeat' ((conv => whnf); first | refine xB ?_ | refine xY ?_ | refine xN ?_ | refine sM ?_ ?_ <;> intro _)
  all_goals (conv => whnf)
  exact ⟨_, rfl, Or.inl ⟨rfl, rfl⟩⟩
def gramP (b : BS) : Mem := [(1001, .mrow 50 3 b.terms.length (termsD b.terms)), (1002, .row 9 1 (strsD b.nons)), (1003, .row 48 3 (rulesD b.rules))]
theorem gramFrz {M : Mem} (b : BS) (x : Value) (h1 : get M 1001 = some (.mrow 50 3 b.terms.length (termsD b.terms))) (h2 : get M 1002 = some (.row 9 1 (strsD b.nons))) (h3 : get M 1003 = some (.row 48 3 (rulesD b.rules))) :
    frzL M [.agg [.row 1001 b.terms.length, .row 1002 b.nons.length, .row 1003 b.rules.length, .v (.int .i64 b.start)], .v x] = some ([.agg [.list 3 (termsD b.terms), .list 1 (strsD b.nons), .list 3 (rulesD b.rules), .v (.int .i64 b.start)], .v x], gramP b) :=
  FrzL.cons (.agg (.cons (.mrow h1 rfl) (.cons (.row h2 (take_map_all _ _)) (.cons (.row h3 (take_map_all _ _)) (.cons .v .nil))))) (.cons .v .nil)
set_option maxHeartbeats 4000000 in
theorem builderAdd (b : BS) (r : RefS) (hb : BOK b) : PCall Tryz.prog 162 (builderM b) [.ref 1000 0, .agg (refCells r)] (exO cWr (fun p => .ret (.v (.int .i64 p.1)) (builderM p.2)) (addS b r)) := by
  obtain ⟨b1, b2, b3, b4, b5⟩ := hb
  generalize hR : addS b r = R
  refine pcall_of (news := []) cxOK Tryz.func162 rfl Tryz.ntmps162 rfl rfl rfl (by decide) ?_
  repeat' ((conv => whnf); first | refine xB ?_ | refine xY ?_ | refine xN ?_ | refine sM ?_ ?_ <;> intro _)
  all_goals (conv => whnf)
  refine callZ (gramFrz b (str r.text) rfl rfl rfl) (cfgTerminal b.terms _ _ _ r.text (by omega)) rfl ?_
  repeat' ((conv => whnf); first | refine xB ?_ | refine xC ?_ | refine xI ?_ | refine xY ?_ | refine xN ?_ | refine sM ?_ ?_ <;> intro _)
  all_goals (conv => whnf)
  · rename_i h
    have h : decide (termIx b.terms r.text ≥ 0) = true := h
    obtain rfl : R = .ok (termIx b.terms r.text, b) := by rw [← hR]; simp only [addS, h]
    repeat' ((conv => whnf); first | exact trivial | refine xB ?_ | refine xY ?_ | refine xN ?_ | refine sM ?_ ?_ <;> intro _ | refine xC ?_ | refine And.intro ?_ ?_ | exact Or.inl ⟨rfl, rfl⟩ | exact rfl)
    all_goals (conv => whnf)
  · rename_i h h2
    have h : decide (termIx b.terms r.text ≥ 0) = false := h
    have h2 : (((termsD b.terms).length : Int) = 24) := decT h2
    rw [terms_len] at h2
    have h3 : decide (b.terms.length = 24) = true := decide_eq_true (by omega)
    obtain rfl : R = .error (r.at', 5) := by rw [← hR]; simp only [addS, h, h3]
    refine call0 (cfgRefuse r 5) ?_
    conv => whnf
    exact ⟨_, rfl, Or.inl ⟨rfl, rfl⟩⟩
  · rename_i h h2
    have h : decide (termIx b.terms r.text ≥ 0) = false := h
    have h2 : ¬ (((termsD b.terms).length : Int) = 24) := decF h2
    rw [terms_len] at h2
    have h3 : decide (b.terms.length = 24) = false := decide_eq_false (by omega)
    obtain rfl : R = .ok (b.terms.length, { b with terms := b.terms ++ [⟨r.text, 0, 0⟩] }) := by rw [← hR]; simp only [addS, h, h3]
    have ha : (b.terms ++ [TermS.mk r.text 0 0]).length = b.terms.length + 1 := by simp
    refine AppG.mrow1 (termsD (b.terms ++ [TermS.mk r.text 0 0])) rfl ?_ (by decide) ⟨rfl, ?_, ?_⟩
    · rw [terms_len]; omega
    · unfold termsD; rw [List.map_append]; rfl
    repeat' ((conv => whnf); first | refine xB ?_ | refine xC ?_ | refine xI ?_ | refine xY ?_ | refine xN ?_ | refine sM ?_ ?_ <;> intro _)
    all_goals (conv => whnf)
    refine KI.i64 (b.terms.length : Int) ?_ (by omega) ?_
    · rw [terms_len, ha]; omega
    repeat' ((conv => whnf); first | refine xB ?_ | refine xY ?_ | refine xN ?_ | refine sM ?_ ?_ <;> intro _)
    all_goals (conv => whnf)
    refine ⟨rfl, ⟨Or.inl ⟨congrArg (D.row 1001) ha.symm, rfl⟩, Or.inl ⟨rfl, rfl⟩, Or.inl ⟨rfl, rfl⟩, Or.inl ⟨rfl, rfl⟩, Or.inl ⟨rfl, rfl⟩, Or.inl ⟨rfl, rfl⟩, Or.inl ⟨rfl, rfl⟩, trivial⟩, ?_, rfl, rfl, rfl, rfl, trivial⟩
    show Ob.mrow _ _ _ _ = Ob.mrow _ _ _ _
    rw [ha]
theorem addOk {b : BS} {r : RefS} {p : Int × BS} (h : addS b r = .ok p) (hb : BOK b) : PCall Tryz.prog 162 (builderM b) [.ref 1000 0, .agg (refCells r)] (.ret (.v (.int .i64 p.1)) (builderM p.2)) := by
  have := builderAdd b r hb
  rwa [h] at this
theorem addBad {b : BS} {r : RefS} {w : Wr} (h : addS b r = .error w) (hb : BOK b) : PCall Tryz.prog 162 (builderM b) [.ref 1000 0, .agg (refCells r)] (.pan (cWr w)) := by
  have := builderAdd b r hb
  rwa [h] at this
end Tryz
end Go.Dm
namespace Go.Dm
namespace Tryz
open Go.Proofs
set_option maxHeartbeats 4000000 in
theorem builderPrecede (b : BS) (r : RefS) (a : Int) (hb : BOK b) : PCall Tryz.prog 163 (builderM b) [.ref 1000 0, .agg (refCells r), .v (.int .i64 a)] (exO cWr (fun p => .ret (.tup []) (builderM p)) (precedeS b r a)) := by
  have hb' := hb
  obtain ⟨b1, b2, b3, b4, b5⟩ := hb'
  generalize hR : precedeS b r a = R
  have hrg := termIx_range b.terms r.text
  refine pcall_of (news := []) cxOK Tryz.func163 rfl Tryz.ntmps163 rfl rfl rfl (by decide) ?_
  repeat' ((conv => whnf); first | refine xB ?_ | refine xY ?_ | refine xN ?_ | refine sM ?_ ?_ <;> intro _)
  all_goals (conv => whnf)
  refine callZ (gramFrz b (str r.text) rfl rfl rfl) (cfgTerminal b.terms _ _ _ r.text (by omega)) rfl ?_
  repeat' ((conv => whnf); first | refine xB ?_ | refine xC ?_ | refine xI ?_ | refine xY ?_ | refine xN ?_ | refine sM ?_ ?_ <;> intro _)
  all_goals (conv => whnf)
  · rename_i h
    have h : decide (termIx b.terms r.text ≥ 0) = true := h
    have h0 := decT h
    obtain ⟨j, hj⟩ : ∃ j : Nat, termIx b.terms r.text = j := ⟨(termIx b.terms r.text).toNat, by omega⟩
    have hjl : j < b.terms.length := by omega
    have hg := List.getElem?_eq_getElem hjl
    refine ArrG.to j hj (by rw [terms_len]; exact hjl) ?_
    repeat' ((conv => whnf); first | refine xB ?_ | refine xC ?_ | refine xI ?_ | refine xY ?_ | refine xN ?_ | refine sM ?_ ?_ <;> intro _)
    all_goals (conv => whnf)
    refine ElG.to (termCells b.terms[j]) (terms_get hg) ?_
    repeat' ((conv => whnf); first | refine xB ?_ | refine xC ?_ | refine xI ?_ | refine xY ?_ | refine xN ?_ | refine sM ?_ ?_ <;> intro _)
    all_goals (conv => whnf)
    · rename_i h2
      have h2 : decide (b.terms[j].level > 0) = true := h2
      have hlv : levelAt b.terms (termIx b.terms r.text) = b.terms[j].level := by
        unfold levelAt; rw [hj]; simp [hg]
      obtain rfl : R = .error (r.at', 7) := by rw [← hR]; simp only [precedeS, h, hlv, h2]; rfl
      refine call0 (cfgRefuse r 7) ?_
      conv => whnf
      exact ⟨_, rfl, Or.inl ⟨rfl, rfl⟩⟩
    · rename_i h2
      have h2 : decide (b.terms[j].level > 0) = false := h2
      have hlv : levelAt b.terms (termIx b.terms r.text) = b.terms[j].level := by
        unfold levelAt; rw [hj]; simp [hg]
      have hp : addS b r = .ok (termIx b.terms r.text, b) := by simp only [addS, h]
      obtain rfl : R = .ok { b with terms := putLevel b.terms j b.levels a } := by
        rw [← hR]; simp only [precedeS, h, hlv, h2, hp]; show Except.ok _ = _; rw [hj]; rfl
      refine callM (addOk hp hb) ⟨rfl, rfl, rfl, rfl, rfl, rfl, trivial⟩ rfl ?_
      repeat' ((conv => whnf); first | refine xB ?_ | refine xC ?_ | refine xI ?_ | refine xY ?_ | refine xN ?_ | refine sM ?_ ?_ <;> intro _)
      all_goals (conv => whnf)
      have hjc : j < b.terms.length := hjl
      have hgc := List.getElem?_eq_getElem hjc
      refine ArrG.to j hj (by rw [terms_len]; exact hjc) ?_
      repeat' ((conv => whnf); first | refine xB ?_ | refine xC ?_ | refine xI ?_ | refine xY ?_ | refine xN ?_ | refine sM ?_ ?_ <;> intro _)
      all_goals (conv => whnf)
      refine ElG.to (termCells b.terms[j]) (terms_get hgc) ?_
      repeat' ((conv => whnf); first | refine xB ?_ | refine xC ?_ | refine xI ?_ | refine xY ?_ | refine xN ?_ | refine sM ?_ ?_ <;> intro _)
      all_goals (conv => whnf)
      refine ElG.to (termCells ⟨b.terms[j].name, b.levels, b.terms[j].assoc⟩) ?_ ?_
      · exact List.getElem?_set_self (by rw [terms_len]; exact hjc)
      repeat' ((conv => whnf); first | refine xB ?_ | refine xY ?_ | refine xN ?_ | refine sM ?_ ?_ <;> intro _)
      all_goals (conv => whnf)
      refine ⟨trivial, ⟨Or.inl ⟨congrArg (D.row 1001) (putLevel_len _ _ _ _).symm, rfl⟩, Or.inl ⟨rfl, rfl⟩, Or.inl ⟨rfl, rfl⟩, Or.inl ⟨rfl, rfl⟩, Or.inl ⟨rfl, rfl⟩, Or.inl ⟨rfl, rfl⟩, Or.inl ⟨rfl, rfl⟩, trivial⟩, ?_, rfl, rfl, rfl, rfl, trivial⟩
      show Ob.mrow _ _ _ _ = Ob.mrow _ _ _ _
      rw [putLevel_len, putLevel_eq hjc]
      congr 1
      unfold termsD
      rw [List.map_set]
      exact List.set_set _
  · rename_i h
    have h : decide (termIx b.terms r.text ≥ 0) = false := h
    cases hp : addS b r with
    | error w =>
      obtain rfl : R = .error w := by rw [← hR]; simp only [precedeS, h, hp]; rfl
      refine callM (addBad hp hb) ⟨rfl, rfl, rfl, rfl, rfl, rfl, trivial⟩ rfl ?_
      conv => whnf
      exact ⟨_, rfl, Or.inl ⟨rfl, rfl⟩⟩
    | ok p =>
      obtain ⟨q1, q2, q3⟩ := addS_len hb hp
      obtain ⟨i, c⟩ := p
      simp only at q1 q2 q3
      obtain ⟨j, rfl⟩ : ∃ j : Nat, i = j := ⟨i.toNat, by omega⟩
      obtain rfl : R = .ok { c with terms := putLevel c.terms j c.levels a } := by rw [← hR]; simp only [precedeS, h, hp]; rfl
      refine callM (addOk hp hb) ⟨rfl, rfl, rfl, rfl, rfl, rfl, trivial⟩ rfl ?_
      repeat' ((conv => whnf); first | refine xB ?_ | refine xC ?_ | refine xI ?_ | refine xY ?_ | refine xN ?_ | refine sM ?_ ?_ <;> intro _)
      all_goals (conv => whnf)
      have hjc : j < c.terms.length := by omega
      have hgc := List.getElem?_eq_getElem hjc
      refine ArrG.to j rfl (by rw [terms_len]; exact hjc) ?_
      repeat' ((conv => whnf); first | refine xB ?_ | refine xC ?_ | refine xI ?_ | refine xY ?_ | refine xN ?_ | refine sM ?_ ?_ <;> intro _)
      all_goals (conv => whnf)
      refine ElG.to (termCells c.terms[j]) (terms_get hgc) ?_
      repeat' ((conv => whnf); first | refine xB ?_ | refine xC ?_ | refine xI ?_ | refine xY ?_ | refine xN ?_ | refine sM ?_ ?_ <;> intro _)
      all_goals (conv => whnf)
      refine ElG.to (termCells ⟨c.terms[j].name, c.levels, c.terms[j].assoc⟩) ?_ ?_
      · exact List.getElem?_set_self (by rw [terms_len]; exact hjc)
      repeat' ((conv => whnf); first | refine xB ?_ | refine xY ?_ | refine xN ?_ | refine sM ?_ ?_ <;> intro _)
      all_goals (conv => whnf)
      refine ⟨trivial, ⟨Or.inl ⟨congrArg (D.row 1001) (putLevel_len _ _ _ _).symm, rfl⟩, Or.inl ⟨rfl, rfl⟩, Or.inl ⟨rfl, rfl⟩, Or.inl ⟨rfl, rfl⟩, Or.inl ⟨rfl, rfl⟩, Or.inl ⟨rfl, rfl⟩, Or.inl ⟨rfl, rfl⟩, trivial⟩, ?_, rfl, rfl, rfl, rfl, trivial⟩
      show Ob.mrow _ _ _ _ = Ob.mrow _ _ _ _
      rw [putLevel_len, putLevel_eq hjc]
      congr 1
      unfold termsD
      rw [List.map_set]
      exact List.set_set _
end Tryz
end Go.Dm
namespace Go.Dm
def nameB (b : BS) (kind : Nat) (r : RefS) : Except Wr BS := match namedS r.text && (!decide (kind = 7) || NameS r.text) with
  | false => .error (r.at', 3)
  | true => match decide (kind = 7) with
    | true => match b.starts with
      | [] => .ok { b with starts := [r] }
      | _ :: _ => .error (r.at', 7)
    | false => match decide (kind = 3) with
      | true => match b.tokens.contains r.text with
        | true => .error (r.at', 7)
        | false => match addS { b with tokens := b.tokens ++ [r.text] } r with
          | .error w => .error w
          | .ok p => .ok p.2
      | false => precedeS b r (match decide (kind = 4) with | true => 1 | false => match decide (kind = 5) with | true => 2 | false => 3)
theorem precedeS_ok {b c : BS} {r : RefS} {a : Int} (hb : BOK b) (h : precedeS b r a = .ok c) : BOK c := by
  unfold precedeS at h
  split at h
  · cases h
  · cases hp : addS b r with
    | error w => rw [hp] at h; cases h
    | ok p =>
      obtain ⟨⟨q1, q2, q3, q4, q5⟩, _⟩ := addS_len hb hp
      rw [hp] at h
      injection h with h; subst h
      exact ⟨by simp only [putLevel_len]; exact q1, q2, q3, q4, q5⟩
theorem nameB_ok {b c : BS} {k : Nat} {r : RefS} (hb : BOK b) (h : nameB b k r = .ok c) : BOK c := by
  unfold nameB at h
  split at h
  · cases h
  · split at h
    · split at h
      · injection h with h; subst h
        obtain ⟨q1, q2, q3, q4, q5⟩ := hb
        exact ⟨q1, q2, q3, by simp, q5⟩
      · cases h
    · split at h
      · split at h
        · cases h
        · cases hp : addS { b with tokens := b.tokens ++ [r.text] } r with
          | error w => rw [hp] at h; cases h
          | ok p =>
            rw [hp] at h
            injection h with h; subst h
            exact (addS_len (b := { b with tokens := b.tokens ++ [r.text] }) hb hp).1
      · exact precedeS_ok hb h
theorem find_tok (l : List (List UInt8)) (s : List UInt8) : findL .str (str s) (tokMap l) = some (if l.contains s then some (Value.int .i64 1) else none) := by
  induction l with
  | nil => rfl
  | cons x r ih =>
    have e : sameTK .str (str s) (str x) = some (decide (s = x)) := by
      show some ((⟨s.toArray⟩ : ByteArray) == ⟨x.toArray⟩) = _
      congr 1
      by_cases h : s = x
      · rw [decide_eq_true h, (MapKept.bytes_beq _ _).2 (by rw [h])]
      · rw [decide_eq_false h]
        cases hb : ((⟨s.toArray⟩ : ByteArray) == ⟨x.toArray⟩) with
        | false => rfl
        | true =>
          have := (MapKept.bytes_beq _ _).1 hb
          injection this with this
          have := congrArg Array.toList this
          simp at this
          exact absurd this h
    show (match sameTK .str (str s) (str x) with | some true => some (some (Value.int .i64 1)) | some false => findL .str (str s) (tokMap r) | none => none) = _
    rw [e]
    by_cases h : s = x
    · subst h; simp
    · rw [decide_eq_false h]
      simp only [ih, List.contains_cons]
      have : (s == x) = false := by simpa using h
      rw [this]; simp
theorem put_tok (l : List (List UInt8)) (s : List UInt8) (h : l.contains s = false) : putL .str (str s) (Value.int .i64 1) (tokMap l) = some (tokMap (l ++ [s])) := by
  induction l with
  | nil => rfl
  | cons x r ih =>
    simp only [List.contains_cons, Bool.or_eq_false_iff] at h
    have hx : s ≠ x := by simpa using h.1
    have e : sameTK .str (str s) (str x) = some false := by
      show some ((⟨s.toArray⟩ : ByteArray) == ⟨x.toArray⟩) = _
      congr 1
      cases hb : ((⟨s.toArray⟩ : ByteArray) == ⟨x.toArray⟩) with
      | false => rfl
      | true =>
        have := (MapKept.bytes_beq _ _).1 hb
        injection this with this
        have := congrArg Array.toList this
        simp at this
        exact absurd this hx
    show (match sameTK .str (str s) (str x) with | some true => some ((str s, Value.int .i64 1) :: tokMap r) | some false => (match putL .str (str s) (Value.int .i64 1) (tokMap r) with | some l => some ((str x, Value.int .i64 1) :: l) | none => none) | none => none) = _
    rw [e]
    simp only [ih h.2]
    rfl
theorem put_tok2 (l : List (List UInt8)) (s : List UInt8) (h : l.contains s = true) : ∃ m, putL .str (str s) (Value.int .i64 2) (tokMap l) = some m ∧ findL .str (str s) m = some (some (Value.int .i64 2)) := by
  induction l with
  | nil => simp at h
  | cons x r ih =>
    by_cases hx : s = x
    · subst hx
      have e : sameTK .str (str s) (str s) = some true := by
        show some ((⟨s.toArray⟩ : ByteArray) == ⟨s.toArray⟩) = _
        rw [(MapKept.bytes_beq _ _).2 rfl]
      refine ⟨(str s, Value.int .i64 2) :: tokMap r, ?_, ?_⟩
      · show (match sameTK .str (str s) (str s) with | some true => some ((str s, Value.int .i64 2) :: tokMap r) | some false => _ | none => none) = _
        rw [e]
      · show (match sameTK .str (str s) (str s) with | some true => some (some (Value.int .i64 2)) | some false => _ | none => none) = _
        rw [e]
    · have h' : r.contains s = true := by
        simp only [List.contains_cons, Bool.or_eq_true] at h
        rcases h with h | h
        · exact absurd (by simpa using h) hx
        · exact h
      obtain ⟨m, h1, h2⟩ := ih h'
      have e : sameTK .str (str s) (str x) = some false := by
        show some ((⟨s.toArray⟩ : ByteArray) == ⟨x.toArray⟩) = _
        congr 1
        cases hb : ((⟨s.toArray⟩ : ByteArray) == ⟨x.toArray⟩) with
        | false => rfl
        | true =>
          have := (MapKept.bytes_beq _ _).1 hb
          injection this with this
          have := congrArg Array.toList this
          simp at this
          exact absurd this hx
      refine ⟨(str x, Value.int .i64 1) :: m, ?_, ?_⟩
      · show (match sameTK .str (str s) (str x) with | some true => _ | some false => (match putL .str (str s) (Value.int .i64 2) (tokMap r) with | some l => some ((str x, Value.int .i64 1) :: l) | none => none) | none => none) = _
        rw [e]
        simp only [h1]
      · show (match sameTK .str (str s) (str x) with | some true => _ | some false => findL .str (str s) m | none => none) = _
        rw [e]
        exact h2
namespace Tryz
open Go.Proofs
theorem precedeOk {b c : BS} {r : RefS} {a : Int} (h : precedeS b r a = .ok c) (hb : BOK b) : PCall Tryz.prog 163 (builderM b) [.ref 1000 0, .agg (refCells r), .v (.int .i64 a)] (.ret (.tup []) (builderM c)) := by
  have := builderPrecede b r a hb
  rwa [h] at this
theorem precedeBad {b : BS} {r : RefS} {a : Int} {w : Wr} (h : precedeS b r a = .error w) (hb : BOK b) : PCall Tryz.prog 163 (builderM b) [.ref 1000 0, .agg (refCells r), .v (.int .i64 a)] (.pan (cWr w)) := by
  have := builderPrecede b r a hb
  rwa [h] at this
set_option maxHeartbeats 4000000 in
theorem builderName4 (b : BS) (r : RefS) (hb : BOK b) : PCall Tryz.prog 125 (builderM b) [.ref 1000 0, .v (.int .i64 4), .agg (refCells r)] (exO cWr (fun p => .ret (.tup []) (builderM p)) (nameB b 4 r)) := by
  generalize hR : nameB b 4 r = R
  refine pcall_of (news := []) cxOK Tryz.func125 rfl Tryz.ntmps125 rfl rfl rfl (by decide) ?_
  repeat' ((conv => whnf); first | refine xB ?_ | refine xY ?_ | refine xN ?_ | refine sM ?_ ?_ <;> intro _)
  all_goals (conv => whnf)
  refine call0 (cfgNamed r.text) ?_
  repeat' ((conv => whnf); first | refine xB ?_ | refine xC ?_ | refine xI ?_ | refine xY ?_ | refine xN ?_ | refine sM ?_ ?_ <;> intro _)
  all_goals (conv => whnf)
  · rename_i hn
    have hn : namedS r.text = false := notT hn
    obtain rfl : R = .error (r.at', 3) := by rw [← hR]; simp only [nameB, hn]; rfl
    refine call0 (cfgRefuse r 3) ?_
    conv => whnf
    exact ⟨_, rfl, Or.inl ⟨rfl, rfl⟩⟩
  · rename_i hn
    have hn : namedS r.text = true := notF hn
    have hp0 : nameB b 4 r = precedeS b r 1 := by simp only [nameB, hn]; rfl
    rw [hp0] at hR
    cases hp : precedeS b r 1 with
    | error w =>
      obtain rfl : R = .error w := by rw [← hR, hp]
      refine callM (precedeBad hp hb) ⟨rfl, rfl, rfl, rfl, rfl, rfl, trivial⟩ rfl ?_
      conv => whnf
      exact ⟨_, rfl, Or.inl ⟨rfl, rfl⟩⟩
    | ok c =>
      obtain rfl : R = .ok c := by rw [← hR, hp]
      refine callM (precedeOk hp hb) ⟨rfl, rfl, rfl, rfl, rfl, rfl, trivial⟩ rfl ?_
      repeat' ((conv => whnf); first | exact trivial | refine xB ?_ | refine xY ?_ | refine xN ?_ | refine sM ?_ ?_ <;> intro _ | refine xC ?_ | refine And.intro ?_ ?_ | exact Or.inl ⟨rfl, rfl⟩ | exact rfl)
      all_goals (conv => whnf)
set_option maxHeartbeats 4000000 in
theorem builderName5 (b : BS) (r : RefS) (hb : BOK b) : PCall Tryz.prog 125 (builderM b) [.ref 1000 0, .v (.int .i64 5), .agg (refCells r)] (exO cWr (fun p => .ret (.tup []) (builderM p)) (nameB b 5 r)) := by
  generalize hR : nameB b 5 r = R
  refine pcall_of (news := []) cxOK Tryz.func125 rfl Tryz.ntmps125 rfl rfl rfl (by decide) ?_
  repeat' ((conv => whnf); first | refine xB ?_ | refine xY ?_ | refine xN ?_ | refine sM ?_ ?_ <;> intro _)
  all_goals (conv => whnf)
  refine call0 (cfgNamed r.text) ?_
  repeat' ((conv => whnf); first | refine xB ?_ | refine xC ?_ | refine xI ?_ | refine xY ?_ | refine xN ?_ | refine sM ?_ ?_ <;> intro _)
  all_goals (conv => whnf)
  · rename_i hn
    have hn : namedS r.text = false := notT hn
    obtain rfl : R = .error (r.at', 3) := by rw [← hR]; simp only [nameB, hn]; rfl
    refine call0 (cfgRefuse r 3) ?_
    conv => whnf
    exact ⟨_, rfl, Or.inl ⟨rfl, rfl⟩⟩
  · rename_i hn
    have hn : namedS r.text = true := notF hn
    have hp0 : nameB b 5 r = precedeS b r 2 := by simp only [nameB, hn]; rfl
    rw [hp0] at hR
    cases hp : precedeS b r 2 with
    | error w =>
      obtain rfl : R = .error w := by rw [← hR, hp]
      refine callM (precedeBad hp hb) ⟨rfl, rfl, rfl, rfl, rfl, rfl, trivial⟩ rfl ?_
      conv => whnf
      exact ⟨_, rfl, Or.inl ⟨rfl, rfl⟩⟩
    | ok c =>
      obtain rfl : R = .ok c := by rw [← hR, hp]
      refine callM (precedeOk hp hb) ⟨rfl, rfl, rfl, rfl, rfl, rfl, trivial⟩ rfl ?_
      repeat' ((conv => whnf); first | exact trivial | refine xB ?_ | refine xY ?_ | refine xN ?_ | refine sM ?_ ?_ <;> intro _ | refine xC ?_ | refine And.intro ?_ ?_ | exact Or.inl ⟨rfl, rfl⟩ | exact rfl)
      all_goals (conv => whnf)
set_option maxHeartbeats 4000000 in
theorem builderName6 (b : BS) (r : RefS) (hb : BOK b) : PCall Tryz.prog 125 (builderM b) [.ref 1000 0, .v (.int .i64 6), .agg (refCells r)] (exO cWr (fun p => .ret (.tup []) (builderM p)) (nameB b 6 r)) := by
  generalize hR : nameB b 6 r = R
  refine pcall_of (news := []) cxOK Tryz.func125 rfl Tryz.ntmps125 rfl rfl rfl (by decide) ?_
  repeat' ((conv => whnf); first | refine xB ?_ | refine xY ?_ | refine xN ?_ | refine sM ?_ ?_ <;> intro _)
  all_goals (conv => whnf)
  refine call0 (cfgNamed r.text) ?_
  repeat' ((conv => whnf); first | refine xB ?_ | refine xC ?_ | refine xI ?_ | refine xY ?_ | refine xN ?_ | refine sM ?_ ?_ <;> intro _)
  all_goals (conv => whnf)
  · rename_i hn
    have hn : namedS r.text = false := notT hn
    obtain rfl : R = .error (r.at', 3) := by rw [← hR]; simp only [nameB, hn]; rfl
    refine call0 (cfgRefuse r 3) ?_
    conv => whnf
    exact ⟨_, rfl, Or.inl ⟨rfl, rfl⟩⟩
  · rename_i hn
    have hn : namedS r.text = true := notF hn
    have hp0 : nameB b 6 r = precedeS b r 3 := by simp only [nameB, hn]; rfl
    rw [hp0] at hR
    cases hp : precedeS b r 3 with
    | error w =>
      obtain rfl : R = .error w := by rw [← hR, hp]
      refine callM (precedeBad hp hb) ⟨rfl, rfl, rfl, rfl, rfl, rfl, trivial⟩ rfl ?_
      conv => whnf
      exact ⟨_, rfl, Or.inl ⟨rfl, rfl⟩⟩
    | ok c =>
      obtain rfl : R = .ok c := by rw [← hR, hp]
      refine callM (precedeOk hp hb) ⟨rfl, rfl, rfl, rfl, rfl, rfl, trivial⟩ rfl ?_
      repeat' ((conv => whnf); first | exact trivial | refine xB ?_ | refine xY ?_ | refine xN ?_ | refine sM ?_ ?_ <;> intro _ | refine xC ?_ | refine And.intro ?_ ?_ | exact Or.inl ⟨rfl, rfl⟩ | exact rfl)
      all_goals (conv => whnf)
set_option maxHeartbeats 4000000 in
theorem builderName7 (b : BS) (r : RefS) (hb : BOK b) : PCall Tryz.prog 125 (builderM b) [.ref 1000 0, .v (.int .i64 7), .agg (refCells r)] (exO cWr (fun p => .ret (.tup []) (builderM p)) (nameB b 7 r)) := by
  generalize hR : nameB b 7 r = R
  refine pcall_of (news := []) cxOK Tryz.func125 rfl Tryz.ntmps125 rfl rfl rfl (by decide) ?_
  repeat' ((conv => whnf); first | refine xB ?_ | refine xY ?_ | refine xN ?_ | refine sM ?_ ?_ <;> intro _)
  all_goals (conv => whnf)
  refine call0 (cfgNamed r.text) ?_
  repeat' ((conv => whnf); first | refine xB ?_ | refine xC ?_ | refine xI ?_ | refine xY ?_ | refine xN ?_ | refine sM ?_ ?_ <;> intro _)
  all_goals (conv => whnf)
  · rename_i hn
    have hn : namedS r.text = false := notT hn
    obtain rfl : R = .error (r.at', 3) := by rw [← hR]; simp only [nameB, hn]; rfl
    refine call0 (cfgRefuse r 3) ?_
    conv => whnf
    exact ⟨_, rfl, Or.inl ⟨rfl, rfl⟩⟩
  rename_i hn
  have hn : namedS r.text = true := notF hn
  refine call0 (lexName r.text) ?_
  repeat' ((conv => whnf); first | refine xB ?_ | refine xC ?_ | refine xI ?_ | refine xY ?_ | refine xN ?_ | refine sM ?_ ?_ <;> intro _)
  all_goals (conv => whnf)
  · rename_i hm
    have hm : NameS r.text = false := by
      have hm' : (bif true then !NameS r.text else false) = true := hm
      exact notT hm'
    obtain rfl : R = .error (r.at', 3) := by rw [← hR]; simp only [nameB, hn, hm]; rfl
    refine call0 (cfgRefuse r 3) ?_
    conv => whnf
    exact ⟨_, rfl, Or.inl ⟨rfl, rfl⟩⟩
  rename_i hm
  have hm : NameS r.text = true := by
    have hm' : (bif true then !NameS r.text else false) = false := hm
    exact notF hm'
  obtain ⟨ts, ns, rs, st, tk, ss, lv⟩ := b
  cases ss with
  | cons x y =>
    obtain rfl : R = .error (r.at', 7) := by rw [← hR]; simp only [nameB, hn, hm]; rfl
    refine ⟨Nat.le_of_eq (ref_len _).symm, ?_⟩
    repeat' ((conv => whnf); first | refine xB ?_ | refine xC ?_ | refine xI ?_ | refine xY ?_ | refine xN ?_ | refine sM ?_ ?_ <;> intro _)
    all_goals (conv => whnf)
    · refine call0 (cfgRefuse r 7) ?_
      conv => whnf
      exact ⟨_, rfl, Or.inl ⟨rfl, rfl⟩⟩
    · rename_i h
      have := decF h
      simp at this
  | nil =>
    obtain rfl : R = .ok ⟨ts, ns, rs, st, tk, [r], lv⟩ := by rw [← hR]; simp only [nameB, hn, hm]; rfl
    refine ⟨Nat.le_refl _, ?_⟩
    repeat' ((conv => whnf); first | refine xB ?_ | refine xC ?_ | refine xI ?_ | refine xY ?_ | refine xN ?_ | refine sM ?_ ?_ <;> intro _)
    all_goals (conv => whnf)
    refine AppG.row1 ([r].map refCells) rfl rfl (Nat.le_of_ble_eq_true rfl) (by decide) ⟨rfl, rfl, ?_⟩
    repeat' ((conv => whnf); first | refine xB ?_ | refine xC ?_ | refine xI ?_ | refine xY ?_ | refine xN ?_ | refine sM ?_ ?_ <;> intro _)
    all_goals (conv => whnf)
    repeat' ((conv => whnf); first | exact trivial | refine xB ?_ | refine xY ?_ | refine xN ?_ | refine sM ?_ ?_ <;> intro _ | refine xC ?_ | refine And.intro ?_ ?_ | exact Or.inl ⟨rfl, rfl⟩ | exact rfl)
    all_goals (conv => whnf)
set_option maxHeartbeats 4000000 in
theorem builderName3 (b : BS) (r : RefS) (hb : BOK b) : PCall Tryz.prog 125 (builderM b) [.ref 1000 0, .v (.int .i64 3), .agg (refCells r)] (exO cWr (fun p => .ret (.tup []) (builderM p)) (nameB b 3 r)) := by
  generalize hR : nameB b 3 r = R
  refine pcall_of (news := []) cxOK Tryz.func125 rfl Tryz.ntmps125 rfl rfl rfl (by decide) ?_
  repeat' ((conv => whnf); first | refine xB ?_ | refine xY ?_ | refine xN ?_ | refine sM ?_ ?_ <;> intro _)
  all_goals (conv => whnf)
  refine call0 (cfgNamed r.text) ?_
  repeat' ((conv => whnf); first | refine xB ?_ | refine xC ?_ | refine xI ?_ | refine xY ?_ | refine xN ?_ | refine sM ?_ ?_ <;> intro _)
  all_goals (conv => whnf)
  · rename_i hn
    have hn : namedS r.text = false := notT hn
    obtain rfl : R = .error (r.at', 3) := by rw [← hR]; simp only [nameB, hn]; rfl
    refine call0 (cfgRefuse r 3) ?_
    conv => whnf
    exact ⟨_, rfl, Or.inl ⟨rfl, rfl⟩⟩
  rename_i hn
  have hn : namedS r.text = true := notF hn
  cases ht : b.tokens.contains r.text with
  | true =>
    obtain rfl : R = .error (r.at', 7) := by rw [← hR]; simp only [nameB, hn, ht]; rfl
    obtain ⟨m, hm1, hm2⟩ := put_tok2 b.tokens r.text ht
    refine LkG.to (some (.int .i64 1)) (by rw [find_tok, ht]; rfl) ?_
    repeat' ((conv => whnf); first | refine xB ?_ | refine xC ?_ | refine xI ?_ | refine xY ?_ | refine xN ?_ | refine sM ?_ ?_ <;> intro _)
    all_goals (conv => whnf)
    refine KI.i64 2 rfl (by omega) ?_
    repeat' ((conv => whnf); first | refine xB ?_ | refine xC ?_ | refine xI ?_ | refine xY ?_ | refine xN ?_ | refine sM ?_ ?_ <;> intro _)
    all_goals (conv => whnf)
    refine UpG.to m hm1 ?_
    repeat' ((conv => whnf); first | refine xB ?_ | refine xC ?_ | refine xI ?_ | refine xY ?_ | refine xN ?_ | refine sM ?_ ?_ <;> intro _)
    all_goals (conv => whnf)
    refine LkG.to (some (.int .i64 2)) hm2 ?_
    repeat' ((conv => whnf); first | refine xB ?_ | refine xC ?_ | refine xI ?_ | refine xY ?_ | refine xN ?_ | refine sM ?_ ?_ <;> intro _)
    all_goals (conv => whnf)
    refine call0 (cfgRefuse r 7) ?_
    conv => whnf
    exact ⟨_, rfl, Or.inl ⟨rfl, rfl⟩⟩
  | false =>
    have hf2 : findL .str (str r.text) (tokMap (b.tokens ++ [r.text])) = some (some (.int .i64 1)) := by rw [find_tok]; simp
    refine LkG.to none (by rw [find_tok, ht]; rfl) ?_
    repeat' ((conv => whnf); first | refine xB ?_ | refine xC ?_ | refine xI ?_ | refine xY ?_ | refine xN ?_ | refine sM ?_ ?_ <;> intro _)
    all_goals (conv => whnf)
    refine KI.i64 1 rfl (by omega) ?_
    repeat' ((conv => whnf); first | refine xB ?_ | refine xC ?_ | refine xI ?_ | refine xY ?_ | refine xN ?_ | refine sM ?_ ?_ <;> intro _)
    all_goals (conv => whnf)
    refine UpG.to (tokMap (b.tokens ++ [r.text])) (put_tok _ _ ht) ?_
    repeat' ((conv => whnf); first | refine xB ?_ | refine xC ?_ | refine xI ?_ | refine xY ?_ | refine xN ?_ | refine sM ?_ ?_ <;> intro _)
    all_goals (conv => whnf)
    refine LkG.to (some (.int .i64 1)) hf2 ?_
    repeat' ((conv => whnf); first | refine xB ?_ | refine xC ?_ | refine xI ?_ | refine xY ?_ | refine xN ?_ | refine sM ?_ ?_ <;> intro _)
    all_goals (conv => whnf)
    cases hp : addS { b with tokens := b.tokens ++ [r.text] } r with
    | error w =>
      obtain rfl : R = .error w := by rw [← hR]; simp only [nameB, hn, ht, hp]; rfl
      refine callM (addBad hp hb) ⟨rfl, rfl, rfl, rfl, rfl, rfl, trivial⟩ rfl ?_
      conv => whnf
      exact ⟨_, rfl, Or.inl ⟨rfl, rfl⟩⟩
    | ok p =>
      obtain rfl : R = .ok p.2 := by rw [← hR]; simp only [nameB, hn, ht, hp]; rfl
      refine callM (addOk hp hb) ⟨rfl, rfl, rfl, rfl, rfl, rfl, trivial⟩ rfl ?_
      repeat' ((conv => whnf); first | exact trivial | refine xB ?_ | refine xY ?_ | refine xN ?_ | refine sM ?_ ?_ <;> intro _ | refine xC ?_ | refine And.intro ?_ ?_ | exact Or.inl ⟨rfl, rfl⟩ | exact rfl)
      all_goals (conv => whnf)
theorem builderName (b : BS) (k : Nat) (r : RefS) (hb : BOK b) (hk : 3 ≤ k ∧ k ≤ 7) : PCall Tryz.prog 125 (builderM b) [.ref 1000 0, .v (.int .i64 k), .agg (refCells r)] (exO cWr (fun p => .ret (.tup []) (builderM p)) (nameB b k r)) := by
  obtain ⟨h1, h2⟩ := hk
  have : k = 3 ∨ k = 4 ∨ k = 5 ∨ k = 6 ∨ k = 7 := by omega
  rcases this with rfl | rfl | rfl | rfl | rfl
  · exact builderName3 b r hb
  · exact builderName4 b r hb
  · exact builderName5 b r hb
  · exact builderName6 b r hb
  · exact builderName7 b r hb
theorem nameOk {b c : BS} {k : Nat} {r : RefS} (h : nameB b k r = .ok c) (hb : BOK b) (hk : 3 ≤ k ∧ k ≤ 7) : PCall Tryz.prog 125 (builderM b) [.ref 1000 0, .v (.int .i64 k), .agg (refCells r)] (.ret (.tup []) (builderM c)) := by
  have := builderName b k r hb hk
  rwa [h] at this
theorem nameBad {b : BS} {k : Nat} {r : RefS} {w : Wr} (h : nameB b k r = .error w) (hb : BOK b) (hk : 3 ≤ k ∧ k ≤ 7) : PCall Tryz.prog 125 (builderM b) [.ref 1000 0, .v (.int .i64 k), .agg (refCells r)] (.pan (cWr w)) := by
  have := builderName b k r hb hk
  rwa [h] at this
end Tryz
end Go.Dm
namespace Go.Dm
def namesB : BS → Nat → List RefS → Except Wr BS
  | b, _, [] => .ok b
  | b, k, r :: rs => match nameB b k r with
    | .error w => .error w
    | .ok c => namesB c k rs
def upB (b : BS) (k : Nat) : BS := match decide (k = 3) || decide (k = 7) with
  | true => b
  | false => { b with levels := b.levels + 1 }
def declB (b : BS) (d : DeclS) : Except Wr BS := namesB (upB b d.kind) d.kind d.names
theorem nameB_levels {b c : BS} {k : Nat} {r : RefS} (h : nameB b k r = .ok c) : c.levels = b.levels := by
  have ha : ∀ (b : BS) (p : Int × BS), addS b r = .ok p → p.2.levels = b.levels := by
    intro b p h
    unfold addS at h
    split at h
    · injection h with h; subst h; rfl
    · split at h
      · cases h
      · injection h with h; subst h; rfl
  unfold nameB at h
  split at h
  · cases h
  · split at h
    · split at h
      · injection h with h; subst h; rfl
      · cases h
    · split at h
      · split at h
        · cases h
        · cases hp : addS { b with tokens := b.tokens ++ [r.text] } r with
          | error w => rw [hp] at h; cases h
          | ok p => rw [hp] at h; injection h with h; subst h; exact (ha _ p hp : p.2.levels = ({ b with tokens := b.tokens ++ [r.text] } : BS).levels)
      · unfold precedeS at h
        split at h
        · cases h
        · cases hp : addS b r with
          | error w => rw [hp] at h; cases h
          | ok p => rw [hp] at h; injection h with h; subst h; exact ha _ _ hp
theorem namesB_ok : ∀ (rs : List RefS) {b c : BS} {k : Nat}, BOK b → namesB b k rs = .ok c → BOK c ∧ c.levels = b.levels
  | [], b, c, k, hb, h => by injection h with h; subst h; exact ⟨hb, rfl⟩
  | r :: rs, b, c, k, hb, h => by
    simp only [namesB] at h
    cases hn : nameB b k r with
    | error w => rw [hn] at h; cases h
    | ok b' =>
      rw [hn] at h
      obtain ⟨h1, h2⟩ := namesB_ok rs (nameB_ok hb hn) h
      exact ⟨h1, h2.trans (nameB_levels hn)⟩
theorem upB_ok {b : BS} {k : Nat} (hb : BOK b) (hl : b.levels + 1 ≤ 4000) : BOK (upB b k) ∧ (upB b k).levels ≤ b.levels + 1 := by
  obtain ⟨q1, q2, q3, q4, q5⟩ := hb
  unfold upB
  split
  · exact ⟨⟨q1, q2, q3, q4, q5⟩, Nat.le_succ _⟩
  · exact ⟨⟨q1, q2, q3, q4, hl⟩, Nat.le_refl _⟩
theorem declB_ok {b c : BS} {d : DeclS} (hb : BOK b) (hl : b.levels + 1 ≤ 4000) (h : declB b d = .ok c) : BOK c ∧ c.levels ≤ b.levels + 1 := by
  obtain ⟨h1, h2⟩ := upB_ok (k := d.kind) hb hl
  obtain ⟨h3, h4⟩ := namesB_ok _ h1 h
  exact ⟨h3, by omega⟩
namespace Tryz
open Go.Proofs
structure NmSt where
  i : Nat
  c : BS
set_option maxHeartbeats 4000000 in
theorem builderDecl3 (b : BS) (names : List RefS) (hb : BOK b) (hl : b.levels + 1 ≤ 4000) (hn : names.length ≤ 4000) : PCall Tryz.prog 94 (builderM b) [.ref 1000 0, .agg (declCells ⟨3, names⟩)] (exO cWr (fun p => .ret (.tup []) (builderM p)) (declB b ⟨3, names⟩)) := by
  generalize hR : declB b ⟨3, names⟩ = R
  have hR' : namesB b 3 names = R := hR
  have hup : BOK b := (upB_ok (k := 3) hb hl).1
  refine pcall_of (news := [5]) cxOK Tryz.func94 rfl Tryz.ntmps94 rfl rfl rfl (by decide) ?_
  repeat' ((conv => whnf); first | refine xB ?_ | refine xC ?_ | refine xI ?_ | refine xY ?_ | refine xN ?_ | refine sM ?_ ?_ <;> intro _)
  all_goals (conv => whnf)
  refine LoopW.to (ι := NmSt) (fun s => s.i ≤ names.length ∧ namesB s.c 3 (names.drop s.i) = R ∧ BOK s.c) (fun s => names.length - s.i)
    (fun s => [(0, .ref 1000 0), (3, .ptr [.v (.int .i64 ((3 : Nat) : Int)), .list 2 (names.map refCells)]), (32, .list 2 (names.map refCells)), (33, .v (.int .i64 names.length)), (34, .v (.int .i64 s.i))]) (fun s => builderM s.c) [] ⟨0, b⟩ ⟨Nat.zero_le _, hR', hup⟩
    ⟨⟨rfl, rfl, rfl, congrArg (fun k : Nat => D.v (.int .i64 (k : Int))) (ref_len names), rfl, trivial⟩, rfl, rfl, rfl, rfl, rfl, rfl, trivial⟩ ?_
  rintro ⟨i, c⟩ ⟨h1, h2, h3⟩
  simp only at h1 h2 h3
  repeat' ((conv => whnf); first | refine xB ?_ | refine xC ?_ | refine xI ?_ | refine xY ?_ | refine xN ?_ | refine sM ?_ ?_ <;> intro _)
  all_goals (conv => whnf)
  · rename_i h
    have h : (i : Int) < names.length := decT h
    have hi : i < names.length := by omega
    have hg := List.getElem?_eq_getElem hi
    rw [List.drop_eq_getElem_cons hi] at h2
    refine IdxG.to i (refCells names[i]) rfl (by simp [hg]) ?_
    repeat' ((conv => whnf); first | refine xB ?_ | refine xC ?_ | refine xI ?_ | refine xY ?_ | refine xN ?_ | refine sM ?_ ?_ <;> intro _)
    all_goals (conv => whnf)
    cases hm : nameB c 3 names[i] with
    | error w =>
      obtain rfl : R = .error w := by rw [← h2]; simp only [namesB, hm]
      refine callM (nameBad (k := 3) hm h3 (by decide)) ⟨rfl, rfl, rfl, rfl, rfl, rfl, trivial⟩ rfl ?_
      conv => whnf
      exact ⟨_, rfl, Or.inl ⟨rfl, rfl⟩⟩
    | ok c' =>
      simp only [namesB, hm] at h2
      refine callM (nameOk (k := 3) hm h3 (by decide)) ⟨rfl, rfl, rfl, rfl, rfl, rfl, trivial⟩ rfl ?_
      repeat' ((conv => whnf); first | refine xB ?_ | refine xC ?_ | refine xI ?_ | refine xY ?_ | refine xN ?_ | refine sM ?_ ?_ <;> intro _)
      all_goals (conv => whnf)
      refine KI.i64 ((i + 1 : Nat) : Int) (by simp) (by omega) ?_
      repeat' ((conv => whnf); first | refine xB ?_ | refine xC ?_ | refine xI ?_ | refine xY ?_ | refine xN ?_ | refine sM ?_ ?_ <;> intro _)
      all_goals (conv => whnf)
      refine NextG.to ⟨i + 1, c'⟩ ⟨by simp only; omega, h2, nameB_ok h3 hm⟩ (by simp only; omega) ⟨⟨rfl, rfl, rfl, rfl, rfl, trivial⟩, rfl, rfl, rfl, rfl, rfl, rfl, trivial⟩
  · rename_i h
    have h : ¬ (i : Int) < names.length := decF h
    have hi : i = names.length := by omega
    subst hi
    rw [List.drop_length] at h2
    obtain rfl : R = .ok c := h2.symm
    repeat' ((conv => whnf); first | exact trivial | refine xB ?_ | refine xY ?_ | refine xN ?_ | refine sM ?_ ?_ <;> intro _ | refine xC ?_ | refine And.intro ?_ ?_ | exact Or.inl ⟨rfl, rfl⟩ | exact rfl)
    all_goals (conv => whnf)
set_option maxHeartbeats 4000000 in
theorem builderDecl4 (b : BS) (names : List RefS) (hb : BOK b) (hl : b.levels + 1 ≤ 4000) (hn : names.length ≤ 4000) : PCall Tryz.prog 94 (builderM b) [.ref 1000 0, .agg (declCells ⟨4, names⟩)] (exO cWr (fun p => .ret (.tup []) (builderM p)) (declB b ⟨4, names⟩)) := by
  generalize hR : declB b ⟨4, names⟩ = R
  have hR' : namesB { b with levels := b.levels + 1 } 4 names = R := hR
  have hup : BOK { b with levels := b.levels + 1 } := (upB_ok (k := 4) hb hl).1
  refine pcall_of (news := [5]) cxOK Tryz.func94 rfl Tryz.ntmps94 rfl rfl rfl (by decide) ?_
  repeat' ((conv => whnf); first | refine xB ?_ | refine xC ?_ | refine xI ?_ | refine xY ?_ | refine xN ?_ | refine sM ?_ ?_ <;> intro _)
  all_goals (conv => whnf)
  refine KI.i64 ((b.levels + 1 : Nat) : Int) (by simp) (by omega) ?_
  repeat' ((conv => whnf); first | refine xB ?_ | refine xC ?_ | refine xI ?_ | refine xY ?_ | refine xN ?_ | refine sM ?_ ?_ <;> intro _)
  all_goals (conv => whnf)
  refine LoopW.to (ι := NmSt) (fun s => s.i ≤ names.length ∧ namesB s.c 4 (names.drop s.i) = R ∧ BOK s.c) (fun s => names.length - s.i)
    (fun s => [(0, .ref 1000 0), (3, .ptr [.v (.int .i64 ((4 : Nat) : Int)), .list 2 (names.map refCells)]), (32, .list 2 (names.map refCells)), (33, .v (.int .i64 names.length)), (34, .v (.int .i64 s.i))]) (fun s => builderM s.c) [] ⟨0, { b with levels := b.levels + 1 }⟩ ⟨Nat.zero_le _, hR', hup⟩
    ⟨⟨rfl, rfl, rfl, congrArg (fun k : Nat => D.v (.int .i64 (k : Int))) (ref_len names), rfl, trivial⟩, rfl, rfl, rfl, rfl, rfl, rfl, trivial⟩ ?_
  rintro ⟨i, c⟩ ⟨h1, h2, h3⟩
  simp only at h1 h2 h3
  repeat' ((conv => whnf); first | refine xB ?_ | refine xC ?_ | refine xI ?_ | refine xY ?_ | refine xN ?_ | refine sM ?_ ?_ <;> intro _)
  all_goals (conv => whnf)
  · rename_i h
    have h : (i : Int) < names.length := decT h
    have hi : i < names.length := by omega
    have hg := List.getElem?_eq_getElem hi
    rw [List.drop_eq_getElem_cons hi] at h2
    refine IdxG.to i (refCells names[i]) rfl (by simp [hg]) ?_
    repeat' ((conv => whnf); first | refine xB ?_ | refine xC ?_ | refine xI ?_ | refine xY ?_ | refine xN ?_ | refine sM ?_ ?_ <;> intro _)
    all_goals (conv => whnf)
    cases hm : nameB c 4 names[i] with
    | error w =>
      obtain rfl : R = .error w := by rw [← h2]; simp only [namesB, hm]
      refine callM (nameBad (k := 4) hm h3 (by decide)) ⟨rfl, rfl, rfl, rfl, rfl, rfl, trivial⟩ rfl ?_
      conv => whnf
      exact ⟨_, rfl, Or.inl ⟨rfl, rfl⟩⟩
    | ok c' =>
      simp only [namesB, hm] at h2
      refine callM (nameOk (k := 4) hm h3 (by decide)) ⟨rfl, rfl, rfl, rfl, rfl, rfl, trivial⟩ rfl ?_
      repeat' ((conv => whnf); first | refine xB ?_ | refine xC ?_ | refine xI ?_ | refine xY ?_ | refine xN ?_ | refine sM ?_ ?_ <;> intro _)
      all_goals (conv => whnf)
      refine KI.i64 ((i + 1 : Nat) : Int) (by simp) (by omega) ?_
      repeat' ((conv => whnf); first | refine xB ?_ | refine xC ?_ | refine xI ?_ | refine xY ?_ | refine xN ?_ | refine sM ?_ ?_ <;> intro _)
      all_goals (conv => whnf)
      refine NextG.to ⟨i + 1, c'⟩ ⟨by simp only; omega, h2, nameB_ok h3 hm⟩ (by simp only; omega) ⟨⟨rfl, rfl, rfl, rfl, rfl, trivial⟩, rfl, rfl, rfl, rfl, rfl, rfl, trivial⟩
  · rename_i h
    have h : ¬ (i : Int) < names.length := decF h
    have hi : i = names.length := by omega
    subst hi
    rw [List.drop_length] at h2
    obtain rfl : R = .ok c := h2.symm
    repeat' ((conv => whnf); first | exact trivial | refine xB ?_ | refine xY ?_ | refine xN ?_ | refine sM ?_ ?_ <;> intro _ | refine xC ?_ | refine And.intro ?_ ?_ | exact Or.inl ⟨rfl, rfl⟩ | exact rfl)
    all_goals (conv => whnf)
set_option maxHeartbeats 4000000 in
theorem builderDecl5 (b : BS) (names : List RefS) (hb : BOK b) (hl : b.levels + 1 ≤ 4000) (hn : names.length ≤ 4000) : PCall Tryz.prog 94 (builderM b) [.ref 1000 0, .agg (declCells ⟨5, names⟩)] (exO cWr (fun p => .ret (.tup []) (builderM p)) (declB b ⟨5, names⟩)) := by
  generalize hR : declB b ⟨5, names⟩ = R
  have hR' : namesB { b with levels := b.levels + 1 } 5 names = R := hR
  have hup : BOK { b with levels := b.levels + 1 } := (upB_ok (k := 5) hb hl).1
  refine pcall_of (news := [5]) cxOK Tryz.func94 rfl Tryz.ntmps94 rfl rfl rfl (by decide) ?_
  repeat' ((conv => whnf); first | refine xB ?_ | refine xC ?_ | refine xI ?_ | refine xY ?_ | refine xN ?_ | refine sM ?_ ?_ <;> intro _)
  all_goals (conv => whnf)
  refine KI.i64 ((b.levels + 1 : Nat) : Int) (by simp) (by omega) ?_
  repeat' ((conv => whnf); first | refine xB ?_ | refine xC ?_ | refine xI ?_ | refine xY ?_ | refine xN ?_ | refine sM ?_ ?_ <;> intro _)
  all_goals (conv => whnf)
  refine LoopW.to (ι := NmSt) (fun s => s.i ≤ names.length ∧ namesB s.c 5 (names.drop s.i) = R ∧ BOK s.c) (fun s => names.length - s.i)
    (fun s => [(0, .ref 1000 0), (3, .ptr [.v (.int .i64 ((5 : Nat) : Int)), .list 2 (names.map refCells)]), (32, .list 2 (names.map refCells)), (33, .v (.int .i64 names.length)), (34, .v (.int .i64 s.i))]) (fun s => builderM s.c) [] ⟨0, { b with levels := b.levels + 1 }⟩ ⟨Nat.zero_le _, hR', hup⟩
    ⟨⟨rfl, rfl, rfl, congrArg (fun k : Nat => D.v (.int .i64 (k : Int))) (ref_len names), rfl, trivial⟩, rfl, rfl, rfl, rfl, rfl, rfl, trivial⟩ ?_
  rintro ⟨i, c⟩ ⟨h1, h2, h3⟩
  simp only at h1 h2 h3
  repeat' ((conv => whnf); first | refine xB ?_ | refine xC ?_ | refine xI ?_ | refine xY ?_ | refine xN ?_ | refine sM ?_ ?_ <;> intro _)
  all_goals (conv => whnf)
  · rename_i h
    have h : (i : Int) < names.length := decT h
    have hi : i < names.length := by omega
    have hg := List.getElem?_eq_getElem hi
    rw [List.drop_eq_getElem_cons hi] at h2
    refine IdxG.to i (refCells names[i]) rfl (by simp [hg]) ?_
    repeat' ((conv => whnf); first | refine xB ?_ | refine xC ?_ | refine xI ?_ | refine xY ?_ | refine xN ?_ | refine sM ?_ ?_ <;> intro _)
    all_goals (conv => whnf)
    cases hm : nameB c 5 names[i] with
    | error w =>
      obtain rfl : R = .error w := by rw [← h2]; simp only [namesB, hm]
      refine callM (nameBad (k := 5) hm h3 (by decide)) ⟨rfl, rfl, rfl, rfl, rfl, rfl, trivial⟩ rfl ?_
      conv => whnf
      exact ⟨_, rfl, Or.inl ⟨rfl, rfl⟩⟩
    | ok c' =>
      simp only [namesB, hm] at h2
      refine callM (nameOk (k := 5) hm h3 (by decide)) ⟨rfl, rfl, rfl, rfl, rfl, rfl, trivial⟩ rfl ?_
      repeat' ((conv => whnf); first | refine xB ?_ | refine xC ?_ | refine xI ?_ | refine xY ?_ | refine xN ?_ | refine sM ?_ ?_ <;> intro _)
      all_goals (conv => whnf)
      refine KI.i64 ((i + 1 : Nat) : Int) (by simp) (by omega) ?_
      repeat' ((conv => whnf); first | refine xB ?_ | refine xC ?_ | refine xI ?_ | refine xY ?_ | refine xN ?_ | refine sM ?_ ?_ <;> intro _)
      all_goals (conv => whnf)
      refine NextG.to ⟨i + 1, c'⟩ ⟨by simp only; omega, h2, nameB_ok h3 hm⟩ (by simp only; omega) ⟨⟨rfl, rfl, rfl, rfl, rfl, trivial⟩, rfl, rfl, rfl, rfl, rfl, rfl, trivial⟩
  · rename_i h
    have h : ¬ (i : Int) < names.length := decF h
    have hi : i = names.length := by omega
    subst hi
    rw [List.drop_length] at h2
    obtain rfl : R = .ok c := h2.symm
    repeat' ((conv => whnf); first | exact trivial | refine xB ?_ | refine xY ?_ | refine xN ?_ | refine sM ?_ ?_ <;> intro _ | refine xC ?_ | refine And.intro ?_ ?_ | exact Or.inl ⟨rfl, rfl⟩ | exact rfl)
    all_goals (conv => whnf)
set_option maxHeartbeats 4000000 in
theorem builderDecl6 (b : BS) (names : List RefS) (hb : BOK b) (hl : b.levels + 1 ≤ 4000) (hn : names.length ≤ 4000) : PCall Tryz.prog 94 (builderM b) [.ref 1000 0, .agg (declCells ⟨6, names⟩)] (exO cWr (fun p => .ret (.tup []) (builderM p)) (declB b ⟨6, names⟩)) := by
  generalize hR : declB b ⟨6, names⟩ = R
  have hR' : namesB { b with levels := b.levels + 1 } 6 names = R := hR
  have hup : BOK { b with levels := b.levels + 1 } := (upB_ok (k := 6) hb hl).1
  refine pcall_of (news := [5]) cxOK Tryz.func94 rfl Tryz.ntmps94 rfl rfl rfl (by decide) ?_
  repeat' ((conv => whnf); first | refine xB ?_ | refine xC ?_ | refine xI ?_ | refine xY ?_ | refine xN ?_ | refine sM ?_ ?_ <;> intro _)
  all_goals (conv => whnf)
  refine KI.i64 ((b.levels + 1 : Nat) : Int) (by simp) (by omega) ?_
  repeat' ((conv => whnf); first | refine xB ?_ | refine xC ?_ | refine xI ?_ | refine xY ?_ | refine xN ?_ | refine sM ?_ ?_ <;> intro _)
  all_goals (conv => whnf)
  refine LoopW.to (ι := NmSt) (fun s => s.i ≤ names.length ∧ namesB s.c 6 (names.drop s.i) = R ∧ BOK s.c) (fun s => names.length - s.i)
    (fun s => [(0, .ref 1000 0), (3, .ptr [.v (.int .i64 ((6 : Nat) : Int)), .list 2 (names.map refCells)]), (32, .list 2 (names.map refCells)), (33, .v (.int .i64 names.length)), (34, .v (.int .i64 s.i))]) (fun s => builderM s.c) [] ⟨0, { b with levels := b.levels + 1 }⟩ ⟨Nat.zero_le _, hR', hup⟩
    ⟨⟨rfl, rfl, rfl, congrArg (fun k : Nat => D.v (.int .i64 (k : Int))) (ref_len names), rfl, trivial⟩, rfl, rfl, rfl, rfl, rfl, rfl, trivial⟩ ?_
  rintro ⟨i, c⟩ ⟨h1, h2, h3⟩
  simp only at h1 h2 h3
  repeat' ((conv => whnf); first | refine xB ?_ | refine xC ?_ | refine xI ?_ | refine xY ?_ | refine xN ?_ | refine sM ?_ ?_ <;> intro _)
  all_goals (conv => whnf)
  · rename_i h
    have h : (i : Int) < names.length := decT h
    have hi : i < names.length := by omega
    have hg := List.getElem?_eq_getElem hi
    rw [List.drop_eq_getElem_cons hi] at h2
    refine IdxG.to i (refCells names[i]) rfl (by simp [hg]) ?_
    repeat' ((conv => whnf); first | refine xB ?_ | refine xC ?_ | refine xI ?_ | refine xY ?_ | refine xN ?_ | refine sM ?_ ?_ <;> intro _)
    all_goals (conv => whnf)
    cases hm : nameB c 6 names[i] with
    | error w =>
      obtain rfl : R = .error w := by rw [← h2]; simp only [namesB, hm]
      refine callM (nameBad (k := 6) hm h3 (by decide)) ⟨rfl, rfl, rfl, rfl, rfl, rfl, trivial⟩ rfl ?_
      conv => whnf
      exact ⟨_, rfl, Or.inl ⟨rfl, rfl⟩⟩
    | ok c' =>
      simp only [namesB, hm] at h2
      refine callM (nameOk (k := 6) hm h3 (by decide)) ⟨rfl, rfl, rfl, rfl, rfl, rfl, trivial⟩ rfl ?_
      repeat' ((conv => whnf); first | refine xB ?_ | refine xC ?_ | refine xI ?_ | refine xY ?_ | refine xN ?_ | refine sM ?_ ?_ <;> intro _)
      all_goals (conv => whnf)
      refine KI.i64 ((i + 1 : Nat) : Int) (by simp) (by omega) ?_
      repeat' ((conv => whnf); first | refine xB ?_ | refine xC ?_ | refine xI ?_ | refine xY ?_ | refine xN ?_ | refine sM ?_ ?_ <;> intro _)
      all_goals (conv => whnf)
      refine NextG.to ⟨i + 1, c'⟩ ⟨by simp only; omega, h2, nameB_ok h3 hm⟩ (by simp only; omega) ⟨⟨rfl, rfl, rfl, rfl, rfl, trivial⟩, rfl, rfl, rfl, rfl, rfl, rfl, trivial⟩
  · rename_i h
    have h : ¬ (i : Int) < names.length := decF h
    have hi : i = names.length := by omega
    subst hi
    rw [List.drop_length] at h2
    obtain rfl : R = .ok c := h2.symm
    repeat' ((conv => whnf); first | exact trivial | refine xB ?_ | refine xY ?_ | refine xN ?_ | refine sM ?_ ?_ <;> intro _ | refine xC ?_ | refine And.intro ?_ ?_ | exact Or.inl ⟨rfl, rfl⟩ | exact rfl)
    all_goals (conv => whnf)
set_option maxHeartbeats 4000000 in
theorem builderDecl7 (b : BS) (names : List RefS) (hb : BOK b) (hl : b.levels + 1 ≤ 4000) (hn : names.length ≤ 4000) : PCall Tryz.prog 94 (builderM b) [.ref 1000 0, .agg (declCells ⟨7, names⟩)] (exO cWr (fun p => .ret (.tup []) (builderM p)) (declB b ⟨7, names⟩)) := by
  generalize hR : declB b ⟨7, names⟩ = R
  have hR' : namesB b 7 names = R := hR
  have hup : BOK b := (upB_ok (k := 7) hb hl).1
  refine pcall_of (news := [5]) cxOK Tryz.func94 rfl Tryz.ntmps94 rfl rfl rfl (by decide) ?_
  repeat' ((conv => whnf); first | refine xB ?_ | refine xC ?_ | refine xI ?_ | refine xY ?_ | refine xN ?_ | refine sM ?_ ?_ <;> intro _)
  all_goals (conv => whnf)
  refine LoopW.to (ι := NmSt) (fun s => s.i ≤ names.length ∧ namesB s.c 7 (names.drop s.i) = R ∧ BOK s.c) (fun s => names.length - s.i)
    (fun s => [(0, .ref 1000 0), (3, .ptr [.v (.int .i64 ((7 : Nat) : Int)), .list 2 (names.map refCells)]), (32, .list 2 (names.map refCells)), (33, .v (.int .i64 names.length)), (34, .v (.int .i64 s.i))]) (fun s => builderM s.c) [] ⟨0, b⟩ ⟨Nat.zero_le _, hR', hup⟩
    ⟨⟨rfl, rfl, rfl, congrArg (fun k : Nat => D.v (.int .i64 (k : Int))) (ref_len names), rfl, trivial⟩, rfl, rfl, rfl, rfl, rfl, rfl, trivial⟩ ?_
  rintro ⟨i, c⟩ ⟨h1, h2, h3⟩
  simp only at h1 h2 h3
  repeat' ((conv => whnf); first | refine xB ?_ | refine xC ?_ | refine xI ?_ | refine xY ?_ | refine xN ?_ | refine sM ?_ ?_ <;> intro _)
  all_goals (conv => whnf)
  · rename_i h
    have h : (i : Int) < names.length := decT h
    have hi : i < names.length := by omega
    have hg := List.getElem?_eq_getElem hi
    rw [List.drop_eq_getElem_cons hi] at h2
    refine IdxG.to i (refCells names[i]) rfl (by simp [hg]) ?_
    repeat' ((conv => whnf); first | refine xB ?_ | refine xC ?_ | refine xI ?_ | refine xY ?_ | refine xN ?_ | refine sM ?_ ?_ <;> intro _)
    all_goals (conv => whnf)
    cases hm : nameB c 7 names[i] with
    | error w =>
      obtain rfl : R = .error w := by rw [← h2]; simp only [namesB, hm]
      refine callM (nameBad (k := 7) hm h3 (by decide)) ⟨rfl, rfl, rfl, rfl, rfl, rfl, trivial⟩ rfl ?_
      conv => whnf
      exact ⟨_, rfl, Or.inl ⟨rfl, rfl⟩⟩
    | ok c' =>
      simp only [namesB, hm] at h2
      refine callM (nameOk (k := 7) hm h3 (by decide)) ⟨rfl, rfl, rfl, rfl, rfl, rfl, trivial⟩ rfl ?_
      repeat' ((conv => whnf); first | refine xB ?_ | refine xC ?_ | refine xI ?_ | refine xY ?_ | refine xN ?_ | refine sM ?_ ?_ <;> intro _)
      all_goals (conv => whnf)
      refine KI.i64 ((i + 1 : Nat) : Int) (by simp) (by omega) ?_
      repeat' ((conv => whnf); first | refine xB ?_ | refine xC ?_ | refine xI ?_ | refine xY ?_ | refine xN ?_ | refine sM ?_ ?_ <;> intro _)
      all_goals (conv => whnf)
      refine NextG.to ⟨i + 1, c'⟩ ⟨by simp only; omega, h2, nameB_ok h3 hm⟩ (by simp only; omega) ⟨⟨rfl, rfl, rfl, rfl, rfl, trivial⟩, rfl, rfl, rfl, rfl, rfl, rfl, trivial⟩
  · rename_i h
    have h : ¬ (i : Int) < names.length := decF h
    have hi : i = names.length := by omega
    subst hi
    rw [List.drop_length] at h2
    obtain rfl : R = .ok c := h2.symm
    repeat' ((conv => whnf); first | exact trivial | refine xB ?_ | refine xY ?_ | refine xN ?_ | refine sM ?_ ?_ <;> intro _ | refine xC ?_ | refine And.intro ?_ ?_ | exact Or.inl ⟨rfl, rfl⟩ | exact rfl)
    all_goals (conv => whnf)
theorem builderDecl (b : BS) (d : DeclS) (hb : BOK b) (hl : b.levels + 1 ≤ 4000) (hk : 3 ≤ d.kind ∧ d.kind ≤ 7) (hn : d.names.length ≤ 4000) : PCall Tryz.prog 94 (builderM b) [.ref 1000 0, .agg (declCells d)] (exO cWr (fun p => .ret (.tup []) (builderM p)) (declB b d)) := by
  obtain ⟨k, names⟩ := d
  simp only at hk hn
  obtain ⟨h1, h2⟩ := hk
  have : k = 3 ∨ k = 4 ∨ k = 5 ∨ k = 6 ∨ k = 7 := by omega
  rcases this with rfl | rfl | rfl | rfl | rfl
  · exact builderDecl3 b names hb hl hn
  · exact builderDecl4 b names hb hl hn
  · exact builderDecl5 b names hb hl hn
  · exact builderDecl6 b names hb hl hn
  · exact builderDecl7 b names hb hl hn
end Tryz
end Go.Dm
namespace Go.Dm
def leftB (b : BS) (r : RefS) : Except Wr BS := match NameS r.text with
  | false => .error (r.at', 3)
  | true => match decide (termIx b.terms r.text ≥ 0) with
    | true => .error (r.at', 7)
    | false => match decide (strIx b.nons r.text ≥ 0) with
      | true => .ok b
      | false => match decide (b.nons.length = 16) with
        | true => .error (r.at', 5)
        | false => .ok { b with nons := b.nons ++ [r.text] }
def errorW : List UInt8 := [101, 114, 114, 111, 114]
def symB (b : BS) (r : RefS) : Except Wr (Int × BS) := match decide (strIx b.nons r.text ≥ 0) with
  | true => .ok (-1 - strIx b.nons r.text, b)
  | false => match decide (termIx b.terms r.text < 0) && (!LiteralS r.text && !decide (r.text = errorW)) with
    | true => .error (r.at', 6)
    | false => addS b r
theorem leftB_ok {b c : BS} {r : RefS} (hb : BOK b) (h : leftB b r = .ok c) : BOK c := by
  obtain ⟨q1, q2, q3, q4, q5⟩ := hb
  unfold leftB at h
  split at h
  · cases h
  · split at h
    · cases h
    · split at h
      · injection h with h; subst h; exact ⟨q1, q2, q3, q4, q5⟩
      · split at h
        · cases h
        · rename_i h2
          have h2 := decF h2
          injection h with h; subst h
          exact ⟨q1, by simp; omega, q3, q4, q5⟩
theorem symB_ok {b : BS} {r : RefS} {p : Int × BS} (hb : BOK b) (h : symB b r = .ok p) : BOK p.2 ∧ p.2.rules = b.rules ∧ p.2.nons = b.nons ∧ -16 ≤ p.1 ∧ p.1 < 24 := by
  have ha : ∀ {p : Int × BS}, addS b r = .ok p → p.2.rules = b.rules ∧ p.2.nons = b.nons := by
    intro p h
    unfold addS at h
    split at h
    · injection h with h; subst h; exact ⟨rfl, rfl⟩
    · split at h
      · cases h
      · injection h with h; subst h; exact ⟨rfl, rfl⟩
  unfold symB at h
  split at h
  · rename_i h1
    have h1 := decT h1
    injection h with h; subst h
    have := strIx_range b.nons r.text
    obtain ⟨q1, q2, q3, q4, q5⟩ := hb
    exact ⟨⟨q1, q2, q3, q4, q5⟩, rfl, rfl, by simp only; omega, by simp only; omega⟩
  · split at h
    · cases h
    · obtain ⟨⟨q1, q2, q3, q4, q5⟩, h2, h3⟩ := addS_len hb h
      exact ⟨⟨q1, q2, q3, q4, q5⟩, (ha h).1, (ha h).2, by omega, by omega⟩
namespace Tryz
open Go.Proofs
theorem nonsFrz {M : Mem} (b : BS) (x : Value) (h2 : get M 1002 = some (.row 9 1 (strsD b.nons))) : frzL M [.row 1002 b.nons.length, .v x] = some ([.list 1 (strsD b.nons), .v x], [(1002, .row 9 1 (strsD b.nons))]) :=
  FrzL.cons (.row h2 (take_map_all _ _)) (.cons .v .nil)
set_option maxHeartbeats 4000000 in
theorem builderLeft (b : BS) (r : RefS) (hb : BOK b) : PCall Tryz.prog 95 (builderM b) [.ref 1000 0, .agg (refCells r)] (exO cWr (fun p => .ret (.tup []) (builderM p)) (leftB b r)) := by
  have hb' := hb
  obtain ⟨b1, b2, b3, b4, b5⟩ := hb'
  generalize hR : leftB b r = R
  refine pcall_of (news := []) cxOK Tryz.func95 rfl Tryz.ntmps95 rfl rfl rfl (by decide) ?_
  repeat' ((conv => whnf); first | refine xB ?_ | refine xY ?_ | refine xN ?_ | refine sM ?_ ?_ <;> intro _)
  all_goals (conv => whnf)
  refine call0 (lexName r.text) ?_
  repeat' ((conv => whnf); first | refine xB ?_ | refine xC ?_ | refine xI ?_ | refine xY ?_ | refine xN ?_ | refine sM ?_ ?_ <;> intro _)
  all_goals (conv => whnf)
  · rename_i hn
    have hn : NameS r.text = false := notT hn
    obtain rfl : R = .error (r.at', 3) := by rw [← hR]; simp only [leftB, hn]
    refine call0 (cfgRefuse r 3) ?_
    conv => whnf
    exact ⟨_, rfl, Or.inl ⟨rfl, rfl⟩⟩
  rename_i hn
  have hn : NameS r.text = true := notF hn
  refine callZ (gramFrz b (str r.text) rfl rfl rfl) (cfgTerminal b.terms _ _ _ r.text (by omega)) rfl ?_
  repeat' ((conv => whnf); first | refine xB ?_ | refine xC ?_ | refine xI ?_ | refine xY ?_ | refine xN ?_ | refine sM ?_ ?_ <;> intro _)
  all_goals (conv => whnf)
  · rename_i ht
    have ht : decide (termIx b.terms r.text ≥ 0) = true := ht
    obtain rfl : R = .error (r.at', 7) := by rw [← hR]; simp only [leftB, hn, ht]
    refine call0 (cfgRefuse r 7) ?_
    conv => whnf
    exact ⟨_, rfl, Or.inl ⟨rfl, rfl⟩⟩
  rename_i ht
  have ht : decide (termIx b.terms r.text ≥ 0) = false := ht
  refine callZ (nonsFrz b (str r.text) rfl) (strsContains b.nons r.text (by omega)) rfl ?_
  repeat' ((conv => whnf); first | refine xB ?_ | refine xC ?_ | refine xI ?_ | refine xY ?_ | refine xN ?_ | refine sM ?_ ?_ <;> intro _)
  all_goals (conv => whnf)
  · rename_i hs
    have hs : decide (strIx b.nons r.text ≥ 0) = true := hs
    obtain rfl : R = .ok b := by rw [← hR]; simp only [leftB, hn, ht, hs]
    repeat' ((conv => whnf); first | exact trivial | refine xB ?_ | refine xY ?_ | refine xN ?_ | refine sM ?_ ?_ <;> intro _ | refine xC ?_ | refine And.intro ?_ ?_ | exact Or.inl ⟨rfl, rfl⟩ | exact rfl)
    all_goals (conv => whnf)
  rename_i hs
  have hs : decide (strIx b.nons r.text ≥ 0) = false := hs
  refine ⟨Nat.le_of_eq (strs_len _).symm, ?_⟩
  repeat' ((conv => whnf); first | refine xB ?_ | refine xC ?_ | refine xI ?_ | refine xY ?_ | refine xN ?_ | refine sM ?_ ?_ <;> intro _)
  all_goals (conv => whnf)
  · rename_i hl
    have hl : (b.nons.length : Int) = 16 := decT hl
    have hl : decide (b.nons.length = 16) = true := decide_eq_true (by omega)
    obtain rfl : R = .error (r.at', 5) := by rw [← hR]; simp only [leftB, hn, ht, hs, hl]
    refine call0 (cfgRefuse r 5) ?_
    conv => whnf
    exact ⟨_, rfl, Or.inl ⟨rfl, rfl⟩⟩
  rename_i hl
  have hl : ¬ (b.nons.length : Int) = 16 := decF hl
  have hl2 : decide (b.nons.length = 16) = false := decide_eq_false (by omega)
  obtain rfl : R = .ok { b with nons := b.nons ++ [r.text] } := by rw [← hR]; simp only [leftB, hn, ht, hs, hl2]
  have ha : (b.nons ++ [r.text]).length = b.nons.length + 1 := by simp
  refine AppG.row1 (strsD (b.nons ++ [r.text])) (strs_len _).symm rfl ?_ (by decide) ⟨rfl, ?_, ?_⟩
  · rw [strs_len]; omega
  · unfold strsD; rw [List.map_append]; rfl
  repeat' ((conv => whnf); first | refine xB ?_ | refine xC ?_ | refine xI ?_ | refine xY ?_ | refine xN ?_ | refine sM ?_ ?_ <;> intro _)
  all_goals (conv => whnf)
  refine ⟨trivial, ⟨Or.inl ⟨rfl, rfl⟩, Or.inl ⟨congrArg (D.row 1002) ha.symm, rfl⟩, Or.inl ⟨rfl, rfl⟩, Or.inl ⟨rfl, rfl⟩, Or.inl ⟨rfl, rfl⟩, Or.inl ⟨rfl, rfl⟩, Or.inl ⟨rfl, rfl⟩, trivial⟩, rfl, rfl, rfl, rfl, rfl, trivial⟩
end Tryz
end Go.Dm
