/-
  No cell of these rows narrows 'for every input' (looked for: loops, veiled, ifaces, maps, wideKeys, modest, calm, conditions, laid).
  DERIVED. THE GIVEN ROWS OF THIS SEAT. 4 by the template 'for every input the law returns true; each argument reads behind the call as it read before'; 0 by the template 'total and deterministic' (their statements: YtimfimchlldabaaGreatTotals.lean).
  GIVEN WITH THE SEED: the statements are not yours to turn. If you find one false, say at which input.
  Laid BY PROGRAM, IN A SANDBOX (cutbox-rows.mjs): the forced cells as the released guide's own fill.sh prints them over the translation e9aaa8ae71526d0b… (all of the seat's roots in one cut). By AI agents, Wed Nov 11 2026. No macro, syntax, notation, axiom, sorry.
-/
import Derived.Test.YtimfimchlldabaaGreatChecked
import GoSem.Claim
import GoSem.ClaimJoined
import GoSem.ClaimMapViews
import Derived.JoinedTies
import Derived.KernelRfl
namespace Go.Proofs.YtimfimchlldabaaGreat
/- THE CELL 'sum', in the pinned program and in every row, IS THE sha256 OF THE DUMP (.gsa) THAT YtimfimchlldabaaGreatProg.lean LOADS. Nothing in Lean hashes anything: it is a label: what it is worth is what the hold of that sum in a sandbox is worth. -/
noncomputable def Tryz.pinned : Pinned := { name := "ytimfimchlldabaagreat", sum := "e9aaa8ae71526d0bd8410e956ce13dcb149e113c8fa72c960db9d4dad3f080f0", checked := Tryz.checked }
namespace Rows
def none {H : Type} : Left H := { results := [], args := [] }

/-- 'gerundlaw09.CfgAsks': WHATEVER THE INPUT: true; the input reads as it did. -/
def cfgAsksSpec : ChangeSpec := { name := "cfgAsks", fn := fun _ => fun
  | [d1, d2, d3] => { results := [.lit (.bool true)], args := [d1, d2, d3] }
  | _ => none }
def cfgAsksRow : OpenClaim := { program := "ytimfimchlldabaagreat", sum := "e9aaa8ae71526d0bd8410e956ce13dcb149e113c8fa72c960db9d4dad3f080f0", func := "gerund/gerundlaw09.CfgAsks", spec := "cfgAsks", inPlace := ["internal/bytealg.IndexByte", "internal/bytealg.Index", "math.archTrunc", "math.Float64bits", "math.Float64frombits"], unfollowed := true, recurses := true, named := ["internal/bytealg.MaxLen"], apart := false }
def CfgAsksSaid : Prop := cfgAsksRow.holds Tryz.pinned (OpenSpec.ofChange cfgAsksSpec)

/-- ITS FALSE NEIGHBOUR: 'it returns false'. Refute it at one input. -/
def cfgAsksWrong : ChangeSpec := { name := "cfgAsks", fn := fun _ => fun
  | [d1, d2, d3] => { results := [.lit (.bool false)], args := [d1, d2, d3] }
  | _ => none }
def CfgAsksWrongFalsely : Prop := cfgAsksRow.holds Tryz.pinned (OpenSpec.ofChange cfgAsksWrong)

/-- 'gerundlaw09.CfgMay': WHATEVER THE INPUT: true; the input reads as it did. -/
def cfgMaySpec : ChangeSpec := { name := "cfgMay", fn := fun _ => fun
  | [d] => { results := [.lit (.bool true)], args := [d] }
  | _ => none }
def cfgMayRow : OpenClaim := { program := "ytimfimchlldabaagreat", sum := "e9aaa8ae71526d0bd8410e956ce13dcb149e113c8fa72c960db9d4dad3f080f0", func := "gerund/gerundlaw09.CfgMay", spec := "cfgMay", inPlace := ["internal/bytealg.IndexByte", "internal/bytealg.Index", "math.archTrunc", "math.Float64bits", "math.Float64frombits"], unfollowed := true, recurses := true, named := ["internal/bytealg.MaxLen"], apart := false }
def CfgMaySaid : Prop := cfgMayRow.holds Tryz.pinned (OpenSpec.ofChange cfgMaySpec)

/-- ITS FALSE NEIGHBOUR: 'it returns false'. Refute it at one input. -/
def cfgMayWrong : ChangeSpec := { name := "cfgMay", fn := fun _ => fun
  | [d] => { results := [.lit (.bool false)], args := [d] }
  | _ => none }
def CfgMayWrongFalsely : Prop := cfgMayRow.holds Tryz.pinned (OpenSpec.ofChange cfgMayWrong)

/-- 'gerundlaw10.ShowBack': WHATEVER THE INPUT: true; the input reads as it did. -/
def showBackSpec : ChangeSpec := { name := "showBack", fn := fun _ => fun
  | [d] => { results := [.lit (.bool true)], args := [d] }
  | _ => none }
def showBackRow : OpenClaim := { program := "ytimfimchlldabaagreat", sum := "e9aaa8ae71526d0bd8410e956ce13dcb149e113c8fa72c960db9d4dad3f080f0", func := "gerund/gerundlaw10.ShowBack", spec := "showBack", inPlace := ["internal/abi.NoEscape", "internal/bytealg.MakeNoZero", "internal/bytealg.IndexByte", "internal/bytealg.Index", "math.archTrunc", "math.Float64bits", "math.Float64frombits"], unfollowed := true, recurses := true, named := ["internal/bytealg.MaxLen"], apart := false }
def ShowBackSaid : Prop := showBackRow.holds Tryz.pinned (OpenSpec.ofChange showBackSpec)

/-- ITS FALSE NEIGHBOUR: 'it returns false'. Refute it at one input. -/
def showBackWrong : ChangeSpec := { name := "showBack", fn := fun _ => fun
  | [d] => { results := [.lit (.bool false)], args := [d] }
  | _ => none }
def ShowBackWrongFalsely : Prop := showBackRow.holds Tryz.pinned (OpenSpec.ofChange showBackWrong)

/-- 'gerundlaw10.ShowAgain': WHATEVER THE INPUT: true; the input reads as it did. -/
def showAgainSpec : ChangeSpec := { name := "showAgain", fn := fun _ => fun
  | [d] => { results := [.lit (.bool true)], args := [d] }
  | _ => none }
def showAgainRow : OpenClaim := { program := "ytimfimchlldabaagreat", sum := "e9aaa8ae71526d0bd8410e956ce13dcb149e113c8fa72c960db9d4dad3f080f0", func := "gerund/gerundlaw10.ShowAgain", spec := "showAgain", inPlace := ["internal/abi.NoEscape", "internal/bytealg.MakeNoZero", "internal/bytealg.IndexByte", "internal/bytealg.Index", "math.archTrunc", "math.Float64bits", "math.Float64frombits"], unfollowed := true, recurses := true, named := ["internal/bytealg.MaxLen"], apart := false }
def ShowAgainSaid : Prop := showAgainRow.holds Tryz.pinned (OpenSpec.ofChange showAgainSpec)

/-- ITS FALSE NEIGHBOUR: 'it returns false'. Refute it at one input. -/
def showAgainWrong : ChangeSpec := { name := "showAgain", fn := fun _ => fun
  | [d] => { results := [.lit (.bool false)], args := [d] }
  | _ => none }
def ShowAgainWrongFalsely : Prop := showAgainRow.holds Tryz.pinned (OpenSpec.ofChange showAgainWrong)

/- THE SECOND FORM. 'bulk': how many values and letters a reading holds, each counted each time it is reached (what is shared counts as often as it is met; a slice's spare places count too). A statement '..UptoSaid' is the law's where the arguments, and the package variables that the reading takes, are together of bulk at most 1048576: NARROWER than '..Said'. Prove '..Said' where nothing that the law and all that it calls make is longer than what came in: it says more and counts as full. Else prove '..UptoSaid'. A law counts once. -/
mutual
def uptoBulk {H : Type} : DataW H → Nat
  | .lit (.string bytes) => bytes.length + 1
  | .lit _ => 1
  | .nil => 1
  | .ptr d => uptoBulk d + 1
  | .slice elems spare => uptoBulkAll elems + uptoBulkAll spare + 1
  | .agg parts => uptoBulkAll parts + 1
  | .iface _ d => uptoBulk d + 1
  | .map entries => uptoBulkEntries entries + 1
  | .held _ => 1
def uptoBulkAll {H : Type} : List (DataW H) → Nat
  | [] => 0
  | d :: r => uptoBulk d + uptoBulkAll r
def uptoBulkEntries {H : Type} : List (Lit × DataW H) → Nat
  | [] => 0
  | x :: r => uptoBulkEntry x + uptoBulkEntries r
def uptoBulkEntry {H : Type} : Lit × DataW H → Nat
  | (.string bytes, d) => bytes.length + uptoBulk d + 1
  | (_, d) => uptoBulk d + 1
 end
def uptoSmall : (H : Type) → List (DataW H) → Bool := fun _ ds => decide (uptoBulkAll ds ≤ 1048576)
def OpenSpec.upto (s : _root_.Go.ChangeSpec) : _root_.Go.OpenSpec := { _root_.Go.OpenSpec.ofChange s with cond := some uptoSmall }

/-- 'gerundlaw09.CfgAsks', WHERE WHAT IT READS IS OF BULK AT MOST 1048576: true; the input reads as it did. -/
def cfgAsksUptoRow : OpenClaim := { program := "ytimfimchlldabaagreat", sum := "e9aaa8ae71526d0bd8410e956ce13dcb149e113c8fa72c960db9d4dad3f080f0", func := "gerund/gerundlaw09.CfgAsks", spec := "cfgAsks", inPlace := ["internal/bytealg.IndexByte", "internal/bytealg.Index", "math.archTrunc", "math.Float64bits", "math.Float64frombits"], unfollowed := true, recurses := true, named := ["internal/bytealg.MaxLen"], apart := false, narrowed := true }
def CfgAsksUptoSaid : Prop := cfgAsksUptoRow.holds Tryz.pinned (OpenSpec.upto cfgAsksSpec)

/-- 'gerundlaw09.CfgMay', WHERE WHAT IT READS IS OF BULK AT MOST 1048576: true; the input reads as it did. -/
def cfgMayUptoRow : OpenClaim := { program := "ytimfimchlldabaagreat", sum := "e9aaa8ae71526d0bd8410e956ce13dcb149e113c8fa72c960db9d4dad3f080f0", func := "gerund/gerundlaw09.CfgMay", spec := "cfgMay", inPlace := ["internal/bytealg.IndexByte", "internal/bytealg.Index", "math.archTrunc", "math.Float64bits", "math.Float64frombits"], unfollowed := true, recurses := true, named := ["internal/bytealg.MaxLen"], apart := false, narrowed := true }
def CfgMayUptoSaid : Prop := cfgMayUptoRow.holds Tryz.pinned (OpenSpec.upto cfgMaySpec)

/-- 'gerundlaw10.ShowBack', WHERE WHAT IT READS IS OF BULK AT MOST 1048576: true; the input reads as it did. -/
def showBackUptoRow : OpenClaim := { program := "ytimfimchlldabaagreat", sum := "e9aaa8ae71526d0bd8410e956ce13dcb149e113c8fa72c960db9d4dad3f080f0", func := "gerund/gerundlaw10.ShowBack", spec := "showBack", inPlace := ["internal/abi.NoEscape", "internal/bytealg.MakeNoZero", "internal/bytealg.IndexByte", "internal/bytealg.Index", "math.archTrunc", "math.Float64bits", "math.Float64frombits"], unfollowed := true, recurses := true, named := ["internal/bytealg.MaxLen"], apart := false, narrowed := true }
def ShowBackUptoSaid : Prop := showBackUptoRow.holds Tryz.pinned (OpenSpec.upto showBackSpec)

/-- 'gerundlaw10.ShowAgain', WHERE WHAT IT READS IS OF BULK AT MOST 1048576: true; the input reads as it did. -/
def showAgainUptoRow : OpenClaim := { program := "ytimfimchlldabaagreat", sum := "e9aaa8ae71526d0bd8410e956ce13dcb149e113c8fa72c960db9d4dad3f080f0", func := "gerund/gerundlaw10.ShowAgain", spec := "showAgain", inPlace := ["internal/abi.NoEscape", "internal/bytealg.MakeNoZero", "internal/bytealg.IndexByte", "internal/bytealg.Index", "math.archTrunc", "math.Float64bits", "math.Float64frombits"], unfollowed := true, recurses := true, named := ["internal/bytealg.MaxLen"], apart := false, narrowed := true }
def ShowAgainUptoSaid : Prop := showAgainUptoRow.holds Tryz.pinned (OpenSpec.upto showAgainSpec)

end Rows
end Go.Proofs.YtimfimchlldabaaGreat
