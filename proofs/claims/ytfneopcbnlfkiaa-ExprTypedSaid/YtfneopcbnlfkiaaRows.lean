/-
  NARROWER THAN 'FOR EVERY INPUT', by the rows' own cells (each row's printed sentence says how): PlanChooses: loops · PlanWithin: loops · ExprLogic: loops · ExprSame: loops · ExprTyped: loops · PlanEnough: loops.
  DERIVED. THE GIVEN ROWS OF THIS SEAT. 16 by the template 'for every input the law returns true; each argument reads behind the call as it read before'; 0 by the template 'total and deterministic' (their statements: YtfneopcbnlfkiaaTotals.lean).
  GIVEN WITH THE SEED: the statements are not yours to turn. If you find one false, say at which input.
  Laid BY PROGRAM, IN A SANDBOX (cutbox-rows.mjs): the forced cells as the released guide's own fill.sh prints them over the translation e3a3770b9fcf293c… (all of the seat's roots in one cut). By AI agents, Wed Nov 11 2026. No macro, syntax, notation, axiom, sorry.
-/
import Derived.Test.YtfneopcbnlfkiaaChecked
import GoSem.Claim
import GoSem.ClaimJoined
import GoSem.ClaimMapViews
import Derived.JoinedTies
import Derived.KernelRfl
namespace Go.Proofs.Ytfneopcbnlfkiaa
/- THE CELL 'sum', in the pinned program and in every row, IS THE sha256 OF THE DUMP (.gsa) THAT YtfneopcbnlfkiaaProg.lean LOADS. Nothing in Lean hashes anything: it is a label: what it is worth is what the hold of that sum in a sandbox is worth. -/
noncomputable def Try.pinned : Pinned := { name := "ytfneopcbnlfkiaa", sum := "e3a3770b9fcf293ce4c98fa56e40febc73ca998aff4fdf89e654573831b55f2e", checked := Try.checked }
namespace Rows
def none {H : Type} : Left H := { results := [], args := [] }

/-- 'plenumlaw23.PlanChooses': WHATEVER THE INPUT: true; the input reads as it did. -/
def planChoosesSpec : ChangeSpec := { name := "planChooses", fn := fun _ => fun
  | [d1, d2, d3] => { results := [.lit (.bool true)], args := [d1, d2, d3] }
  | _ => none }
def planChoosesRow : OpenClaim := { program := "ytfneopcbnlfkiaa", sum := "e3a3770b9fcf293ce4c98fa56e40febc73ca998aff4fdf89e654573831b55f2e", func := "plenum/plenumlaw23.PlanChooses", spec := "planChooses", recurses := true, loops := true, plainKeys := false, apart := false }
def PlanChoosesSaid : Prop := planChoosesRow.holds Try.pinned (OpenSpec.ofChange planChoosesSpec)

/-- ITS FALSE NEIGHBOUR: 'it returns false'. Refute it at one input. -/
def planChoosesWrong : ChangeSpec := { name := "planChooses", fn := fun _ => fun
  | [d1, d2, d3] => { results := [.lit (.bool false)], args := [d1, d2, d3] }
  | _ => none }
def PlanChoosesWrongFalsely : Prop := planChoosesRow.holds Try.pinned (OpenSpec.ofChange planChoosesWrong)

/-- 'plenumlaw23.PlanWithin': WHATEVER THE INPUT: true; the input reads as it did. -/
def planWithinSpec : ChangeSpec := { name := "planWithin", fn := fun _ => fun
  | [d1, d2, d3, d4] => { results := [.lit (.bool true)], args := [d1, d2, d3, d4] }
  | _ => none }
def planWithinRow : OpenClaim := { program := "ytfneopcbnlfkiaa", sum := "e3a3770b9fcf293ce4c98fa56e40febc73ca998aff4fdf89e654573831b55f2e", func := "plenum/plenumlaw23.PlanWithin", spec := "planWithin", recurses := true, loops := true, plainKeys := false, apart := false }
def PlanWithinSaid : Prop := planWithinRow.holds Try.pinned (OpenSpec.ofChange planWithinSpec)

/-- ITS FALSE NEIGHBOUR: 'it returns false'. Refute it at one input. -/
def planWithinWrong : ChangeSpec := { name := "planWithin", fn := fun _ => fun
  | [d1, d2, d3, d4] => { results := [.lit (.bool false)], args := [d1, d2, d3, d4] }
  | _ => none }
def PlanWithinWrongFalsely : Prop := planWithinRow.holds Try.pinned (OpenSpec.ofChange planWithinWrong)

/-- 'plenumlaw14.LockModes': WHATEVER THE INPUT: true; the input reads as it did. -/
def lockModesSpec : ChangeSpec := { name := "lockModes", fn := fun _ => fun
  | [d1, d2, d3, d4] => { results := [.lit (.bool true)], args := [d1, d2, d3, d4] }
  | _ => none }
def lockModesRow : OpenClaim := { program := "ytfneopcbnlfkiaa", sum := "e3a3770b9fcf293ce4c98fa56e40febc73ca998aff4fdf89e654573831b55f2e", func := "plenum/plenumlaw14.LockModes", spec := "lockModes", inPlace := ["internal/bytealg.Compare"], unfollowed := true, recurses := true, plainKeys := false, apart := false }
def LockModesSaid : Prop := lockModesRow.holds Try.pinned (OpenSpec.ofChange lockModesSpec)

/-- ITS FALSE NEIGHBOUR: 'it returns false'. Refute it at one input. -/
def lockModesWrong : ChangeSpec := { name := "lockModes", fn := fun _ => fun
  | [d1, d2, d3, d4] => { results := [.lit (.bool false)], args := [d1, d2, d3, d4] }
  | _ => none }
def LockModesWrongFalsely : Prop := lockModesRow.holds Try.pinned (OpenSpec.ofChange lockModesWrong)

/-- 'plenumlaw14.LockComes': WHATEVER THE INPUT: true; the input reads as it did. -/
def lockComesSpec : ChangeSpec := { name := "lockComes", fn := fun _ => fun
  | [d1, d2] => { results := [.lit (.bool true)], args := [d1, d2] }
  | _ => none }
def lockComesRow : OpenClaim := { program := "ytfneopcbnlfkiaa", sum := "e3a3770b9fcf293ce4c98fa56e40febc73ca998aff4fdf89e654573831b55f2e", func := "plenum/plenumlaw14.LockComes", spec := "lockComes", inPlace := ["internal/bytealg.Compare"], unfollowed := true, recurses := true, plainKeys := false, apart := false }
def LockComesSaid : Prop := lockComesRow.holds Try.pinned (OpenSpec.ofChange lockComesSpec)

/-- ITS FALSE NEIGHBOUR: 'it returns false'. Refute it at one input. -/
def lockComesWrong : ChangeSpec := { name := "lockComes", fn := fun _ => fun
  | [d1, d2] => { results := [.lit (.bool false)], args := [d1, d2] }
  | _ => none }
def LockComesWrongFalsely : Prop := lockComesRow.holds Try.pinned (OpenSpec.ofChange lockComesWrong)

/-- 'plenumlaw22.ExprNulls': WHATEVER THE INPUT: true; the input reads as it did. -/
def exprNullsSpec : ChangeSpec := { name := "exprNulls", fn := fun _ => fun
  | [d1, d2, d3] => { results := [.lit (.bool true)], args := [d1, d2, d3] }
  | _ => none }
def exprNullsRow : OpenClaim := { program := "ytfneopcbnlfkiaa", sum := "e3a3770b9fcf293ce4c98fa56e40febc73ca998aff4fdf89e654573831b55f2e", func := "plenum/plenumlaw22.ExprNulls", spec := "exprNulls", inPlace := ["internal/bytealg.abigen_runtime_cmpstring"], recurses := true, plainKeys := false, apart := false }
def ExprNullsSaid : Prop := exprNullsRow.holds Try.pinned (OpenSpec.ofChange exprNullsSpec)

/-- ITS FALSE NEIGHBOUR: 'it returns false'. Refute it at one input. -/
def exprNullsWrong : ChangeSpec := { name := "exprNulls", fn := fun _ => fun
  | [d1, d2, d3] => { results := [.lit (.bool false)], args := [d1, d2, d3] }
  | _ => none }
def ExprNullsWrongFalsely : Prop := exprNullsRow.holds Try.pinned (OpenSpec.ofChange exprNullsWrong)

/-- 'plenumlaw22.ExprLogic': WHATEVER THE INPUT: true; the input reads as it did. -/
def exprLogicSpec : ChangeSpec := { name := "exprLogic", fn := fun _ => fun
  | [d1, d2, d3] => { results := [.lit (.bool true)], args := [d1, d2, d3] }
  | _ => none }
def exprLogicRow : OpenClaim := { program := "ytfneopcbnlfkiaa", sum := "e3a3770b9fcf293ce4c98fa56e40febc73ca998aff4fdf89e654573831b55f2e", func := "plenum/plenumlaw22.ExprLogic", spec := "exprLogic", inPlace := ["internal/bytealg.abigen_runtime_cmpstring"], recurses := true, loops := true, plainKeys := false, apart := false }
def ExprLogicSaid : Prop := exprLogicRow.holds Try.pinned (OpenSpec.ofChange exprLogicSpec)

/-- ITS FALSE NEIGHBOUR: 'it returns false'. Refute it at one input. -/
def exprLogicWrong : ChangeSpec := { name := "exprLogic", fn := fun _ => fun
  | [d1, d2, d3] => { results := [.lit (.bool false)], args := [d1, d2, d3] }
  | _ => none }
def ExprLogicWrongFalsely : Prop := exprLogicRow.holds Try.pinned (OpenSpec.ofChange exprLogicWrong)

/-- 'plenumlaw14.LockTogether': WHATEVER THE INPUT: true; the input reads as it did. -/
def lockTogetherSpec : ChangeSpec := { name := "lockTogether", fn := fun _ => fun
  | [d] => { results := [.lit (.bool true)], args := [d] }
  | _ => none }
def lockTogetherRow : OpenClaim := { program := "ytfneopcbnlfkiaa", sum := "e3a3770b9fcf293ce4c98fa56e40febc73ca998aff4fdf89e654573831b55f2e", func := "plenum/plenumlaw14.LockTogether", spec := "lockTogether", inPlace := ["internal/bytealg.Compare"], unfollowed := true, recurses := true, plainKeys := false, apart := false }
def LockTogetherSaid : Prop := lockTogetherRow.holds Try.pinned (OpenSpec.ofChange lockTogetherSpec)

/-- ITS FALSE NEIGHBOUR: 'it returns false'. Refute it at one input. -/
def lockTogetherWrong : ChangeSpec := { name := "lockTogether", fn := fun _ => fun
  | [d] => { results := [.lit (.bool false)], args := [d] }
  | _ => none }
def LockTogetherWrongFalsely : Prop := lockTogetherRow.holds Try.pinned (OpenSpec.ofChange lockTogetherWrong)

/-- 'plenumlaw14.LockDoes': WHATEVER THE INPUT: true; the input reads as it did. -/
def lockDoesSpec : ChangeSpec := { name := "lockDoes", fn := fun _ => fun
  | [d] => { results := [.lit (.bool true)], args := [d] }
  | _ => none }
def lockDoesRow : OpenClaim := { program := "ytfneopcbnlfkiaa", sum := "e3a3770b9fcf293ce4c98fa56e40febc73ca998aff4fdf89e654573831b55f2e", func := "plenum/plenumlaw14.LockDoes", spec := "lockDoes", inPlace := ["internal/bytealg.Compare"], unfollowed := true, recurses := true, plainKeys := false, apart := false }
def LockDoesSaid : Prop := lockDoesRow.holds Try.pinned (OpenSpec.ofChange lockDoesSpec)

/-- ITS FALSE NEIGHBOUR: 'it returns false'. Refute it at one input. -/
def lockDoesWrong : ChangeSpec := { name := "lockDoes", fn := fun _ => fun
  | [d] => { results := [.lit (.bool false)], args := [d] }
  | _ => none }
def LockDoesWrongFalsely : Prop := lockDoesRow.holds Try.pinned (OpenSpec.ofChange lockDoesWrong)

/-- 'plenumlaw14.LockHolds': WHATEVER THE INPUT: true; the input reads as it did. -/
def lockHoldsSpec : ChangeSpec := { name := "lockHolds", fn := fun _ => fun
  | [d1, d2] => { results := [.lit (.bool true)], args := [d1, d2] }
  | _ => none }
def lockHoldsRow : OpenClaim := { program := "ytfneopcbnlfkiaa", sum := "e3a3770b9fcf293ce4c98fa56e40febc73ca998aff4fdf89e654573831b55f2e", func := "plenum/plenumlaw14.LockHolds", spec := "lockHolds", inPlace := ["internal/bytealg.Compare"], unfollowed := true, recurses := true, plainKeys := false, apart := false }
def LockHoldsSaid : Prop := lockHoldsRow.holds Try.pinned (OpenSpec.ofChange lockHoldsSpec)

/-- ITS FALSE NEIGHBOUR: 'it returns false'. Refute it at one input. -/
def lockHoldsWrong : ChangeSpec := { name := "lockHolds", fn := fun _ => fun
  | [d1, d2] => { results := [.lit (.bool false)], args := [d1, d2] }
  | _ => none }
def LockHoldsWrongFalsely : Prop := lockHoldsRow.holds Try.pinned (OpenSpec.ofChange lockHoldsWrong)

/-- 'plenumlaw22.ExprSame': WHATEVER THE INPUT: true; the input reads as it did. -/
def exprSameSpec : ChangeSpec := { name := "exprSame", fn := fun _ => fun
  | [d1, d2] => { results := [.lit (.bool true)], args := [d1, d2] }
  | _ => none }
def exprSameRow : OpenClaim := { program := "ytfneopcbnlfkiaa", sum := "e3a3770b9fcf293ce4c98fa56e40febc73ca998aff4fdf89e654573831b55f2e", func := "plenum/plenumlaw22.ExprSame", spec := "exprSame", inPlace := ["internal/bytealg.abigen_runtime_cmpstring"], unfollowed := true, recurses := true, loops := true, plainKeys := false, apart := false }
def ExprSameSaid : Prop := exprSameRow.holds Try.pinned (OpenSpec.ofChange exprSameSpec)

/-- ITS FALSE NEIGHBOUR: 'it returns false'. Refute it at one input. -/
def exprSameWrong : ChangeSpec := { name := "exprSame", fn := fun _ => fun
  | [d1, d2] => { results := [.lit (.bool false)], args := [d1, d2] }
  | _ => none }
def ExprSameWrongFalsely : Prop := exprSameRow.holds Try.pinned (OpenSpec.ofChange exprSameWrong)

/-- 'plenumlaw22.ExprTyped': WHATEVER THE INPUT: true; the input reads as it did. -/
def exprTypedSpec : ChangeSpec := { name := "exprTyped", fn := fun _ => fun
  | [d1, d2, d3] => { results := [.lit (.bool true)], args := [d1, d2, d3] }
  | _ => none }
def exprTypedRow : OpenClaim := { program := "ytfneopcbnlfkiaa", sum := "e3a3770b9fcf293ce4c98fa56e40febc73ca998aff4fdf89e654573831b55f2e", func := "plenum/plenumlaw22.ExprTyped", spec := "exprTyped", inPlace := ["internal/bytealg.abigen_runtime_cmpstring"], unfollowed := true, recurses := true, loops := true, plainKeys := false, apart := false }
def ExprTypedSaid : Prop := exprTypedRow.holds Try.pinned (OpenSpec.ofChange exprTypedSpec)

/-- ITS FALSE NEIGHBOUR: 'it returns false'. Refute it at one input. -/
def exprTypedWrong : ChangeSpec := { name := "exprTyped", fn := fun _ => fun
  | [d1, d2, d3] => { results := [.lit (.bool false)], args := [d1, d2, d3] }
  | _ => none }
def ExprTypedWrongFalsely : Prop := exprTypedRow.holds Try.pinned (OpenSpec.ofChange exprTypedWrong)

/-- 'plenumlaw15.MetaDecides': WHATEVER THE INPUT: true; the input reads as it did. -/
def metaDecidesSpec : ChangeSpec := { name := "metaDecides", fn := fun _ => fun
  | [d] => { results := [.lit (.bool true)], args := [d] }
  | _ => none }
def metaDecidesRow : OpenClaim := { program := "ytfneopcbnlfkiaa", sum := "e3a3770b9fcf293ce4c98fa56e40febc73ca998aff4fdf89e654573831b55f2e", func := "plenum/plenumlaw15.MetaDecides", spec := "metaDecides", inPlace := ["internal/bytealg.Compare"], unfollowed := true, recurses := true, plainKeys := false, apart := false }
def MetaDecidesSaid : Prop := metaDecidesRow.holds Try.pinned (OpenSpec.ofChange metaDecidesSpec)

/-- ITS FALSE NEIGHBOUR: 'it returns false'. Refute it at one input. -/
def metaDecidesWrong : ChangeSpec := { name := "metaDecides", fn := fun _ => fun
  | [d] => { results := [.lit (.bool false)], args := [d] }
  | _ => none }
def MetaDecidesWrongFalsely : Prop := metaDecidesRow.holds Try.pinned (OpenSpec.ofChange metaDecidesWrong)

/-- 'plenumlaw15.MetaDoes': WHATEVER THE INPUT: true; the input reads as it did. -/
def metaDoesSpec : ChangeSpec := { name := "metaDoes", fn := fun _ => fun
  | [d] => { results := [.lit (.bool true)], args := [d] }
  | _ => none }
def metaDoesRow : OpenClaim := { program := "ytfneopcbnlfkiaa", sum := "e3a3770b9fcf293ce4c98fa56e40febc73ca998aff4fdf89e654573831b55f2e", func := "plenum/plenumlaw15.MetaDoes", spec := "metaDoes", inPlace := ["internal/bytealg.Compare"], unfollowed := true, recurses := true, plainKeys := false, apart := false }
def MetaDoesSaid : Prop := metaDoesRow.holds Try.pinned (OpenSpec.ofChange metaDoesSpec)

/-- ITS FALSE NEIGHBOUR: 'it returns false'. Refute it at one input. -/
def metaDoesWrong : ChangeSpec := { name := "metaDoes", fn := fun _ => fun
  | [d] => { results := [.lit (.bool false)], args := [d] }
  | _ => none }
def MetaDoesWrongFalsely : Prop := metaDoesRow.holds Try.pinned (OpenSpec.ofChange metaDoesWrong)

/-- 'plenumlaw15.MetaAgain': WHATEVER THE INPUT: true; the input reads as it did. -/
def metaAgainSpec : ChangeSpec := { name := "metaAgain", fn := fun _ => fun
  | [d1, d2, d3, d4] => { results := [.lit (.bool true)], args := [d1, d2, d3, d4] }
  | _ => none }
def metaAgainRow : OpenClaim := { program := "ytfneopcbnlfkiaa", sum := "e3a3770b9fcf293ce4c98fa56e40febc73ca998aff4fdf89e654573831b55f2e", func := "plenum/plenumlaw15.MetaAgain", spec := "metaAgain", inPlace := ["internal/bytealg.Compare"], unfollowed := true, recurses := true, plainKeys := false, apart := false }
def MetaAgainSaid : Prop := metaAgainRow.holds Try.pinned (OpenSpec.ofChange metaAgainSpec)

/-- ITS FALSE NEIGHBOUR: 'it returns false'. Refute it at one input. -/
def metaAgainWrong : ChangeSpec := { name := "metaAgain", fn := fun _ => fun
  | [d1, d2, d3, d4] => { results := [.lit (.bool false)], args := [d1, d2, d3, d4] }
  | _ => none }
def MetaAgainWrongFalsely : Prop := metaAgainRow.holds Try.pinned (OpenSpec.ofChange metaAgainWrong)

/-- 'plenumlaw23.PlanEnough': WHATEVER THE INPUT: true; the input reads as it did. -/
def planEnoughSpec : ChangeSpec := { name := "planEnough", fn := fun _ => fun
  | [d1, d2, d3] => { results := [.lit (.bool true)], args := [d1, d2, d3] }
  | _ => none }
def planEnoughRow : OpenClaim := { program := "ytfneopcbnlfkiaa", sum := "e3a3770b9fcf293ce4c98fa56e40febc73ca998aff4fdf89e654573831b55f2e", func := "plenum/plenumlaw23.PlanEnough", spec := "planEnough", inPlace := ["internal/bytealg.abigen_runtime_cmpstring"], unfollowed := true, recurses := true, loops := true, plainKeys := false, apart := false }
def PlanEnoughSaid : Prop := planEnoughRow.holds Try.pinned (OpenSpec.ofChange planEnoughSpec)

/-- ITS FALSE NEIGHBOUR: 'it returns false'. Refute it at one input. -/
def planEnoughWrong : ChangeSpec := { name := "planEnough", fn := fun _ => fun
  | [d1, d2, d3] => { results := [.lit (.bool false)], args := [d1, d2, d3] }
  | _ => none }
def PlanEnoughWrongFalsely : Prop := planEnoughRow.holds Try.pinned (OpenSpec.ofChange planEnoughWrong)

/-- 'plenumlaw15.MetaCommands': WHATEVER THE INPUT: true; the input reads as it did. -/
def metaCommandsSpec : ChangeSpec := { name := "metaCommands", fn := fun _ => fun
  | [d1, d2] => { results := [.lit (.bool true)], args := [d1, d2] }
  | _ => none }
def metaCommandsRow : OpenClaim := { program := "ytfneopcbnlfkiaa", sum := "e3a3770b9fcf293ce4c98fa56e40febc73ca998aff4fdf89e654573831b55f2e", func := "plenum/plenumlaw15.MetaCommands", spec := "metaCommands", inPlace := ["internal/bytealg.Compare"], unfollowed := true, recurses := true, plainKeys := false, apart := false }
def MetaCommandsSaid : Prop := metaCommandsRow.holds Try.pinned (OpenSpec.ofChange metaCommandsSpec)

/-- ITS FALSE NEIGHBOUR: 'it returns false'. Refute it at one input. -/
def metaCommandsWrong : ChangeSpec := { name := "metaCommands", fn := fun _ => fun
  | [d1, d2] => { results := [.lit (.bool false)], args := [d1, d2] }
  | _ => none }
def MetaCommandsWrongFalsely : Prop := metaCommandsRow.holds Try.pinned (OpenSpec.ofChange metaCommandsWrong)

/- THE SECOND FORM. 'bulk': how many values and letters a reading holds, each counted each time it is reached (what is shared counts as often as it is met; a slice's spare places count too). A statement '..UptoSaid' is the law's where the arguments, and the package variables that the reading takes, are together of bulk at most 1048576: NARROWER than '..Said'. Prove '..Said' where nothing that the law and all that it calls make is longer than what came in: it says more and counts as full. Else prove '..UptoSaid'. A law counts once. -/
mutual
def uptoBulk {H : Type} : DataW H → Nat
  | .lit (.string bytes) => bytes.length + 1
  | .lit _ => 1
  | .nil => 1
  | .ptr d => uptoBulk d + 1
  | .slice elems spare => uptoBulkAll elems + uptoBulkAll spare + 1
  | .agg parts => uptoBulkAll parts + 1
  | .iface _ d => uptoBulk d + 1
  | .map entries => uptoBulkEntries entries + 1
  | .held _ => 1
def uptoBulkAll {H : Type} : List (DataW H) → Nat
  | [] => 0
  | d :: r => uptoBulk d + uptoBulkAll r
def uptoBulkEntries {H : Type} : List (Lit × DataW H) → Nat
  | [] => 0
  | x :: r => uptoBulkEntry x + uptoBulkEntries r
def uptoBulkEntry {H : Type} : Lit × DataW H → Nat
  | (.string bytes, d) => bytes.length + uptoBulk d + 1
  | (_, d) => uptoBulk d + 1
 end
def uptoSmall : (H : Type) → List (DataW H) → Bool := fun _ ds => decide (uptoBulkAll ds ≤ 1048576)
def OpenSpec.upto (s : _root_.Go.ChangeSpec) : _root_.Go.OpenSpec := { _root_.Go.OpenSpec.ofChange s with cond := some uptoSmall }

/-- 'plenumlaw23.PlanChooses', WHERE WHAT IT READS IS OF BULK AT MOST 1048576: true; the input reads as it did. -/
def planChoosesUptoRow : OpenClaim := { program := "ytfneopcbnlfkiaa", sum := "e3a3770b9fcf293ce4c98fa56e40febc73ca998aff4fdf89e654573831b55f2e", func := "plenum/plenumlaw23.PlanChooses", spec := "planChooses", recurses := true, loops := true, plainKeys := false, apart := false, narrowed := true }
def PlanChoosesUptoSaid : Prop := planChoosesUptoRow.holds Try.pinned (OpenSpec.upto planChoosesSpec)

/-- 'plenumlaw23.PlanWithin', WHERE WHAT IT READS IS OF BULK AT MOST 1048576: true; the input reads as it did. -/
def planWithinUptoRow : OpenClaim := { program := "ytfneopcbnlfkiaa", sum := "e3a3770b9fcf293ce4c98fa56e40febc73ca998aff4fdf89e654573831b55f2e", func := "plenum/plenumlaw23.PlanWithin", spec := "planWithin", recurses := true, loops := true, plainKeys := false, apart := false, narrowed := true }
def PlanWithinUptoSaid : Prop := planWithinUptoRow.holds Try.pinned (OpenSpec.upto planWithinSpec)

/-- 'plenumlaw14.LockModes', WHERE WHAT IT READS IS OF BULK AT MOST 1048576: true; the input reads as it did. -/
def lockModesUptoRow : OpenClaim := { program := "ytfneopcbnlfkiaa", sum := "e3a3770b9fcf293ce4c98fa56e40febc73ca998aff4fdf89e654573831b55f2e", func := "plenum/plenumlaw14.LockModes", spec := "lockModes", inPlace := ["internal/bytealg.Compare"], unfollowed := true, recurses := true, plainKeys := false, apart := false, narrowed := true }
def LockModesUptoSaid : Prop := lockModesUptoRow.holds Try.pinned (OpenSpec.upto lockModesSpec)

/-- 'plenumlaw14.LockComes', WHERE WHAT IT READS IS OF BULK AT MOST 1048576: true; the input reads as it did. -/
def lockComesUptoRow : OpenClaim := { program := "ytfneopcbnlfkiaa", sum := "e3a3770b9fcf293ce4c98fa56e40febc73ca998aff4fdf89e654573831b55f2e", func := "plenum/plenumlaw14.LockComes", spec := "lockComes", inPlace := ["internal/bytealg.Compare"], unfollowed := true, recurses := true, plainKeys := false, apart := false, narrowed := true }
def LockComesUptoSaid : Prop := lockComesUptoRow.holds Try.pinned (OpenSpec.upto lockComesSpec)

/-- 'plenumlaw22.ExprNulls', WHERE WHAT IT READS IS OF BULK AT MOST 1048576: true; the input reads as it did. -/
def exprNullsUptoRow : OpenClaim := { program := "ytfneopcbnlfkiaa", sum := "e3a3770b9fcf293ce4c98fa56e40febc73ca998aff4fdf89e654573831b55f2e", func := "plenum/plenumlaw22.ExprNulls", spec := "exprNulls", inPlace := ["internal/bytealg.abigen_runtime_cmpstring"], recurses := true, plainKeys := false, apart := false, narrowed := true }
def ExprNullsUptoSaid : Prop := exprNullsUptoRow.holds Try.pinned (OpenSpec.upto exprNullsSpec)

/-- 'plenumlaw22.ExprLogic', WHERE WHAT IT READS IS OF BULK AT MOST 1048576: true; the input reads as it did. -/
def exprLogicUptoRow : OpenClaim := { program := "ytfneopcbnlfkiaa", sum := "e3a3770b9fcf293ce4c98fa56e40febc73ca998aff4fdf89e654573831b55f2e", func := "plenum/plenumlaw22.ExprLogic", spec := "exprLogic", inPlace := ["internal/bytealg.abigen_runtime_cmpstring"], recurses := true, loops := true, plainKeys := false, apart := false, narrowed := true }
def ExprLogicUptoSaid : Prop := exprLogicUptoRow.holds Try.pinned (OpenSpec.upto exprLogicSpec)

/-- 'plenumlaw14.LockTogether', WHERE WHAT IT READS IS OF BULK AT MOST 1048576: true; the input reads as it did. -/
def lockTogetherUptoRow : OpenClaim := { program := "ytfneopcbnlfkiaa", sum := "e3a3770b9fcf293ce4c98fa56e40febc73ca998aff4fdf89e654573831b55f2e", func := "plenum/plenumlaw14.LockTogether", spec := "lockTogether", inPlace := ["internal/bytealg.Compare"], unfollowed := true, recurses := true, plainKeys := false, apart := false, narrowed := true }
def LockTogetherUptoSaid : Prop := lockTogetherUptoRow.holds Try.pinned (OpenSpec.upto lockTogetherSpec)

/-- 'plenumlaw14.LockDoes', WHERE WHAT IT READS IS OF BULK AT MOST 1048576: true; the input reads as it did. -/
def lockDoesUptoRow : OpenClaim := { program := "ytfneopcbnlfkiaa", sum := "e3a3770b9fcf293ce4c98fa56e40febc73ca998aff4fdf89e654573831b55f2e", func := "plenum/plenumlaw14.LockDoes", spec := "lockDoes", inPlace := ["internal/bytealg.Compare"], unfollowed := true, recurses := true, plainKeys := false, apart := false, narrowed := true }
def LockDoesUptoSaid : Prop := lockDoesUptoRow.holds Try.pinned (OpenSpec.upto lockDoesSpec)

/-- 'plenumlaw14.LockHolds', WHERE WHAT IT READS IS OF BULK AT MOST 1048576: true; the input reads as it did. -/
def lockHoldsUptoRow : OpenClaim := { program := "ytfneopcbnlfkiaa", sum := "e3a3770b9fcf293ce4c98fa56e40febc73ca998aff4fdf89e654573831b55f2e", func := "plenum/plenumlaw14.LockHolds", spec := "lockHolds", inPlace := ["internal/bytealg.Compare"], unfollowed := true, recurses := true, plainKeys := false, apart := false, narrowed := true }
def LockHoldsUptoSaid : Prop := lockHoldsUptoRow.holds Try.pinned (OpenSpec.upto lockHoldsSpec)

/-- 'plenumlaw22.ExprSame', WHERE WHAT IT READS IS OF BULK AT MOST 1048576: true; the input reads as it did. -/
def exprSameUptoRow : OpenClaim := { program := "ytfneopcbnlfkiaa", sum := "e3a3770b9fcf293ce4c98fa56e40febc73ca998aff4fdf89e654573831b55f2e", func := "plenum/plenumlaw22.ExprSame", spec := "exprSame", inPlace := ["internal/bytealg.abigen_runtime_cmpstring"], unfollowed := true, recurses := true, loops := true, plainKeys := false, apart := false, narrowed := true }
def ExprSameUptoSaid : Prop := exprSameUptoRow.holds Try.pinned (OpenSpec.upto exprSameSpec)

/-- 'plenumlaw22.ExprTyped', WHERE WHAT IT READS IS OF BULK AT MOST 1048576: true; the input reads as it did. -/
def exprTypedUptoRow : OpenClaim := { program := "ytfneopcbnlfkiaa", sum := "e3a3770b9fcf293ce4c98fa56e40febc73ca998aff4fdf89e654573831b55f2e", func := "plenum/plenumlaw22.ExprTyped", spec := "exprTyped", inPlace := ["internal/bytealg.abigen_runtime_cmpstring"], unfollowed := true, recurses := true, loops := true, plainKeys := false, apart := false, narrowed := true }
def ExprTypedUptoSaid : Prop := exprTypedUptoRow.holds Try.pinned (OpenSpec.upto exprTypedSpec)

/-- 'plenumlaw15.MetaDecides', WHERE WHAT IT READS IS OF BULK AT MOST 1048576: true; the input reads as it did. -/
def metaDecidesUptoRow : OpenClaim := { program := "ytfneopcbnlfkiaa", sum := "e3a3770b9fcf293ce4c98fa56e40febc73ca998aff4fdf89e654573831b55f2e", func := "plenum/plenumlaw15.MetaDecides", spec := "metaDecides", inPlace := ["internal/bytealg.Compare"], unfollowed := true, recurses := true, plainKeys := false, apart := false, narrowed := true }
def MetaDecidesUptoSaid : Prop := metaDecidesUptoRow.holds Try.pinned (OpenSpec.upto metaDecidesSpec)

/-- 'plenumlaw15.MetaDoes', WHERE WHAT IT READS IS OF BULK AT MOST 1048576: true; the input reads as it did. -/
def metaDoesUptoRow : OpenClaim := { program := "ytfneopcbnlfkiaa", sum := "e3a3770b9fcf293ce4c98fa56e40febc73ca998aff4fdf89e654573831b55f2e", func := "plenum/plenumlaw15.MetaDoes", spec := "metaDoes", inPlace := ["internal/bytealg.Compare"], unfollowed := true, recurses := true, plainKeys := false, apart := false, narrowed := true }
def MetaDoesUptoSaid : Prop := metaDoesUptoRow.holds Try.pinned (OpenSpec.upto metaDoesSpec)

/-- 'plenumlaw15.MetaAgain', WHERE WHAT IT READS IS OF BULK AT MOST 1048576: true; the input reads as it did. -/
def metaAgainUptoRow : OpenClaim := { program := "ytfneopcbnlfkiaa", sum := "e3a3770b9fcf293ce4c98fa56e40febc73ca998aff4fdf89e654573831b55f2e", func := "plenum/plenumlaw15.MetaAgain", spec := "metaAgain", inPlace := ["internal/bytealg.Compare"], unfollowed := true, recurses := true, plainKeys := false, apart := false, narrowed := true }
def MetaAgainUptoSaid : Prop := metaAgainUptoRow.holds Try.pinned (OpenSpec.upto metaAgainSpec)

/-- 'plenumlaw23.PlanEnough', WHERE WHAT IT READS IS OF BULK AT MOST 1048576: true; the input reads as it did. -/
def planEnoughUptoRow : OpenClaim := { program := "ytfneopcbnlfkiaa", sum := "e3a3770b9fcf293ce4c98fa56e40febc73ca998aff4fdf89e654573831b55f2e", func := "plenum/plenumlaw23.PlanEnough", spec := "planEnough", inPlace := ["internal/bytealg.abigen_runtime_cmpstring"], unfollowed := true, recurses := true, loops := true, plainKeys := false, apart := false, narrowed := true }
def PlanEnoughUptoSaid : Prop := planEnoughUptoRow.holds Try.pinned (OpenSpec.upto planEnoughSpec)

/-- 'plenumlaw15.MetaCommands', WHERE WHAT IT READS IS OF BULK AT MOST 1048576: true; the input reads as it did. -/
def metaCommandsUptoRow : OpenClaim := { program := "ytfneopcbnlfkiaa", sum := "e3a3770b9fcf293ce4c98fa56e40febc73ca998aff4fdf89e654573831b55f2e", func := "plenum/plenumlaw15.MetaCommands", spec := "metaCommands", inPlace := ["internal/bytealg.Compare"], unfollowed := true, recurses := true, plainKeys := false, apart := false, narrowed := true }
def MetaCommandsUptoSaid : Prop := metaCommandsUptoRow.holds Try.pinned (OpenSpec.upto metaCommandsSpec)

end Rows
end Go.Proofs.Ytfneopcbnlfkiaa
