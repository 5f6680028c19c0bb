/-
  No cell of these rows narrows 'for every input' (looked for: loops, veiled, ifaces, maps, wideKeys, modest, calm, conditions, laid).
  DERIVED. THE GIVEN ROWS OF THIS SEAT. 3 by the template 'for every input the law returns true; each argument reads behind the call as it read before'; 0 by the template 'total and deterministic' (their statements: YtkgkafjachjafaaGreatTotals.lean).
  GIVEN WITH THE SEED: the statements are not yours to turn. If you find one false, say at which input.
  Laid BY PROGRAM, IN A SANDBOX (cutbox-rows.mjs): the forced cells as the released guide's own fill.sh prints them over the translation c31646acba77bcdc… (all of the seat's roots in one cut). By AI agents, Wed Nov 11 2026. No macro, syntax, notation, axiom, sorry.
-/
import Derived.Test.YtkgkafjachjafaaGreatChecked
import GoSem.Claim
import GoSem.ClaimJoined
import GoSem.ClaimMapViews
import Derived.JoinedTies
import Derived.KernelRfl
namespace Go.Proofs.YtkgkafjachjafaaGreat
/- THE CELL 'sum', in the pinned program and in every row, IS THE sha256 OF THE DUMP (.gsa) THAT YtkgkafjachjafaaGreatProg.lean LOADS. Nothing in Lean hashes anything: it is a label: what it is worth is what the hold of that sum in a sandbox is worth. -/
noncomputable def Tryz.pinned : Pinned := { name := "ytkgkafjachjafaagreat", sum := "c31646acba77bcdcb8e476d0861109366fd8e8fcb81e008e18ebdbe19b1abdb2", checked := Tryz.checked }
namespace Rows
def none {H : Type} : Left H := { results := [], args := [] }

/-- 'laws.FnExactPrune': WHATEVER THE INPUT: true; the input reads as it did. -/
def fnExactPruneSpec : ChangeSpec := { name := "fnExactPrune", fn := fun _ => fun
  | [d1, d2, d3] => { results := [.lit (.bool true)], args := [d1, d2, d3] }
  | _ => none }
def fnExactPruneRow : OpenClaim := { program := "ytkgkafjachjafaagreat", sum := "c31646acba77bcdcb8e476d0861109366fd8e8fcb81e008e18ebdbe19b1abdb2", func := "loop.example/g00070/laws.FnExactPrune", spec := "fnExactPrune", inPlace := ["math.Float64bits"], unfollowed := true, recurses := true, apart := false }
def FnExactPruneSaid : Prop := fnExactPruneRow.holds Tryz.pinned (OpenSpec.ofChange fnExactPruneSpec)

/-- ITS FALSE NEIGHBOUR: 'it returns false'. Refute it at one input. -/
def fnExactPruneWrong : ChangeSpec := { name := "fnExactPrune", fn := fun _ => fun
  | [d1, d2, d3] => { results := [.lit (.bool false)], args := [d1, d2, d3] }
  | _ => none }
def FnExactPruneWrongFalsely : Prop := fnExactPruneRow.holds Tryz.pinned (OpenSpec.ofChange fnExactPruneWrong)

/-- 'laws.FnExactCompile': WHATEVER THE INPUT: true; the input reads as it did. -/
def fnExactCompileSpec : ChangeSpec := { name := "fnExactCompile", fn := fun _ => fun
  | [d1, d2, d3] => { results := [.lit (.bool true)], args := [d1, d2, d3] }
  | _ => none }
def fnExactCompileRow : OpenClaim := { program := "ytkgkafjachjafaagreat", sum := "c31646acba77bcdcb8e476d0861109366fd8e8fcb81e008e18ebdbe19b1abdb2", func := "loop.example/g00070/laws.FnExactCompile", spec := "fnExactCompile", inPlace := ["math.Float64bits"], unfollowed := true, recurses := true, apart := false }
def FnExactCompileSaid : Prop := fnExactCompileRow.holds Tryz.pinned (OpenSpec.ofChange fnExactCompileSpec)

/-- ITS FALSE NEIGHBOUR: 'it returns false'. Refute it at one input. -/
def fnExactCompileWrong : ChangeSpec := { name := "fnExactCompile", fn := fun _ => fun
  | [d1, d2, d3] => { results := [.lit (.bool false)], args := [d1, d2, d3] }
  | _ => none }
def FnExactCompileWrongFalsely : Prop := fnExactCompileRow.holds Tryz.pinned (OpenSpec.ofChange fnExactCompileWrong)

/-- 'laws.FnExactEffects': WHATEVER THE INPUT: true; the input reads as it did. -/
def fnExactEffectsSpec : ChangeSpec := { name := "fnExactEffects", fn := fun _ => fun
  | [d1, d2, d3] => { results := [.lit (.bool true)], args := [d1, d2, d3] }
  | _ => none }
def fnExactEffectsRow : OpenClaim := { program := "ytkgkafjachjafaagreat", sum := "c31646acba77bcdcb8e476d0861109366fd8e8fcb81e008e18ebdbe19b1abdb2", func := "loop.example/g00070/laws.FnExactEffects", spec := "fnExactEffects", inPlace := ["math.Float64bits"], unfollowed := true, recurses := true, apart := false }
def FnExactEffectsSaid : Prop := fnExactEffectsRow.holds Tryz.pinned (OpenSpec.ofChange fnExactEffectsSpec)

/-- ITS FALSE NEIGHBOUR: 'it returns false'. Refute it at one input. -/
def fnExactEffectsWrong : ChangeSpec := { name := "fnExactEffects", fn := fun _ => fun
  | [d1, d2, d3] => { results := [.lit (.bool false)], args := [d1, d2, d3] }
  | _ => none }
def FnExactEffectsWrongFalsely : Prop := fnExactEffectsRow.holds Tryz.pinned (OpenSpec.ofChange fnExactEffectsWrong)

/- THE SECOND FORM. 'bulk': how many values and letters a reading holds, each counted each time it is reached (what is shared counts as often as it is met; a slice's spare places count too). A statement '..UptoSaid' is the law's where the arguments, and the package variables that the reading takes, are together of bulk at most 1048576: NARROWER than '..Said'. Prove '..Said' where nothing that the law and all that it calls make is longer than what came in: it says more and counts as full. Else prove '..UptoSaid'. A law counts once. -/
mutual
def uptoBulk {H : Type} : DataW H → Nat
  | .lit (.string bytes) => bytes.length + 1
  | .lit _ => 1
  | .nil => 1
  | .ptr d => uptoBulk d + 1
  | .slice elems spare => uptoBulkAll elems + uptoBulkAll spare + 1
  | .agg parts => uptoBulkAll parts + 1
  | .iface _ d => uptoBulk d + 1
  | .map entries => uptoBulkEntries entries + 1
  | .held _ => 1
def uptoBulkAll {H : Type} : List (DataW H) → Nat
  | [] => 0
  | d :: r => uptoBulk d + uptoBulkAll r
def uptoBulkEntries {H : Type} : List (Lit × DataW H) → Nat
  | [] => 0
  | x :: r => uptoBulkEntry x + uptoBulkEntries r
def uptoBulkEntry {H : Type} : Lit × DataW H → Nat
  | (.string bytes, d) => bytes.length + uptoBulk d + 1
  | (_, d) => uptoBulk d + 1
 end
def uptoSmall : (H : Type) → List (DataW H) → Bool := fun _ ds => decide (uptoBulkAll ds ≤ 1048576)
def OpenSpec.upto (s : _root_.Go.ChangeSpec) : _root_.Go.OpenSpec := { _root_.Go.OpenSpec.ofChange s with cond := some uptoSmall }

/-- 'laws.FnExactPrune', WHERE WHAT IT READS IS OF BULK AT MOST 1048576: true; the input reads as it did. -/
def fnExactPruneUptoRow : OpenClaim := { program := "ytkgkafjachjafaagreat", sum := "c31646acba77bcdcb8e476d0861109366fd8e8fcb81e008e18ebdbe19b1abdb2", func := "loop.example/g00070/laws.FnExactPrune", spec := "fnExactPrune", inPlace := ["math.Float64bits"], unfollowed := true, recurses := true, apart := false, narrowed := true }
def FnExactPruneUptoSaid : Prop := fnExactPruneUptoRow.holds Tryz.pinned (OpenSpec.upto fnExactPruneSpec)

/-- 'laws.FnExactCompile', WHERE WHAT IT READS IS OF BULK AT MOST 1048576: true; the input reads as it did. -/
def fnExactCompileUptoRow : OpenClaim := { program := "ytkgkafjachjafaagreat", sum := "c31646acba77bcdcb8e476d0861109366fd8e8fcb81e008e18ebdbe19b1abdb2", func := "loop.example/g00070/laws.FnExactCompile", spec := "fnExactCompile", inPlace := ["math.Float64bits"], unfollowed := true, recurses := true, apart := false, narrowed := true }
def FnExactCompileUptoSaid : Prop := fnExactCompileUptoRow.holds Tryz.pinned (OpenSpec.upto fnExactCompileSpec)

/-- 'laws.FnExactEffects', WHERE WHAT IT READS IS OF BULK AT MOST 1048576: true; the input reads as it did. -/
def fnExactEffectsUptoRow : OpenClaim := { program := "ytkgkafjachjafaagreat", sum := "c31646acba77bcdcb8e476d0861109366fd8e8fcb81e008e18ebdbe19b1abdb2", func := "loop.example/g00070/laws.FnExactEffects", spec := "fnExactEffects", inPlace := ["math.Float64bits"], unfollowed := true, recurses := true, apart := false, narrowed := true }
def FnExactEffectsUptoSaid : Prop := fnExactEffectsUptoRow.holds Tryz.pinned (OpenSpec.upto fnExactEffectsSpec)

end Rows
end Go.Proofs.YtkgkafjachjafaaGreat
