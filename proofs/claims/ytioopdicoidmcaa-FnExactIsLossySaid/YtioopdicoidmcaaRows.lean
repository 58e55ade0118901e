/-
  NARROWER THAN 'FOR EVERY INPUT', by the rows' own cells (each row's printed sentence says how): FnExactIsLossy: loops · FnExactSwapSpan: loops · FnExactLossyBetween: loops · FnExactStepsFor: loops · FnExactReversePlan: loops.
  DERIVED. THE GIVEN ROWS OF THIS SEAT. 6 by the template 'for every input the law returns true; each argument reads behind the call as it read before'; 0 by the template 'total and deterministic' (their statements: YtioopdicoidmcaaTotals.lean).
  GIVEN WITH THE SEED: the statements are not yours to turn. If you find one false, say at which input.
  Laid BY PROGRAM, IN A SANDBOX (cutbox-rows.mjs): the forced cells as the released guide's own fill.sh prints them over the translation 27433fada2f73662… (all of the seat's roots in one cut). By AI agents, Wed Nov 11 2026. No macro, syntax, notation, axiom, sorry.
-/
import Derived.Test.YtioopdicoidmcaaChecked
import GoSem.Claim
import GoSem.ClaimJoined
import GoSem.ClaimMapViews
import Derived.JoinedTies
import Derived.KernelRfl
namespace Go.Proofs.Ytioopdicoidmcaa
/- THE CELL 'sum', in the pinned program and in every row, IS THE sha256 OF THE DUMP (.gsa) THAT YtioopdicoidmcaaProg.lean LOADS. Nothing in Lean hashes anything: it is a label: what it is worth is what the hold of that sum in a sandbox is worth. -/
noncomputable def Try.pinned : Pinned := { name := "ytioopdicoidmcaa", sum := "27433fada2f7366203a6a79859e19ee6b3f3ebbc6aff3fa9caab2c12d450707b", checked := Try.checked }
namespace Rows
def none {H : Type} : Left H := { results := [], args := [] }

/-- 'laws.FnExactExampleTexts': WHATEVER THE INPUT: true; the input reads as it did. -/
def fnExactExampleTextsSpec : ChangeSpec := { name := "fnExactExampleTexts", fn := fun _ => fun
  | [d] => { results := [.lit (.bool true)], args := [d] }
  | _ => none }
def fnExactExampleTextsRow : OpenClaim := { program := "ytioopdicoidmcaa", sum := "27433fada2f7366203a6a79859e19ee6b3f3ebbc6aff3fa9caab2c12d450707b", func := "loop.example/g00592/laws.FnExactExampleTexts", spec := "fnExactExampleTexts", apart := false }
def FnExactExampleTextsSaid : Prop := fnExactExampleTextsRow.holds Try.pinned (OpenSpec.ofChange fnExactExampleTextsSpec)

/-- ITS FALSE NEIGHBOUR: 'it returns false'. Refute it at one input. -/
def fnExactExampleTextsWrong : ChangeSpec := { name := "fnExactExampleTexts", fn := fun _ => fun
  | [d] => { results := [.lit (.bool false)], args := [d] }
  | _ => none }
def FnExactExampleTextsWrongFalsely : Prop := fnExactExampleTextsRow.holds Try.pinned (OpenSpec.ofChange fnExactExampleTextsWrong)

/-- 'laws.FnExactIsLossy': WHATEVER THE INPUT: true; the input reads as it did. -/
def fnExactIsLossySpec : ChangeSpec := { name := "fnExactIsLossy", fn := fun _ => fun
  | [d] => { results := [.lit (.bool true)], args := [d] }
  | _ => none }
def fnExactIsLossyRow : OpenClaim := { program := "ytioopdicoidmcaa", sum := "27433fada2f7366203a6a79859e19ee6b3f3ebbc6aff3fa9caab2c12d450707b", func := "loop.example/g00592/laws.FnExactIsLossy", spec := "fnExactIsLossy", recurses := true, loops := true, apart := false }
def FnExactIsLossySaid : Prop := fnExactIsLossyRow.holds Try.pinned (OpenSpec.ofChange fnExactIsLossySpec)

/-- ITS FALSE NEIGHBOUR: 'it returns false'. Refute it at one input. -/
def fnExactIsLossyWrong : ChangeSpec := { name := "fnExactIsLossy", fn := fun _ => fun
  | [d] => { results := [.lit (.bool false)], args := [d] }
  | _ => none }
def FnExactIsLossyWrongFalsely : Prop := fnExactIsLossyRow.holds Try.pinned (OpenSpec.ofChange fnExactIsLossyWrong)

/-- 'laws.FnExactSwapSpan': WHATEVER THE INPUT: true; the input reads as it did. -/
def fnExactSwapSpanSpec : ChangeSpec := { name := "fnExactSwapSpan", fn := fun _ => fun
  | [d] => { results := [.lit (.bool true)], args := [d] }
  | _ => none }
def fnExactSwapSpanRow : OpenClaim := { program := "ytioopdicoidmcaa", sum := "27433fada2f7366203a6a79859e19ee6b3f3ebbc6aff3fa9caab2c12d450707b", func := "loop.example/g00592/laws.FnExactSwapSpan", spec := "fnExactSwapSpan", recurses := true, loops := true, apart := false }
def FnExactSwapSpanSaid : Prop := fnExactSwapSpanRow.holds Try.pinned (OpenSpec.ofChange fnExactSwapSpanSpec)

/-- ITS FALSE NEIGHBOUR: 'it returns false'. Refute it at one input. -/
def fnExactSwapSpanWrong : ChangeSpec := { name := "fnExactSwapSpan", fn := fun _ => fun
  | [d] => { results := [.lit (.bool false)], args := [d] }
  | _ => none }
def FnExactSwapSpanWrongFalsely : Prop := fnExactSwapSpanRow.holds Try.pinned (OpenSpec.ofChange fnExactSwapSpanWrong)

/-- 'laws.FnExactLossyBetween': WHATEVER THE INPUT: true; the input reads as it did. -/
def fnExactLossyBetweenSpec : ChangeSpec := { name := "fnExactLossyBetween", fn := fun _ => fun
  | [d1, d2, d3] => { results := [.lit (.bool true)], args := [d1, d2, d3] }
  | _ => none }
def fnExactLossyBetweenRow : OpenClaim := { program := "ytioopdicoidmcaa", sum := "27433fada2f7366203a6a79859e19ee6b3f3ebbc6aff3fa9caab2c12d450707b", func := "loop.example/g00592/laws.FnExactLossyBetween", spec := "fnExactLossyBetween", recurses := true, loops := true, apart := false }
def FnExactLossyBetweenSaid : Prop := fnExactLossyBetweenRow.holds Try.pinned (OpenSpec.ofChange fnExactLossyBetweenSpec)

/-- ITS FALSE NEIGHBOUR: 'it returns false'. Refute it at one input. -/
def fnExactLossyBetweenWrong : ChangeSpec := { name := "fnExactLossyBetween", fn := fun _ => fun
  | [d1, d2, d3] => { results := [.lit (.bool false)], args := [d1, d2, d3] }
  | _ => none }
def FnExactLossyBetweenWrongFalsely : Prop := fnExactLossyBetweenRow.holds Try.pinned (OpenSpec.ofChange fnExactLossyBetweenWrong)

/-- 'laws.FnExactStepsFor': WHATEVER THE INPUT: true; the input reads as it did. -/
def fnExactStepsForSpec : ChangeSpec := { name := "fnExactStepsFor", fn := fun _ => fun
  | [d] => { results := [.lit (.bool true)], args := [d] }
  | _ => none }
def fnExactStepsForRow : OpenClaim := { program := "ytioopdicoidmcaa", sum := "27433fada2f7366203a6a79859e19ee6b3f3ebbc6aff3fa9caab2c12d450707b", func := "loop.example/g00592/laws.FnExactStepsFor", spec := "fnExactStepsFor", recurses := true, loops := true, apart := false }
def FnExactStepsForSaid : Prop := fnExactStepsForRow.holds Try.pinned (OpenSpec.ofChange fnExactStepsForSpec)

/-- ITS FALSE NEIGHBOUR: 'it returns false'. Refute it at one input. -/
def fnExactStepsForWrong : ChangeSpec := { name := "fnExactStepsFor", fn := fun _ => fun
  | [d] => { results := [.lit (.bool false)], args := [d] }
  | _ => none }
def FnExactStepsForWrongFalsely : Prop := fnExactStepsForRow.holds Try.pinned (OpenSpec.ofChange fnExactStepsForWrong)

/-- 'laws.FnExactReversePlan': WHATEVER THE INPUT: true; the input reads as it did. -/
def fnExactReversePlanSpec : ChangeSpec := { name := "fnExactReversePlan", fn := fun _ => fun
  | [d] => { results := [.lit (.bool true)], args := [d] }
  | _ => none }
def fnExactReversePlanRow : OpenClaim := { program := "ytioopdicoidmcaa", sum := "27433fada2f7366203a6a79859e19ee6b3f3ebbc6aff3fa9caab2c12d450707b", func := "loop.example/g00592/laws.FnExactReversePlan", spec := "fnExactReversePlan", recurses := true, loops := true, apart := false }
def FnExactReversePlanSaid : Prop := fnExactReversePlanRow.holds Try.pinned (OpenSpec.ofChange fnExactReversePlanSpec)

/-- ITS FALSE NEIGHBOUR: 'it returns false'. Refute it at one input. -/
def fnExactReversePlanWrong : ChangeSpec := { name := "fnExactReversePlan", fn := fun _ => fun
  | [d] => { results := [.lit (.bool false)], args := [d] }
  | _ => none }
def FnExactReversePlanWrongFalsely : Prop := fnExactReversePlanRow.holds Try.pinned (OpenSpec.ofChange fnExactReversePlanWrong)

/- THE SECOND FORM. 'bulk': how many values and letters a reading holds, each counted each time it is reached (what is shared counts as often as it is met; a slice's spare places count too). A statement '..UptoSaid' is the law's where the arguments, and the package variables that the reading takes, are together of bulk at most 1048576: NARROWER than '..Said'. Prove '..Said' where nothing that the law and all that it calls make is longer than what came in: it says more and counts as full. Else prove '..UptoSaid'. A law counts once. -/
mutual
def uptoBulk {H : Type} : DataW H → Nat
  | .lit (.string bytes) => bytes.length + 1
  | .lit _ => 1
  | .nil => 1
  | .ptr d => uptoBulk d + 1
  | .slice elems spare => uptoBulkAll elems + uptoBulkAll spare + 1
  | .agg parts => uptoBulkAll parts + 1
  | .iface _ d => uptoBulk d + 1
  | .map entries => uptoBulkEntries entries + 1
  | .held _ => 1
def uptoBulkAll {H : Type} : List (DataW H) → Nat
  | [] => 0
  | d :: r => uptoBulk d + uptoBulkAll r
def uptoBulkEntries {H : Type} : List (Lit × DataW H) → Nat
  | [] => 0
  | x :: r => uptoBulkEntry x + uptoBulkEntries r
def uptoBulkEntry {H : Type} : Lit × DataW H → Nat
  | (.string bytes, d) => bytes.length + uptoBulk d + 1
  | (_, d) => uptoBulk d + 1
 end
def uptoSmall : (H : Type) → List (DataW H) → Bool := fun _ ds => decide (uptoBulkAll ds ≤ 1048576)
def OpenSpec.upto (s : _root_.Go.ChangeSpec) : _root_.Go.OpenSpec := { _root_.Go.OpenSpec.ofChange s with cond := some uptoSmall }

/-- 'laws.FnExactExampleTexts', WHERE WHAT IT READS IS OF BULK AT MOST 1048576: true; the input reads as it did. -/
def fnExactExampleTextsUptoRow : OpenClaim := { program := "ytioopdicoidmcaa", sum := "27433fada2f7366203a6a79859e19ee6b3f3ebbc6aff3fa9caab2c12d450707b", func := "loop.example/g00592/laws.FnExactExampleTexts", spec := "fnExactExampleTexts", apart := false, narrowed := true }
def FnExactExampleTextsUptoSaid : Prop := fnExactExampleTextsUptoRow.holds Try.pinned (OpenSpec.upto fnExactExampleTextsSpec)

/-- 'laws.FnExactIsLossy', WHERE WHAT IT READS IS OF BULK AT MOST 1048576: true; the input reads as it did. -/
def fnExactIsLossyUptoRow : OpenClaim := { program := "ytioopdicoidmcaa", sum := "27433fada2f7366203a6a79859e19ee6b3f3ebbc6aff3fa9caab2c12d450707b", func := "loop.example/g00592/laws.FnExactIsLossy", spec := "fnExactIsLossy", recurses := true, loops := true, apart := false, narrowed := true }
def FnExactIsLossyUptoSaid : Prop := fnExactIsLossyUptoRow.holds Try.pinned (OpenSpec.upto fnExactIsLossySpec)

/-- 'laws.FnExactSwapSpan', WHERE WHAT IT READS IS OF BULK AT MOST 1048576: true; the input reads as it did. -/
def fnExactSwapSpanUptoRow : OpenClaim := { program := "ytioopdicoidmcaa", sum := "27433fada2f7366203a6a79859e19ee6b3f3ebbc6aff3fa9caab2c12d450707b", func := "loop.example/g00592/laws.FnExactSwapSpan", spec := "fnExactSwapSpan", recurses := true, loops := true, apart := false, narrowed := true }
def FnExactSwapSpanUptoSaid : Prop := fnExactSwapSpanUptoRow.holds Try.pinned (OpenSpec.upto fnExactSwapSpanSpec)

/-- 'laws.FnExactLossyBetween', WHERE WHAT IT READS IS OF BULK AT MOST 1048576: true; the input reads as it did. -/
def fnExactLossyBetweenUptoRow : OpenClaim := { program := "ytioopdicoidmcaa", sum := "27433fada2f7366203a6a79859e19ee6b3f3ebbc6aff3fa9caab2c12d450707b", func := "loop.example/g00592/laws.FnExactLossyBetween", spec := "fnExactLossyBetween", recurses := true, loops := true, apart := false, narrowed := true }
def FnExactLossyBetweenUptoSaid : Prop := fnExactLossyBetweenUptoRow.holds Try.pinned (OpenSpec.upto fnExactLossyBetweenSpec)

/-- 'laws.FnExactStepsFor', WHERE WHAT IT READS IS OF BULK AT MOST 1048576: true; the input reads as it did. -/
def fnExactStepsForUptoRow : OpenClaim := { program := "ytioopdicoidmcaa", sum := "27433fada2f7366203a6a79859e19ee6b3f3ebbc6aff3fa9caab2c12d450707b", func := "loop.example/g00592/laws.FnExactStepsFor", spec := "fnExactStepsFor", recurses := true, loops := true, apart := false, narrowed := true }
def FnExactStepsForUptoSaid : Prop := fnExactStepsForUptoRow.holds Try.pinned (OpenSpec.upto fnExactStepsForSpec)

/-- 'laws.FnExactReversePlan', WHERE WHAT IT READS IS OF BULK AT MOST 1048576: true; the input reads as it did. -/
def fnExactReversePlanUptoRow : OpenClaim := { program := "ytioopdicoidmcaa", sum := "27433fada2f7366203a6a79859e19ee6b3f3ebbc6aff3fa9caab2c12d450707b", func := "loop.example/g00592/laws.FnExactReversePlan", spec := "fnExactReversePlan", recurses := true, loops := true, apart := false, narrowed := true }
def FnExactReversePlanUptoSaid : Prop := fnExactReversePlanUptoRow.holds Try.pinned (OpenSpec.upto fnExactReversePlanSpec)

end Rows
end Go.Proofs.Ytioopdicoidmcaa
