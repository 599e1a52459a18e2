/-
  No cell of these rows narrows 'for every input' (looked for: loops, veiled, ifaces, maps, wideKeys, modest, calm, conditions, laid).
  DERIVED. THE GIVEN ROWS OF THIS SEAT. 9 by the template 'for every input the law returns true; each argument reads behind the call as it read before'; 0 by the template 'total and deterministic' (their statements: YtkpblifelpokfaaTotals.lean).
  GIVEN WITH THE SEED: the statements are not yours to turn. If you find one false, say at which input.
  Laid BY PROGRAM, IN A SANDBOX (cutbox-rows.mjs): the forced cells as the released guide's own fill.sh prints them over the translation 58680e276c95a3f5… (all of the seat's roots in one cut). By AI agents, Wed Nov 11 2026. No macro, syntax, notation, axiom, sorry.
-/
import Derived.Test.YtkpblifelpokfaaChecked
import GoSem.Claim
import GoSem.ClaimJoined
import GoSem.ClaimMapViews
import Derived.JoinedTies
import Derived.KernelRfl
namespace Go.Proofs.Ytkpblifelpokfaa
/- THE CELL 'sum', in the pinned program and in every row, IS THE sha256 OF THE DUMP (.gsa) THAT YtkpblifelpokfaaProg.lean LOADS. Nothing in Lean hashes anything: it is a label: what it is worth is what the hold of that sum in a sandbox is worth. -/
noncomputable def Try.pinned : Pinned := { name := "ytkpblifelpokfaa", sum := "58680e276c95a3f5b8b6235a453fca4dd1e47f10c19c48dd1c18d50995d7e009", checked := Try.checked }
namespace Rows
def none {H : Type} : Left H := { results := [], args := [] }

/-- 'sleuthlaw5.Exprs': WHATEVER THE INPUT: true; the input reads as it did. -/
def exprsSpec : ChangeSpec := { name := "exprs", fn := fun _ => fun
  | [d] => { results := [.lit (.bool true)], args := [d] }
  | _ => none }
def exprsRow : OpenClaim := { program := "ytkpblifelpokfaa", sum := "58680e276c95a3f5b8b6235a453fca4dd1e47f10c19c48dd1c18d50995d7e009", func := "sleuth/sleuthlaw5.Exprs", spec := "exprs", apart := false }
def ExprsSaid : Prop := exprsRow.holds Try.pinned (OpenSpec.ofChange exprsSpec)

/-- ITS FALSE NEIGHBOUR: 'it returns false'. Refute it at one input. -/
def exprsWrong : ChangeSpec := { name := "exprs", fn := fun _ => fun
  | [d] => { results := [.lit (.bool false)], args := [d] }
  | _ => none }
def ExprsWrongFalsely : Prop := exprsRow.holds Try.pinned (OpenSpec.ofChange exprsWrong)

/-- 'sleuthlaw5.ExprForms': WHATEVER THE INPUT: true; the input reads as it did. -/
def exprFormsSpec : ChangeSpec := { name := "exprForms", fn := fun _ => fun
  | [d1, d2] => { results := [.lit (.bool true)], args := [d1, d2] }
  | _ => none }
def exprFormsRow : OpenClaim := { program := "ytkpblifelpokfaa", sum := "58680e276c95a3f5b8b6235a453fca4dd1e47f10c19c48dd1c18d50995d7e009", func := "sleuth/sleuthlaw5.ExprForms", spec := "exprForms", apart := false }
def ExprFormsSaid : Prop := exprFormsRow.holds Try.pinned (OpenSpec.ofChange exprFormsSpec)

/-- ITS FALSE NEIGHBOUR: 'it returns false'. Refute it at one input. -/
def exprFormsWrong : ChangeSpec := { name := "exprForms", fn := fun _ => fun
  | [d1, d2] => { results := [.lit (.bool false)], args := [d1, d2] }
  | _ => none }
def ExprFormsWrongFalsely : Prop := exprFormsRow.holds Try.pinned (OpenSpec.ofChange exprFormsWrong)

/-- 'sleuthlaw5.ExprLevels': WHATEVER THE INPUT: true; the input reads as it did. -/
def exprLevelsSpec : ChangeSpec := { name := "exprLevels", fn := fun _ => fun
  | [d1, d2, d3] => { results := [.lit (.bool true)], args := [d1, d2, d3] }
  | _ => none }
def exprLevelsRow : OpenClaim := { program := "ytkpblifelpokfaa", sum := "58680e276c95a3f5b8b6235a453fca4dd1e47f10c19c48dd1c18d50995d7e009", func := "sleuth/sleuthlaw5.ExprLevels", spec := "exprLevels", apart := false }
def ExprLevelsSaid : Prop := exprLevelsRow.holds Try.pinned (OpenSpec.ofChange exprLevelsSpec)

/-- ITS FALSE NEIGHBOUR: 'it returns false'. Refute it at one input. -/
def exprLevelsWrong : ChangeSpec := { name := "exprLevels", fn := fun _ => fun
  | [d1, d2, d3] => { results := [.lit (.bool false)], args := [d1, d2, d3] }
  | _ => none }
def ExprLevelsWrongFalsely : Prop := exprLevelsRow.holds Try.pinned (OpenSpec.ofChange exprLevelsWrong)

/-- 'sleuthlaw5.ExprSizes': WHATEVER THE INPUT: true; the input reads as it did. -/
def exprSizesSpec : ChangeSpec := { name := "exprSizes", fn := fun _ => fun
  | [d] => { results := [.lit (.bool true)], args := [d] }
  | _ => none }
def exprSizesRow : OpenClaim := { program := "ytkpblifelpokfaa", sum := "58680e276c95a3f5b8b6235a453fca4dd1e47f10c19c48dd1c18d50995d7e009", func := "sleuth/sleuthlaw5.ExprSizes", spec := "exprSizes", apart := false }
def ExprSizesSaid : Prop := exprSizesRow.holds Try.pinned (OpenSpec.ofChange exprSizesSpec)

/-- ITS FALSE NEIGHBOUR: 'it returns false'. Refute it at one input. -/
def exprSizesWrong : ChangeSpec := { name := "exprSizes", fn := fun _ => fun
  | [d] => { results := [.lit (.bool false)], args := [d] }
  | _ => none }
def ExprSizesWrongFalsely : Prop := exprSizesRow.holds Try.pinned (OpenSpec.ofChange exprSizesWrong)

/-- 'sleuthlaw5.ExprParams': WHATEVER THE INPUT: true; the input reads as it did. -/
def exprParamsSpec : ChangeSpec := { name := "exprParams", fn := fun _ => fun
  | [d] => { results := [.lit (.bool true)], args := [d] }
  | _ => none }
def exprParamsRow : OpenClaim := { program := "ytkpblifelpokfaa", sum := "58680e276c95a3f5b8b6235a453fca4dd1e47f10c19c48dd1c18d50995d7e009", func := "sleuth/sleuthlaw5.ExprParams", spec := "exprParams", apart := false }
def ExprParamsSaid : Prop := exprParamsRow.holds Try.pinned (OpenSpec.ofChange exprParamsSpec)

/-- ITS FALSE NEIGHBOUR: 'it returns false'. Refute it at one input. -/
def exprParamsWrong : ChangeSpec := { name := "exprParams", fn := fun _ => fun
  | [d] => { results := [.lit (.bool false)], args := [d] }
  | _ => none }
def ExprParamsWrongFalsely : Prop := exprParamsRow.holds Try.pinned (OpenSpec.ofChange exprParamsWrong)

/-- 'sleuthlaw6.Programs': WHATEVER THE INPUT: true; the input reads as it did. -/
def programsSpec : ChangeSpec := { name := "programs", fn := fun _ => fun
  | [d] => { results := [.lit (.bool true)], args := [d] }
  | _ => none }
def programsRow : OpenClaim := { program := "ytkpblifelpokfaa", sum := "58680e276c95a3f5b8b6235a453fca4dd1e47f10c19c48dd1c18d50995d7e009", func := "sleuth/sleuthlaw6.Programs", spec := "programs", unfollowed := true, recurses := true, apart := false }
def ProgramsSaid : Prop := programsRow.holds Try.pinned (OpenSpec.ofChange programsSpec)

/-- ITS FALSE NEIGHBOUR: 'it returns false'. Refute it at one input. -/
def programsWrong : ChangeSpec := { name := "programs", fn := fun _ => fun
  | [d] => { results := [.lit (.bool false)], args := [d] }
  | _ => none }
def ProgramsWrongFalsely : Prop := programsRow.holds Try.pinned (OpenSpec.ofChange programsWrong)

/-- 'sleuthlaw6.ProgramForms': WHATEVER THE INPUT: true; the input reads as it did. -/
def programFormsSpec : ChangeSpec := { name := "programForms", fn := fun _ => fun
  | [d1, d2] => { results := [.lit (.bool true)], args := [d1, d2] }
  | _ => none }
def programFormsRow : OpenClaim := { program := "ytkpblifelpokfaa", sum := "58680e276c95a3f5b8b6235a453fca4dd1e47f10c19c48dd1c18d50995d7e009", func := "sleuth/sleuthlaw6.ProgramForms", spec := "programForms", unfollowed := true, recurses := true, apart := false }
def ProgramFormsSaid : Prop := programFormsRow.holds Try.pinned (OpenSpec.ofChange programFormsSpec)

/-- ITS FALSE NEIGHBOUR: 'it returns false'. Refute it at one input. -/
def programFormsWrong : ChangeSpec := { name := "programForms", fn := fun _ => fun
  | [d1, d2] => { results := [.lit (.bool false)], args := [d1, d2] }
  | _ => none }
def ProgramFormsWrongFalsely : Prop := programFormsRow.holds Try.pinned (OpenSpec.ofChange programFormsWrong)

/-- 'sleuthlaw6.ProgramMore': WHATEVER THE INPUT: true; the input reads as it did. -/
def programMoreSpec : ChangeSpec := { name := "programMore", fn := fun _ => fun
  | [d1, d2] => { results := [.lit (.bool true)], args := [d1, d2] }
  | _ => none }
def programMoreRow : OpenClaim := { program := "ytkpblifelpokfaa", sum := "58680e276c95a3f5b8b6235a453fca4dd1e47f10c19c48dd1c18d50995d7e009", func := "sleuth/sleuthlaw6.ProgramMore", spec := "programMore", unfollowed := true, recurses := true, apart := false }
def ProgramMoreSaid : Prop := programMoreRow.holds Try.pinned (OpenSpec.ofChange programMoreSpec)

/-- ITS FALSE NEIGHBOUR: 'it returns false'. Refute it at one input. -/
def programMoreWrong : ChangeSpec := { name := "programMore", fn := fun _ => fun
  | [d1, d2] => { results := [.lit (.bool false)], args := [d1, d2] }
  | _ => none }
def ProgramMoreWrongFalsely : Prop := programMoreRow.holds Try.pinned (OpenSpec.ofChange programMoreWrong)

/-- 'sleuthlaw6.ProgramRow': WHATEVER THE INPUT: true; the input reads as it did. -/
def programRowSpec : ChangeSpec := { name := "programRow", fn := fun _ => fun
  | [d1, d2, d3] => { results := [.lit (.bool true)], args := [d1, d2, d3] }
  | _ => none }
def programRowRow : OpenClaim := { program := "ytkpblifelpokfaa", sum := "58680e276c95a3f5b8b6235a453fca4dd1e47f10c19c48dd1c18d50995d7e009", func := "sleuth/sleuthlaw6.ProgramRow", spec := "programRow", unfollowed := true, recurses := true, apart := false }
def ProgramRowSaid : Prop := programRowRow.holds Try.pinned (OpenSpec.ofChange programRowSpec)

/-- ITS FALSE NEIGHBOUR: 'it returns false'. Refute it at one input. -/
def programRowWrong : ChangeSpec := { name := "programRow", fn := fun _ => fun
  | [d1, d2, d3] => { results := [.lit (.bool false)], args := [d1, d2, d3] }
  | _ => none }
def ProgramRowWrongFalsely : Prop := programRowRow.holds Try.pinned (OpenSpec.ofChange programRowWrong)

/- THE SECOND FORM. 'bulk': how many values and letters a reading holds, each counted each time it is reached (what is shared counts as often as it is met; a slice's spare places count too). A statement '..UptoSaid' is the law's where the arguments, and the package variables that the reading takes, are together of bulk at most 1048576: NARROWER than '..Said'. Prove '..Said' where nothing that the law and all that it calls make is longer than what came in: it says more and counts as full. Else prove '..UptoSaid'. A law counts once. -/
mutual
def uptoBulk {H : Type} : DataW H → Nat
  | .lit (.string bytes) => bytes.length + 1
  | .lit _ => 1
  | .nil => 1
  | .ptr d => uptoBulk d + 1
  | .slice elems spare => uptoBulkAll elems + uptoBulkAll spare + 1
  | .agg parts => uptoBulkAll parts + 1
  | .iface _ d => uptoBulk d + 1
  | .map entries => uptoBulkEntries entries + 1
  | .held _ => 1
def uptoBulkAll {H : Type} : List (DataW H) → Nat
  | [] => 0
  | d :: r => uptoBulk d + uptoBulkAll r
def uptoBulkEntries {H : Type} : List (Lit × DataW H) → Nat
  | [] => 0
  | x :: r => uptoBulkEntry x + uptoBulkEntries r
def uptoBulkEntry {H : Type} : Lit × DataW H → Nat
  | (.string bytes, d) => bytes.length + uptoBulk d + 1
  | (_, d) => uptoBulk d + 1
 end
def uptoSmall : (H : Type) → List (DataW H) → Bool := fun _ ds => decide (uptoBulkAll ds ≤ 1048576)
def OpenSpec.upto (s : _root_.Go.ChangeSpec) : _root_.Go.OpenSpec := { _root_.Go.OpenSpec.ofChange s with cond := some uptoSmall }

/-- 'sleuthlaw5.Exprs', WHERE WHAT IT READS IS OF BULK AT MOST 1048576: true; the input reads as it did. -/
def exprsUptoRow : OpenClaim := { program := "ytkpblifelpokfaa", sum := "58680e276c95a3f5b8b6235a453fca4dd1e47f10c19c48dd1c18d50995d7e009", func := "sleuth/sleuthlaw5.Exprs", spec := "exprs", apart := false, narrowed := true }
def ExprsUptoSaid : Prop := exprsUptoRow.holds Try.pinned (OpenSpec.upto exprsSpec)

/-- 'sleuthlaw5.ExprForms', WHERE WHAT IT READS IS OF BULK AT MOST 1048576: true; the input reads as it did. -/
def exprFormsUptoRow : OpenClaim := { program := "ytkpblifelpokfaa", sum := "58680e276c95a3f5b8b6235a453fca4dd1e47f10c19c48dd1c18d50995d7e009", func := "sleuth/sleuthlaw5.ExprForms", spec := "exprForms", apart := false, narrowed := true }
def ExprFormsUptoSaid : Prop := exprFormsUptoRow.holds Try.pinned (OpenSpec.upto exprFormsSpec)

/-- 'sleuthlaw5.ExprLevels', WHERE WHAT IT READS IS OF BULK AT MOST 1048576: true; the input reads as it did. -/
def exprLevelsUptoRow : OpenClaim := { program := "ytkpblifelpokfaa", sum := "58680e276c95a3f5b8b6235a453fca4dd1e47f10c19c48dd1c18d50995d7e009", func := "sleuth/sleuthlaw5.ExprLevels", spec := "exprLevels", apart := false, narrowed := true }
def ExprLevelsUptoSaid : Prop := exprLevelsUptoRow.holds Try.pinned (OpenSpec.upto exprLevelsSpec)

/-- 'sleuthlaw5.ExprSizes', WHERE WHAT IT READS IS OF BULK AT MOST 1048576: true; the input reads as it did. -/
def exprSizesUptoRow : OpenClaim := { program := "ytkpblifelpokfaa", sum := "58680e276c95a3f5b8b6235a453fca4dd1e47f10c19c48dd1c18d50995d7e009", func := "sleuth/sleuthlaw5.ExprSizes", spec := "exprSizes", apart := false, narrowed := true }
def ExprSizesUptoSaid : Prop := exprSizesUptoRow.holds Try.pinned (OpenSpec.upto exprSizesSpec)

/-- 'sleuthlaw5.ExprParams', WHERE WHAT IT READS IS OF BULK AT MOST 1048576: true; the input reads as it did. -/
def exprParamsUptoRow : OpenClaim := { program := "ytkpblifelpokfaa", sum := "58680e276c95a3f5b8b6235a453fca4dd1e47f10c19c48dd1c18d50995d7e009", func := "sleuth/sleuthlaw5.ExprParams", spec := "exprParams", apart := false, narrowed := true }
def ExprParamsUptoSaid : Prop := exprParamsUptoRow.holds Try.pinned (OpenSpec.upto exprParamsSpec)

/-- 'sleuthlaw6.Programs', WHERE WHAT IT READS IS OF BULK AT MOST 1048576: true; the input reads as it did. -/
def programsUptoRow : OpenClaim := { program := "ytkpblifelpokfaa", sum := "58680e276c95a3f5b8b6235a453fca4dd1e47f10c19c48dd1c18d50995d7e009", func := "sleuth/sleuthlaw6.Programs", spec := "programs", unfollowed := true, recurses := true, apart := false, narrowed := true }
def ProgramsUptoSaid : Prop := programsUptoRow.holds Try.pinned (OpenSpec.upto programsSpec)

/-- 'sleuthlaw6.ProgramForms', WHERE WHAT IT READS IS OF BULK AT MOST 1048576: true; the input reads as it did. -/
def programFormsUptoRow : OpenClaim := { program := "ytkpblifelpokfaa", sum := "58680e276c95a3f5b8b6235a453fca4dd1e47f10c19c48dd1c18d50995d7e009", func := "sleuth/sleuthlaw6.ProgramForms", spec := "programForms", unfollowed := true, recurses := true, apart := false, narrowed := true }
def ProgramFormsUptoSaid : Prop := programFormsUptoRow.holds Try.pinned (OpenSpec.upto programFormsSpec)

/-- 'sleuthlaw6.ProgramMore', WHERE WHAT IT READS IS OF BULK AT MOST 1048576: true; the input reads as it did. -/
def programMoreUptoRow : OpenClaim := { program := "ytkpblifelpokfaa", sum := "58680e276c95a3f5b8b6235a453fca4dd1e47f10c19c48dd1c18d50995d7e009", func := "sleuth/sleuthlaw6.ProgramMore", spec := "programMore", unfollowed := true, recurses := true, apart := false, narrowed := true }
def ProgramMoreUptoSaid : Prop := programMoreUptoRow.holds Try.pinned (OpenSpec.upto programMoreSpec)

/-- 'sleuthlaw6.ProgramRow', WHERE WHAT IT READS IS OF BULK AT MOST 1048576: true; the input reads as it did. -/
def programRowUptoRow : OpenClaim := { program := "ytkpblifelpokfaa", sum := "58680e276c95a3f5b8b6235a453fca4dd1e47f10c19c48dd1c18d50995d7e009", func := "sleuth/sleuthlaw6.ProgramRow", spec := "programRow", unfollowed := true, recurses := true, apart := false, narrowed := true }
def ProgramRowUptoSaid : Prop := programRowUptoRow.holds Try.pinned (OpenSpec.upto programRowSpec)

end Rows
end Go.Proofs.Ytkpblifelpokfaa
