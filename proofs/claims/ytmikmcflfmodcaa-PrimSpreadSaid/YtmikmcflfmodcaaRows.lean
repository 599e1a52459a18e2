/-
  No cell of these rows narrows 'for every input' (looked for: loops, veiled, ifaces, maps, wideKeys, modest, calm, conditions, laid).
  DERIVED. THE GIVEN ROWS OF THIS SEAT. 7 by the template 'for every input the law returns true; each argument reads behind the call as it read before'; 0 by the template 'total and deterministic' (their statements: YtmikmcflfmodcaaTotals.lean).
  GIVEN WITH THE SEED: the statements are not yours to turn. If you find one false, say at which input.
  Laid BY PROGRAM, IN A SANDBOX (cutbox-rows.mjs): the forced cells as the released guide's own fill.sh prints them over the translation 47393c937234cd5e… (all of the seat's roots in one cut). By AI agents, Wed Nov 11 2026. No macro, syntax, notation, axiom, sorry.
-/
import Derived.Test.YtmikmcflfmodcaaChecked
import GoSem.Claim
import GoSem.ClaimJoined
import GoSem.ClaimMapViews
import Derived.JoinedTies
import Derived.KernelRfl
namespace Go.Proofs.Ytmikmcflfmodcaa
/- THE CELL 'sum', in the pinned program and in every row, IS THE sha256 OF THE DUMP (.gsa) THAT YtmikmcflfmodcaaProg.lean LOADS. Nothing in Lean hashes anything: it is a label: what it is worth is what the hold of that sum in a sandbox is worth. -/
noncomputable def Try.pinned : Pinned := { name := "ytmikmcflfmodcaa", sum := "47393c937234cd5e1a4cc3599348e99be29e38795a58c1853d2edd4367840d23", checked := Try.checked }
namespace Rows
def none {H : Type} : Left H := { results := [], args := [] }

/-- 'sleuthlaw0.SleuthNames': WHATEVER THE INPUT: true; the input reads as it did. -/
def sleuthNamesSpec : ChangeSpec := { name := "sleuthNames", fn := fun _ => fun
  | [] => { results := [.lit (.bool true)], args := [] }
  | _ => none }
def sleuthNamesRow : OpenClaim := { program := "ytmikmcflfmodcaa", sum := "47393c937234cd5e1a4cc3599348e99be29e38795a58c1853d2edd4367840d23", func := "sleuth/sleuthlaw0.SleuthNames", spec := "sleuthNames", apart := false }
def SleuthNamesSaid : Prop := sleuthNamesRow.holds Try.pinned (OpenSpec.ofChange sleuthNamesSpec)

/-- ITS FALSE NEIGHBOUR: 'it returns false'. Refute it at one input. -/
def sleuthNamesWrong : ChangeSpec := { name := "sleuthNames", fn := fun _ => fun
  | [] => { results := [.lit (.bool false)], args := [] }
  | _ => none }
def SleuthNamesWrongFalsely : Prop := sleuthNamesRow.holds Try.pinned (OpenSpec.ofChange sleuthNamesWrong)

/-- 'sleuthlaw1.Prims': WHATEVER THE INPUT: true; the input reads as it did. -/
def primsSpec : ChangeSpec := { name := "prims", fn := fun _ => fun
  | [d1, d2, d3] => { results := [.lit (.bool true)], args := [d1, d2, d3] }
  | _ => none }
def primsRow : OpenClaim := { program := "ytmikmcflfmodcaa", sum := "47393c937234cd5e1a4cc3599348e99be29e38795a58c1853d2edd4367840d23", func := "sleuth/sleuthlaw1.Prims", spec := "prims", apart := false }
def PrimsSaid : Prop := primsRow.holds Try.pinned (OpenSpec.ofChange primsSpec)

/-- ITS FALSE NEIGHBOUR: 'it returns false'. Refute it at one input. -/
def primsWrong : ChangeSpec := { name := "prims", fn := fun _ => fun
  | [d1, d2, d3] => { results := [.lit (.bool false)], args := [d1, d2, d3] }
  | _ => none }
def PrimsWrongFalsely : Prop := primsRow.holds Try.pinned (OpenSpec.ofChange primsWrong)

/-- 'sleuthlaw1.PrimWraps': WHATEVER THE INPUT: true; the input reads as it did. -/
def primWrapsSpec : ChangeSpec := { name := "primWraps", fn := fun _ => fun
  | [d1, d2] => { results := [.lit (.bool true)], args := [d1, d2] }
  | _ => none }
def primWrapsRow : OpenClaim := { program := "ytmikmcflfmodcaa", sum := "47393c937234cd5e1a4cc3599348e99be29e38795a58c1853d2edd4367840d23", func := "sleuth/sleuthlaw1.PrimWraps", spec := "primWraps", apart := false }
def PrimWrapsSaid : Prop := primWrapsRow.holds Try.pinned (OpenSpec.ofChange primWrapsSpec)

/-- ITS FALSE NEIGHBOUR: 'it returns false'. Refute it at one input. -/
def primWrapsWrong : ChangeSpec := { name := "primWraps", fn := fun _ => fun
  | [d1, d2] => { results := [.lit (.bool false)], args := [d1, d2] }
  | _ => none }
def PrimWrapsWrongFalsely : Prop := primWrapsRow.holds Try.pinned (OpenSpec.ofChange primWrapsWrong)

/-- 'sleuthlaw1.PrimForms': WHATEVER THE INPUT: true; the input reads as it did. -/
def primFormsSpec : ChangeSpec := { name := "primForms", fn := fun _ => fun
  | [d1, d2] => { results := [.lit (.bool true)], args := [d1, d2] }
  | _ => none }
def primFormsRow : OpenClaim := { program := "ytmikmcflfmodcaa", sum := "47393c937234cd5e1a4cc3599348e99be29e38795a58c1853d2edd4367840d23", func := "sleuth/sleuthlaw1.PrimForms", spec := "primForms", apart := false }
def PrimFormsSaid : Prop := primFormsRow.holds Try.pinned (OpenSpec.ofChange primFormsSpec)

/-- ITS FALSE NEIGHBOUR: 'it returns false'. Refute it at one input. -/
def primFormsWrong : ChangeSpec := { name := "primForms", fn := fun _ => fun
  | [d1, d2] => { results := [.lit (.bool false)], args := [d1, d2] }
  | _ => none }
def PrimFormsWrongFalsely : Prop := primFormsRow.holds Try.pinned (OpenSpec.ofChange primFormsWrong)

/-- 'sleuthlaw1.PrimBack': WHATEVER THE INPUT: true; the input reads as it did. -/
def primBackSpec : ChangeSpec := { name := "primBack", fn := fun _ => fun
  | [d1, d2] => { results := [.lit (.bool true)], args := [d1, d2] }
  | _ => none }
def primBackRow : OpenClaim := { program := "ytmikmcflfmodcaa", sum := "47393c937234cd5e1a4cc3599348e99be29e38795a58c1853d2edd4367840d23", func := "sleuth/sleuthlaw1.PrimBack", spec := "primBack", apart := false }
def PrimBackSaid : Prop := primBackRow.holds Try.pinned (OpenSpec.ofChange primBackSpec)

/-- ITS FALSE NEIGHBOUR: 'it returns false'. Refute it at one input. -/
def primBackWrong : ChangeSpec := { name := "primBack", fn := fun _ => fun
  | [d1, d2] => { results := [.lit (.bool false)], args := [d1, d2] }
  | _ => none }
def PrimBackWrongFalsely : Prop := primBackRow.holds Try.pinned (OpenSpec.ofChange primBackWrong)

/-- 'sleuthlaw1.PrimOrder': WHATEVER THE INPUT: true; the input reads as it did. -/
def primOrderSpec : ChangeSpec := { name := "primOrder", fn := fun _ => fun
  | [d1, d2] => { results := [.lit (.bool true)], args := [d1, d2] }
  | _ => none }
def primOrderRow : OpenClaim := { program := "ytmikmcflfmodcaa", sum := "47393c937234cd5e1a4cc3599348e99be29e38795a58c1853d2edd4367840d23", func := "sleuth/sleuthlaw1.PrimOrder", spec := "primOrder", apart := false }
def PrimOrderSaid : Prop := primOrderRow.holds Try.pinned (OpenSpec.ofChange primOrderSpec)

/-- ITS FALSE NEIGHBOUR: 'it returns false'. Refute it at one input. -/
def primOrderWrong : ChangeSpec := { name := "primOrder", fn := fun _ => fun
  | [d1, d2] => { results := [.lit (.bool false)], args := [d1, d2] }
  | _ => none }
def PrimOrderWrongFalsely : Prop := primOrderRow.holds Try.pinned (OpenSpec.ofChange primOrderWrong)

/-- 'sleuthlaw1.PrimSpread': WHATEVER THE INPUT: true; the input reads as it did. -/
def primSpreadSpec : ChangeSpec := { name := "primSpread", fn := fun _ => fun
  | [d1, d2, d3] => { results := [.lit (.bool true)], args := [d1, d2, d3] }
  | _ => none }
def primSpreadRow : OpenClaim := { program := "ytmikmcflfmodcaa", sum := "47393c937234cd5e1a4cc3599348e99be29e38795a58c1853d2edd4367840d23", func := "sleuth/sleuthlaw1.PrimSpread", spec := "primSpread", apart := false }
def PrimSpreadSaid : Prop := primSpreadRow.holds Try.pinned (OpenSpec.ofChange primSpreadSpec)

/-- ITS FALSE NEIGHBOUR: 'it returns false'. Refute it at one input. -/
def primSpreadWrong : ChangeSpec := { name := "primSpread", fn := fun _ => fun
  | [d1, d2, d3] => { results := [.lit (.bool false)], args := [d1, d2, d3] }
  | _ => none }
def PrimSpreadWrongFalsely : Prop := primSpreadRow.holds Try.pinned (OpenSpec.ofChange primSpreadWrong)

/- THE SECOND FORM. 'bulk': how many values and letters a reading holds, each counted each time it is reached (what is shared counts as often as it is met; a slice's spare places count too). A statement '..UptoSaid' is the law's where the arguments, and the package variables that the reading takes, are together of bulk at most 1048576: NARROWER than '..Said'. Prove '..Said' where nothing that the law and all that it calls make is longer than what came in: it says more and counts as full. Else prove '..UptoSaid'. A law counts once. -/
mutual
def uptoBulk {H : Type} : DataW H → Nat
  | .lit (.string bytes) => bytes.length + 1
  | .lit _ => 1
  | .nil => 1
  | .ptr d => uptoBulk d + 1
  | .slice elems spare => uptoBulkAll elems + uptoBulkAll spare + 1
  | .agg parts => uptoBulkAll parts + 1
  | .iface _ d => uptoBulk d + 1
  | .map entries => uptoBulkEntries entries + 1
  | .held _ => 1
def uptoBulkAll {H : Type} : List (DataW H) → Nat
  | [] => 0
  | d :: r => uptoBulk d + uptoBulkAll r
def uptoBulkEntries {H : Type} : List (Lit × DataW H) → Nat
  | [] => 0
  | x :: r => uptoBulkEntry x + uptoBulkEntries r
def uptoBulkEntry {H : Type} : Lit × DataW H → Nat
  | (.string bytes, d) => bytes.length + uptoBulk d + 1
  | (_, d) => uptoBulk d + 1
 end
def uptoSmall : (H : Type) → List (DataW H) → Bool := fun _ ds => decide (uptoBulkAll ds ≤ 1048576)
def OpenSpec.upto (s : _root_.Go.ChangeSpec) : _root_.Go.OpenSpec := { _root_.Go.OpenSpec.ofChange s with cond := some uptoSmall }

/-- 'sleuthlaw0.SleuthNames', WHERE WHAT IT READS IS OF BULK AT MOST 1048576: true; the input reads as it did. -/
def sleuthNamesUptoRow : OpenClaim := { program := "ytmikmcflfmodcaa", sum := "47393c937234cd5e1a4cc3599348e99be29e38795a58c1853d2edd4367840d23", func := "sleuth/sleuthlaw0.SleuthNames", spec := "sleuthNames", apart := false, narrowed := true }
def SleuthNamesUptoSaid : Prop := sleuthNamesUptoRow.holds Try.pinned (OpenSpec.upto sleuthNamesSpec)

/-- 'sleuthlaw1.Prims', WHERE WHAT IT READS IS OF BULK AT MOST 1048576: true; the input reads as it did. -/
def primsUptoRow : OpenClaim := { program := "ytmikmcflfmodcaa", sum := "47393c937234cd5e1a4cc3599348e99be29e38795a58c1853d2edd4367840d23", func := "sleuth/sleuthlaw1.Prims", spec := "prims", apart := false, narrowed := true }
def PrimsUptoSaid : Prop := primsUptoRow.holds Try.pinned (OpenSpec.upto primsSpec)

/-- 'sleuthlaw1.PrimWraps', WHERE WHAT IT READS IS OF BULK AT MOST 1048576: true; the input reads as it did. -/
def primWrapsUptoRow : OpenClaim := { program := "ytmikmcflfmodcaa", sum := "47393c937234cd5e1a4cc3599348e99be29e38795a58c1853d2edd4367840d23", func := "sleuth/sleuthlaw1.PrimWraps", spec := "primWraps", apart := false, narrowed := true }
def PrimWrapsUptoSaid : Prop := primWrapsUptoRow.holds Try.pinned (OpenSpec.upto primWrapsSpec)

/-- 'sleuthlaw1.PrimForms', WHERE WHAT IT READS IS OF BULK AT MOST 1048576: true; the input reads as it did. -/
def primFormsUptoRow : OpenClaim := { program := "ytmikmcflfmodcaa", sum := "47393c937234cd5e1a4cc3599348e99be29e38795a58c1853d2edd4367840d23", func := "sleuth/sleuthlaw1.PrimForms", spec := "primForms", apart := false, narrowed := true }
def PrimFormsUptoSaid : Prop := primFormsUptoRow.holds Try.pinned (OpenSpec.upto primFormsSpec)

/-- 'sleuthlaw1.PrimBack', WHERE WHAT IT READS IS OF BULK AT MOST 1048576: true; the input reads as it did. -/
def primBackUptoRow : OpenClaim := { program := "ytmikmcflfmodcaa", sum := "47393c937234cd5e1a4cc3599348e99be29e38795a58c1853d2edd4367840d23", func := "sleuth/sleuthlaw1.PrimBack", spec := "primBack", apart := false, narrowed := true }
def PrimBackUptoSaid : Prop := primBackUptoRow.holds Try.pinned (OpenSpec.upto primBackSpec)

/-- 'sleuthlaw1.PrimOrder', WHERE WHAT IT READS IS OF BULK AT MOST 1048576: true; the input reads as it did. -/
def primOrderUptoRow : OpenClaim := { program := "ytmikmcflfmodcaa", sum := "47393c937234cd5e1a4cc3599348e99be29e38795a58c1853d2edd4367840d23", func := "sleuth/sleuthlaw1.PrimOrder", spec := "primOrder", apart := false, narrowed := true }
def PrimOrderUptoSaid : Prop := primOrderUptoRow.holds Try.pinned (OpenSpec.upto primOrderSpec)

/-- 'sleuthlaw1.PrimSpread', WHERE WHAT IT READS IS OF BULK AT MOST 1048576: true; the input reads as it did. -/
def primSpreadUptoRow : OpenClaim := { program := "ytmikmcflfmodcaa", sum := "47393c937234cd5e1a4cc3599348e99be29e38795a58c1853d2edd4367840d23", func := "sleuth/sleuthlaw1.PrimSpread", spec := "primSpread", apart := false, narrowed := true }
def PrimSpreadUptoSaid : Prop := primSpreadUptoRow.holds Try.pinned (OpenSpec.upto primSpreadSpec)

end Rows
end Go.Proofs.Ytmikmcflfmodcaa
