/-
  No cell of these rows narrows 'for every input' (looked for: loops, veiled, ifaces, maps, wideKeys, modest, calm, conditions, laid).
  DERIVED. THE GIVEN ROWS OF THIS SEAT. 5 by the template 'for every input the law returns true; each argument reads behind the call as it read before'; 0 by the template 'total and deterministic' (their statements: YtgdkgoeegipghaaTotals.lean).
  GIVEN WITH THE SEED: the statements are not yours to turn. If you find one false, say at which input.
  Laid BY PROGRAM, IN A SANDBOX (cutbox-rows.mjs): the forced cells as the released guide's own fill.sh prints them over the translation 3bf9fd8a8eafb6de… (all of the seat's roots in one cut). By AI agents, Wed Nov 11 2026. No macro, syntax, notation, axiom, sorry.
-/
import Derived.Test.YtgdkgoeegipghaaChecked
import GoSem.Claim
import GoSem.ClaimJoined
import GoSem.ClaimMapViews
import Derived.JoinedTies
import Derived.KernelRfl
namespace Go.Proofs.Ytgdkgoeegipghaa
/- THE CELL 'sum', in the pinned program and in every row, IS THE sha256 OF THE DUMP (.gsa) THAT YtgdkgoeegipghaaProg.lean LOADS. Nothing in Lean hashes anything: it is a label: what it is worth is what the hold of that sum in a sandbox is worth. -/
noncomputable def Try.pinned : Pinned := { name := "ytgdkgoeegipghaa", sum := "3bf9fd8a8eafb6de4bbc43239ee76fe71451940b48041fb89a7ee0376859a40f", checked := Try.checked }
namespace Rows
def none {H : Type} : Left H := { results := [], args := [] }

/-- 'voussoirlaw19.LexerTokens': WHATEVER THE INPUT: true; the input reads as it did. -/
def lexerTokensSpec : ChangeSpec := { name := "lexerTokens", fn := fun _ => fun
  | [d] => { results := [.lit (.bool true)], args := [d] }
  | _ => none }
def lexerTokensRow : OpenClaim := { program := "ytgdkgoeegipghaa", sum := "3bf9fd8a8eafb6de4bbc43239ee76fe71451940b48041fb89a7ee0376859a40f", func := "voussoir/voussoirlaw19.LexerTokens", spec := "lexerTokens", unfollowed := true, recurses := true, apart := false }
def LexerTokensSaid : Prop := lexerTokensRow.holds Try.pinned (OpenSpec.ofChange lexerTokensSpec)

/-- ITS FALSE NEIGHBOUR: 'it returns false'. Refute it at one input. -/
def lexerTokensWrong : ChangeSpec := { name := "lexerTokens", fn := fun _ => fun
  | [d] => { results := [.lit (.bool false)], args := [d] }
  | _ => none }
def LexerTokensWrongFalsely : Prop := lexerTokensRow.holds Try.pinned (OpenSpec.ofChange lexerTokensWrong)

/-- 'voussoirlaw19.LexerErrors': WHATEVER THE INPUT: true; the input reads as it did. -/
def lexerErrorsSpec : ChangeSpec := { name := "lexerErrors", fn := fun _ => fun
  | [d1, d2] => { results := [.lit (.bool true)], args := [d1, d2] }
  | _ => none }
def lexerErrorsRow : OpenClaim := { program := "ytgdkgoeegipghaa", sum := "3bf9fd8a8eafb6de4bbc43239ee76fe71451940b48041fb89a7ee0376859a40f", func := "voussoir/voussoirlaw19.LexerErrors", spec := "lexerErrors", unfollowed := true, recurses := true, apart := false }
def LexerErrorsSaid : Prop := lexerErrorsRow.holds Try.pinned (OpenSpec.ofChange lexerErrorsSpec)

/-- ITS FALSE NEIGHBOUR: 'it returns false'. Refute it at one input. -/
def lexerErrorsWrong : ChangeSpec := { name := "lexerErrors", fn := fun _ => fun
  | [d1, d2] => { results := [.lit (.bool false)], args := [d1, d2] }
  | _ => none }
def LexerErrorsWrongFalsely : Prop := lexerErrorsRow.holds Try.pinned (OpenSpec.ofChange lexerErrorsWrong)

/-- 'voussoirlaw19.LexerConcatenation': WHATEVER THE INPUT: true; the input reads as it did. -/
def lexerConcatenationSpec : ChangeSpec := { name := "lexerConcatenation", fn := fun _ => fun
  | [d1, d2] => { results := [.lit (.bool true)], args := [d1, d2] }
  | _ => none }
def lexerConcatenationRow : OpenClaim := { program := "ytgdkgoeegipghaa", sum := "3bf9fd8a8eafb6de4bbc43239ee76fe71451940b48041fb89a7ee0376859a40f", func := "voussoir/voussoirlaw19.LexerConcatenation", spec := "lexerConcatenation", unfollowed := true, recurses := true, apart := false }
def LexerConcatenationSaid : Prop := lexerConcatenationRow.holds Try.pinned (OpenSpec.ofChange lexerConcatenationSpec)

/-- ITS FALSE NEIGHBOUR: 'it returns false'. Refute it at one input. -/
def lexerConcatenationWrong : ChangeSpec := { name := "lexerConcatenation", fn := fun _ => fun
  | [d1, d2] => { results := [.lit (.bool false)], args := [d1, d2] }
  | _ => none }
def LexerConcatenationWrongFalsely : Prop := lexerConcatenationRow.holds Try.pinned (OpenSpec.ofChange lexerConcatenationWrong)

/-- 'voussoirlaw19.LexerSpaces': WHATEVER THE INPUT: true; the input reads as it did. -/
def lexerSpacesSpec : ChangeSpec := { name := "lexerSpaces", fn := fun _ => fun
  | [d1, d2] => { results := [.lit (.bool true)], args := [d1, d2] }
  | _ => none }
def lexerSpacesRow : OpenClaim := { program := "ytgdkgoeegipghaa", sum := "3bf9fd8a8eafb6de4bbc43239ee76fe71451940b48041fb89a7ee0376859a40f", func := "voussoir/voussoirlaw19.LexerSpaces", spec := "lexerSpaces", inPlace := ["internal/abi.NoEscape", "internal/bytealg.MakeNoZero"], unfollowed := true, recurses := true, apart := false }
def LexerSpacesSaid : Prop := lexerSpacesRow.holds Try.pinned (OpenSpec.ofChange lexerSpacesSpec)

/-- ITS FALSE NEIGHBOUR: 'it returns false'. Refute it at one input. -/
def lexerSpacesWrong : ChangeSpec := { name := "lexerSpaces", fn := fun _ => fun
  | [d1, d2] => { results := [.lit (.bool false)], args := [d1, d2] }
  | _ => none }
def LexerSpacesWrongFalsely : Prop := lexerSpacesRow.holds Try.pinned (OpenSpec.ofChange lexerSpacesWrong)

/-- 'voussoirlaw19.LexerKinds': WHATEVER THE INPUT: true; the input reads as it did. -/
def lexerKindsSpec : ChangeSpec := { name := "lexerKinds", fn := fun _ => fun
  | [d1, d2] => { results := [.lit (.bool true)], args := [d1, d2] }
  | _ => none }
def lexerKindsRow : OpenClaim := { program := "ytgdkgoeegipghaa", sum := "3bf9fd8a8eafb6de4bbc43239ee76fe71451940b48041fb89a7ee0376859a40f", func := "voussoir/voussoirlaw19.LexerKinds", spec := "lexerKinds", inPlace := ["internal/abi.NoEscape", "internal/bytealg.MakeNoZero"], unfollowed := true, recurses := true, apart := false }
def LexerKindsSaid : Prop := lexerKindsRow.holds Try.pinned (OpenSpec.ofChange lexerKindsSpec)

/-- ITS FALSE NEIGHBOUR: 'it returns false'. Refute it at one input. -/
def lexerKindsWrong : ChangeSpec := { name := "lexerKinds", fn := fun _ => fun
  | [d1, d2] => { results := [.lit (.bool false)], args := [d1, d2] }
  | _ => none }
def LexerKindsWrongFalsely : Prop := lexerKindsRow.holds Try.pinned (OpenSpec.ofChange lexerKindsWrong)

/- THE SECOND FORM. 'bulk': how many values and letters a reading holds, each counted each time it is reached (what is shared counts as often as it is met; a slice's spare places count too). A statement '..UptoSaid' is the law's where the arguments, and the package variables that the reading takes, are together of bulk at most 1048576: NARROWER than '..Said'. Prove '..Said' where nothing that the law and all that it calls make is longer than what came in: it says more and counts as full. Else prove '..UptoSaid'. A law counts once. -/
mutual
def uptoBulk {H : Type} : DataW H → Nat
  | .lit (.string bytes) => bytes.length + 1
  | .lit _ => 1
  | .nil => 1
  | .ptr d => uptoBulk d + 1
  | .slice elems spare => uptoBulkAll elems + uptoBulkAll spare + 1
  | .agg parts => uptoBulkAll parts + 1
  | .iface _ d => uptoBulk d + 1
  | .map entries => uptoBulkEntries entries + 1
  | .held _ => 1
def uptoBulkAll {H : Type} : List (DataW H) → Nat
  | [] => 0
  | d :: r => uptoBulk d + uptoBulkAll r
def uptoBulkEntries {H : Type} : List (Lit × DataW H) → Nat
  | [] => 0
  | x :: r => uptoBulkEntry x + uptoBulkEntries r
def uptoBulkEntry {H : Type} : Lit × DataW H → Nat
  | (.string bytes, d) => bytes.length + uptoBulk d + 1
  | (_, d) => uptoBulk d + 1
 end
def uptoSmall : (H : Type) → List (DataW H) → Bool := fun _ ds => decide (uptoBulkAll ds ≤ 1048576)
def OpenSpec.upto (s : _root_.Go.ChangeSpec) : _root_.Go.OpenSpec := { _root_.Go.OpenSpec.ofChange s with cond := some uptoSmall }

/-- 'voussoirlaw19.LexerTokens', WHERE WHAT IT READS IS OF BULK AT MOST 1048576: true; the input reads as it did. -/
def lexerTokensUptoRow : OpenClaim := { program := "ytgdkgoeegipghaa", sum := "3bf9fd8a8eafb6de4bbc43239ee76fe71451940b48041fb89a7ee0376859a40f", func := "voussoir/voussoirlaw19.LexerTokens", spec := "lexerTokens", unfollowed := true, recurses := true, apart := false, narrowed := true }
def LexerTokensUptoSaid : Prop := lexerTokensUptoRow.holds Try.pinned (OpenSpec.upto lexerTokensSpec)

/-- 'voussoirlaw19.LexerErrors', WHERE WHAT IT READS IS OF BULK AT MOST 1048576: true; the input reads as it did. -/
def lexerErrorsUptoRow : OpenClaim := { program := "ytgdkgoeegipghaa", sum := "3bf9fd8a8eafb6de4bbc43239ee76fe71451940b48041fb89a7ee0376859a40f", func := "voussoir/voussoirlaw19.LexerErrors", spec := "lexerErrors", unfollowed := true, recurses := true, apart := false, narrowed := true }
def LexerErrorsUptoSaid : Prop := lexerErrorsUptoRow.holds Try.pinned (OpenSpec.upto lexerErrorsSpec)

/-- 'voussoirlaw19.LexerConcatenation', WHERE WHAT IT READS IS OF BULK AT MOST 1048576: true; the input reads as it did. -/
def lexerConcatenationUptoRow : OpenClaim := { program := "ytgdkgoeegipghaa", sum := "3bf9fd8a8eafb6de4bbc43239ee76fe71451940b48041fb89a7ee0376859a40f", func := "voussoir/voussoirlaw19.LexerConcatenation", spec := "lexerConcatenation", unfollowed := true, recurses := true, apart := false, narrowed := true }
def LexerConcatenationUptoSaid : Prop := lexerConcatenationUptoRow.holds Try.pinned (OpenSpec.upto lexerConcatenationSpec)

/-- 'voussoirlaw19.LexerSpaces', WHERE WHAT IT READS IS OF BULK AT MOST 1048576: true; the input reads as it did. -/
def lexerSpacesUptoRow : OpenClaim := { program := "ytgdkgoeegipghaa", sum := "3bf9fd8a8eafb6de4bbc43239ee76fe71451940b48041fb89a7ee0376859a40f", func := "voussoir/voussoirlaw19.LexerSpaces", spec := "lexerSpaces", inPlace := ["internal/abi.NoEscape", "internal/bytealg.MakeNoZero"], unfollowed := true, recurses := true, apart := false, narrowed := true }
def LexerSpacesUptoSaid : Prop := lexerSpacesUptoRow.holds Try.pinned (OpenSpec.upto lexerSpacesSpec)

/-- 'voussoirlaw19.LexerKinds', WHERE WHAT IT READS IS OF BULK AT MOST 1048576: true; the input reads as it did. -/
def lexerKindsUptoRow : OpenClaim := { program := "ytgdkgoeegipghaa", sum := "3bf9fd8a8eafb6de4bbc43239ee76fe71451940b48041fb89a7ee0376859a40f", func := "voussoir/voussoirlaw19.LexerKinds", spec := "lexerKinds", inPlace := ["internal/abi.NoEscape", "internal/bytealg.MakeNoZero"], unfollowed := true, recurses := true, apart := false, narrowed := true }
def LexerKindsUptoSaid : Prop := lexerKindsUptoRow.holds Try.pinned (OpenSpec.upto lexerKindsSpec)

end Rows
end Go.Proofs.Ytgdkgoeegipghaa
