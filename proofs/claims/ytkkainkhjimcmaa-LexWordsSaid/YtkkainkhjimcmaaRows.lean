/-
  No cell of these rows narrows 'for every input' (looked for: loops, veiled, ifaces, maps, wideKeys, modest, calm, conditions, laid).
  DERIVED. THE GIVEN ROWS OF THIS SEAT. 4 by the template 'for every input the law returns true; each argument reads behind the call as it read before'; 0 by the template 'total and deterministic' (their statements: YtkkainkhjimcmaaTotals.lean).
  GIVEN WITH THE SEED: the statements are not yours to turn. If you find one false, say at which input.
  Laid BY PROGRAM, IN A SANDBOX (cutbox-rows.mjs): the forced cells as the released guide's own fill.sh prints them over the translation 8719e76cd76bbe09… (all of the seat's roots in one cut). By AI agents, Wed Nov 11 2026. No macro, syntax, notation, axiom, sorry.
-/
import Derived.Test.YtkkainkhjimcmaaChecked
import GoSem.Claim
import GoSem.ClaimJoined
import GoSem.ClaimMapViews
import Derived.JoinedTies
import Derived.KernelRfl
namespace Go.Proofs.Ytkkainkhjimcmaa
/- THE CELL 'sum', in the pinned program and in every row, IS THE sha256 OF THE DUMP (.gsa) THAT YtkkainkhjimcmaaProg.lean LOADS. Nothing in Lean hashes anything: it is a label: what it is worth is what the hold of that sum in a sandbox is worth. -/
noncomputable def Try.pinned : Pinned := { name := "ytkkainkhjimcmaa", sum := "8719e76cd76bbe09462330de025a6e2f81305af8f88f9b012c20b299a5fdecc9", checked := Try.checked }
namespace Rows
def none {H : Type} : Left H := { results := [], args := [] }

/-- 'ostiarylaw12.LexSplits': WHATEVER THE INPUT: true; the input reads as it did. -/
def lexSplitsSpec : ChangeSpec := { name := "lexSplits", fn := fun _ => fun
  | [d] => { results := [.lit (.bool true)], args := [d] }
  | _ => none }
def lexSplitsRow : OpenClaim := { program := "ytkkainkhjimcmaa", sum := "8719e76cd76bbe09462330de025a6e2f81305af8f88f9b012c20b299a5fdecc9", func := "ostiary/ostiarylaw12.LexSplits", spec := "lexSplits", inPlace := ["internal/bytealg.IndexByteString"], apart := false }
def LexSplitsSaid : Prop := lexSplitsRow.holds Try.pinned (OpenSpec.ofChange lexSplitsSpec)

/-- ITS FALSE NEIGHBOUR: 'it returns false'. Refute it at one input. -/
def lexSplitsWrong : ChangeSpec := { name := "lexSplits", fn := fun _ => fun
  | [d] => { results := [.lit (.bool false)], args := [d] }
  | _ => none }
def LexSplitsWrongFalsely : Prop := lexSplitsRow.holds Try.pinned (OpenSpec.ofChange lexSplitsWrong)

/-- 'ostiarylaw12.LexTwo': WHATEVER THE INPUT: true; the input reads as it did. -/
def lexTwoSpec : ChangeSpec := { name := "lexTwo", fn := fun _ => fun
  | [d1, d2] => { results := [.lit (.bool true)], args := [d1, d2] }
  | _ => none }
def lexTwoRow : OpenClaim := { program := "ytkkainkhjimcmaa", sum := "8719e76cd76bbe09462330de025a6e2f81305af8f88f9b012c20b299a5fdecc9", func := "ostiary/ostiarylaw12.LexTwo", spec := "lexTwo", inPlace := ["internal/bytealg.IndexByteString"], apart := false }
def LexTwoSaid : Prop := lexTwoRow.holds Try.pinned (OpenSpec.ofChange lexTwoSpec)

/-- ITS FALSE NEIGHBOUR: 'it returns false'. Refute it at one input. -/
def lexTwoWrong : ChangeSpec := { name := "lexTwo", fn := fun _ => fun
  | [d1, d2] => { results := [.lit (.bool false)], args := [d1, d2] }
  | _ => none }
def LexTwoWrongFalsely : Prop := lexTwoRow.holds Try.pinned (OpenSpec.ofChange lexTwoWrong)

/-- 'ostiarylaw12.LexWords': WHATEVER THE INPUT: true; the input reads as it did. -/
def lexWordsSpec : ChangeSpec := { name := "lexWords", fn := fun _ => fun
  | [d1, d2] => { results := [.lit (.bool true)], args := [d1, d2] }
  | _ => none }
def lexWordsRow : OpenClaim := { program := "ytkkainkhjimcmaa", sum := "8719e76cd76bbe09462330de025a6e2f81305af8f88f9b012c20b299a5fdecc9", func := "ostiary/ostiarylaw12.LexWords", spec := "lexWords", inPlace := ["internal/bytealg.IndexByteString"], apart := false }
def LexWordsSaid : Prop := lexWordsRow.holds Try.pinned (OpenSpec.ofChange lexWordsSpec)

/-- ITS FALSE NEIGHBOUR: 'it returns false'. Refute it at one input. -/
def lexWordsWrong : ChangeSpec := { name := "lexWords", fn := fun _ => fun
  | [d1, d2] => { results := [.lit (.bool false)], args := [d1, d2] }
  | _ => none }
def LexWordsWrongFalsely : Prop := lexWordsRow.holds Try.pinned (OpenSpec.ofChange lexWordsWrong)

/-- 'ostiarylaw12.LexReserved': WHATEVER THE INPUT: true; the input reads as it did. -/
def lexReservedSpec : ChangeSpec := { name := "lexReserved", fn := fun _ => fun
  | [d] => { results := [.lit (.bool true)], args := [d] }
  | _ => none }
def lexReservedRow : OpenClaim := { program := "ytkkainkhjimcmaa", sum := "8719e76cd76bbe09462330de025a6e2f81305af8f88f9b012c20b299a5fdecc9", func := "ostiary/ostiarylaw12.LexReserved", spec := "lexReserved", inPlace := ["internal/bytealg.IndexByteString"], apart := false }
def LexReservedSaid : Prop := lexReservedRow.holds Try.pinned (OpenSpec.ofChange lexReservedSpec)

/-- ITS FALSE NEIGHBOUR: 'it returns false'. Refute it at one input. -/
def lexReservedWrong : ChangeSpec := { name := "lexReserved", fn := fun _ => fun
  | [d] => { results := [.lit (.bool false)], args := [d] }
  | _ => none }
def LexReservedWrongFalsely : Prop := lexReservedRow.holds Try.pinned (OpenSpec.ofChange lexReservedWrong)

/- THE SECOND FORM. 'bulk': how many values and letters a reading holds, each counted each time it is reached (what is shared counts as often as it is met; a slice's spare places count too). A statement '..UptoSaid' is the law's where the arguments, and the package variables that the reading takes, are together of bulk at most 1048576: NARROWER than '..Said'. Prove '..Said' where nothing that the law and all that it calls make is longer than what came in: it says more and counts as full. Else prove '..UptoSaid'. A law counts once. -/
mutual
def uptoBulk {H : Type} : DataW H → Nat
  | .lit (.string bytes) => bytes.length + 1
  | .lit _ => 1
  | .nil => 1
  | .ptr d => uptoBulk d + 1
  | .slice elems spare => uptoBulkAll elems + uptoBulkAll spare + 1
  | .agg parts => uptoBulkAll parts + 1
  | .iface _ d => uptoBulk d + 1
  | .map entries => uptoBulkEntries entries + 1
  | .held _ => 1
def uptoBulkAll {H : Type} : List (DataW H) → Nat
  | [] => 0
  | d :: r => uptoBulk d + uptoBulkAll r
def uptoBulkEntries {H : Type} : List (Lit × DataW H) → Nat
  | [] => 0
  | x :: r => uptoBulkEntry x + uptoBulkEntries r
def uptoBulkEntry {H : Type} : Lit × DataW H → Nat
  | (.string bytes, d) => bytes.length + uptoBulk d + 1
  | (_, d) => uptoBulk d + 1
 end
def uptoSmall : (H : Type) → List (DataW H) → Bool := fun _ ds => decide (uptoBulkAll ds ≤ 1048576)
def OpenSpec.upto (s : _root_.Go.ChangeSpec) : _root_.Go.OpenSpec := { _root_.Go.OpenSpec.ofChange s with cond := some uptoSmall }

/-- 'ostiarylaw12.LexSplits', WHERE WHAT IT READS IS OF BULK AT MOST 1048576: true; the input reads as it did. -/
def lexSplitsUptoRow : OpenClaim := { program := "ytkkainkhjimcmaa", sum := "8719e76cd76bbe09462330de025a6e2f81305af8f88f9b012c20b299a5fdecc9", func := "ostiary/ostiarylaw12.LexSplits", spec := "lexSplits", inPlace := ["internal/bytealg.IndexByteString"], apart := false, narrowed := true }
def LexSplitsUptoSaid : Prop := lexSplitsUptoRow.holds Try.pinned (OpenSpec.upto lexSplitsSpec)

/-- 'ostiarylaw12.LexTwo', WHERE WHAT IT READS IS OF BULK AT MOST 1048576: true; the input reads as it did. -/
def lexTwoUptoRow : OpenClaim := { program := "ytkkainkhjimcmaa", sum := "8719e76cd76bbe09462330de025a6e2f81305af8f88f9b012c20b299a5fdecc9", func := "ostiary/ostiarylaw12.LexTwo", spec := "lexTwo", inPlace := ["internal/bytealg.IndexByteString"], apart := false, narrowed := true }
def LexTwoUptoSaid : Prop := lexTwoUptoRow.holds Try.pinned (OpenSpec.upto lexTwoSpec)

/-- 'ostiarylaw12.LexWords', WHERE WHAT IT READS IS OF BULK AT MOST 1048576: true; the input reads as it did. -/
def lexWordsUptoRow : OpenClaim := { program := "ytkkainkhjimcmaa", sum := "8719e76cd76bbe09462330de025a6e2f81305af8f88f9b012c20b299a5fdecc9", func := "ostiary/ostiarylaw12.LexWords", spec := "lexWords", inPlace := ["internal/bytealg.IndexByteString"], apart := false, narrowed := true }
def LexWordsUptoSaid : Prop := lexWordsUptoRow.holds Try.pinned (OpenSpec.upto lexWordsSpec)

/-- 'ostiarylaw12.LexReserved', WHERE WHAT IT READS IS OF BULK AT MOST 1048576: true; the input reads as it did. -/
def lexReservedUptoRow : OpenClaim := { program := "ytkkainkhjimcmaa", sum := "8719e76cd76bbe09462330de025a6e2f81305af8f88f9b012c20b299a5fdecc9", func := "ostiary/ostiarylaw12.LexReserved", spec := "lexReserved", inPlace := ["internal/bytealg.IndexByteString"], apart := false, narrowed := true }
def LexReservedUptoSaid : Prop := lexReservedUptoRow.holds Try.pinned (OpenSpec.upto lexReservedSpec)

end Rows
end Go.Proofs.Ytkkainkhjimcmaa
