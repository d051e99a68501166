/-
  No cell of these rows narrows 'for every input' (looked for: loops, veiled, ifaces, maps, wideKeys, modest, calm, conditions, laid).
  DERIVED. THE GIVEN ROWS OF THIS SEAT. 5 by the template 'for every input the law returns true; each argument reads behind the call as it read before'; 0 by the template 'total and deterministic' (their statements: YtidlbomanfkibaaTotals.lean).
  GIVEN WITH THE SEED: the statements are not yours to turn. If you find one false, say at which input.
  Laid BY PROGRAM, IN A SANDBOX (cutbox-rows.mjs): the forced cells as the released guide's own fill.sh prints them over the translation 18d0ffac5dd09b0c… (all of the seat's roots in one cut). By AI agents, Wed Nov 11 2026. No macro, syntax, notation, axiom, sorry.
-/
import Derived.Test.YtidlbomanfkibaaChecked
import GoSem.Claim
import GoSem.ClaimJoined
import GoSem.ClaimMapViews
import Derived.JoinedTies
import Derived.KernelRfl
namespace Go.Proofs.Ytidlbomanfkibaa
/- THE CELL 'sum', in the pinned program and in every row, IS THE sha256 OF THE DUMP (.gsa) THAT YtidlbomanfkibaaProg.lean LOADS. Nothing in Lean hashes anything: it is a label: what it is worth is what the hold of that sum in a sandbox is worth. -/
noncomputable def Try.pinned : Pinned := { name := "ytidlbomanfkibaa", sum := "18d0ffac5dd09b0cad7b566e62488da8b60c3f7b3d5b12aab621b7c0017aa9fb", checked := Try.checked }
namespace Rows
def none {H : Type} : Left H := { results := [], args := [] }

/-- 'ostiarylaw26.LedgerApart': WHATEVER THE INPUT: true; the input reads as it did. -/
def ledgerApartSpec : ChangeSpec := { name := "ledgerApart", fn := fun _ => fun
  | [d] => { results := [.lit (.bool true)], args := [d] }
  | _ => none }
def ledgerApartRow : OpenClaim := { program := "ytidlbomanfkibaa", sum := "18d0ffac5dd09b0cad7b566e62488da8b60c3f7b3d5b12aab621b7c0017aa9fb", func := "ostiary/ostiarylaw26.LedgerApart", spec := "ledgerApart", inPlace := ["slices.overlaps[ostiary/shelf.slot[uint32, ostiary/ledger.Flow]]"], unfollowed := true, recurses := true, apart := false }
def LedgerApartSaid : Prop := ledgerApartRow.holds Try.pinned (OpenSpec.ofChange ledgerApartSpec)

/-- ITS FALSE NEIGHBOUR: 'it returns false'. Refute it at one input. -/
def ledgerApartWrong : ChangeSpec := { name := "ledgerApart", fn := fun _ => fun
  | [d] => { results := [.lit (.bool false)], args := [d] }
  | _ => none }
def LedgerApartWrongFalsely : Prop := ledgerApartRow.holds Try.pinned (OpenSpec.ofChange ledgerApartWrong)

/-- 'ostiarylaw26.LedgerReply': WHATEVER THE INPUT: true; the input reads as it did. -/
def ledgerReplySpec : ChangeSpec := { name := "ledgerReply", fn := fun _ => fun
  | [d1, d2] => { results := [.lit (.bool true)], args := [d1, d2] }
  | _ => none }
def ledgerReplyRow : OpenClaim := { program := "ytidlbomanfkibaa", sum := "18d0ffac5dd09b0cad7b566e62488da8b60c3f7b3d5b12aab621b7c0017aa9fb", func := "ostiary/ostiarylaw26.LedgerReply", spec := "ledgerReply", inPlace := ["slices.overlaps[ostiary/shelf.slot[uint32, ostiary/ledger.Flow]]"], unfollowed := true, recurses := true, apart := false }
def LedgerReplySaid : Prop := ledgerReplyRow.holds Try.pinned (OpenSpec.ofChange ledgerReplySpec)

/-- ITS FALSE NEIGHBOUR: 'it returns false'. Refute it at one input. -/
def ledgerReplyWrong : ChangeSpec := { name := "ledgerReply", fn := fun _ => fun
  | [d1, d2] => { results := [.lit (.bool false)], args := [d1, d2] }
  | _ => none }
def LedgerReplyWrongFalsely : Prop := ledgerReplyRow.holds Try.pinned (OpenSpec.ofChange ledgerReplyWrong)

/-- 'ostiarylaw26.LedgerPlays': WHATEVER THE INPUT: true; the input reads as it did. -/
def ledgerPlaysSpec : ChangeSpec := { name := "ledgerPlays", fn := fun _ => fun
  | [d1, d2] => { results := [.lit (.bool true)], args := [d1, d2] }
  | _ => none }
def ledgerPlaysRow : OpenClaim := { program := "ytidlbomanfkibaa", sum := "18d0ffac5dd09b0cad7b566e62488da8b60c3f7b3d5b12aab621b7c0017aa9fb", func := "ostiary/ostiarylaw26.LedgerPlays", spec := "ledgerPlays", inPlace := ["slices.overlaps[ostiary/shelf.slot[uint32, ostiary/ledger.Flow]]"], unfollowed := true, recurses := true, apart := false }
def LedgerPlaysSaid : Prop := ledgerPlaysRow.holds Try.pinned (OpenSpec.ofChange ledgerPlaysSpec)

/-- ITS FALSE NEIGHBOUR: 'it returns false'. Refute it at one input. -/
def ledgerPlaysWrong : ChangeSpec := { name := "ledgerPlays", fn := fun _ => fun
  | [d1, d2] => { results := [.lit (.bool false)], args := [d1, d2] }
  | _ => none }
def LedgerPlaysWrongFalsely : Prop := ledgerPlaysRow.holds Try.pinned (OpenSpec.ofChange ledgerPlaysWrong)

/-- 'ostiarylaw26.LedgerNil': WHATEVER THE INPUT: true; the input reads as it did. -/
def ledgerNilSpec : ChangeSpec := { name := "ledgerNil", fn := fun _ => fun
  | [d] => { results := [.lit (.bool true)], args := [d] }
  | _ => none }
def ledgerNilRow : OpenClaim := { program := "ytidlbomanfkibaa", sum := "18d0ffac5dd09b0cad7b566e62488da8b60c3f7b3d5b12aab621b7c0017aa9fb", func := "ostiary/ostiarylaw26.LedgerNil", spec := "ledgerNil", inPlace := ["slices.overlaps[ostiary/shelf.slot[uint32, ostiary/ledger.Flow]]"], unfollowed := true, recurses := true, apart := false }
def LedgerNilSaid : Prop := ledgerNilRow.holds Try.pinned (OpenSpec.ofChange ledgerNilSpec)

/-- ITS FALSE NEIGHBOUR: 'it returns false'. Refute it at one input. -/
def ledgerNilWrong : ChangeSpec := { name := "ledgerNil", fn := fun _ => fun
  | [d] => { results := [.lit (.bool false)], args := [d] }
  | _ => none }
def LedgerNilWrongFalsely : Prop := ledgerNilRow.holds Try.pinned (OpenSpec.ofChange ledgerNilWrong)

/-- 'ostiarylaw26.LedgerRec': WHATEVER THE INPUT: true; the input reads as it did. -/
def ledgerRecSpec : ChangeSpec := { name := "ledgerRec", fn := fun _ => fun
  | [d1, d2, d3] => { results := [.lit (.bool true)], args := [d1, d2, d3] }
  | _ => none }
def ledgerRecRow : OpenClaim := { program := "ytidlbomanfkibaa", sum := "18d0ffac5dd09b0cad7b566e62488da8b60c3f7b3d5b12aab621b7c0017aa9fb", func := "ostiary/ostiarylaw26.LedgerRec", spec := "ledgerRec", inPlace := ["slices.overlaps[ostiary/shelf.slot[uint32, ostiary/ledger.Flow]]"], unfollowed := true, recurses := true, apart := false }
def LedgerRecSaid : Prop := ledgerRecRow.holds Try.pinned (OpenSpec.ofChange ledgerRecSpec)

/-- ITS FALSE NEIGHBOUR: 'it returns false'. Refute it at one input. -/
def ledgerRecWrong : ChangeSpec := { name := "ledgerRec", fn := fun _ => fun
  | [d1, d2, d3] => { results := [.lit (.bool false)], args := [d1, d2, d3] }
  | _ => none }
def LedgerRecWrongFalsely : Prop := ledgerRecRow.holds Try.pinned (OpenSpec.ofChange ledgerRecWrong)

/- THE SECOND FORM. 'bulk': how many values and letters a reading holds, each counted each time it is reached (what is shared counts as often as it is met; a slice's spare places count too). A statement '..UptoSaid' is the law's where the arguments, and the package variables that the reading takes, are together of bulk at most 1048576: NARROWER than '..Said'. Prove '..Said' where nothing that the law and all that it calls make is longer than what came in: it says more and counts as full. Else prove '..UptoSaid'. A law counts once. -/
mutual
def uptoBulk {H : Type} : DataW H → Nat
  | .lit (.string bytes) => bytes.length + 1
  | .lit _ => 1
  | .nil => 1
  | .ptr d => uptoBulk d + 1
  | .slice elems spare => uptoBulkAll elems + uptoBulkAll spare + 1
  | .agg parts => uptoBulkAll parts + 1
  | .iface _ d => uptoBulk d + 1
  | .map entries => uptoBulkEntries entries + 1
  | .held _ => 1
def uptoBulkAll {H : Type} : List (DataW H) → Nat
  | [] => 0
  | d :: r => uptoBulk d + uptoBulkAll r
def uptoBulkEntries {H : Type} : List (Lit × DataW H) → Nat
  | [] => 0
  | x :: r => uptoBulkEntry x + uptoBulkEntries r
def uptoBulkEntry {H : Type} : Lit × DataW H → Nat
  | (.string bytes, d) => bytes.length + uptoBulk d + 1
  | (_, d) => uptoBulk d + 1
 end
def uptoSmall : (H : Type) → List (DataW H) → Bool := fun _ ds => decide (uptoBulkAll ds ≤ 1048576)
def OpenSpec.upto (s : _root_.Go.ChangeSpec) : _root_.Go.OpenSpec := { _root_.Go.OpenSpec.ofChange s with cond := some uptoSmall }

/-- 'ostiarylaw26.LedgerApart', WHERE WHAT IT READS IS OF BULK AT MOST 1048576: true; the input reads as it did. -/
def ledgerApartUptoRow : OpenClaim := { program := "ytidlbomanfkibaa", sum := "18d0ffac5dd09b0cad7b566e62488da8b60c3f7b3d5b12aab621b7c0017aa9fb", func := "ostiary/ostiarylaw26.LedgerApart", spec := "ledgerApart", inPlace := ["slices.overlaps[ostiary/shelf.slot[uint32, ostiary/ledger.Flow]]"], unfollowed := true, recurses := true, apart := false, narrowed := true }
def LedgerApartUptoSaid : Prop := ledgerApartUptoRow.holds Try.pinned (OpenSpec.upto ledgerApartSpec)

/-- 'ostiarylaw26.LedgerReply', WHERE WHAT IT READS IS OF BULK AT MOST 1048576: true; the input reads as it did. -/
def ledgerReplyUptoRow : OpenClaim := { program := "ytidlbomanfkibaa", sum := "18d0ffac5dd09b0cad7b566e62488da8b60c3f7b3d5b12aab621b7c0017aa9fb", func := "ostiary/ostiarylaw26.LedgerReply", spec := "ledgerReply", inPlace := ["slices.overlaps[ostiary/shelf.slot[uint32, ostiary/ledger.Flow]]"], unfollowed := true, recurses := true, apart := false, narrowed := true }
def LedgerReplyUptoSaid : Prop := ledgerReplyUptoRow.holds Try.pinned (OpenSpec.upto ledgerReplySpec)

/-- 'ostiarylaw26.LedgerPlays', WHERE WHAT IT READS IS OF BULK AT MOST 1048576: true; the input reads as it did. -/
def ledgerPlaysUptoRow : OpenClaim := { program := "ytidlbomanfkibaa", sum := "18d0ffac5dd09b0cad7b566e62488da8b60c3f7b3d5b12aab621b7c0017aa9fb", func := "ostiary/ostiarylaw26.LedgerPlays", spec := "ledgerPlays", inPlace := ["slices.overlaps[ostiary/shelf.slot[uint32, ostiary/ledger.Flow]]"], unfollowed := true, recurses := true, apart := false, narrowed := true }
def LedgerPlaysUptoSaid : Prop := ledgerPlaysUptoRow.holds Try.pinned (OpenSpec.upto ledgerPlaysSpec)

/-- 'ostiarylaw26.LedgerNil', WHERE WHAT IT READS IS OF BULK AT MOST 1048576: true; the input reads as it did. -/
def ledgerNilUptoRow : OpenClaim := { program := "ytidlbomanfkibaa", sum := "18d0ffac5dd09b0cad7b566e62488da8b60c3f7b3d5b12aab621b7c0017aa9fb", func := "ostiary/ostiarylaw26.LedgerNil", spec := "ledgerNil", inPlace := ["slices.overlaps[ostiary/shelf.slot[uint32, ostiary/ledger.Flow]]"], unfollowed := true, recurses := true, apart := false, narrowed := true }
def LedgerNilUptoSaid : Prop := ledgerNilUptoRow.holds Try.pinned (OpenSpec.upto ledgerNilSpec)

/-- 'ostiarylaw26.LedgerRec', WHERE WHAT IT READS IS OF BULK AT MOST 1048576: true; the input reads as it did. -/
def ledgerRecUptoRow : OpenClaim := { program := "ytidlbomanfkibaa", sum := "18d0ffac5dd09b0cad7b566e62488da8b60c3f7b3d5b12aab621b7c0017aa9fb", func := "ostiary/ostiarylaw26.LedgerRec", spec := "ledgerRec", inPlace := ["slices.overlaps[ostiary/shelf.slot[uint32, ostiary/ledger.Flow]]"], unfollowed := true, recurses := true, apart := false, narrowed := true }
def LedgerRecUptoSaid : Prop := ledgerRecUptoRow.holds Try.pinned (OpenSpec.upto ledgerRecSpec)

end Rows
end Go.Proofs.Ytidlbomanfkibaa
