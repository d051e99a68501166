/-
  No cell of these rows narrows 'for every input' (looked for: loops, veiled, ifaces, maps, wideKeys, modest, calm, conditions, laid).
  DERIVED. THE GIVEN ROWS OF THIS SEAT. 5 by the template 'for every input the law returns true; each argument reads behind the call as it read before'; 0 by the template 'total and deterministic' (their statements: YthlhnfbfibjfjaaTotals.lean).
  GIVEN WITH THE SEED: the statements are not yours to turn. If you find one false, say at which input.
  Laid BY PROGRAM, IN A SANDBOX (cutbox-rows.mjs): the forced cells as the released guide's own fill.sh prints them over the translation 8d78121b9930324c… (all of the seat's roots in one cut). By AI agents, Wed Nov 11 2026. No macro, syntax, notation, axiom, sorry.
-/
import Derived.Test.YthlhnfbfibjfjaaChecked
import GoSem.Claim
import GoSem.ClaimJoined
import GoSem.ClaimMapViews
import Derived.JoinedTies
import Derived.KernelRfl
namespace Go.Proofs.Ythlhnfbfibjfjaa
/- THE CELL 'sum', in the pinned program and in every row, IS THE sha256 OF THE DUMP (.gsa) THAT YthlhnfbfibjfjaaProg.lean LOADS. Nothing in Lean hashes anything: it is a label: what it is worth is what the hold of that sum in a sandbox is worth. -/
noncomputable def Try.pinned : Pinned := { name := "ythlhnfbfibjfjaa", sum := "8d78121b9930324c462e4192970be8d665a5672a3250647af6967c93d86c7f51", checked := Try.checked }
namespace Rows
def none {H : Type} : Left H := { results := [], args := [] }

/-- 'ostiarylaw17.EntryTags': WHATEVER THE INPUT: true; the input reads as it did. -/
def entryTagsSpec : ChangeSpec := { name := "entryTags", fn := fun _ => fun
  | [d1, d2, d3, d4] => { results := [.lit (.bool true)], args := [d1, d2, d3, d4] }
  | _ => none }
def entryTagsRow : OpenClaim := { program := "ythlhnfbfibjfjaa", sum := "8d78121b9930324c462e4192970be8d665a5672a3250647af6967c93d86c7f51", func := "ostiary/ostiarylaw17.EntryTags", spec := "entryTags", inPlace := ["slices.overlaps[ostiary/shelf.slot[string, ostiary/entry.Entry]]"], apart := false }
def EntryTagsSaid : Prop := entryTagsRow.holds Try.pinned (OpenSpec.ofChange entryTagsSpec)

/-- ITS FALSE NEIGHBOUR: 'it returns false'. Refute it at one input. -/
def entryTagsWrong : ChangeSpec := { name := "entryTags", fn := fun _ => fun
  | [d1, d2, d3, d4] => { results := [.lit (.bool false)], args := [d1, d2, d3, d4] }
  | _ => none }
def EntryTagsWrongFalsely : Prop := entryTagsRow.holds Try.pinned (OpenSpec.ofChange entryTagsWrong)

/-- 'ostiarylaw17.EntryOne': WHATEVER THE INPUT: true; the input reads as it did. -/
def entryOneSpec : ChangeSpec := { name := "entryOne", fn := fun _ => fun
  | [d1, d2] => { results := [.lit (.bool true)], args := [d1, d2] }
  | _ => none }
def entryOneRow : OpenClaim := { program := "ythlhnfbfibjfjaa", sum := "8d78121b9930324c462e4192970be8d665a5672a3250647af6967c93d86c7f51", func := "ostiary/ostiarylaw17.EntryOne", spec := "entryOne", inPlace := ["slices.overlaps[ostiary/shelf.slot[string, ostiary/entry.Entry]]"], apart := false }
def EntryOneSaid : Prop := entryOneRow.holds Try.pinned (OpenSpec.ofChange entryOneSpec)

/-- ITS FALSE NEIGHBOUR: 'it returns false'. Refute it at one input. -/
def entryOneWrong : ChangeSpec := { name := "entryOne", fn := fun _ => fun
  | [d1, d2] => { results := [.lit (.bool false)], args := [d1, d2] }
  | _ => none }
def EntryOneWrongFalsely : Prop := entryOneRow.holds Try.pinned (OpenSpec.ofChange entryOneWrong)

/-- 'ostiarylaw17.EntryOver': WHATEVER THE INPUT: true; the input reads as it did. -/
def entryOverSpec : ChangeSpec := { name := "entryOver", fn := fun _ => fun
  | [d1, d2, d3] => { results := [.lit (.bool true)], args := [d1, d2, d3] }
  | _ => none }
def entryOverRow : OpenClaim := { program := "ythlhnfbfibjfjaa", sum := "8d78121b9930324c462e4192970be8d665a5672a3250647af6967c93d86c7f51", func := "ostiary/ostiarylaw17.EntryOver", spec := "entryOver", inPlace := ["slices.overlaps[ostiary/shelf.slot[string, ostiary/entry.Entry]]"], unfollowed := true, recurses := true, apart := false }
def EntryOverSaid : Prop := entryOverRow.holds Try.pinned (OpenSpec.ofChange entryOverSpec)

/-- ITS FALSE NEIGHBOUR: 'it returns false'. Refute it at one input. -/
def entryOverWrong : ChangeSpec := { name := "entryOver", fn := fun _ => fun
  | [d1, d2, d3] => { results := [.lit (.bool false)], args := [d1, d2, d3] }
  | _ => none }
def EntryOverWrongFalsely : Prop := entryOverRow.holds Try.pinned (OpenSpec.ofChange entryOverWrong)

/-- 'ostiarylaw17.EntryPlays': WHATEVER THE INPUT: true; the input reads as it did. -/
def entryPlaysSpec : ChangeSpec := { name := "entryPlays", fn := fun _ => fun
  | [d1, d2] => { results := [.lit (.bool true)], args := [d1, d2] }
  | _ => none }
def entryPlaysRow : OpenClaim := { program := "ythlhnfbfibjfjaa", sum := "8d78121b9930324c462e4192970be8d665a5672a3250647af6967c93d86c7f51", func := "ostiary/ostiarylaw17.EntryPlays", spec := "entryPlays", inPlace := ["slices.overlaps[ostiary/shelf.slot[string, ostiary/entry.Entry]]"], unfollowed := true, recurses := true, apart := false }
def EntryPlaysSaid : Prop := entryPlaysRow.holds Try.pinned (OpenSpec.ofChange entryPlaysSpec)

/-- ITS FALSE NEIGHBOUR: 'it returns false'. Refute it at one input. -/
def entryPlaysWrong : ChangeSpec := { name := "entryPlays", fn := fun _ => fun
  | [d1, d2] => { results := [.lit (.bool false)], args := [d1, d2] }
  | _ => none }
def EntryPlaysWrongFalsely : Prop := entryPlaysRow.holds Try.pinned (OpenSpec.ofChange entryPlaysWrong)

/-- 'ostiarylaw17.EntryNil': WHATEVER THE INPUT: true; the input reads as it did. -/
def entryNilSpec : ChangeSpec := { name := "entryNil", fn := fun _ => fun
  | [d] => { results := [.lit (.bool true)], args := [d] }
  | _ => none }
def entryNilRow : OpenClaim := { program := "ythlhnfbfibjfjaa", sum := "8d78121b9930324c462e4192970be8d665a5672a3250647af6967c93d86c7f51", func := "ostiary/ostiarylaw17.EntryNil", spec := "entryNil", inPlace := ["slices.overlaps[ostiary/shelf.slot[string, ostiary/entry.Entry]]"], unfollowed := true, recurses := true, apart := false }
def EntryNilSaid : Prop := entryNilRow.holds Try.pinned (OpenSpec.ofChange entryNilSpec)

/-- ITS FALSE NEIGHBOUR: 'it returns false'. Refute it at one input. -/
def entryNilWrong : ChangeSpec := { name := "entryNil", fn := fun _ => fun
  | [d] => { results := [.lit (.bool false)], args := [d] }
  | _ => none }
def EntryNilWrongFalsely : Prop := entryNilRow.holds Try.pinned (OpenSpec.ofChange entryNilWrong)

/- THE SECOND FORM. 'bulk': how many values and letters a reading holds, each counted each time it is reached (what is shared counts as often as it is met; a slice's spare places count too). A statement '..UptoSaid' is the law's where the arguments, and the package variables that the reading takes, are together of bulk at most 1048576: NARROWER than '..Said'. Prove '..Said' where nothing that the law and all that it calls make is longer than what came in: it says more and counts as full. Else prove '..UptoSaid'. A law counts once. -/
mutual
def uptoBulk {H : Type} : DataW H → Nat
  | .lit (.string bytes) => bytes.length + 1
  | .lit _ => 1
  | .nil => 1
  | .ptr d => uptoBulk d + 1
  | .slice elems spare => uptoBulkAll elems + uptoBulkAll spare + 1
  | .agg parts => uptoBulkAll parts + 1
  | .iface _ d => uptoBulk d + 1
  | .map entries => uptoBulkEntries entries + 1
  | .held _ => 1
def uptoBulkAll {H : Type} : List (DataW H) → Nat
  | [] => 0
  | d :: r => uptoBulk d + uptoBulkAll r
def uptoBulkEntries {H : Type} : List (Lit × DataW H) → Nat
  | [] => 0
  | x :: r => uptoBulkEntry x + uptoBulkEntries r
def uptoBulkEntry {H : Type} : Lit × DataW H → Nat
  | (.string bytes, d) => bytes.length + uptoBulk d + 1
  | (_, d) => uptoBulk d + 1
 end
def uptoSmall : (H : Type) → List (DataW H) → Bool := fun _ ds => decide (uptoBulkAll ds ≤ 1048576)
def OpenSpec.upto (s : _root_.Go.ChangeSpec) : _root_.Go.OpenSpec := { _root_.Go.OpenSpec.ofChange s with cond := some uptoSmall }

/-- 'ostiarylaw17.EntryTags', WHERE WHAT IT READS IS OF BULK AT MOST 1048576: true; the input reads as it did. -/
def entryTagsUptoRow : OpenClaim := { program := "ythlhnfbfibjfjaa", sum := "8d78121b9930324c462e4192970be8d665a5672a3250647af6967c93d86c7f51", func := "ostiary/ostiarylaw17.EntryTags", spec := "entryTags", inPlace := ["slices.overlaps[ostiary/shelf.slot[string, ostiary/entry.Entry]]"], apart := false, narrowed := true }
def EntryTagsUptoSaid : Prop := entryTagsUptoRow.holds Try.pinned (OpenSpec.upto entryTagsSpec)

/-- 'ostiarylaw17.EntryOne', WHERE WHAT IT READS IS OF BULK AT MOST 1048576: true; the input reads as it did. -/
def entryOneUptoRow : OpenClaim := { program := "ythlhnfbfibjfjaa", sum := "8d78121b9930324c462e4192970be8d665a5672a3250647af6967c93d86c7f51", func := "ostiary/ostiarylaw17.EntryOne", spec := "entryOne", inPlace := ["slices.overlaps[ostiary/shelf.slot[string, ostiary/entry.Entry]]"], apart := false, narrowed := true }
def EntryOneUptoSaid : Prop := entryOneUptoRow.holds Try.pinned (OpenSpec.upto entryOneSpec)

/-- 'ostiarylaw17.EntryOver', WHERE WHAT IT READS IS OF BULK AT MOST 1048576: true; the input reads as it did. -/
def entryOverUptoRow : OpenClaim := { program := "ythlhnfbfibjfjaa", sum := "8d78121b9930324c462e4192970be8d665a5672a3250647af6967c93d86c7f51", func := "ostiary/ostiarylaw17.EntryOver", spec := "entryOver", inPlace := ["slices.overlaps[ostiary/shelf.slot[string, ostiary/entry.Entry]]"], unfollowed := true, recurses := true, apart := false, narrowed := true }
def EntryOverUptoSaid : Prop := entryOverUptoRow.holds Try.pinned (OpenSpec.upto entryOverSpec)

/-- 'ostiarylaw17.EntryPlays', WHERE WHAT IT READS IS OF BULK AT MOST 1048576: true; the input reads as it did. -/
def entryPlaysUptoRow : OpenClaim := { program := "ythlhnfbfibjfjaa", sum := "8d78121b9930324c462e4192970be8d665a5672a3250647af6967c93d86c7f51", func := "ostiary/ostiarylaw17.EntryPlays", spec := "entryPlays", inPlace := ["slices.overlaps[ostiary/shelf.slot[string, ostiary/entry.Entry]]"], unfollowed := true, recurses := true, apart := false, narrowed := true }
def EntryPlaysUptoSaid : Prop := entryPlaysUptoRow.holds Try.pinned (OpenSpec.upto entryPlaysSpec)

/-- 'ostiarylaw17.EntryNil', WHERE WHAT IT READS IS OF BULK AT MOST 1048576: true; the input reads as it did. -/
def entryNilUptoRow : OpenClaim := { program := "ythlhnfbfibjfjaa", sum := "8d78121b9930324c462e4192970be8d665a5672a3250647af6967c93d86c7f51", func := "ostiary/ostiarylaw17.EntryNil", spec := "entryNil", inPlace := ["slices.overlaps[ostiary/shelf.slot[string, ostiary/entry.Entry]]"], unfollowed := true, recurses := true, apart := false, narrowed := true }
def EntryNilUptoSaid : Prop := entryNilUptoRow.holds Try.pinned (OpenSpec.upto entryNilSpec)

end Rows
end Go.Proofs.Ythlhnfbfibjfjaa
