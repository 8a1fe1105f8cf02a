/-
  NARROWER THAN 'FOR EVERY INPUT', by the rows' own cells (each row's printed sentence says how): PassesDrops: laid · PassesPuts: laid · PassesAll: laid · PassesBlocks: laid.
  DERIVED. THE GIVEN ROWS OF THIS SEAT. 4 by the template 'for every input the law returns true; each argument reads behind the call as it read before'; 0 by the template 'total and deterministic' (their statements: YtcdinjhcnhepeaaGreatDoorTotals.lean).
  GIVEN WITH THE SEED: the statements are not yours to turn. If you find one false, say at which input.
  Laid BY PROGRAM, IN A SANDBOX (cutbox-rows.mjs): the forced cells as the released guide's own fill.sh prints them over the translation 0a57e6c4d415877b… (all of the seat's roots in one cut). By AI agents, Wed Nov 11 2026. No macro, syntax, notation, axiom, sorry.
-/
import Derived.Test.YtcdinjhcnhepeaaGreatDoorChecked
import GoSem.PinnedTables
import GoSem.Claim
import GoSem.ClaimJoined
import GoSem.ClaimMapViews
import Derived.JoinedTies
import Derived.KernelRfl
namespace Go.Proofs.YtcdinjhcnhepeaaGreatDoor
/- THE CELL 'sum', in the pinned program and in every row, IS THE sha256 OF THE DUMP (.gsa) THAT YtcdinjhcnhepeaaGreatDoorProg.lean LOADS. Nothing in Lean hashes anything: it is a label: what it is worth is what the hold of that sum in a sandbox is worth. -/
noncomputable def Tryz.pinned : Pinned := { name := "ytcdinjhcnhepeaagreatdoor", sum := "0a57e6c4d415877b8dadd3a62319d2fbde71f80f42371a20651e647a3b2e221f", checked := Tryz.checked }
namespace Rows
def none {H : Type} : Left H := { results := [], args := [] }

/- WHAT THE LISTED PACKAGE-LEVEL VARIABLES READ AS WHEN THE CALL BEGINS. Each datum BY PROGRAM (the guide's laid-datum.mjs) off the statement by which the dump's own 'gosem.cut.vars' lays the variable. In a bare row this is a premise. The card (YtcdinjhcnhepeaaGreatDoorCards.lean) ties it to the program's text. -/
def laid_unicode_utf8_acceptRanges {H : Type} : DataW H := .agg [.agg [.lit (.int .u8 128), .lit (.int .u8 191)], .agg [.lit (.int .u8 160), .lit (.int .u8 191)], .agg [.lit (.int .u8 128), .lit (.int .u8 159)], .agg [.lit (.int .u8 144), .lit (.int .u8 191)], .agg [.lit (.int .u8 128), .lit (.int .u8 143)], .agg [.lit (.int .u8 0), .lit (.int .u8 0)], .agg [.lit (.int .u8 0), .lit (.int .u8 0)], .agg [.lit (.int .u8 0), .lit (.int .u8 0)], .agg [.lit (.int .u8 0), .lit (.int .u8 0)], .agg [.lit (.int .u8 0), .lit (.int .u8 0)], .agg [.lit (.int .u8 0), .lit (.int .u8 0)], .agg [.lit (.int .u8 0), .lit (.int .u8 0)], .agg [.lit (.int .u8 0), .lit (.int .u8 0)], .agg [.lit (.int .u8 0), .lit (.int .u8 0)], .agg [.lit (.int .u8 0), .lit (.int .u8 0)], .agg [.lit (.int .u8 0), .lit (.int .u8 0)]]
/-- One of Go's own tables, pinned by name: the form's constant. -/
def laid_unicode_utf8_first : DataW Unit := Go.Pinned.utf8First

/-- 'roundelaylaw19.PassesDrops': WHATEVER THE INPUT: true; the input reads as it did. -/
def passesDropsSpec : ChangeSpec := { name := "passesDrops", fn := fun _ => fun
  | [d] => { results := [.lit (.bool true)], args := [d] }
  | _ => none }
def passesDropsRow : OpenClaim := { program := "ytcdinjhcnhepeaagreatdoor", sum := "0a57e6c4d415877b8dadd3a62319d2fbde71f80f42371a20651e647a3b2e221f", func := "roundelay/roundelaylaw19.PassesDrops", spec := "passesDrops", inPlace := ["internal/bytealg.IndexByteString", "internal/bytealg.IndexString"], unfollowed := true, recurses := true, named := ["unicode/utf8.first", "unicode/utf8.acceptRanges", "internal/bytealg.MaxLen"], plainKeys := false, apart := false, laid := [("unicode/utf8.acceptRanges", laid_unicode_utf8_acceptRanges), ("unicode/utf8.first", laid_unicode_utf8_first)] }
def PassesDropsSaid : Prop := passesDropsRow.holds Tryz.pinned (OpenSpec.ofChange passesDropsSpec)

/-- ITS FALSE NEIGHBOUR: 'it returns false'. Refute it at one input. -/
def passesDropsWrong : ChangeSpec := { name := "passesDrops", fn := fun _ => fun
  | [d] => { results := [.lit (.bool false)], args := [d] }
  | _ => none }
def PassesDropsWrongFalsely : Prop := passesDropsRow.holds Tryz.pinned (OpenSpec.ofChange passesDropsWrong)

/-- 'roundelaylaw19.PassesPuts': WHATEVER THE INPUT: true; the input reads as it did. -/
def passesPutsSpec : ChangeSpec := { name := "passesPuts", fn := fun _ => fun
  | [d] => { results := [.lit (.bool true)], args := [d] }
  | _ => none }
def passesPutsRow : OpenClaim := { program := "ytcdinjhcnhepeaagreatdoor", sum := "0a57e6c4d415877b8dadd3a62319d2fbde71f80f42371a20651e647a3b2e221f", func := "roundelay/roundelaylaw19.PassesPuts", spec := "passesPuts", inPlace := ["internal/bytealg.IndexByteString", "internal/bytealg.IndexString"], unfollowed := true, recurses := true, named := ["unicode/utf8.first", "unicode/utf8.acceptRanges", "internal/bytealg.MaxLen"], plainKeys := false, apart := false, laid := [("unicode/utf8.acceptRanges", laid_unicode_utf8_acceptRanges), ("unicode/utf8.first", laid_unicode_utf8_first)] }
def PassesPutsSaid : Prop := passesPutsRow.holds Tryz.pinned (OpenSpec.ofChange passesPutsSpec)

/-- ITS FALSE NEIGHBOUR: 'it returns false'. Refute it at one input. -/
def passesPutsWrong : ChangeSpec := { name := "passesPuts", fn := fun _ => fun
  | [d] => { results := [.lit (.bool false)], args := [d] }
  | _ => none }
def PassesPutsWrongFalsely : Prop := passesPutsRow.holds Tryz.pinned (OpenSpec.ofChange passesPutsWrong)

/-- 'roundelaylaw19.PassesAll': WHATEVER THE INPUT: true; the input reads as it did. -/
def passesAllSpec : ChangeSpec := { name := "passesAll", fn := fun _ => fun
  | [d1, d2] => { results := [.lit (.bool true)], args := [d1, d2] }
  | _ => none }
def passesAllRow : OpenClaim := { program := "ytcdinjhcnhepeaagreatdoor", sum := "0a57e6c4d415877b8dadd3a62319d2fbde71f80f42371a20651e647a3b2e221f", func := "roundelay/roundelaylaw19.PassesAll", spec := "passesAll", inPlace := ["internal/bytealg.IndexByteString", "internal/bytealg.IndexString"], unfollowed := true, recurses := true, named := ["unicode/utf8.first", "unicode/utf8.acceptRanges", "internal/bytealg.MaxLen"], plainKeys := false, apart := false, laid := [("unicode/utf8.acceptRanges", laid_unicode_utf8_acceptRanges), ("unicode/utf8.first", laid_unicode_utf8_first)] }
def PassesAllSaid : Prop := passesAllRow.holds Tryz.pinned (OpenSpec.ofChange passesAllSpec)

/-- ITS FALSE NEIGHBOUR: 'it returns false'. Refute it at one input. -/
def passesAllWrong : ChangeSpec := { name := "passesAll", fn := fun _ => fun
  | [d1, d2] => { results := [.lit (.bool false)], args := [d1, d2] }
  | _ => none }
def PassesAllWrongFalsely : Prop := passesAllRow.holds Tryz.pinned (OpenSpec.ofChange passesAllWrong)

/-- 'roundelaylaw19.PassesBlocks': WHATEVER THE INPUT: true; the input reads as it did. -/
def passesBlocksSpec : ChangeSpec := { name := "passesBlocks", fn := fun _ => fun
  | [d1, d2] => { results := [.lit (.bool true)], args := [d1, d2] }
  | _ => none }
def passesBlocksRow : OpenClaim := { program := "ytcdinjhcnhepeaagreatdoor", sum := "0a57e6c4d415877b8dadd3a62319d2fbde71f80f42371a20651e647a3b2e221f", func := "roundelay/roundelaylaw19.PassesBlocks", spec := "passesBlocks", inPlace := ["internal/bytealg.IndexByteString", "internal/bytealg.IndexString"], unfollowed := true, recurses := true, named := ["unicode/utf8.first", "unicode/utf8.acceptRanges", "internal/bytealg.MaxLen"], plainKeys := false, apart := false, laid := [("unicode/utf8.acceptRanges", laid_unicode_utf8_acceptRanges), ("unicode/utf8.first", laid_unicode_utf8_first)] }
def PassesBlocksSaid : Prop := passesBlocksRow.holds Tryz.pinned (OpenSpec.ofChange passesBlocksSpec)

/-- ITS FALSE NEIGHBOUR: 'it returns false'. Refute it at one input. -/
def passesBlocksWrong : ChangeSpec := { name := "passesBlocks", fn := fun _ => fun
  | [d1, d2] => { results := [.lit (.bool false)], args := [d1, d2] }
  | _ => none }
def PassesBlocksWrongFalsely : Prop := passesBlocksRow.holds Tryz.pinned (OpenSpec.ofChange passesBlocksWrong)

/- THE SECOND FORM. 'bulk': how many values and letters a reading holds, each counted each time it is reached (what is shared counts as often as it is met; a slice's spare places count too). A statement '..UptoSaid' is the law's where the arguments, and the package variables that the reading takes, are together of bulk at most 1048576: NARROWER than '..Said'. Prove '..Said' where nothing that the law and all that it calls make is longer than what came in: it says more and counts as full. Else prove '..UptoSaid'. A law counts once. -/
mutual
def uptoBulk {H : Type} : DataW H → Nat
  | .lit (.string bytes) => bytes.length + 1
  | .lit _ => 1
  | .nil => 1
  | .ptr d => uptoBulk d + 1
  | .slice elems spare => uptoBulkAll elems + uptoBulkAll spare + 1
  | .agg parts => uptoBulkAll parts + 1
  | .iface _ d => uptoBulk d + 1
  | .map entries => uptoBulkEntries entries + 1
  | .held _ => 1
def uptoBulkAll {H : Type} : List (DataW H) → Nat
  | [] => 0
  | d :: r => uptoBulk d + uptoBulkAll r
def uptoBulkEntries {H : Type} : List (Lit × DataW H) → Nat
  | [] => 0
  | x :: r => uptoBulkEntry x + uptoBulkEntries r
def uptoBulkEntry {H : Type} : Lit × DataW H → Nat
  | (.string bytes, d) => bytes.length + uptoBulk d + 1
  | (_, d) => uptoBulk d + 1
 end
def uptoSmall : (H : Type) → List (DataW H) → Bool := fun _ ds => decide (uptoBulkAll ds ≤ 1048576)
def OpenSpec.upto (s : _root_.Go.ChangeSpec) : _root_.Go.OpenSpec := { _root_.Go.OpenSpec.ofChange s with cond := some uptoSmall }

/-- 'roundelaylaw19.PassesDrops', WHERE WHAT IT READS IS OF BULK AT MOST 1048576: true; the input reads as it did. -/
def passesDropsUptoRow : OpenClaim := { program := "ytcdinjhcnhepeaagreatdoor", sum := "0a57e6c4d415877b8dadd3a62319d2fbde71f80f42371a20651e647a3b2e221f", func := "roundelay/roundelaylaw19.PassesDrops", spec := "passesDrops", inPlace := ["internal/bytealg.IndexByteString", "internal/bytealg.IndexString"], unfollowed := true, recurses := true, named := ["unicode/utf8.first", "unicode/utf8.acceptRanges", "internal/bytealg.MaxLen"], plainKeys := false, apart := false, laid := [("unicode/utf8.acceptRanges", laid_unicode_utf8_acceptRanges), ("unicode/utf8.first", laid_unicode_utf8_first)], narrowed := true }
def PassesDropsUptoSaid : Prop := passesDropsUptoRow.holds Tryz.pinned (OpenSpec.upto passesDropsSpec)

/-- 'roundelaylaw19.PassesPuts', WHERE WHAT IT READS IS OF BULK AT MOST 1048576: true; the input reads as it did. -/
def passesPutsUptoRow : OpenClaim := { program := "ytcdinjhcnhepeaagreatdoor", sum := "0a57e6c4d415877b8dadd3a62319d2fbde71f80f42371a20651e647a3b2e221f", func := "roundelay/roundelaylaw19.PassesPuts", spec := "passesPuts", inPlace := ["internal/bytealg.IndexByteString", "internal/bytealg.IndexString"], unfollowed := true, recurses := true, named := ["unicode/utf8.first", "unicode/utf8.acceptRanges", "internal/bytealg.MaxLen"], plainKeys := false, apart := false, laid := [("unicode/utf8.acceptRanges", laid_unicode_utf8_acceptRanges), ("unicode/utf8.first", laid_unicode_utf8_first)], narrowed := true }
def PassesPutsUptoSaid : Prop := passesPutsUptoRow.holds Tryz.pinned (OpenSpec.upto passesPutsSpec)

/-- 'roundelaylaw19.PassesAll', WHERE WHAT IT READS IS OF BULK AT MOST 1048576: true; the input reads as it did. -/
def passesAllUptoRow : OpenClaim := { program := "ytcdinjhcnhepeaagreatdoor", sum := "0a57e6c4d415877b8dadd3a62319d2fbde71f80f42371a20651e647a3b2e221f", func := "roundelay/roundelaylaw19.PassesAll", spec := "passesAll", inPlace := ["internal/bytealg.IndexByteString", "internal/bytealg.IndexString"], unfollowed := true, recurses := true, named := ["unicode/utf8.first", "unicode/utf8.acceptRanges", "internal/bytealg.MaxLen"], plainKeys := false, apart := false, laid := [("unicode/utf8.acceptRanges", laid_unicode_utf8_acceptRanges), ("unicode/utf8.first", laid_unicode_utf8_first)], narrowed := true }
def PassesAllUptoSaid : Prop := passesAllUptoRow.holds Tryz.pinned (OpenSpec.upto passesAllSpec)

/-- 'roundelaylaw19.PassesBlocks', WHERE WHAT IT READS IS OF BULK AT MOST 1048576: true; the input reads as it did. -/
def passesBlocksUptoRow : OpenClaim := { program := "ytcdinjhcnhepeaagreatdoor", sum := "0a57e6c4d415877b8dadd3a62319d2fbde71f80f42371a20651e647a3b2e221f", func := "roundelay/roundelaylaw19.PassesBlocks", spec := "passesBlocks", inPlace := ["internal/bytealg.IndexByteString", "internal/bytealg.IndexString"], unfollowed := true, recurses := true, named := ["unicode/utf8.first", "unicode/utf8.acceptRanges", "internal/bytealg.MaxLen"], plainKeys := false, apart := false, laid := [("unicode/utf8.acceptRanges", laid_unicode_utf8_acceptRanges), ("unicode/utf8.first", laid_unicode_utf8_first)], narrowed := true }
def PassesBlocksUptoSaid : Prop := passesBlocksUptoRow.holds Tryz.pinned (OpenSpec.upto passesBlocksSpec)

end Rows
end Go.Proofs.YtcdinjhcnhepeaaGreatDoor
