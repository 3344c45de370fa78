/-
  NARROWER THAN 'FOR EVERY INPUT', by the rows' own cells (each row's printed sentence says how): TablesStates: laid · TablesReached: laid · TablesGo: laid · TablesRenamed: laid · TablesReads: laid · TablesMakes: laid · TablesDoubled: laid · TablesDecides: laid · MouldsLaid: laid · MouldsRound: laid.
  DERIVED. THE GIVEN ROWS OF THIS SEAT. 10 by the template 'for every input the law returns true; each argument reads behind the call as it read before'; 0 by the template 'total and deterministic' (their statements: YtpmmfckgfbdboaaDoorTotals.lean).
  GIVEN WITH THE SEED: the statements are not yours to turn. If you find one false, say at which input.
  Laid BY PROGRAM, IN A SANDBOX (cutbox-rows.mjs): the forced cells as the released guide's own fill.sh prints them over the translation d5cb50aa14624fe3… (all of the seat's roots in one cut). By AI agents, Wed Nov 11 2026. No macro, syntax, notation, axiom, sorry.
-/
import Derived.Test.YtpmmfckgfbdboaaDoorChecked
import GoSem.PinnedTables
import GoSem.Claim
import GoSem.ClaimJoined
import GoSem.ClaimMapViews
import Derived.JoinedTies
import Derived.KernelRfl
namespace Go.Proofs.YtpmmfckgfbdboaaDoor
/- THE CELL 'sum', in the pinned program and in every row, IS THE sha256 OF THE DUMP (.gsa) THAT YtpmmfckgfbdboaaDoorProg.lean LOADS. Nothing in Lean hashes anything: it is a label: what it is worth is what the hold of that sum in a sandbox is worth. -/
noncomputable def Tryd.pinned : Pinned := { name := "ytpmmfckgfbdboaadoor", sum := "d5cb50aa14624fe3d286ea4d3cdd3454ef333960bf4dc2a3497affdb3197faa5", checked := Tryd.checked }
namespace Rows
def none {H : Type} : Left H := { results := [], args := [] }

/- WHAT THE LISTED PACKAGE-LEVEL VARIABLES READ AS WHEN THE CALL BEGINS. Each datum BY PROGRAM (the guide's laid-datum.mjs) off the statement by which the dump's own 'gosem.cut.vars' lays the variable. In a bare row this is a premise. The card (YtpmmfckgfbdboaaDoorCards.lean) ties it to the program's text. -/
def laid_unicode_utf8_acceptRanges {H : Type} : DataW H := .agg [.agg [.lit (.int .u8 128), .lit (.int .u8 191)], .agg [.lit (.int .u8 160), .lit (.int .u8 191)], .agg [.lit (.int .u8 128), .lit (.int .u8 159)], .agg [.lit (.int .u8 144), .lit (.int .u8 191)], .agg [.lit (.int .u8 128), .lit (.int .u8 143)], .agg [.lit (.int .u8 0), .lit (.int .u8 0)], .agg [.lit (.int .u8 0), .lit (.int .u8 0)], .agg [.lit (.int .u8 0), .lit (.int .u8 0)], .agg [.lit (.int .u8 0), .lit (.int .u8 0)], .agg [.lit (.int .u8 0), .lit (.int .u8 0)], .agg [.lit (.int .u8 0), .lit (.int .u8 0)], .agg [.lit (.int .u8 0), .lit (.int .u8 0)], .agg [.lit (.int .u8 0), .lit (.int .u8 0)], .agg [.lit (.int .u8 0), .lit (.int .u8 0)], .agg [.lit (.int .u8 0), .lit (.int .u8 0)], .agg [.lit (.int .u8 0), .lit (.int .u8 0)]]
/-- One of Go's own tables, pinned by name: the form's constant. -/
def laid_unicode_utf8_first : DataW Unit := Go.Pinned.utf8First

/-- 'comfitlaw05.TablesStates': WHATEVER THE INPUT: true; the input reads as it did. -/
def tablesStatesSpec : ChangeSpec := { name := "tablesStates", fn := fun _ => fun
  | [d] => { results := [.lit (.bool true)], args := [d] }
  | _ => none }
def tablesStatesRow : OpenClaim := { program := "ytpmmfckgfbdboaadoor", sum := "d5cb50aa14624fe3d286ea4d3cdd3454ef333960bf4dc2a3497affdb3197faa5", func := "comfit/comfitlaw05.TablesStates", spec := "tablesStates", inPlace := ["internal/bytealg.IndexByteString", "internal/bytealg.IndexString"], unfollowed := true, recurses := true, named := ["unicode/utf8.first", "unicode/utf8.acceptRanges", "internal/bytealg.MaxLen"], plainKeys := false, apart := false, laid := [("unicode/utf8.acceptRanges", laid_unicode_utf8_acceptRanges), ("unicode/utf8.first", laid_unicode_utf8_first)] }
def TablesStatesSaid : Prop := tablesStatesRow.holds Tryd.pinned (OpenSpec.ofChange tablesStatesSpec)

/-- ITS FALSE NEIGHBOUR: 'it returns false'. Refute it at one input. -/
def tablesStatesWrong : ChangeSpec := { name := "tablesStates", fn := fun _ => fun
  | [d] => { results := [.lit (.bool false)], args := [d] }
  | _ => none }
def TablesStatesWrongFalsely : Prop := tablesStatesRow.holds Tryd.pinned (OpenSpec.ofChange tablesStatesWrong)

/-- 'comfitlaw05.TablesReached': WHATEVER THE INPUT: true; the input reads as it did. -/
def tablesReachedSpec : ChangeSpec := { name := "tablesReached", fn := fun _ => fun
  | [d] => { results := [.lit (.bool true)], args := [d] }
  | _ => none }
def tablesReachedRow : OpenClaim := { program := "ytpmmfckgfbdboaadoor", sum := "d5cb50aa14624fe3d286ea4d3cdd3454ef333960bf4dc2a3497affdb3197faa5", func := "comfit/comfitlaw05.TablesReached", spec := "tablesReached", inPlace := ["internal/bytealg.IndexByteString", "internal/bytealg.IndexString"], unfollowed := true, recurses := true, named := ["unicode/utf8.first", "unicode/utf8.acceptRanges", "internal/bytealg.MaxLen"], plainKeys := false, apart := false, laid := [("unicode/utf8.acceptRanges", laid_unicode_utf8_acceptRanges), ("unicode/utf8.first", laid_unicode_utf8_first)] }
def TablesReachedSaid : Prop := tablesReachedRow.holds Tryd.pinned (OpenSpec.ofChange tablesReachedSpec)

/-- ITS FALSE NEIGHBOUR: 'it returns false'. Refute it at one input. -/
def tablesReachedWrong : ChangeSpec := { name := "tablesReached", fn := fun _ => fun
  | [d] => { results := [.lit (.bool false)], args := [d] }
  | _ => none }
def TablesReachedWrongFalsely : Prop := tablesReachedRow.holds Tryd.pinned (OpenSpec.ofChange tablesReachedWrong)

/-- 'comfitlaw05.TablesGo': WHATEVER THE INPUT: true; the input reads as it did. -/
def tablesGoSpec : ChangeSpec := { name := "tablesGo", fn := fun _ => fun
  | [d1, d2, d3] => { results := [.lit (.bool true)], args := [d1, d2, d3] }
  | _ => none }
def tablesGoRow : OpenClaim := { program := "ytpmmfckgfbdboaadoor", sum := "d5cb50aa14624fe3d286ea4d3cdd3454ef333960bf4dc2a3497affdb3197faa5", func := "comfit/comfitlaw05.TablesGo", spec := "tablesGo", inPlace := ["internal/bytealg.IndexByteString", "internal/bytealg.IndexString"], unfollowed := true, recurses := true, named := ["unicode/utf8.first", "unicode/utf8.acceptRanges", "internal/bytealg.MaxLen"], plainKeys := false, apart := false, laid := [("unicode/utf8.acceptRanges", laid_unicode_utf8_acceptRanges), ("unicode/utf8.first", laid_unicode_utf8_first)] }
def TablesGoSaid : Prop := tablesGoRow.holds Tryd.pinned (OpenSpec.ofChange tablesGoSpec)

/-- ITS FALSE NEIGHBOUR: 'it returns false'. Refute it at one input. -/
def tablesGoWrong : ChangeSpec := { name := "tablesGo", fn := fun _ => fun
  | [d1, d2, d3] => { results := [.lit (.bool false)], args := [d1, d2, d3] }
  | _ => none }
def TablesGoWrongFalsely : Prop := tablesGoRow.holds Tryd.pinned (OpenSpec.ofChange tablesGoWrong)

/-- 'comfitlaw05.TablesRenamed': WHATEVER THE INPUT: true; the input reads as it did. -/
def tablesRenamedSpec : ChangeSpec := { name := "tablesRenamed", fn := fun _ => fun
  | [d1, d2, d3, d4, d5] => { results := [.lit (.bool true)], args := [d1, d2, d3, d4, d5] }
  | _ => none }
def tablesRenamedRow : OpenClaim := { program := "ytpmmfckgfbdboaadoor", sum := "d5cb50aa14624fe3d286ea4d3cdd3454ef333960bf4dc2a3497affdb3197faa5", func := "comfit/comfitlaw05.TablesRenamed", spec := "tablesRenamed", inPlace := ["internal/bytealg.IndexByteString", "internal/bytealg.IndexString"], unfollowed := true, recurses := true, named := ["unicode/utf8.first", "unicode/utf8.acceptRanges", "internal/bytealg.MaxLen"], plainKeys := false, apart := false, laid := [("unicode/utf8.acceptRanges", laid_unicode_utf8_acceptRanges), ("unicode/utf8.first", laid_unicode_utf8_first)] }
def TablesRenamedSaid : Prop := tablesRenamedRow.holds Tryd.pinned (OpenSpec.ofChange tablesRenamedSpec)

/-- ITS FALSE NEIGHBOUR: 'it returns false'. Refute it at one input. -/
def tablesRenamedWrong : ChangeSpec := { name := "tablesRenamed", fn := fun _ => fun
  | [d1, d2, d3, d4, d5] => { results := [.lit (.bool false)], args := [d1, d2, d3, d4, d5] }
  | _ => none }
def TablesRenamedWrongFalsely : Prop := tablesRenamedRow.holds Tryd.pinned (OpenSpec.ofChange tablesRenamedWrong)

/-- 'comfitlaw05.TablesReads': WHATEVER THE INPUT: true; the input reads as it did. -/
def tablesReadsSpec : ChangeSpec := { name := "tablesReads", fn := fun _ => fun
  | [d1, d2] => { results := [.lit (.bool true)], args := [d1, d2] }
  | _ => none }
def tablesReadsRow : OpenClaim := { program := "ytpmmfckgfbdboaadoor", sum := "d5cb50aa14624fe3d286ea4d3cdd3454ef333960bf4dc2a3497affdb3197faa5", func := "comfit/comfitlaw05.TablesReads", spec := "tablesReads", inPlace := ["internal/bytealg.IndexByteString", "internal/bytealg.IndexString"], unfollowed := true, recurses := true, named := ["unicode/utf8.first", "unicode/utf8.acceptRanges", "internal/bytealg.MaxLen"], plainKeys := false, apart := false, laid := [("unicode/utf8.acceptRanges", laid_unicode_utf8_acceptRanges), ("unicode/utf8.first", laid_unicode_utf8_first)] }
def TablesReadsSaid : Prop := tablesReadsRow.holds Tryd.pinned (OpenSpec.ofChange tablesReadsSpec)

/-- ITS FALSE NEIGHBOUR: 'it returns false'. Refute it at one input. -/
def tablesReadsWrong : ChangeSpec := { name := "tablesReads", fn := fun _ => fun
  | [d1, d2] => { results := [.lit (.bool false)], args := [d1, d2] }
  | _ => none }
def TablesReadsWrongFalsely : Prop := tablesReadsRow.holds Tryd.pinned (OpenSpec.ofChange tablesReadsWrong)

/-- 'comfitlaw05.TablesMakes': WHATEVER THE INPUT: true; the input reads as it did. -/
def tablesMakesSpec : ChangeSpec := { name := "tablesMakes", fn := fun _ => fun
  | [d1, d2] => { results := [.lit (.bool true)], args := [d1, d2] }
  | _ => none }
def tablesMakesRow : OpenClaim := { program := "ytpmmfckgfbdboaadoor", sum := "d5cb50aa14624fe3d286ea4d3cdd3454ef333960bf4dc2a3497affdb3197faa5", func := "comfit/comfitlaw05.TablesMakes", spec := "tablesMakes", inPlace := ["internal/bytealg.IndexByteString", "internal/bytealg.IndexString"], unfollowed := true, recurses := true, named := ["unicode/utf8.first", "unicode/utf8.acceptRanges", "internal/bytealg.MaxLen"], plainKeys := false, apart := false, laid := [("unicode/utf8.acceptRanges", laid_unicode_utf8_acceptRanges), ("unicode/utf8.first", laid_unicode_utf8_first)] }
def TablesMakesSaid : Prop := tablesMakesRow.holds Tryd.pinned (OpenSpec.ofChange tablesMakesSpec)

/-- ITS FALSE NEIGHBOUR: 'it returns false'. Refute it at one input. -/
def tablesMakesWrong : ChangeSpec := { name := "tablesMakes", fn := fun _ => fun
  | [d1, d2] => { results := [.lit (.bool false)], args := [d1, d2] }
  | _ => none }
def TablesMakesWrongFalsely : Prop := tablesMakesRow.holds Tryd.pinned (OpenSpec.ofChange tablesMakesWrong)

/-- 'comfitlaw05.TablesDoubled': WHATEVER THE INPUT: true; the input reads as it did. -/
def tablesDoubledSpec : ChangeSpec := { name := "tablesDoubled", fn := fun _ => fun
  | [d1, d2] => { results := [.lit (.bool true)], args := [d1, d2] }
  | _ => none }
def tablesDoubledRow : OpenClaim := { program := "ytpmmfckgfbdboaadoor", sum := "d5cb50aa14624fe3d286ea4d3cdd3454ef333960bf4dc2a3497affdb3197faa5", func := "comfit/comfitlaw05.TablesDoubled", spec := "tablesDoubled", inPlace := ["internal/bytealg.IndexByteString", "internal/bytealg.IndexString"], unfollowed := true, recurses := true, named := ["unicode/utf8.first", "unicode/utf8.acceptRanges", "internal/bytealg.MaxLen"], plainKeys := false, apart := false, laid := [("unicode/utf8.acceptRanges", laid_unicode_utf8_acceptRanges), ("unicode/utf8.first", laid_unicode_utf8_first)] }
def TablesDoubledSaid : Prop := tablesDoubledRow.holds Tryd.pinned (OpenSpec.ofChange tablesDoubledSpec)

/-- ITS FALSE NEIGHBOUR: 'it returns false'. Refute it at one input. -/
def tablesDoubledWrong : ChangeSpec := { name := "tablesDoubled", fn := fun _ => fun
  | [d1, d2] => { results := [.lit (.bool false)], args := [d1, d2] }
  | _ => none }
def TablesDoubledWrongFalsely : Prop := tablesDoubledRow.holds Tryd.pinned (OpenSpec.ofChange tablesDoubledWrong)

/-- 'comfitlaw05.TablesDecides': WHATEVER THE INPUT: true; the input reads as it did. -/
def tablesDecidesSpec : ChangeSpec := { name := "tablesDecides", fn := fun _ => fun
  | [d1, d2] => { results := [.lit (.bool true)], args := [d1, d2] }
  | _ => none }
def tablesDecidesRow : OpenClaim := { program := "ytpmmfckgfbdboaadoor", sum := "d5cb50aa14624fe3d286ea4d3cdd3454ef333960bf4dc2a3497affdb3197faa5", func := "comfit/comfitlaw05.TablesDecides", spec := "tablesDecides", inPlace := ["internal/bytealg.IndexByteString", "internal/bytealg.IndexString"], unfollowed := true, recurses := true, named := ["unicode/utf8.first", "unicode/utf8.acceptRanges", "internal/bytealg.MaxLen"], plainKeys := false, apart := false, laid := [("unicode/utf8.acceptRanges", laid_unicode_utf8_acceptRanges), ("unicode/utf8.first", laid_unicode_utf8_first)] }
def TablesDecidesSaid : Prop := tablesDecidesRow.holds Tryd.pinned (OpenSpec.ofChange tablesDecidesSpec)

/-- ITS FALSE NEIGHBOUR: 'it returns false'. Refute it at one input. -/
def tablesDecidesWrong : ChangeSpec := { name := "tablesDecides", fn := fun _ => fun
  | [d1, d2] => { results := [.lit (.bool false)], args := [d1, d2] }
  | _ => none }
def TablesDecidesWrongFalsely : Prop := tablesDecidesRow.holds Tryd.pinned (OpenSpec.ofChange tablesDecidesWrong)

/-- 'comfitlaw07.MouldsLaid': WHATEVER THE INPUT: true; the input reads as it did. -/
def mouldsLaidSpec : ChangeSpec := { name := "mouldsLaid", fn := fun _ => fun
  | [d] => { results := [.lit (.bool true)], args := [d] }
  | _ => none }
def mouldsLaidRow : OpenClaim := { program := "ytpmmfckgfbdboaadoor", sum := "d5cb50aa14624fe3d286ea4d3cdd3454ef333960bf4dc2a3497affdb3197faa5", func := "comfit/comfitlaw07.MouldsLaid", spec := "mouldsLaid", inPlace := ["internal/bytealg.IndexByteString", "internal/bytealg.IndexString"], unfollowed := true, recurses := true, named := ["unicode/utf8.first", "unicode/utf8.acceptRanges", "internal/bytealg.MaxLen"], plainKeys := false, apart := false, laid := [("unicode/utf8.acceptRanges", laid_unicode_utf8_acceptRanges), ("unicode/utf8.first", laid_unicode_utf8_first)] }
def MouldsLaidSaid : Prop := mouldsLaidRow.holds Tryd.pinned (OpenSpec.ofChange mouldsLaidSpec)

/-- ITS FALSE NEIGHBOUR: 'it returns false'. Refute it at one input. -/
def mouldsLaidWrong : ChangeSpec := { name := "mouldsLaid", fn := fun _ => fun
  | [d] => { results := [.lit (.bool false)], args := [d] }
  | _ => none }
def MouldsLaidWrongFalsely : Prop := mouldsLaidRow.holds Tryd.pinned (OpenSpec.ofChange mouldsLaidWrong)

/-- 'comfitlaw07.MouldsRound': WHATEVER THE INPUT: true; the input reads as it did. -/
def mouldsRoundSpec : ChangeSpec := { name := "mouldsRound", fn := fun _ => fun
  | [d1, d2] => { results := [.lit (.bool true)], args := [d1, d2] }
  | _ => none }
def mouldsRoundRow : OpenClaim := { program := "ytpmmfckgfbdboaadoor", sum := "d5cb50aa14624fe3d286ea4d3cdd3454ef333960bf4dc2a3497affdb3197faa5", func := "comfit/comfitlaw07.MouldsRound", spec := "mouldsRound", inPlace := ["internal/bytealg.IndexByteString", "internal/bytealg.IndexString", "internal/abi.NoEscape"], unfollowed := true, recurses := true, named := ["unicode/utf8.first", "unicode/utf8.acceptRanges", "internal/bytealg.MaxLen"], plainKeys := false, apart := false, laid := [("unicode/utf8.acceptRanges", laid_unicode_utf8_acceptRanges), ("unicode/utf8.first", laid_unicode_utf8_first)] }
def MouldsRoundSaid : Prop := mouldsRoundRow.holds Tryd.pinned (OpenSpec.ofChange mouldsRoundSpec)

/-- ITS FALSE NEIGHBOUR: 'it returns false'. Refute it at one input. -/
def mouldsRoundWrong : ChangeSpec := { name := "mouldsRound", fn := fun _ => fun
  | [d1, d2] => { results := [.lit (.bool false)], args := [d1, d2] }
  | _ => none }
def MouldsRoundWrongFalsely : Prop := mouldsRoundRow.holds Tryd.pinned (OpenSpec.ofChange mouldsRoundWrong)

/- THE SECOND FORM. 'bulk': how many values and letters a reading holds, each counted each time it is reached (what is shared counts as often as it is met; a slice's spare places count too). A statement '..UptoSaid' is the law's where the arguments, and the package variables that the reading takes, are together of bulk at most 1048576: NARROWER than '..Said'. Prove '..Said' where nothing that the law and all that it calls make is longer than what came in: it says more and counts as full. Else prove '..UptoSaid'. A law counts once. -/
mutual
def uptoBulk {H : Type} : DataW H → Nat
  | .lit (.string bytes) => bytes.length + 1
  | .lit _ => 1
  | .nil => 1
  | .ptr d => uptoBulk d + 1
  | .slice elems spare => uptoBulkAll elems + uptoBulkAll spare + 1
  | .agg parts => uptoBulkAll parts + 1
  | .iface _ d => uptoBulk d + 1
  | .map entries => uptoBulkEntries entries + 1
  | .held _ => 1
def uptoBulkAll {H : Type} : List (DataW H) → Nat
  | [] => 0
  | d :: r => uptoBulk d + uptoBulkAll r
def uptoBulkEntries {H : Type} : List (Lit × DataW H) → Nat
  | [] => 0
  | x :: r => uptoBulkEntry x + uptoBulkEntries r
def uptoBulkEntry {H : Type} : Lit × DataW H → Nat
  | (.string bytes, d) => bytes.length + uptoBulk d + 1
  | (_, d) => uptoBulk d + 1
 end
def uptoSmall : (H : Type) → List (DataW H) → Bool := fun _ ds => decide (uptoBulkAll ds ≤ 1048576)
def OpenSpec.upto (s : _root_.Go.ChangeSpec) : _root_.Go.OpenSpec := { _root_.Go.OpenSpec.ofChange s with cond := some uptoSmall }

/-- 'comfitlaw05.TablesStates', WHERE WHAT IT READS IS OF BULK AT MOST 1048576: true; the input reads as it did. -/
def tablesStatesUptoRow : OpenClaim := { program := "ytpmmfckgfbdboaadoor", sum := "d5cb50aa14624fe3d286ea4d3cdd3454ef333960bf4dc2a3497affdb3197faa5", func := "comfit/comfitlaw05.TablesStates", spec := "tablesStates", inPlace := ["internal/bytealg.IndexByteString", "internal/bytealg.IndexString"], unfollowed := true, recurses := true, named := ["unicode/utf8.first", "unicode/utf8.acceptRanges", "internal/bytealg.MaxLen"], plainKeys := false, apart := false, laid := [("unicode/utf8.acceptRanges", laid_unicode_utf8_acceptRanges), ("unicode/utf8.first", laid_unicode_utf8_first)], narrowed := true }
def TablesStatesUptoSaid : Prop := tablesStatesUptoRow.holds Tryd.pinned (OpenSpec.upto tablesStatesSpec)

/-- 'comfitlaw05.TablesReached', WHERE WHAT IT READS IS OF BULK AT MOST 1048576: true; the input reads as it did. -/
def tablesReachedUptoRow : OpenClaim := { program := "ytpmmfckgfbdboaadoor", sum := "d5cb50aa14624fe3d286ea4d3cdd3454ef333960bf4dc2a3497affdb3197faa5", func := "comfit/comfitlaw05.TablesReached", spec := "tablesReached", inPlace := ["internal/bytealg.IndexByteString", "internal/bytealg.IndexString"], unfollowed := true, recurses := true, named := ["unicode/utf8.first", "unicode/utf8.acceptRanges", "internal/bytealg.MaxLen"], plainKeys := false, apart := false, laid := [("unicode/utf8.acceptRanges", laid_unicode_utf8_acceptRanges), ("unicode/utf8.first", laid_unicode_utf8_first)], narrowed := true }
def TablesReachedUptoSaid : Prop := tablesReachedUptoRow.holds Tryd.pinned (OpenSpec.upto tablesReachedSpec)

/-- 'comfitlaw05.TablesGo', WHERE WHAT IT READS IS OF BULK AT MOST 1048576: true; the input reads as it did. -/
def tablesGoUptoRow : OpenClaim := { program := "ytpmmfckgfbdboaadoor", sum := "d5cb50aa14624fe3d286ea4d3cdd3454ef333960bf4dc2a3497affdb3197faa5", func := "comfit/comfitlaw05.TablesGo", spec := "tablesGo", inPlace := ["internal/bytealg.IndexByteString", "internal/bytealg.IndexString"], unfollowed := true, recurses := true, named := ["unicode/utf8.first", "unicode/utf8.acceptRanges", "internal/bytealg.MaxLen"], plainKeys := false, apart := false, laid := [("unicode/utf8.acceptRanges", laid_unicode_utf8_acceptRanges), ("unicode/utf8.first", laid_unicode_utf8_first)], narrowed := true }
def TablesGoUptoSaid : Prop := tablesGoUptoRow.holds Tryd.pinned (OpenSpec.upto tablesGoSpec)

/-- 'comfitlaw05.TablesRenamed', WHERE WHAT IT READS IS OF BULK AT MOST 1048576: true; the input reads as it did. -/
def tablesRenamedUptoRow : OpenClaim := { program := "ytpmmfckgfbdboaadoor", sum := "d5cb50aa14624fe3d286ea4d3cdd3454ef333960bf4dc2a3497affdb3197faa5", func := "comfit/comfitlaw05.TablesRenamed", spec := "tablesRenamed", inPlace := ["internal/bytealg.IndexByteString", "internal/bytealg.IndexString"], unfollowed := true, recurses := true, named := ["unicode/utf8.first", "unicode/utf8.acceptRanges", "internal/bytealg.MaxLen"], plainKeys := false, apart := false, laid := [("unicode/utf8.acceptRanges", laid_unicode_utf8_acceptRanges), ("unicode/utf8.first", laid_unicode_utf8_first)], narrowed := true }
def TablesRenamedUptoSaid : Prop := tablesRenamedUptoRow.holds Tryd.pinned (OpenSpec.upto tablesRenamedSpec)

/-- 'comfitlaw05.TablesReads', WHERE WHAT IT READS IS OF BULK AT MOST 1048576: true; the input reads as it did. -/
def tablesReadsUptoRow : OpenClaim := { program := "ytpmmfckgfbdboaadoor", sum := "d5cb50aa14624fe3d286ea4d3cdd3454ef333960bf4dc2a3497affdb3197faa5", func := "comfit/comfitlaw05.TablesReads", spec := "tablesReads", inPlace := ["internal/bytealg.IndexByteString", "internal/bytealg.IndexString"], unfollowed := true, recurses := true, named := ["unicode/utf8.first", "unicode/utf8.acceptRanges", "internal/bytealg.MaxLen"], plainKeys := false, apart := false, laid := [("unicode/utf8.acceptRanges", laid_unicode_utf8_acceptRanges), ("unicode/utf8.first", laid_unicode_utf8_first)], narrowed := true }
def TablesReadsUptoSaid : Prop := tablesReadsUptoRow.holds Tryd.pinned (OpenSpec.upto tablesReadsSpec)

/-- 'comfitlaw05.TablesMakes', WHERE WHAT IT READS IS OF BULK AT MOST 1048576: true; the input reads as it did. -/
def tablesMakesUptoRow : OpenClaim := { program := "ytpmmfckgfbdboaadoor", sum := "d5cb50aa14624fe3d286ea4d3cdd3454ef333960bf4dc2a3497affdb3197faa5", func := "comfit/comfitlaw05.TablesMakes", spec := "tablesMakes", inPlace := ["internal/bytealg.IndexByteString", "internal/bytealg.IndexString"], unfollowed := true, recurses := true, named := ["unicode/utf8.first", "unicode/utf8.acceptRanges", "internal/bytealg.MaxLen"], plainKeys := false, apart := false, laid := [("unicode/utf8.acceptRanges", laid_unicode_utf8_acceptRanges), ("unicode/utf8.first", laid_unicode_utf8_first)], narrowed := true }
def TablesMakesUptoSaid : Prop := tablesMakesUptoRow.holds Tryd.pinned (OpenSpec.upto tablesMakesSpec)

/-- 'comfitlaw05.TablesDoubled', WHERE WHAT IT READS IS OF BULK AT MOST 1048576: true; the input reads as it did. -/
def tablesDoubledUptoRow : OpenClaim := { program := "ytpmmfckgfbdboaadoor", sum := "d5cb50aa14624fe3d286ea4d3cdd3454ef333960bf4dc2a3497affdb3197faa5", func := "comfit/comfitlaw05.TablesDoubled", spec := "tablesDoubled", inPlace := ["internal/bytealg.IndexByteString", "internal/bytealg.IndexString"], unfollowed := true, recurses := true, named := ["unicode/utf8.first", "unicode/utf8.acceptRanges", "internal/bytealg.MaxLen"], plainKeys := false, apart := false, laid := [("unicode/utf8.acceptRanges", laid_unicode_utf8_acceptRanges), ("unicode/utf8.first", laid_unicode_utf8_first)], narrowed := true }
def TablesDoubledUptoSaid : Prop := tablesDoubledUptoRow.holds Tryd.pinned (OpenSpec.upto tablesDoubledSpec)

/-- 'comfitlaw05.TablesDecides', WHERE WHAT IT READS IS OF BULK AT MOST 1048576: true; the input reads as it did. -/
def tablesDecidesUptoRow : OpenClaim := { program := "ytpmmfckgfbdboaadoor", sum := "d5cb50aa14624fe3d286ea4d3cdd3454ef333960bf4dc2a3497affdb3197faa5", func := "comfit/comfitlaw05.TablesDecides", spec := "tablesDecides", inPlace := ["internal/bytealg.IndexByteString", "internal/bytealg.IndexString"], unfollowed := true, recurses := true, named := ["unicode/utf8.first", "unicode/utf8.acceptRanges", "internal/bytealg.MaxLen"], plainKeys := false, apart := false, laid := [("unicode/utf8.acceptRanges", laid_unicode_utf8_acceptRanges), ("unicode/utf8.first", laid_unicode_utf8_first)], narrowed := true }
def TablesDecidesUptoSaid : Prop := tablesDecidesUptoRow.holds Tryd.pinned (OpenSpec.upto tablesDecidesSpec)

/-- 'comfitlaw07.MouldsLaid', WHERE WHAT IT READS IS OF BULK AT MOST 1048576: true; the input reads as it did. -/
def mouldsLaidUptoRow : OpenClaim := { program := "ytpmmfckgfbdboaadoor", sum := "d5cb50aa14624fe3d286ea4d3cdd3454ef333960bf4dc2a3497affdb3197faa5", func := "comfit/comfitlaw07.MouldsLaid", spec := "mouldsLaid", inPlace := ["internal/bytealg.IndexByteString", "internal/bytealg.IndexString"], unfollowed := true, recurses := true, named := ["unicode/utf8.first", "unicode/utf8.acceptRanges", "internal/bytealg.MaxLen"], plainKeys := false, apart := false, laid := [("unicode/utf8.acceptRanges", laid_unicode_utf8_acceptRanges), ("unicode/utf8.first", laid_unicode_utf8_first)], narrowed := true }
def MouldsLaidUptoSaid : Prop := mouldsLaidUptoRow.holds Tryd.pinned (OpenSpec.upto mouldsLaidSpec)

/-- 'comfitlaw07.MouldsRound', WHERE WHAT IT READS IS OF BULK AT MOST 1048576: true; the input reads as it did. -/
def mouldsRoundUptoRow : OpenClaim := { program := "ytpmmfckgfbdboaadoor", sum := "d5cb50aa14624fe3d286ea4d3cdd3454ef333960bf4dc2a3497affdb3197faa5", func := "comfit/comfitlaw07.MouldsRound", spec := "mouldsRound", inPlace := ["internal/bytealg.IndexByteString", "internal/bytealg.IndexString", "internal/abi.NoEscape"], unfollowed := true, recurses := true, named := ["unicode/utf8.first", "unicode/utf8.acceptRanges", "internal/bytealg.MaxLen"], plainKeys := false, apart := false, laid := [("unicode/utf8.acceptRanges", laid_unicode_utf8_acceptRanges), ("unicode/utf8.first", laid_unicode_utf8_first)], narrowed := true }
def MouldsRoundUptoSaid : Prop := mouldsRoundUptoRow.holds Tryd.pinned (OpenSpec.upto mouldsRoundSpec)

end Rows
end Go.Proofs.YtpmmfckgfbdboaaDoor
