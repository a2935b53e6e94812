/-
  NARROWER THAN 'FOR EVERY INPUT', by the rows' own cells (each row's printed sentence says how): FnBookBound: laid · FnBookCut: laid · FnBookCode: laid · FnBookBack: laid · FnBookBal: laid · FnBook: laid · FnExactBookPost: laid · FnBookFirst: laid · FnBookSwap: laid.
  DERIVED. THE GIVEN ROWS OF THIS SEAT. 9 by the template 'for every input the law returns true; each argument reads behind the call as it read before'; 0 by the template 'total and deterministic' (their statements: YtfmiaofafefblaaDoorTotals.lean).
  GIVEN WITH THE SEED: the statements are not yours to turn. If you find one false, say at which input.
  Laid BY PROGRAM, IN A SANDBOX (cutbox-rows.mjs): the forced cells as the released guide's own fill.sh prints them over the translation 8e0c8ea4feba6774… (all of the seat's roots in one cut). By AI agents, Wed Nov 11 2026. No macro, syntax, notation, axiom, sorry.
-/
import Derived.Test.YtfmiaofafefblaaDoorChecked
import GoSem.Claim
import GoSem.ClaimJoined
import GoSem.ClaimMapViews
import Derived.JoinedTies
import Derived.KernelRfl
namespace Go.Proofs.YtfmiaofafefblaaDoor
/- THE CELL 'sum', in the pinned program and in every row, IS THE sha256 OF THE DUMP (.gsa) THAT YtfmiaofafefblaaDoorProg.lean LOADS. Nothing in Lean hashes anything: it is a label: what it is worth is what the hold of that sum in a sandbox is worth. -/
noncomputable def Tryd.pinned : Pinned := { name := "ytfmiaofafefblaadoor", sum := "8e0c8ea4feba6774564eff56916444766ed149bd160cb9ab5a43a8e2b76aa96d", checked := Tryd.checked }
namespace Rows
def none {H : Type} : Left H := { results := [], args := [] }

/- WHAT THE LISTED PACKAGE-LEVEL VARIABLES READ AS WHEN THE CALL BEGINS. Each datum BY PROGRAM (the guide's laid-datum.mjs) off the statement by which the dump's own 'gosem.cut.vars' lays the variable. In a bare row this is a premise. The card (YtfmiaofafefblaaDoorCards.lean) ties it to the program's text. -/
def laid_errors_errorType {H : Type} : DataW H := .iface "internal/reflectlite.rtype" (.agg [.ptr (.lit (.string [101, 114, 114, 111, 114]))])

/-- 'laws.FnBookBound': WHATEVER THE INPUT: true; the input reads as it did. -/
def fnBookBoundSpec : ChangeSpec := { name := "fnBookBound", fn := fun _ => fun
  | [d] => { results := [.lit (.bool true)], args := [d] }
  | _ => none }
def fnBookBoundRow : OpenClaim := { program := "ytfmiaofafefblaadoor", sum := "8e0c8ea4feba6774564eff56916444766ed149bd160cb9ab5a43a8e2b76aa96d", func := "loop.example/comptoir/laws.FnBookBound", spec := "fnBookBound", inPlace := ["internal/reflectlite.ValueOf", "(internal/reflectlite.Value).Type", "(internal/reflectlite.Value).IsNil", "internal/reflectlite.TypeOf", "(internal/reflectlite.Value).Elem", "(internal/reflectlite.Value).Set"], unfollowed := true, recurses := true, named := ["errors.errorType"], plainKeys := false, apart := false, laid := [("errors.errorType", laid_errors_errorType)] }
def FnBookBoundSaid : Prop := fnBookBoundRow.holds Tryd.pinned (OpenSpec.ofChange fnBookBoundSpec)

/-- ITS FALSE NEIGHBOUR: 'it returns false'. Refute it at one input. -/
def fnBookBoundWrong : ChangeSpec := { name := "fnBookBound", fn := fun _ => fun
  | [d] => { results := [.lit (.bool false)], args := [d] }
  | _ => none }
def FnBookBoundWrongFalsely : Prop := fnBookBoundRow.holds Tryd.pinned (OpenSpec.ofChange fnBookBoundWrong)

/-- 'laws.FnBookCut': WHATEVER THE INPUT: true; the input reads as it did. -/
def fnBookCutSpec : ChangeSpec := { name := "fnBookCut", fn := fun _ => fun
  | [d1, d2] => { results := [.lit (.bool true)], args := [d1, d2] }
  | _ => none }
def fnBookCutRow : OpenClaim := { program := "ytfmiaofafefblaadoor", sum := "8e0c8ea4feba6774564eff56916444766ed149bd160cb9ab5a43a8e2b76aa96d", func := "loop.example/comptoir/laws.FnBookCut", spec := "fnBookCut", inPlace := ["internal/reflectlite.ValueOf", "(internal/reflectlite.Value).Type", "(internal/reflectlite.Value).IsNil", "internal/reflectlite.TypeOf", "(internal/reflectlite.Value).Elem", "(internal/reflectlite.Value).Set"], unfollowed := true, recurses := true, named := ["errors.errorType"], plainKeys := false, apart := false, laid := [("errors.errorType", laid_errors_errorType)] }
def FnBookCutSaid : Prop := fnBookCutRow.holds Tryd.pinned (OpenSpec.ofChange fnBookCutSpec)

/-- ITS FALSE NEIGHBOUR: 'it returns false'. Refute it at one input. -/
def fnBookCutWrong : ChangeSpec := { name := "fnBookCut", fn := fun _ => fun
  | [d1, d2] => { results := [.lit (.bool false)], args := [d1, d2] }
  | _ => none }
def FnBookCutWrongFalsely : Prop := fnBookCutRow.holds Tryd.pinned (OpenSpec.ofChange fnBookCutWrong)

/-- 'laws.FnBookCode': WHATEVER THE INPUT: true; the input reads as it did. -/
def fnBookCodeSpec : ChangeSpec := { name := "fnBookCode", fn := fun _ => fun
  | [d] => { results := [.lit (.bool true)], args := [d] }
  | _ => none }
def fnBookCodeRow : OpenClaim := { program := "ytfmiaofafefblaadoor", sum := "8e0c8ea4feba6774564eff56916444766ed149bd160cb9ab5a43a8e2b76aa96d", func := "loop.example/comptoir/laws.FnBookCode", spec := "fnBookCode", inPlace := ["internal/reflectlite.ValueOf", "(internal/reflectlite.Value).Type", "(internal/reflectlite.Value).IsNil", "internal/reflectlite.TypeOf", "(internal/reflectlite.Value).Elem", "(internal/reflectlite.Value).Set"], unfollowed := true, recurses := true, named := ["errors.errorType"], plainKeys := false, apart := false, laid := [("errors.errorType", laid_errors_errorType)] }
def FnBookCodeSaid : Prop := fnBookCodeRow.holds Tryd.pinned (OpenSpec.ofChange fnBookCodeSpec)

/-- ITS FALSE NEIGHBOUR: 'it returns false'. Refute it at one input. -/
def fnBookCodeWrong : ChangeSpec := { name := "fnBookCode", fn := fun _ => fun
  | [d] => { results := [.lit (.bool false)], args := [d] }
  | _ => none }
def FnBookCodeWrongFalsely : Prop := fnBookCodeRow.holds Tryd.pinned (OpenSpec.ofChange fnBookCodeWrong)

/-- 'laws.FnBookBack': WHATEVER THE INPUT: true; the input reads as it did. -/
def fnBookBackSpec : ChangeSpec := { name := "fnBookBack", fn := fun _ => fun
  | [d1, d2] => { results := [.lit (.bool true)], args := [d1, d2] }
  | _ => none }
def fnBookBackRow : OpenClaim := { program := "ytfmiaofafefblaadoor", sum := "8e0c8ea4feba6774564eff56916444766ed149bd160cb9ab5a43a8e2b76aa96d", func := "loop.example/comptoir/laws.FnBookBack", spec := "fnBookBack", inPlace := ["internal/reflectlite.ValueOf", "(internal/reflectlite.Value).Type", "(internal/reflectlite.Value).IsNil", "internal/reflectlite.TypeOf", "(internal/reflectlite.Value).Elem", "(internal/reflectlite.Value).Set"], unfollowed := true, recurses := true, named := ["errors.errorType"], plainKeys := false, apart := false, laid := [("errors.errorType", laid_errors_errorType)] }
def FnBookBackSaid : Prop := fnBookBackRow.holds Tryd.pinned (OpenSpec.ofChange fnBookBackSpec)

/-- ITS FALSE NEIGHBOUR: 'it returns false'. Refute it at one input. -/
def fnBookBackWrong : ChangeSpec := { name := "fnBookBack", fn := fun _ => fun
  | [d1, d2] => { results := [.lit (.bool false)], args := [d1, d2] }
  | _ => none }
def FnBookBackWrongFalsely : Prop := fnBookBackRow.holds Tryd.pinned (OpenSpec.ofChange fnBookBackWrong)

/-- 'laws.FnBookBal': WHATEVER THE INPUT: true; the input reads as it did. -/
def fnBookBalSpec : ChangeSpec := { name := "fnBookBal", fn := fun _ => fun
  | [d1, d2] => { results := [.lit (.bool true)], args := [d1, d2] }
  | _ => none }
def fnBookBalRow : OpenClaim := { program := "ytfmiaofafefblaadoor", sum := "8e0c8ea4feba6774564eff56916444766ed149bd160cb9ab5a43a8e2b76aa96d", func := "loop.example/comptoir/laws.FnBookBal", spec := "fnBookBal", inPlace := ["internal/reflectlite.ValueOf", "(internal/reflectlite.Value).Type", "(internal/reflectlite.Value).IsNil", "internal/reflectlite.TypeOf", "(internal/reflectlite.Value).Elem", "(internal/reflectlite.Value).Set"], unfollowed := true, recurses := true, named := ["errors.errorType"], plainKeys := false, apart := false, laid := [("errors.errorType", laid_errors_errorType)] }
def FnBookBalSaid : Prop := fnBookBalRow.holds Tryd.pinned (OpenSpec.ofChange fnBookBalSpec)

/-- ITS FALSE NEIGHBOUR: 'it returns false'. Refute it at one input. -/
def fnBookBalWrong : ChangeSpec := { name := "fnBookBal", fn := fun _ => fun
  | [d1, d2] => { results := [.lit (.bool false)], args := [d1, d2] }
  | _ => none }
def FnBookBalWrongFalsely : Prop := fnBookBalRow.holds Tryd.pinned (OpenSpec.ofChange fnBookBalWrong)

/-- 'laws.FnBook': WHATEVER THE INPUT: true; the input reads as it did. -/
def fnBookSpec : ChangeSpec := { name := "fnBook", fn := fun _ => fun
  | [d] => { results := [.lit (.bool true)], args := [d] }
  | _ => none }
def fnBookRow : OpenClaim := { program := "ytfmiaofafefblaadoor", sum := "8e0c8ea4feba6774564eff56916444766ed149bd160cb9ab5a43a8e2b76aa96d", func := "loop.example/comptoir/laws.FnBook", spec := "fnBook", inPlace := ["internal/reflectlite.ValueOf", "(internal/reflectlite.Value).Type", "(internal/reflectlite.Value).IsNil", "internal/reflectlite.TypeOf", "(internal/reflectlite.Value).Elem", "(internal/reflectlite.Value).Set"], unfollowed := true, recurses := true, named := ["errors.errorType"], plainKeys := false, apart := false, laid := [("errors.errorType", laid_errors_errorType)] }
def FnBookSaid : Prop := fnBookRow.holds Tryd.pinned (OpenSpec.ofChange fnBookSpec)

/-- ITS FALSE NEIGHBOUR: 'it returns false'. Refute it at one input. -/
def fnBookWrong : ChangeSpec := { name := "fnBook", fn := fun _ => fun
  | [d] => { results := [.lit (.bool false)], args := [d] }
  | _ => none }
def FnBookWrongFalsely : Prop := fnBookRow.holds Tryd.pinned (OpenSpec.ofChange fnBookWrong)

/-- 'laws.FnExactBookPost': WHATEVER THE INPUT: true; the input reads as it did. -/
def fnExactBookPostSpec : ChangeSpec := { name := "fnExactBookPost", fn := fun _ => fun
  | [d1, d2] => { results := [.lit (.bool true)], args := [d1, d2] }
  | _ => none }
def fnExactBookPostRow : OpenClaim := { program := "ytfmiaofafefblaadoor", sum := "8e0c8ea4feba6774564eff56916444766ed149bd160cb9ab5a43a8e2b76aa96d", func := "loop.example/comptoir/laws.FnExactBookPost", spec := "fnExactBookPost", inPlace := ["internal/reflectlite.ValueOf", "(internal/reflectlite.Value).Type", "(internal/reflectlite.Value).IsNil", "internal/reflectlite.TypeOf", "(internal/reflectlite.Value).Elem", "(internal/reflectlite.Value).Set"], unfollowed := true, recurses := true, named := ["errors.errorType"], plainKeys := false, apart := false, laid := [("errors.errorType", laid_errors_errorType)] }
def FnExactBookPostSaid : Prop := fnExactBookPostRow.holds Tryd.pinned (OpenSpec.ofChange fnExactBookPostSpec)

/-- ITS FALSE NEIGHBOUR: 'it returns false'. Refute it at one input. -/
def fnExactBookPostWrong : ChangeSpec := { name := "fnExactBookPost", fn := fun _ => fun
  | [d1, d2] => { results := [.lit (.bool false)], args := [d1, d2] }
  | _ => none }
def FnExactBookPostWrongFalsely : Prop := fnExactBookPostRow.holds Tryd.pinned (OpenSpec.ofChange fnExactBookPostWrong)

/-- 'laws.FnBookFirst': WHATEVER THE INPUT: true; the input reads as it did. -/
def fnBookFirstSpec : ChangeSpec := { name := "fnBookFirst", fn := fun _ => fun
  | [d1, d2] => { results := [.lit (.bool true)], args := [d1, d2] }
  | _ => none }
def fnBookFirstRow : OpenClaim := { program := "ytfmiaofafefblaadoor", sum := "8e0c8ea4feba6774564eff56916444766ed149bd160cb9ab5a43a8e2b76aa96d", func := "loop.example/comptoir/laws.FnBookFirst", spec := "fnBookFirst", inPlace := ["internal/reflectlite.ValueOf", "(internal/reflectlite.Value).Type", "(internal/reflectlite.Value).IsNil", "internal/reflectlite.TypeOf", "(internal/reflectlite.Value).Elem", "(internal/reflectlite.Value).Set"], unfollowed := true, recurses := true, named := ["errors.errorType"], plainKeys := false, apart := false, laid := [("errors.errorType", laid_errors_errorType)] }
def FnBookFirstSaid : Prop := fnBookFirstRow.holds Tryd.pinned (OpenSpec.ofChange fnBookFirstSpec)

/-- ITS FALSE NEIGHBOUR: 'it returns false'. Refute it at one input. -/
def fnBookFirstWrong : ChangeSpec := { name := "fnBookFirst", fn := fun _ => fun
  | [d1, d2] => { results := [.lit (.bool false)], args := [d1, d2] }
  | _ => none }
def FnBookFirstWrongFalsely : Prop := fnBookFirstRow.holds Tryd.pinned (OpenSpec.ofChange fnBookFirstWrong)

/-- 'laws.FnBookSwap': WHATEVER THE INPUT: true; the input reads as it did. -/
def fnBookSwapSpec : ChangeSpec := { name := "fnBookSwap", fn := fun _ => fun
  | [d1, d2] => { results := [.lit (.bool true)], args := [d1, d2] }
  | _ => none }
def fnBookSwapRow : OpenClaim := { program := "ytfmiaofafefblaadoor", sum := "8e0c8ea4feba6774564eff56916444766ed149bd160cb9ab5a43a8e2b76aa96d", func := "loop.example/comptoir/laws.FnBookSwap", spec := "fnBookSwap", inPlace := ["internal/reflectlite.ValueOf", "(internal/reflectlite.Value).Type", "(internal/reflectlite.Value).IsNil", "internal/reflectlite.TypeOf", "(internal/reflectlite.Value).Elem", "(internal/reflectlite.Value).Set", "slices.overlaps[string]"], unfollowed := true, recurses := true, named := ["errors.errorType"], plainKeys := false, apart := false, laid := [("errors.errorType", laid_errors_errorType)] }
def FnBookSwapSaid : Prop := fnBookSwapRow.holds Tryd.pinned (OpenSpec.ofChange fnBookSwapSpec)

/-- ITS FALSE NEIGHBOUR: 'it returns false'. Refute it at one input. -/
def fnBookSwapWrong : ChangeSpec := { name := "fnBookSwap", fn := fun _ => fun
  | [d1, d2] => { results := [.lit (.bool false)], args := [d1, d2] }
  | _ => none }
def FnBookSwapWrongFalsely : Prop := fnBookSwapRow.holds Tryd.pinned (OpenSpec.ofChange fnBookSwapWrong)

/- THE SECOND FORM. 'bulk': how many values and letters a reading holds, each counted each time it is reached (what is shared counts as often as it is met; a slice's spare places count too). A statement '..UptoSaid' is the law's where the arguments, and the package variables that the reading takes, are together of bulk at most 1048576: NARROWER than '..Said'. Prove '..Said' where nothing that the law and all that it calls make is longer than what came in: it says more and counts as full. Else prove '..UptoSaid'. A law counts once. -/
mutual
def uptoBulk {H : Type} : DataW H → Nat
  | .lit (.string bytes) => bytes.length + 1
  | .lit _ => 1
  | .nil => 1
  | .ptr d => uptoBulk d + 1
  | .slice elems spare => uptoBulkAll elems + uptoBulkAll spare + 1
  | .agg parts => uptoBulkAll parts + 1
  | .iface _ d => uptoBulk d + 1
  | .map entries => uptoBulkEntries entries + 1
  | .held _ => 1
def uptoBulkAll {H : Type} : List (DataW H) → Nat
  | [] => 0
  | d :: r => uptoBulk d + uptoBulkAll r
def uptoBulkEntries {H : Type} : List (Lit × DataW H) → Nat
  | [] => 0
  | x :: r => uptoBulkEntry x + uptoBulkEntries r
def uptoBulkEntry {H : Type} : Lit × DataW H → Nat
  | (.string bytes, d) => bytes.length + uptoBulk d + 1
  | (_, d) => uptoBulk d + 1
 end
def uptoSmall : (H : Type) → List (DataW H) → Bool := fun _ ds => decide (uptoBulkAll ds ≤ 1048576)
def OpenSpec.upto (s : _root_.Go.ChangeSpec) : _root_.Go.OpenSpec := { _root_.Go.OpenSpec.ofChange s with cond := some uptoSmall }

/-- 'laws.FnBookBound', WHERE WHAT IT READS IS OF BULK AT MOST 1048576: true; the input reads as it did. -/
def fnBookBoundUptoRow : OpenClaim := { program := "ytfmiaofafefblaadoor", sum := "8e0c8ea4feba6774564eff56916444766ed149bd160cb9ab5a43a8e2b76aa96d", func := "loop.example/comptoir/laws.FnBookBound", spec := "fnBookBound", inPlace := ["internal/reflectlite.ValueOf", "(internal/reflectlite.Value).Type", "(internal/reflectlite.Value).IsNil", "internal/reflectlite.TypeOf", "(internal/reflectlite.Value).Elem", "(internal/reflectlite.Value).Set"], unfollowed := true, recurses := true, named := ["errors.errorType"], plainKeys := false, apart := false, laid := [("errors.errorType", laid_errors_errorType)], narrowed := true }
def FnBookBoundUptoSaid : Prop := fnBookBoundUptoRow.holds Tryd.pinned (OpenSpec.upto fnBookBoundSpec)

/-- 'laws.FnBookCut', WHERE WHAT IT READS IS OF BULK AT MOST 1048576: true; the input reads as it did. -/
def fnBookCutUptoRow : OpenClaim := { program := "ytfmiaofafefblaadoor", sum := "8e0c8ea4feba6774564eff56916444766ed149bd160cb9ab5a43a8e2b76aa96d", func := "loop.example/comptoir/laws.FnBookCut", spec := "fnBookCut", inPlace := ["internal/reflectlite.ValueOf", "(internal/reflectlite.Value).Type", "(internal/reflectlite.Value).IsNil", "internal/reflectlite.TypeOf", "(internal/reflectlite.Value).Elem", "(internal/reflectlite.Value).Set"], unfollowed := true, recurses := true, named := ["errors.errorType"], plainKeys := false, apart := false, laid := [("errors.errorType", laid_errors_errorType)], narrowed := true }
def FnBookCutUptoSaid : Prop := fnBookCutUptoRow.holds Tryd.pinned (OpenSpec.upto fnBookCutSpec)

/-- 'laws.FnBookCode', WHERE WHAT IT READS IS OF BULK AT MOST 1048576: true; the input reads as it did. -/
def fnBookCodeUptoRow : OpenClaim := { program := "ytfmiaofafefblaadoor", sum := "8e0c8ea4feba6774564eff56916444766ed149bd160cb9ab5a43a8e2b76aa96d", func := "loop.example/comptoir/laws.FnBookCode", spec := "fnBookCode", inPlace := ["internal/reflectlite.ValueOf", "(internal/reflectlite.Value).Type", "(internal/reflectlite.Value).IsNil", "internal/reflectlite.TypeOf", "(internal/reflectlite.Value).Elem", "(internal/reflectlite.Value).Set"], unfollowed := true, recurses := true, named := ["errors.errorType"], plainKeys := false, apart := false, laid := [("errors.errorType", laid_errors_errorType)], narrowed := true }
def FnBookCodeUptoSaid : Prop := fnBookCodeUptoRow.holds Tryd.pinned (OpenSpec.upto fnBookCodeSpec)

/-- 'laws.FnBookBack', WHERE WHAT IT READS IS OF BULK AT MOST 1048576: true; the input reads as it did. -/
def fnBookBackUptoRow : OpenClaim := { program := "ytfmiaofafefblaadoor", sum := "8e0c8ea4feba6774564eff56916444766ed149bd160cb9ab5a43a8e2b76aa96d", func := "loop.example/comptoir/laws.FnBookBack", spec := "fnBookBack", inPlace := ["internal/reflectlite.ValueOf", "(internal/reflectlite.Value).Type", "(internal/reflectlite.Value).IsNil", "internal/reflectlite.TypeOf", "(internal/reflectlite.Value).Elem", "(internal/reflectlite.Value).Set"], unfollowed := true, recurses := true, named := ["errors.errorType"], plainKeys := false, apart := false, laid := [("errors.errorType", laid_errors_errorType)], narrowed := true }
def FnBookBackUptoSaid : Prop := fnBookBackUptoRow.holds Tryd.pinned (OpenSpec.upto fnBookBackSpec)

/-- 'laws.FnBookBal', WHERE WHAT IT READS IS OF BULK AT MOST 1048576: true; the input reads as it did. -/
def fnBookBalUptoRow : OpenClaim := { program := "ytfmiaofafefblaadoor", sum := "8e0c8ea4feba6774564eff56916444766ed149bd160cb9ab5a43a8e2b76aa96d", func := "loop.example/comptoir/laws.FnBookBal", spec := "fnBookBal", inPlace := ["internal/reflectlite.ValueOf", "(internal/reflectlite.Value).Type", "(internal/reflectlite.Value).IsNil", "internal/reflectlite.TypeOf", "(internal/reflectlite.Value).Elem", "(internal/reflectlite.Value).Set"], unfollowed := true, recurses := true, named := ["errors.errorType"], plainKeys := false, apart := false, laid := [("errors.errorType", laid_errors_errorType)], narrowed := true }
def FnBookBalUptoSaid : Prop := fnBookBalUptoRow.holds Tryd.pinned (OpenSpec.upto fnBookBalSpec)

/-- 'laws.FnBook', WHERE WHAT IT READS IS OF BULK AT MOST 1048576: true; the input reads as it did. -/
def fnBookUptoRow : OpenClaim := { program := "ytfmiaofafefblaadoor", sum := "8e0c8ea4feba6774564eff56916444766ed149bd160cb9ab5a43a8e2b76aa96d", func := "loop.example/comptoir/laws.FnBook", spec := "fnBook", inPlace := ["internal/reflectlite.ValueOf", "(internal/reflectlite.Value).Type", "(internal/reflectlite.Value).IsNil", "internal/reflectlite.TypeOf", "(internal/reflectlite.Value).Elem", "(internal/reflectlite.Value).Set"], unfollowed := true, recurses := true, named := ["errors.errorType"], plainKeys := false, apart := false, laid := [("errors.errorType", laid_errors_errorType)], narrowed := true }
def FnBookUptoSaid : Prop := fnBookUptoRow.holds Tryd.pinned (OpenSpec.upto fnBookSpec)

/-- 'laws.FnExactBookPost', WHERE WHAT IT READS IS OF BULK AT MOST 1048576: true; the input reads as it did. -/
def fnExactBookPostUptoRow : OpenClaim := { program := "ytfmiaofafefblaadoor", sum := "8e0c8ea4feba6774564eff56916444766ed149bd160cb9ab5a43a8e2b76aa96d", func := "loop.example/comptoir/laws.FnExactBookPost", spec := "fnExactBookPost", inPlace := ["internal/reflectlite.ValueOf", "(internal/reflectlite.Value).Type", "(internal/reflectlite.Value).IsNil", "internal/reflectlite.TypeOf", "(internal/reflectlite.Value).Elem", "(internal/reflectlite.Value).Set"], unfollowed := true, recurses := true, named := ["errors.errorType"], plainKeys := false, apart := false, laid := [("errors.errorType", laid_errors_errorType)], narrowed := true }
def FnExactBookPostUptoSaid : Prop := fnExactBookPostUptoRow.holds Tryd.pinned (OpenSpec.upto fnExactBookPostSpec)

/-- 'laws.FnBookFirst', WHERE WHAT IT READS IS OF BULK AT MOST 1048576: true; the input reads as it did. -/
def fnBookFirstUptoRow : OpenClaim := { program := "ytfmiaofafefblaadoor", sum := "8e0c8ea4feba6774564eff56916444766ed149bd160cb9ab5a43a8e2b76aa96d", func := "loop.example/comptoir/laws.FnBookFirst", spec := "fnBookFirst", inPlace := ["internal/reflectlite.ValueOf", "(internal/reflectlite.Value).Type", "(internal/reflectlite.Value).IsNil", "internal/reflectlite.TypeOf", "(internal/reflectlite.Value).Elem", "(internal/reflectlite.Value).Set"], unfollowed := true, recurses := true, named := ["errors.errorType"], plainKeys := false, apart := false, laid := [("errors.errorType", laid_errors_errorType)], narrowed := true }
def FnBookFirstUptoSaid : Prop := fnBookFirstUptoRow.holds Tryd.pinned (OpenSpec.upto fnBookFirstSpec)

/-- 'laws.FnBookSwap', WHERE WHAT IT READS IS OF BULK AT MOST 1048576: true; the input reads as it did. -/
def fnBookSwapUptoRow : OpenClaim := { program := "ytfmiaofafefblaadoor", sum := "8e0c8ea4feba6774564eff56916444766ed149bd160cb9ab5a43a8e2b76aa96d", func := "loop.example/comptoir/laws.FnBookSwap", spec := "fnBookSwap", inPlace := ["internal/reflectlite.ValueOf", "(internal/reflectlite.Value).Type", "(internal/reflectlite.Value).IsNil", "internal/reflectlite.TypeOf", "(internal/reflectlite.Value).Elem", "(internal/reflectlite.Value).Set", "slices.overlaps[string]"], unfollowed := true, recurses := true, named := ["errors.errorType"], plainKeys := false, apart := false, laid := [("errors.errorType", laid_errors_errorType)], narrowed := true }
def FnBookSwapUptoSaid : Prop := fnBookSwapUptoRow.holds Tryd.pinned (OpenSpec.upto fnBookSwapSpec)

end Rows
end Go.Proofs.YtfmiaofafefblaaDoor
