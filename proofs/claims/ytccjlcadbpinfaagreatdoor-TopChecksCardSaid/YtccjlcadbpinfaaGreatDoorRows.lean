/-
  NARROWER THAN 'FOR EVERY INPUT', by the rows' own cells (each row's printed sentence says how): TopForms: loops, laid · TopChecks: loops, laid.
  DERIVED. THE GIVEN ROWS OF THIS SEAT. 2 by the template 'for every input the law returns true; each argument reads behind the call as it read before'; 0 by the template 'total and deterministic' (their statements: YtccjlcadbpinfaaGreatDoorTotals.lean).
  GIVEN WITH THE SEED: the statements are not yours to turn. If you find one false, say at which input.
  Laid BY PROGRAM, IN A SANDBOX (cutbox-rows.mjs): the forced cells as the released guide's own fill.sh prints them over the translation f41cd978b688a8bc… (all of the seat's roots in one cut). By AI agents, Wed Nov 11 2026. No macro, syntax, notation, axiom, sorry.
-/
import Derived.Test.YtccjlcadbpinfaaGreatDoorChecked
import GoSem.Claim
import GoSem.ClaimJoined
import GoSem.ClaimMapViews
import Derived.JoinedTies
import Derived.KernelRfl
namespace Go.Proofs.YtccjlcadbpinfaaGreatDoor
/- THE CELL 'sum', in the pinned program and in every row, IS THE sha256 OF THE DUMP (.gsa) THAT YtccjlcadbpinfaaGreatDoorProg.lean LOADS. Nothing in Lean hashes anything: it is a label: what it is worth is what the hold of that sum in a sandbox is worth. -/
noncomputable def Tryz.pinned : Pinned := { name := "ytccjlcadbpinfaagreatdoor", sum := "f41cd978b688a8bc56ac11af80991c4bf586893033675fe9a1d42415043c8946", checked := Tryz.checked }
namespace Rows
def none {H : Type} : Left H := { results := [], args := [] }

/- WHAT THE LISTED PACKAGE-LEVEL VARIABLES READ AS WHEN THE CALL BEGINS. Each datum BY PROGRAM (the guide's laid-datum.mjs) off the statement by which the dump's own 'gosem.cut.vars' lays the variable. In a bare row this is a premise. The card (YtccjlcadbpinfaaGreatDoorCards.lean) ties it to the program's text. -/
def laid_avocet_naming_words {H : Type} : DataW H := .agg [.lit (.string []), .lit (.string [110, 117, 108, 108]), .lit (.string [98, 111, 111, 108, 101, 97, 110]), .lit (.string [105, 110, 116]), .lit (.string [108, 111, 110, 103]), .lit (.string [102, 108, 111, 97, 116]), .lit (.string [100, 111, 117, 98, 108, 101]), .lit (.string [98, 121, 116, 101, 115]), .lit (.string [115, 116, 114, 105, 110, 103]), .lit (.string [114, 101, 99, 111, 114, 100]), .lit (.string [101, 110, 117, 109]), .lit (.string [97, 114, 114, 97, 121]), .lit (.string [109, 97, 112]), .lit (.string []), .lit (.string [102, 105, 120, 101, 100])]

/-- 'avocettop.TopForms': WHATEVER THE INPUT: true; the input reads as it did. -/
def topFormsSpec : ChangeSpec := { name := "topForms", fn := fun _ => fun
  | [d1, d2] => { results := [.lit (.bool true)], args := [d1, d2] }
  | _ => none }
def topFormsRow : OpenClaim := { program := "ytccjlcadbpinfaagreatdoor", sum := "f41cd978b688a8bc56ac11af80991c4bf586893033675fe9a1d42415043c8946", func := "avocet/avocettop.TopForms", spec := "topForms", inPlace := ["internal/bytealg.IndexByteString", "internal/bytealg.IndexString", "internal/abi.NoEscape"], unfollowed := true, recurses := true, named := ["avocet/naming.words", "internal/bytealg.MaxLen"], loops := true, plainKeys := false, apart := false, laid := [("avocet/naming.words", laid_avocet_naming_words)] }
def TopFormsSaid : Prop := topFormsRow.holds Tryz.pinned (OpenSpec.ofChange topFormsSpec)

/-- ITS FALSE NEIGHBOUR: 'it returns false'. Refute it at one input. -/
def topFormsWrong : ChangeSpec := { name := "topForms", fn := fun _ => fun
  | [d1, d2] => { results := [.lit (.bool false)], args := [d1, d2] }
  | _ => none }
def TopFormsWrongFalsely : Prop := topFormsRow.holds Tryz.pinned (OpenSpec.ofChange topFormsWrong)

/-- 'avocettop.TopChecks': WHATEVER THE INPUT: true; the input reads as it did. -/
def topChecksSpec : ChangeSpec := { name := "topChecks", fn := fun _ => fun
  | [d1, d2, d3] => { results := [.lit (.bool true)], args := [d1, d2, d3] }
  | _ => none }
def topChecksRow : OpenClaim := { program := "ytccjlcadbpinfaagreatdoor", sum := "f41cd978b688a8bc56ac11af80991c4bf586893033675fe9a1d42415043c8946", func := "avocet/avocettop.TopChecks", spec := "topChecks", inPlace := ["internal/bytealg.IndexByteString", "internal/bytealg.IndexString", "internal/abi.NoEscape"], unfollowed := true, recurses := true, named := ["avocet/naming.words", "internal/bytealg.MaxLen"], loops := true, plainKeys := false, apart := false, laid := [("avocet/naming.words", laid_avocet_naming_words)] }
def TopChecksSaid : Prop := topChecksRow.holds Tryz.pinned (OpenSpec.ofChange topChecksSpec)

/-- ITS FALSE NEIGHBOUR: 'it returns false'. Refute it at one input. -/
def topChecksWrong : ChangeSpec := { name := "topChecks", fn := fun _ => fun
  | [d1, d2, d3] => { results := [.lit (.bool false)], args := [d1, d2, d3] }
  | _ => none }
def TopChecksWrongFalsely : Prop := topChecksRow.holds Tryz.pinned (OpenSpec.ofChange topChecksWrong)

/- THE SECOND FORM. 'bulk': how many values and letters a reading holds, each counted each time it is reached (what is shared counts as often as it is met; a slice's spare places count too). A statement '..UptoSaid' is the law's where the arguments, and the package variables that the reading takes, are together of bulk at most 1048576: NARROWER than '..Said'. Prove '..Said' where nothing that the law and all that it calls make is longer than what came in: it says more and counts as full. Else prove '..UptoSaid'. A law counts once. -/
mutual
def uptoBulk {H : Type} : DataW H → Nat
  | .lit (.string bytes) => bytes.length + 1
  | .lit _ => 1
  | .nil => 1
  | .ptr d => uptoBulk d + 1
  | .slice elems spare => uptoBulkAll elems + uptoBulkAll spare + 1
  | .agg parts => uptoBulkAll parts + 1
  | .iface _ d => uptoBulk d + 1
  | .map entries => uptoBulkEntries entries + 1
  | .held _ => 1
def uptoBulkAll {H : Type} : List (DataW H) → Nat
  | [] => 0
  | d :: r => uptoBulk d + uptoBulkAll r
def uptoBulkEntries {H : Type} : List (Lit × DataW H) → Nat
  | [] => 0
  | x :: r => uptoBulkEntry x + uptoBulkEntries r
def uptoBulkEntry {H : Type} : Lit × DataW H → Nat
  | (.string bytes, d) => bytes.length + uptoBulk d + 1
  | (_, d) => uptoBulk d + 1
 end
def uptoSmall : (H : Type) → List (DataW H) → Bool := fun _ ds => decide (uptoBulkAll ds ≤ 1048576)
def OpenSpec.upto (s : _root_.Go.ChangeSpec) : _root_.Go.OpenSpec := { _root_.Go.OpenSpec.ofChange s with cond := some uptoSmall }

/-- 'avocettop.TopForms', WHERE WHAT IT READS IS OF BULK AT MOST 1048576: true; the input reads as it did. -/
def topFormsUptoRow : OpenClaim := { program := "ytccjlcadbpinfaagreatdoor", sum := "f41cd978b688a8bc56ac11af80991c4bf586893033675fe9a1d42415043c8946", func := "avocet/avocettop.TopForms", spec := "topForms", inPlace := ["internal/bytealg.IndexByteString", "internal/bytealg.IndexString", "internal/abi.NoEscape"], unfollowed := true, recurses := true, named := ["avocet/naming.words", "internal/bytealg.MaxLen"], loops := true, plainKeys := false, apart := false, laid := [("avocet/naming.words", laid_avocet_naming_words)], narrowed := true }
def TopFormsUptoSaid : Prop := topFormsUptoRow.holds Tryz.pinned (OpenSpec.upto topFormsSpec)

/-- 'avocettop.TopChecks', WHERE WHAT IT READS IS OF BULK AT MOST 1048576: true; the input reads as it did. -/
def topChecksUptoRow : OpenClaim := { program := "ytccjlcadbpinfaagreatdoor", sum := "f41cd978b688a8bc56ac11af80991c4bf586893033675fe9a1d42415043c8946", func := "avocet/avocettop.TopChecks", spec := "topChecks", inPlace := ["internal/bytealg.IndexByteString", "internal/bytealg.IndexString", "internal/abi.NoEscape"], unfollowed := true, recurses := true, named := ["avocet/naming.words", "internal/bytealg.MaxLen"], loops := true, plainKeys := false, apart := false, laid := [("avocet/naming.words", laid_avocet_naming_words)], narrowed := true }
def TopChecksUptoSaid : Prop := topChecksUptoRow.holds Tryz.pinned (OpenSpec.upto topChecksSpec)

end Rows
end Go.Proofs.YtccjlcadbpinfaaGreatDoor
