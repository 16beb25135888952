/-
  No cell of these rows narrows 'for every input' (looked for: loops, veiled, ifaces, maps, wideKeys, modest, calm, conditions, laid).
  DERIVED. THE GIVEN ROWS OF THIS SEAT. 9 by the template 'for every input the law returns true; each argument reads behind the call as it read before'; 0 by the template 'total and deterministic' (their statements: YtaeecppabbjogaaTotals.lean).
  GIVEN WITH THE SEED: the statements are not yours to turn. If you find one false, say at which input.
  Laid BY PROGRAM, IN A SANDBOX (cutbox-rows.mjs): the forced cells as the released guide's own fill.sh prints them over the translation 1d2d120dd874fe4c… (all of the seat's roots in one cut). By AI agents, Wed Nov 11 2026. No macro, syntax, notation, axiom, sorry.
-/
import Derived.Test.YtaeecppabbjogaaChecked
import GoSem.Claim
import GoSem.ClaimJoined
import GoSem.ClaimMapViews
import Derived.JoinedTies
import Derived.KernelRfl
namespace Go.Proofs.Ytaeecppabbjogaa
/- THE CELL 'sum', in the pinned program and in every row, IS THE sha256 OF THE DUMP (.gsa) THAT YtaeecppabbjogaaProg.lean LOADS. Nothing in Lean hashes anything: it is a label: what it is worth is what the hold of that sum in a sandbox is worth. -/
noncomputable def Try.pinned : Pinned := { name := "ytaeecppabbjogaa", sum := "1d2d120dd874fe4c04626db8a4c90f9927143310a2f81c4ce3933aaea841eca7", checked := Try.checked }
namespace Rows
def none {H : Type} : Left H := { results := [], args := [] }

/-- 'avocetlaw01.ZigMakes': WHATEVER THE INPUT: true; the input reads as it did. -/
def zigMakesSpec : ChangeSpec := { name := "zigMakes", fn := fun _ => fun
  | [d1, d2] => { results := [.lit (.bool true)], args := [d1, d2] }
  | _ => none }
def zigMakesRow : OpenClaim := { program := "ytaeecppabbjogaa", sum := "1d2d120dd874fe4c04626db8a4c90f9927143310a2f81c4ce3933aaea841eca7", func := "avocet/avocetlaw01.ZigMakes", spec := "zigMakes", apart := false }
def ZigMakesSaid : Prop := zigMakesRow.holds Try.pinned (OpenSpec.ofChange zigMakesSpec)

/-- ITS FALSE NEIGHBOUR: 'it returns false'. Refute it at one input. -/
def zigMakesWrong : ChangeSpec := { name := "zigMakes", fn := fun _ => fun
  | [d1, d2] => { results := [.lit (.bool false)], args := [d1, d2] }
  | _ => none }
def ZigMakesWrongFalsely : Prop := zigMakesRow.holds Try.pinned (OpenSpec.ofChange zigMakesWrong)

/-- 'avocetlaw01.ZigNarrow': WHATEVER THE INPUT: true; the input reads as it did. -/
def zigNarrowSpec : ChangeSpec := { name := "zigNarrow", fn := fun _ => fun
  | [d1, d2] => { results := [.lit (.bool true)], args := [d1, d2] }
  | _ => none }
def zigNarrowRow : OpenClaim := { program := "ytaeecppabbjogaa", sum := "1d2d120dd874fe4c04626db8a4c90f9927143310a2f81c4ce3933aaea841eca7", func := "avocet/avocetlaw01.ZigNarrow", spec := "zigNarrow", apart := false }
def ZigNarrowSaid : Prop := zigNarrowRow.holds Try.pinned (OpenSpec.ofChange zigNarrowSpec)

/-- ITS FALSE NEIGHBOUR: 'it returns false'. Refute it at one input. -/
def zigNarrowWrong : ChangeSpec := { name := "zigNarrow", fn := fun _ => fun
  | [d1, d2] => { results := [.lit (.bool false)], args := [d1, d2] }
  | _ => none }
def ZigNarrowWrongFalsely : Prop := zigNarrowRow.holds Try.pinned (OpenSpec.ofChange zigNarrowWrong)

/-- 'avocetlaw01.ZigCounts': WHATEVER THE INPUT: true; the input reads as it did. -/
def zigCountsSpec : ChangeSpec := { name := "zigCounts", fn := fun _ => fun
  | [d1, d2] => { results := [.lit (.bool true)], args := [d1, d2] }
  | _ => none }
def zigCountsRow : OpenClaim := { program := "ytaeecppabbjogaa", sum := "1d2d120dd874fe4c04626db8a4c90f9927143310a2f81c4ce3933aaea841eca7", func := "avocet/avocetlaw01.ZigCounts", spec := "zigCounts", apart := false }
def ZigCountsSaid : Prop := zigCountsRow.holds Try.pinned (OpenSpec.ofChange zigCountsSpec)

/-- ITS FALSE NEIGHBOUR: 'it returns false'. Refute it at one input. -/
def zigCountsWrong : ChangeSpec := { name := "zigCounts", fn := fun _ => fun
  | [d1, d2] => { results := [.lit (.bool false)], args := [d1, d2] }
  | _ => none }
def ZigCountsWrongFalsely : Prop := zigCountsRow.holds Try.pinned (OpenSpec.ofChange zigCountsWrong)

/-- 'avocetlaw01.ZigBack': WHATEVER THE INPUT: true; the input reads as it did. -/
def zigBackSpec : ChangeSpec := { name := "zigBack", fn := fun _ => fun
  | [d1, d2, d3, d4] => { results := [.lit (.bool true)], args := [d1, d2, d3, d4] }
  | _ => none }
def zigBackRow : OpenClaim := { program := "ytaeecppabbjogaa", sum := "1d2d120dd874fe4c04626db8a4c90f9927143310a2f81c4ce3933aaea841eca7", func := "avocet/avocetlaw01.ZigBack", spec := "zigBack", apart := false }
def ZigBackSaid : Prop := zigBackRow.holds Try.pinned (OpenSpec.ofChange zigBackSpec)

/-- ITS FALSE NEIGHBOUR: 'it returns false'. Refute it at one input. -/
def zigBackWrong : ChangeSpec := { name := "zigBack", fn := fun _ => fun
  | [d1, d2, d3, d4] => { results := [.lit (.bool false)], args := [d1, d2, d3, d4] }
  | _ => none }
def ZigBackWrongFalsely : Prop := zigBackRow.holds Try.pinned (OpenSpec.ofChange zigBackWrong)

/-- 'avocetlaw01.ZigNear': WHATEVER THE INPUT: true; the input reads as it did. -/
def zigNearSpec : ChangeSpec := { name := "zigNear", fn := fun _ => fun
  | [d1, d2] => { results := [.lit (.bool true)], args := [d1, d2] }
  | _ => none }
def zigNearRow : OpenClaim := { program := "ytaeecppabbjogaa", sum := "1d2d120dd874fe4c04626db8a4c90f9927143310a2f81c4ce3933aaea841eca7", func := "avocet/avocetlaw01.ZigNear", spec := "zigNear", apart := false }
def ZigNearSaid : Prop := zigNearRow.holds Try.pinned (OpenSpec.ofChange zigNearSpec)

/-- ITS FALSE NEIGHBOUR: 'it returns false'. Refute it at one input. -/
def zigNearWrong : ChangeSpec := { name := "zigNear", fn := fun _ => fun
  | [d1, d2] => { results := [.lit (.bool false)], args := [d1, d2] }
  | _ => none }
def ZigNearWrongFalsely : Prop := zigNearRow.holds Try.pinned (OpenSpec.ofChange zigNearWrong)

/-- 'avocetlaw05.PromoteRises': WHATEVER THE INPUT: true; the input reads as it did. -/
def promoteRisesSpec : ChangeSpec := { name := "promoteRises", fn := fun _ => fun
  | [d1, d2] => { results := [.lit (.bool true)], args := [d1, d2] }
  | _ => none }
def promoteRisesRow : OpenClaim := { program := "ytaeecppabbjogaa", sum := "1d2d120dd874fe4c04626db8a4c90f9927143310a2f81c4ce3933aaea841eca7", func := "avocet/avocetlaw05.PromoteRises", spec := "promoteRises", unfollowed := true, recurses := true, apart := false }
def PromoteRisesSaid : Prop := promoteRisesRow.holds Try.pinned (OpenSpec.ofChange promoteRisesSpec)

/-- ITS FALSE NEIGHBOUR: 'it returns false'. Refute it at one input. -/
def promoteRisesWrong : ChangeSpec := { name := "promoteRises", fn := fun _ => fun
  | [d1, d2] => { results := [.lit (.bool false)], args := [d1, d2] }
  | _ => none }
def PromoteRisesWrongFalsely : Prop := promoteRisesRow.holds Try.pinned (OpenSpec.ofChange promoteRisesWrong)

/-- 'avocetlaw05.PromoteExact': WHATEVER THE INPUT: true; the input reads as it did. -/
def promoteExactSpec : ChangeSpec := { name := "promoteExact", fn := fun _ => fun
  | [d1, d2, d3] => { results := [.lit (.bool true)], args := [d1, d2, d3] }
  | _ => none }
def promoteExactRow : OpenClaim := { program := "ytaeecppabbjogaa", sum := "1d2d120dd874fe4c04626db8a4c90f9927143310a2f81c4ce3933aaea841eca7", func := "avocet/avocetlaw05.PromoteExact", spec := "promoteExact", unfollowed := true, recurses := true, apart := false }
def PromoteExactSaid : Prop := promoteExactRow.holds Try.pinned (OpenSpec.ofChange promoteExactSpec)

/-- ITS FALSE NEIGHBOUR: 'it returns false'. Refute it at one input. -/
def promoteExactWrong : ChangeSpec := { name := "promoteExact", fn := fun _ => fun
  | [d1, d2, d3] => { results := [.lit (.bool false)], args := [d1, d2, d3] }
  | _ => none }
def PromoteExactWrongFalsely : Prop := promoteExactRow.holds Try.pinned (OpenSpec.ofChange promoteExactWrong)

/-- 'avocetlaw05.PromoteNumbers': WHATEVER THE INPUT: true; the input reads as it did. -/
def promoteNumbersSpec : ChangeSpec := { name := "promoteNumbers", fn := fun _ => fun
  | [d] => { results := [.lit (.bool true)], args := [d] }
  | _ => none }
def promoteNumbersRow : OpenClaim := { program := "ytaeecppabbjogaa", sum := "1d2d120dd874fe4c04626db8a4c90f9927143310a2f81c4ce3933aaea841eca7", func := "avocet/avocetlaw05.PromoteNumbers", spec := "promoteNumbers", inPlace := ["math.Float64bits", "math.Float32bits"], unfollowed := true, recurses := true, apart := false }
def PromoteNumbersSaid : Prop := promoteNumbersRow.holds Try.pinned (OpenSpec.ofChange promoteNumbersSpec)

/-- ITS FALSE NEIGHBOUR: 'it returns false'. Refute it at one input. -/
def promoteNumbersWrong : ChangeSpec := { name := "promoteNumbers", fn := fun _ => fun
  | [d] => { results := [.lit (.bool false)], args := [d] }
  | _ => none }
def PromoteNumbersWrongFalsely : Prop := promoteNumbersRow.holds Try.pinned (OpenSpec.ofChange promoteNumbersWrong)

/-- 'avocetlaw05.PromoteBits': WHATEVER THE INPUT: true; the input reads as it did. -/
def promoteBitsSpec : ChangeSpec := { name := "promoteBits", fn := fun _ => fun
  | [d1, d2, d3] => { results := [.lit (.bool true)], args := [d1, d2, d3] }
  | _ => none }
def promoteBitsRow : OpenClaim := { program := "ytaeecppabbjogaa", sum := "1d2d120dd874fe4c04626db8a4c90f9927143310a2f81c4ce3933aaea841eca7", func := "avocet/avocetlaw05.PromoteBits", spec := "promoteBits", inPlace := ["math.Float64frombits", "math.archTrunc", "math.Float64bits", "math.Float32frombits"], unfollowed := true, recurses := true, apart := false }
def PromoteBitsSaid : Prop := promoteBitsRow.holds Try.pinned (OpenSpec.ofChange promoteBitsSpec)

/-- ITS FALSE NEIGHBOUR: 'it returns false'. Refute it at one input. -/
def promoteBitsWrong : ChangeSpec := { name := "promoteBits", fn := fun _ => fun
  | [d1, d2, d3] => { results := [.lit (.bool false)], args := [d1, d2, d3] }
  | _ => none }
def PromoteBitsWrongFalsely : Prop := promoteBitsRow.holds Try.pinned (OpenSpec.ofChange promoteBitsWrong)

/- THE SECOND FORM. 'bulk': how many values and letters a reading holds, each counted each time it is reached (what is shared counts as often as it is met; a slice's spare places count too). A statement '..UptoSaid' is the law's where the arguments, and the package variables that the reading takes, are together of bulk at most 1048576: NARROWER than '..Said'. Prove '..Said' where nothing that the law and all that it calls make is longer than what came in: it says more and counts as full. Else prove '..UptoSaid'. A law counts once. -/
mutual
def uptoBulk {H : Type} : DataW H → Nat
  | .lit (.string bytes) => bytes.length + 1
  | .lit _ => 1
  | .nil => 1
  | .ptr d => uptoBulk d + 1
  | .slice elems spare => uptoBulkAll elems + uptoBulkAll spare + 1
  | .agg parts => uptoBulkAll parts + 1
  | .iface _ d => uptoBulk d + 1
  | .map entries => uptoBulkEntries entries + 1
  | .held _ => 1
def uptoBulkAll {H : Type} : List (DataW H) → Nat
  | [] => 0
  | d :: r => uptoBulk d + uptoBulkAll r
def uptoBulkEntries {H : Type} : List (Lit × DataW H) → Nat
  | [] => 0
  | x :: r => uptoBulkEntry x + uptoBulkEntries r
def uptoBulkEntry {H : Type} : Lit × DataW H → Nat
  | (.string bytes, d) => bytes.length + uptoBulk d + 1
  | (_, d) => uptoBulk d + 1
 end
def uptoSmall : (H : Type) → List (DataW H) → Bool := fun _ ds => decide (uptoBulkAll ds ≤ 1048576)
def OpenSpec.upto (s : _root_.Go.ChangeSpec) : _root_.Go.OpenSpec := { _root_.Go.OpenSpec.ofChange s with cond := some uptoSmall }

/-- 'avocetlaw01.ZigMakes', WHERE WHAT IT READS IS OF BULK AT MOST 1048576: true; the input reads as it did. -/
def zigMakesUptoRow : OpenClaim := { program := "ytaeecppabbjogaa", sum := "1d2d120dd874fe4c04626db8a4c90f9927143310a2f81c4ce3933aaea841eca7", func := "avocet/avocetlaw01.ZigMakes", spec := "zigMakes", apart := false, narrowed := true }
def ZigMakesUptoSaid : Prop := zigMakesUptoRow.holds Try.pinned (OpenSpec.upto zigMakesSpec)

/-- 'avocetlaw01.ZigNarrow', WHERE WHAT IT READS IS OF BULK AT MOST 1048576: true; the input reads as it did. -/
def zigNarrowUptoRow : OpenClaim := { program := "ytaeecppabbjogaa", sum := "1d2d120dd874fe4c04626db8a4c90f9927143310a2f81c4ce3933aaea841eca7", func := "avocet/avocetlaw01.ZigNarrow", spec := "zigNarrow", apart := false, narrowed := true }
def ZigNarrowUptoSaid : Prop := zigNarrowUptoRow.holds Try.pinned (OpenSpec.upto zigNarrowSpec)

/-- 'avocetlaw01.ZigCounts', WHERE WHAT IT READS IS OF BULK AT MOST 1048576: true; the input reads as it did. -/
def zigCountsUptoRow : OpenClaim := { program := "ytaeecppabbjogaa", sum := "1d2d120dd874fe4c04626db8a4c90f9927143310a2f81c4ce3933aaea841eca7", func := "avocet/avocetlaw01.ZigCounts", spec := "zigCounts", apart := false, narrowed := true }
def ZigCountsUptoSaid : Prop := zigCountsUptoRow.holds Try.pinned (OpenSpec.upto zigCountsSpec)

/-- 'avocetlaw01.ZigBack', WHERE WHAT IT READS IS OF BULK AT MOST 1048576: true; the input reads as it did. -/
def zigBackUptoRow : OpenClaim := { program := "ytaeecppabbjogaa", sum := "1d2d120dd874fe4c04626db8a4c90f9927143310a2f81c4ce3933aaea841eca7", func := "avocet/avocetlaw01.ZigBack", spec := "zigBack", apart := false, narrowed := true }
def ZigBackUptoSaid : Prop := zigBackUptoRow.holds Try.pinned (OpenSpec.upto zigBackSpec)

/-- 'avocetlaw01.ZigNear', WHERE WHAT IT READS IS OF BULK AT MOST 1048576: true; the input reads as it did. -/
def zigNearUptoRow : OpenClaim := { program := "ytaeecppabbjogaa", sum := "1d2d120dd874fe4c04626db8a4c90f9927143310a2f81c4ce3933aaea841eca7", func := "avocet/avocetlaw01.ZigNear", spec := "zigNear", apart := false, narrowed := true }
def ZigNearUptoSaid : Prop := zigNearUptoRow.holds Try.pinned (OpenSpec.upto zigNearSpec)

/-- 'avocetlaw05.PromoteRises', WHERE WHAT IT READS IS OF BULK AT MOST 1048576: true; the input reads as it did. -/
def promoteRisesUptoRow : OpenClaim := { program := "ytaeecppabbjogaa", sum := "1d2d120dd874fe4c04626db8a4c90f9927143310a2f81c4ce3933aaea841eca7", func := "avocet/avocetlaw05.PromoteRises", spec := "promoteRises", unfollowed := true, recurses := true, apart := false, narrowed := true }
def PromoteRisesUptoSaid : Prop := promoteRisesUptoRow.holds Try.pinned (OpenSpec.upto promoteRisesSpec)

/-- 'avocetlaw05.PromoteExact', WHERE WHAT IT READS IS OF BULK AT MOST 1048576: true; the input reads as it did. -/
def promoteExactUptoRow : OpenClaim := { program := "ytaeecppabbjogaa", sum := "1d2d120dd874fe4c04626db8a4c90f9927143310a2f81c4ce3933aaea841eca7", func := "avocet/avocetlaw05.PromoteExact", spec := "promoteExact", unfollowed := true, recurses := true, apart := false, narrowed := true }
def PromoteExactUptoSaid : Prop := promoteExactUptoRow.holds Try.pinned (OpenSpec.upto promoteExactSpec)

/-- 'avocetlaw05.PromoteNumbers', WHERE WHAT IT READS IS OF BULK AT MOST 1048576: true; the input reads as it did. -/
def promoteNumbersUptoRow : OpenClaim := { program := "ytaeecppabbjogaa", sum := "1d2d120dd874fe4c04626db8a4c90f9927143310a2f81c4ce3933aaea841eca7", func := "avocet/avocetlaw05.PromoteNumbers", spec := "promoteNumbers", inPlace := ["math.Float64bits", "math.Float32bits"], unfollowed := true, recurses := true, apart := false, narrowed := true }
def PromoteNumbersUptoSaid : Prop := promoteNumbersUptoRow.holds Try.pinned (OpenSpec.upto promoteNumbersSpec)

/-- 'avocetlaw05.PromoteBits', WHERE WHAT IT READS IS OF BULK AT MOST 1048576: true; the input reads as it did. -/
def promoteBitsUptoRow : OpenClaim := { program := "ytaeecppabbjogaa", sum := "1d2d120dd874fe4c04626db8a4c90f9927143310a2f81c4ce3933aaea841eca7", func := "avocet/avocetlaw05.PromoteBits", spec := "promoteBits", inPlace := ["math.Float64frombits", "math.archTrunc", "math.Float64bits", "math.Float32frombits"], unfollowed := true, recurses := true, apart := false, narrowed := true }
def PromoteBitsUptoSaid : Prop := promoteBitsUptoRow.holds Try.pinned (OpenSpec.upto promoteBitsSpec)

end Rows
end Go.Proofs.Ytaeecppabbjogaa
