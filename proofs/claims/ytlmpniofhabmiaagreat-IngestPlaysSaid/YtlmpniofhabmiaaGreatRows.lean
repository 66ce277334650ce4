/-
  No cell of these rows narrows 'for every input' (looked for: loops, veiled, ifaces, maps, wideKeys, modest, calm, conditions, laid).
  DERIVED. THE GIVEN ROWS OF THIS SEAT. 5 by the template 'for every input the law returns true; each argument reads behind the call as it read before'; 0 by the template 'total and deterministic' (their statements: YtlmpniofhabmiaaGreatTotals.lean).
  GIVEN WITH THE SEED: the statements are not yours to turn. If you find one false, say at which input.
  Laid BY PROGRAM, IN A SANDBOX (cutbox-rows.mjs): the forced cells as the released guide's own fill.sh prints them over the translation 857367816da79879… (all of the seat's roots in one cut). By AI agents, Wed Nov 11 2026. No macro, syntax, notation, axiom, sorry.
-/
import Derived.Test.YtlmpniofhabmiaaGreatChecked
import GoSem.Claim
import GoSem.ClaimJoined
import GoSem.ClaimMapViews
import Derived.JoinedTies
import Derived.KernelRfl
namespace Go.Proofs.YtlmpniofhabmiaaGreat
/- THE CELL 'sum', in the pinned program and in every row, IS THE sha256 OF THE DUMP (.gsa) THAT YtlmpniofhabmiaaGreatProg.lean LOADS. Nothing in Lean hashes anything: it is a label: what it is worth is what the hold of that sum in a sandbox is worth. -/
noncomputable def Tryz.pinned : Pinned := { name := "ytlmpniofhabmiaagreat", sum := "857367816da79879034c7013f47cb8ae3513f5e62854aa46db6d7cc6a1c9ca5c", checked := Tryz.checked }
namespace Rows
def none {H : Type} : Left H := { results := [], args := [] }

/-- 'tesseractlaw10.IngestOrder': WHATEVER THE INPUT: true; the input reads as it did. -/
def ingestOrderSpec : ChangeSpec := { name := "ingestOrder", fn := fun _ => fun
  | [d1, d2, d3] => { results := [.lit (.bool true)], args := [d1, d2, d3] }
  | _ => none }
def ingestOrderRow : OpenClaim := { program := "ytlmpniofhabmiaagreat", sum := "857367816da79879034c7013f47cb8ae3513f5e62854aa46db6d7cc6a1c9ca5c", func := "tesseract/tesseractlaw10.IngestOrder", spec := "ingestOrder", unfollowed := true, recurses := true, plainKeys := false, apart := false }
def IngestOrderSaid : Prop := ingestOrderRow.holds Tryz.pinned (OpenSpec.ofChange ingestOrderSpec)

/-- ITS FALSE NEIGHBOUR: 'it returns false'. Refute it at one input. -/
def ingestOrderWrong : ChangeSpec := { name := "ingestOrder", fn := fun _ => fun
  | [d1, d2, d3] => { results := [.lit (.bool false)], args := [d1, d2, d3] }
  | _ => none }
def IngestOrderWrongFalsely : Prop := ingestOrderRow.holds Tryz.pinned (OpenSpec.ofChange ingestOrderWrong)

/-- 'tesseractlaw10.IngestPlays': WHATEVER THE INPUT: true; the input reads as it did. -/
def ingestPlaysSpec : ChangeSpec := { name := "ingestPlays", fn := fun _ => fun
  | [d1, d2, d3] => { results := [.lit (.bool true)], args := [d1, d2, d3] }
  | _ => none }
def ingestPlaysRow : OpenClaim := { program := "ytlmpniofhabmiaagreat", sum := "857367816da79879034c7013f47cb8ae3513f5e62854aa46db6d7cc6a1c9ca5c", func := "tesseract/tesseractlaw10.IngestPlays", spec := "ingestPlays", unfollowed := true, recurses := true, plainKeys := false, apart := false }
def IngestPlaysSaid : Prop := ingestPlaysRow.holds Tryz.pinned (OpenSpec.ofChange ingestPlaysSpec)

/-- ITS FALSE NEIGHBOUR: 'it returns false'. Refute it at one input. -/
def ingestPlaysWrong : ChangeSpec := { name := "ingestPlays", fn := fun _ => fun
  | [d1, d2, d3] => { results := [.lit (.bool false)], args := [d1, d2, d3] }
  | _ => none }
def IngestPlaysWrongFalsely : Prop := ingestPlaysRow.holds Tryz.pinned (OpenSpec.ofChange ingestPlaysWrong)

/-- 'tesseractlaw10.IngestKnown': WHATEVER THE INPUT: true; the input reads as it did. -/
def ingestKnownSpec : ChangeSpec := { name := "ingestKnown", fn := fun _ => fun
  | [] => { results := [.lit (.bool true)], args := [] }
  | _ => none }
def ingestKnownRow : OpenClaim := { program := "ytlmpniofhabmiaagreat", sum := "857367816da79879034c7013f47cb8ae3513f5e62854aa46db6d7cc6a1c9ca5c", func := "tesseract/tesseractlaw10.IngestKnown", spec := "ingestKnown", unfollowed := true, recurses := true, plainKeys := false, apart := false }
def IngestKnownSaid : Prop := ingestKnownRow.holds Tryz.pinned (OpenSpec.ofChange ingestKnownSpec)

/-- ITS FALSE NEIGHBOUR: 'it returns false'. Refute it at one input. -/
def ingestKnownWrong : ChangeSpec := { name := "ingestKnown", fn := fun _ => fun
  | [] => { results := [.lit (.bool false)], args := [] }
  | _ => none }
def IngestKnownWrongFalsely : Prop := ingestKnownRow.holds Tryz.pinned (OpenSpec.ofChange ingestKnownWrong)

/-- 'tesseractlaw10.IngestEvery': WHATEVER THE INPUT: true; the input reads as it did. -/
def ingestEverySpec : ChangeSpec := { name := "ingestEvery", fn := fun _ => fun
  | [d1, d2, d3] => { results := [.lit (.bool true)], args := [d1, d2, d3] }
  | _ => none }
def ingestEveryRow : OpenClaim := { program := "ytlmpniofhabmiaagreat", sum := "857367816da79879034c7013f47cb8ae3513f5e62854aa46db6d7cc6a1c9ca5c", func := "tesseract/tesseractlaw10.IngestEvery", spec := "ingestEvery", unfollowed := true, recurses := true, plainKeys := false, apart := false }
def IngestEverySaid : Prop := ingestEveryRow.holds Tryz.pinned (OpenSpec.ofChange ingestEverySpec)

/-- ITS FALSE NEIGHBOUR: 'it returns false'. Refute it at one input. -/
def ingestEveryWrong : ChangeSpec := { name := "ingestEvery", fn := fun _ => fun
  | [d1, d2, d3] => { results := [.lit (.bool false)], args := [d1, d2, d3] }
  | _ => none }
def IngestEveryWrongFalsely : Prop := ingestEveryRow.holds Tryz.pinned (OpenSpec.ofChange ingestEveryWrong)

/-- 'tesseractlaw10.IngestCrashes': WHATEVER THE INPUT: true; the input reads as it did. -/
def ingestCrashesSpec : ChangeSpec := { name := "ingestCrashes", fn := fun _ => fun
  | [d1, d2] => { results := [.lit (.bool true)], args := [d1, d2] }
  | _ => none }
def ingestCrashesRow : OpenClaim := { program := "ytlmpniofhabmiaagreat", sum := "857367816da79879034c7013f47cb8ae3513f5e62854aa46db6d7cc6a1c9ca5c", func := "tesseract/tesseractlaw10.IngestCrashes", spec := "ingestCrashes", unfollowed := true, recurses := true, plainKeys := false, apart := false }
def IngestCrashesSaid : Prop := ingestCrashesRow.holds Tryz.pinned (OpenSpec.ofChange ingestCrashesSpec)

/-- ITS FALSE NEIGHBOUR: 'it returns false'. Refute it at one input. -/
def ingestCrashesWrong : ChangeSpec := { name := "ingestCrashes", fn := fun _ => fun
  | [d1, d2] => { results := [.lit (.bool false)], args := [d1, d2] }
  | _ => none }
def IngestCrashesWrongFalsely : Prop := ingestCrashesRow.holds Tryz.pinned (OpenSpec.ofChange ingestCrashesWrong)

/- THE SECOND FORM. 'bulk': how many values and letters a reading holds, each counted each time it is reached (what is shared counts as often as it is met; a slice's spare places count too). A statement '..UptoSaid' is the law's where the arguments, and the package variables that the reading takes, are together of bulk at most 1048576: NARROWER than '..Said'. Prove '..Said' where nothing that the law and all that it calls make is longer than what came in: it says more and counts as full. Else prove '..UptoSaid'. A law counts once. -/
mutual
def uptoBulk {H : Type} : DataW H → Nat
  | .lit (.string bytes) => bytes.length + 1
  | .lit _ => 1
  | .nil => 1
  | .ptr d => uptoBulk d + 1
  | .slice elems spare => uptoBulkAll elems + uptoBulkAll spare + 1
  | .agg parts => uptoBulkAll parts + 1
  | .iface _ d => uptoBulk d + 1
  | .map entries => uptoBulkEntries entries + 1
  | .held _ => 1
def uptoBulkAll {H : Type} : List (DataW H) → Nat
  | [] => 0
  | d :: r => uptoBulk d + uptoBulkAll r
def uptoBulkEntries {H : Type} : List (Lit × DataW H) → Nat
  | [] => 0
  | x :: r => uptoBulkEntry x + uptoBulkEntries r
def uptoBulkEntry {H : Type} : Lit × DataW H → Nat
  | (.string bytes, d) => bytes.length + uptoBulk d + 1
  | (_, d) => uptoBulk d + 1
 end
def uptoSmall : (H : Type) → List (DataW H) → Bool := fun _ ds => decide (uptoBulkAll ds ≤ 1048576)
def OpenSpec.upto (s : _root_.Go.ChangeSpec) : _root_.Go.OpenSpec := { _root_.Go.OpenSpec.ofChange s with cond := some uptoSmall }

/-- 'tesseractlaw10.IngestOrder', WHERE WHAT IT READS IS OF BULK AT MOST 1048576: true; the input reads as it did. -/
def ingestOrderUptoRow : OpenClaim := { program := "ytlmpniofhabmiaagreat", sum := "857367816da79879034c7013f47cb8ae3513f5e62854aa46db6d7cc6a1c9ca5c", func := "tesseract/tesseractlaw10.IngestOrder", spec := "ingestOrder", unfollowed := true, recurses := true, plainKeys := false, apart := false, narrowed := true }
def IngestOrderUptoSaid : Prop := ingestOrderUptoRow.holds Tryz.pinned (OpenSpec.upto ingestOrderSpec)

/-- 'tesseractlaw10.IngestPlays', WHERE WHAT IT READS IS OF BULK AT MOST 1048576: true; the input reads as it did. -/
def ingestPlaysUptoRow : OpenClaim := { program := "ytlmpniofhabmiaagreat", sum := "857367816da79879034c7013f47cb8ae3513f5e62854aa46db6d7cc6a1c9ca5c", func := "tesseract/tesseractlaw10.IngestPlays", spec := "ingestPlays", unfollowed := true, recurses := true, plainKeys := false, apart := false, narrowed := true }
def IngestPlaysUptoSaid : Prop := ingestPlaysUptoRow.holds Tryz.pinned (OpenSpec.upto ingestPlaysSpec)

/-- 'tesseractlaw10.IngestKnown', WHERE WHAT IT READS IS OF BULK AT MOST 1048576: true; the input reads as it did. -/
def ingestKnownUptoRow : OpenClaim := { program := "ytlmpniofhabmiaagreat", sum := "857367816da79879034c7013f47cb8ae3513f5e62854aa46db6d7cc6a1c9ca5c", func := "tesseract/tesseractlaw10.IngestKnown", spec := "ingestKnown", unfollowed := true, recurses := true, plainKeys := false, apart := false, narrowed := true }
def IngestKnownUptoSaid : Prop := ingestKnownUptoRow.holds Tryz.pinned (OpenSpec.upto ingestKnownSpec)

/-- 'tesseractlaw10.IngestEvery', WHERE WHAT IT READS IS OF BULK AT MOST 1048576: true; the input reads as it did. -/
def ingestEveryUptoRow : OpenClaim := { program := "ytlmpniofhabmiaagreat", sum := "857367816da79879034c7013f47cb8ae3513f5e62854aa46db6d7cc6a1c9ca5c", func := "tesseract/tesseractlaw10.IngestEvery", spec := "ingestEvery", unfollowed := true, recurses := true, plainKeys := false, apart := false, narrowed := true }
def IngestEveryUptoSaid : Prop := ingestEveryUptoRow.holds Tryz.pinned (OpenSpec.upto ingestEverySpec)

/-- 'tesseractlaw10.IngestCrashes', WHERE WHAT IT READS IS OF BULK AT MOST 1048576: true; the input reads as it did. -/
def ingestCrashesUptoRow : OpenClaim := { program := "ytlmpniofhabmiaagreat", sum := "857367816da79879034c7013f47cb8ae3513f5e62854aa46db6d7cc6a1c9ca5c", func := "tesseract/tesseractlaw10.IngestCrashes", spec := "ingestCrashes", unfollowed := true, recurses := true, plainKeys := false, apart := false, narrowed := true }
def IngestCrashesUptoSaid : Prop := ingestCrashesUptoRow.holds Tryz.pinned (OpenSpec.upto ingestCrashesSpec)

end Rows
end Go.Proofs.YtlmpniofhabmiaaGreat
