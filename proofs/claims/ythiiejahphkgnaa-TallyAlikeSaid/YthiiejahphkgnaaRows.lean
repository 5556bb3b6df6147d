/-
  No cell of these rows narrows 'for every input' (looked for: loops, veiled, ifaces, maps, wideKeys, modest, calm, conditions, laid).
  DERIVED. THE GIVEN ROWS OF THIS SEAT. 6 by the template 'for every input the law returns true; each argument reads behind the call as it read before'; 0 by the template 'total and deterministic' (their statements: YthiiejahphkgnaaTotals.lean).
  GIVEN WITH THE SEED: the statements are not yours to turn. If you find one false, say at which input.
  Laid BY PROGRAM, IN A SANDBOX (cutbox-rows.mjs): the forced cells as the released guide's own fill.sh prints them over the translation 92fb3555848e8077… (all of the seat's roots in one cut). By AI agents, Wed Nov 11 2026. No macro, syntax, notation, axiom, sorry.
-/
import Derived.Test.YthiiejahphkgnaaChecked
import GoSem.Claim
import GoSem.ClaimJoined
import GoSem.ClaimMapViews
import Derived.JoinedTies
import Derived.KernelRfl
namespace Go.Proofs.Ythiiejahphkgnaa
/- THE CELL 'sum', in the pinned program and in every row, IS THE sha256 OF THE DUMP (.gsa) THAT YthiiejahphkgnaaProg.lean LOADS. Nothing in Lean hashes anything: it is a label: what it is worth is what the hold of that sum in a sandbox is worth. -/
noncomputable def Try.pinned : Pinned := { name := "ythiiejahphkgnaa", sum := "92fb3555848e807767fe7533a3cd5bedf5506bf6163f57fe1001b7c0072f48e5", checked := Try.checked }
namespace Rows
def none {H : Type} : Left H := { results := [], args := [] }

/-- 'palantypelaw07.TallyBounds': WHATEVER THE INPUT: true; the input reads as it did. -/
def tallyBoundsSpec : ChangeSpec := { name := "tallyBounds", fn := fun _ => fun
  | [d] => { results := [.lit (.bool true)], args := [d] }
  | _ => none }
def tallyBoundsRow : OpenClaim := { program := "ythiiejahphkgnaa", sum := "92fb3555848e807767fe7533a3cd5bedf5506bf6163f57fe1001b7c0072f48e5", func := "palantype/palantypelaw07.TallyBounds", spec := "tallyBounds", unfollowed := true, recurses := true, plainKeys := false, apart := false }
def TallyBoundsSaid : Prop := tallyBoundsRow.holds Try.pinned (OpenSpec.ofChange tallyBoundsSpec)

/-- ITS FALSE NEIGHBOUR: 'it returns false'. Refute it at one input. -/
def tallyBoundsWrong : ChangeSpec := { name := "tallyBounds", fn := fun _ => fun
  | [d] => { results := [.lit (.bool false)], args := [d] }
  | _ => none }
def TallyBoundsWrongFalsely : Prop := tallyBoundsRow.holds Try.pinned (OpenSpec.ofChange tallyBoundsWrong)

/-- 'palantypelaw07.TallyAlike': WHATEVER THE INPUT: true; the input reads as it did. -/
def tallyAlikeSpec : ChangeSpec := { name := "tallyAlike", fn := fun _ => fun
  | [d1, d2] => { results := [.lit (.bool true)], args := [d1, d2] }
  | _ => none }
def tallyAlikeRow : OpenClaim := { program := "ythiiejahphkgnaa", sum := "92fb3555848e807767fe7533a3cd5bedf5506bf6163f57fe1001b7c0072f48e5", func := "palantype/palantypelaw07.TallyAlike", spec := "tallyAlike", unfollowed := true, recurses := true, plainKeys := false, apart := false }
def TallyAlikeSaid : Prop := tallyAlikeRow.holds Try.pinned (OpenSpec.ofChange tallyAlikeSpec)

/-- ITS FALSE NEIGHBOUR: 'it returns false'. Refute it at one input. -/
def tallyAlikeWrong : ChangeSpec := { name := "tallyAlike", fn := fun _ => fun
  | [d1, d2] => { results := [.lit (.bool false)], args := [d1, d2] }
  | _ => none }
def TallyAlikeWrongFalsely : Prop := tallyAlikeRow.holds Try.pinned (OpenSpec.ofChange tallyAlikeWrong)

/-- 'palantypelaw07.TallyKnown': WHATEVER THE INPUT: true; the input reads as it did. -/
def tallyKnownSpec : ChangeSpec := { name := "tallyKnown", fn := fun _ => fun
  | [d1, d2, d3, d4] => { results := [.lit (.bool true)], args := [d1, d2, d3, d4] }
  | _ => none }
def tallyKnownRow : OpenClaim := { program := "ythiiejahphkgnaa", sum := "92fb3555848e807767fe7533a3cd5bedf5506bf6163f57fe1001b7c0072f48e5", func := "palantype/palantypelaw07.TallyKnown", spec := "tallyKnown", unfollowed := true, recurses := true, plainKeys := false, apart := false }
def TallyKnownSaid : Prop := tallyKnownRow.holds Try.pinned (OpenSpec.ofChange tallyKnownSpec)

/-- ITS FALSE NEIGHBOUR: 'it returns false'. Refute it at one input. -/
def tallyKnownWrong : ChangeSpec := { name := "tallyKnown", fn := fun _ => fun
  | [d1, d2, d3, d4] => { results := [.lit (.bool false)], args := [d1, d2, d3, d4] }
  | _ => none }
def TallyKnownWrongFalsely : Prop := tallyKnownRow.holds Try.pinned (OpenSpec.ofChange tallyKnownWrong)

/-- 'palantypelaw07.TallyClashes': WHATEVER THE INPUT: true; the input reads as it did. -/
def tallyClashesSpec : ChangeSpec := { name := "tallyClashes", fn := fun _ => fun
  | [d] => { results := [.lit (.bool true)], args := [d] }
  | _ => none }
def tallyClashesRow : OpenClaim := { program := "ythiiejahphkgnaa", sum := "92fb3555848e807767fe7533a3cd5bedf5506bf6163f57fe1001b7c0072f48e5", func := "palantype/palantypelaw07.TallyClashes", spec := "tallyClashes", unfollowed := true, recurses := true, plainKeys := false, apart := false }
def TallyClashesSaid : Prop := tallyClashesRow.holds Try.pinned (OpenSpec.ofChange tallyClashesSpec)

/-- ITS FALSE NEIGHBOUR: 'it returns false'. Refute it at one input. -/
def tallyClashesWrong : ChangeSpec := { name := "tallyClashes", fn := fun _ => fun
  | [d] => { results := [.lit (.bool false)], args := [d] }
  | _ => none }
def TallyClashesWrongFalsely : Prop := tallyClashesRow.holds Try.pinned (OpenSpec.ofChange tallyClashesWrong)

/-- 'palantypelaw07.TallyAllows': WHATEVER THE INPUT: true; the input reads as it did. -/
def tallyAllowsSpec : ChangeSpec := { name := "tallyAllows", fn := fun _ => fun
  | [d1, d2] => { results := [.lit (.bool true)], args := [d1, d2] }
  | _ => none }
def tallyAllowsRow : OpenClaim := { program := "ythiiejahphkgnaa", sum := "92fb3555848e807767fe7533a3cd5bedf5506bf6163f57fe1001b7c0072f48e5", func := "palantype/palantypelaw07.TallyAllows", spec := "tallyAllows", unfollowed := true, recurses := true, plainKeys := false, apart := false }
def TallyAllowsSaid : Prop := tallyAllowsRow.holds Try.pinned (OpenSpec.ofChange tallyAllowsSpec)

/-- ITS FALSE NEIGHBOUR: 'it returns false'. Refute it at one input. -/
def tallyAllowsWrong : ChangeSpec := { name := "tallyAllows", fn := fun _ => fun
  | [d1, d2] => { results := [.lit (.bool false)], args := [d1, d2] }
  | _ => none }
def TallyAllowsWrongFalsely : Prop := tallyAllowsRow.holds Try.pinned (OpenSpec.ofChange tallyAllowsWrong)

/-- 'palantypelaw07.TallyNames': WHATEVER THE INPUT: true; the input reads as it did. -/
def tallyNamesSpec : ChangeSpec := { name := "tallyNames", fn := fun _ => fun
  | [] => { results := [.lit (.bool true)], args := [] }
  | _ => none }
def tallyNamesRow : OpenClaim := { program := "ythiiejahphkgnaa", sum := "92fb3555848e807767fe7533a3cd5bedf5506bf6163f57fe1001b7c0072f48e5", func := "palantype/palantypelaw07.TallyNames", spec := "tallyNames", unfollowed := true, recurses := true, plainKeys := false, apart := false }
def TallyNamesSaid : Prop := tallyNamesRow.holds Try.pinned (OpenSpec.ofChange tallyNamesSpec)

/-- ITS FALSE NEIGHBOUR: 'it returns false'. Refute it at one input. -/
def tallyNamesWrong : ChangeSpec := { name := "tallyNames", fn := fun _ => fun
  | [] => { results := [.lit (.bool false)], args := [] }
  | _ => none }
def TallyNamesWrongFalsely : Prop := tallyNamesRow.holds Try.pinned (OpenSpec.ofChange tallyNamesWrong)

/- THE SECOND FORM. 'bulk': how many values and letters a reading holds, each counted each time it is reached (what is shared counts as often as it is met; a slice's spare places count too). A statement '..UptoSaid' is the law's where the arguments, and the package variables that the reading takes, are together of bulk at most 1048576: NARROWER than '..Said'. Prove '..Said' where nothing that the law and all that it calls make is longer than what came in: it says more and counts as full. Else prove '..UptoSaid'. A law counts once. -/
mutual
def uptoBulk {H : Type} : DataW H → Nat
  | .lit (.string bytes) => bytes.length + 1
  | .lit _ => 1
  | .nil => 1
  | .ptr d => uptoBulk d + 1
  | .slice elems spare => uptoBulkAll elems + uptoBulkAll spare + 1
  | .agg parts => uptoBulkAll parts + 1
  | .iface _ d => uptoBulk d + 1
  | .map entries => uptoBulkEntries entries + 1
  | .held _ => 1
def uptoBulkAll {H : Type} : List (DataW H) → Nat
  | [] => 0
  | d :: r => uptoBulk d + uptoBulkAll r
def uptoBulkEntries {H : Type} : List (Lit × DataW H) → Nat
  | [] => 0
  | x :: r => uptoBulkEntry x + uptoBulkEntries r
def uptoBulkEntry {H : Type} : Lit × DataW H → Nat
  | (.string bytes, d) => bytes.length + uptoBulk d + 1
  | (_, d) => uptoBulk d + 1
 end
def uptoSmall : (H : Type) → List (DataW H) → Bool := fun _ ds => decide (uptoBulkAll ds ≤ 1048576)
def OpenSpec.upto (s : _root_.Go.ChangeSpec) : _root_.Go.OpenSpec := { _root_.Go.OpenSpec.ofChange s with cond := some uptoSmall }

/-- 'palantypelaw07.TallyBounds', WHERE WHAT IT READS IS OF BULK AT MOST 1048576: true; the input reads as it did. -/
def tallyBoundsUptoRow : OpenClaim := { program := "ythiiejahphkgnaa", sum := "92fb3555848e807767fe7533a3cd5bedf5506bf6163f57fe1001b7c0072f48e5", func := "palantype/palantypelaw07.TallyBounds", spec := "tallyBounds", unfollowed := true, recurses := true, plainKeys := false, apart := false, narrowed := true }
def TallyBoundsUptoSaid : Prop := tallyBoundsUptoRow.holds Try.pinned (OpenSpec.upto tallyBoundsSpec)

/-- 'palantypelaw07.TallyAlike', WHERE WHAT IT READS IS OF BULK AT MOST 1048576: true; the input reads as it did. -/
def tallyAlikeUptoRow : OpenClaim := { program := "ythiiejahphkgnaa", sum := "92fb3555848e807767fe7533a3cd5bedf5506bf6163f57fe1001b7c0072f48e5", func := "palantype/palantypelaw07.TallyAlike", spec := "tallyAlike", unfollowed := true, recurses := true, plainKeys := false, apart := false, narrowed := true }
def TallyAlikeUptoSaid : Prop := tallyAlikeUptoRow.holds Try.pinned (OpenSpec.upto tallyAlikeSpec)

/-- 'palantypelaw07.TallyKnown', WHERE WHAT IT READS IS OF BULK AT MOST 1048576: true; the input reads as it did. -/
def tallyKnownUptoRow : OpenClaim := { program := "ythiiejahphkgnaa", sum := "92fb3555848e807767fe7533a3cd5bedf5506bf6163f57fe1001b7c0072f48e5", func := "palantype/palantypelaw07.TallyKnown", spec := "tallyKnown", unfollowed := true, recurses := true, plainKeys := false, apart := false, narrowed := true }
def TallyKnownUptoSaid : Prop := tallyKnownUptoRow.holds Try.pinned (OpenSpec.upto tallyKnownSpec)

/-- 'palantypelaw07.TallyClashes', WHERE WHAT IT READS IS OF BULK AT MOST 1048576: true; the input reads as it did. -/
def tallyClashesUptoRow : OpenClaim := { program := "ythiiejahphkgnaa", sum := "92fb3555848e807767fe7533a3cd5bedf5506bf6163f57fe1001b7c0072f48e5", func := "palantype/palantypelaw07.TallyClashes", spec := "tallyClashes", unfollowed := true, recurses := true, plainKeys := false, apart := false, narrowed := true }
def TallyClashesUptoSaid : Prop := tallyClashesUptoRow.holds Try.pinned (OpenSpec.upto tallyClashesSpec)

/-- 'palantypelaw07.TallyAllows', WHERE WHAT IT READS IS OF BULK AT MOST 1048576: true; the input reads as it did. -/
def tallyAllowsUptoRow : OpenClaim := { program := "ythiiejahphkgnaa", sum := "92fb3555848e807767fe7533a3cd5bedf5506bf6163f57fe1001b7c0072f48e5", func := "palantype/palantypelaw07.TallyAllows", spec := "tallyAllows", unfollowed := true, recurses := true, plainKeys := false, apart := false, narrowed := true }
def TallyAllowsUptoSaid : Prop := tallyAllowsUptoRow.holds Try.pinned (OpenSpec.upto tallyAllowsSpec)

/-- 'palantypelaw07.TallyNames', WHERE WHAT IT READS IS OF BULK AT MOST 1048576: true; the input reads as it did. -/
def tallyNamesUptoRow : OpenClaim := { program := "ythiiejahphkgnaa", sum := "92fb3555848e807767fe7533a3cd5bedf5506bf6163f57fe1001b7c0072f48e5", func := "palantype/palantypelaw07.TallyNames", spec := "tallyNames", unfollowed := true, recurses := true, plainKeys := false, apart := false, narrowed := true }
def TallyNamesUptoSaid : Prop := tallyNamesUptoRow.holds Try.pinned (OpenSpec.upto tallyNamesSpec)

end Rows
end Go.Proofs.Ythiiejahphkgnaa
