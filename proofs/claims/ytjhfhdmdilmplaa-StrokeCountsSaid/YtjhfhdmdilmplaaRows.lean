/-
  No cell of these rows narrows 'for every input' (looked for: loops, veiled, ifaces, maps, wideKeys, modest, calm, conditions, laid).
  DERIVED. THE GIVEN ROWS OF THIS SEAT. 15 by the template 'for every input the law returns true; each argument reads behind the call as it read before'; 0 by the template 'total and deterministic' (their statements: YtjhfhdmdilmplaaTotals.lean).
  GIVEN WITH THE SEED: the statements are not yours to turn. If you find one false, say at which input.
  Laid BY PROGRAM, IN A SANDBOX (cutbox-rows.mjs): the forced cells as the released guide's own fill.sh prints them over the translation 0a76a928f91a0f0c… (all of the seat's roots in one cut). By AI agents, Wed Nov 11 2026. No macro, syntax, notation, axiom, sorry.
-/
import Derived.Test.YtjhfhdmdilmplaaChecked
import GoSem.Claim
import GoSem.ClaimJoined
import GoSem.ClaimMapViews
import Derived.JoinedTies
import Derived.KernelRfl
namespace Go.Proofs.Ytjhfhdmdilmplaa
/- THE CELL 'sum', in the pinned program and in every row, IS THE sha256 OF THE DUMP (.gsa) THAT YtjhfhdmdilmplaaProg.lean LOADS. Nothing in Lean hashes anything: it is a label: what it is worth is what the hold of that sum in a sandbox is worth. -/
noncomputable def Try.pinned : Pinned := { name := "ytjhfhdmdilmplaa", sum := "0a76a928f91a0f0c2cd9d9ae2a7a5deb96b542804eda9eacd770d3836bf7e134", checked := Try.checked }
namespace Rows
def none {H : Type} : Left H := { results := [], args := [] }

/-- 'oxgalllaw02.StrokeBenches': WHATEVER THE INPUT: true; the input reads as it did. -/
def strokeBenchesSpec : ChangeSpec := { name := "strokeBenches", fn := fun _ => fun
  | [d1, d2] => { results := [.lit (.bool true)], args := [d1, d2] }
  | _ => none }
def strokeBenchesRow : OpenClaim := { program := "ytjhfhdmdilmplaa", sum := "0a76a928f91a0f0c2cd9d9ae2a7a5deb96b542804eda9eacd770d3836bf7e134", func := "oxgall/oxgalllaw02.StrokeBenches", spec := "strokeBenches", inPlace := ["slices.overlaps[int]"], unfollowed := true, recurses := true, plainKeys := false, apart := false }
def StrokeBenchesSaid : Prop := strokeBenchesRow.holds Try.pinned (OpenSpec.ofChange strokeBenchesSpec)

/-- ITS FALSE NEIGHBOUR: 'it returns false'. Refute it at one input. -/
def strokeBenchesWrong : ChangeSpec := { name := "strokeBenches", fn := fun _ => fun
  | [d1, d2] => { results := [.lit (.bool false)], args := [d1, d2] }
  | _ => none }
def StrokeBenchesWrongFalsely : Prop := strokeBenchesRow.holds Try.pinned (OpenSpec.ofChange strokeBenchesWrong)

/-- 'oxgalllaw02.StrokeShorts': WHATEVER THE INPUT: true; the input reads as it did. -/
def strokeShortsSpec : ChangeSpec := { name := "strokeShorts", fn := fun _ => fun
  | [d1, d2, d3] => { results := [.lit (.bool true)], args := [d1, d2, d3] }
  | _ => none }
def strokeShortsRow : OpenClaim := { program := "ytjhfhdmdilmplaa", sum := "0a76a928f91a0f0c2cd9d9ae2a7a5deb96b542804eda9eacd770d3836bf7e134", func := "oxgall/oxgalllaw02.StrokeShorts", spec := "strokeShorts", inPlace := ["slices.overlaps[int]"], unfollowed := true, recurses := true, plainKeys := false, apart := false }
def StrokeShortsSaid : Prop := strokeShortsRow.holds Try.pinned (OpenSpec.ofChange strokeShortsSpec)

/-- ITS FALSE NEIGHBOUR: 'it returns false'. Refute it at one input. -/
def strokeShortsWrong : ChangeSpec := { name := "strokeShorts", fn := fun _ => fun
  | [d1, d2, d3] => { results := [.lit (.bool false)], args := [d1, d2, d3] }
  | _ => none }
def StrokeShortsWrongFalsely : Prop := strokeShortsRow.holds Try.pinned (OpenSpec.ofChange strokeShortsWrong)

/-- 'oxgalllaw02.StrokeChains': WHATEVER THE INPUT: true; the input reads as it did. -/
def strokeChainsSpec : ChangeSpec := { name := "strokeChains", fn := fun _ => fun
  | [d1, d2, d3, d4] => { results := [.lit (.bool true)], args := [d1, d2, d3, d4] }
  | _ => none }
def strokeChainsRow : OpenClaim := { program := "ytjhfhdmdilmplaa", sum := "0a76a928f91a0f0c2cd9d9ae2a7a5deb96b542804eda9eacd770d3836bf7e134", func := "oxgall/oxgalllaw02.StrokeChains", spec := "strokeChains", inPlace := ["slices.overlaps[int]"], unfollowed := true, recurses := true, plainKeys := false, apart := false }
def StrokeChainsSaid : Prop := strokeChainsRow.holds Try.pinned (OpenSpec.ofChange strokeChainsSpec)

/-- ITS FALSE NEIGHBOUR: 'it returns false'. Refute it at one input. -/
def strokeChainsWrong : ChangeSpec := { name := "strokeChains", fn := fun _ => fun
  | [d1, d2, d3, d4] => { results := [.lit (.bool false)], args := [d1, d2, d3, d4] }
  | _ => none }
def StrokeChainsWrongFalsely : Prop := strokeChainsRow.holds Try.pinned (OpenSpec.ofChange strokeChainsWrong)

/-- 'oxgalllaw02.StrokeRounds': WHATEVER THE INPUT: true; the input reads as it did. -/
def strokeRoundsSpec : ChangeSpec := { name := "strokeRounds", fn := fun _ => fun
  | [d1, d2, d3] => { results := [.lit (.bool true)], args := [d1, d2, d3] }
  | _ => none }
def strokeRoundsRow : OpenClaim := { program := "ytjhfhdmdilmplaa", sum := "0a76a928f91a0f0c2cd9d9ae2a7a5deb96b542804eda9eacd770d3836bf7e134", func := "oxgall/oxgalllaw02.StrokeRounds", spec := "strokeRounds", inPlace := ["slices.overlaps[int]"], unfollowed := true, recurses := true, plainKeys := false, apart := false }
def StrokeRoundsSaid : Prop := strokeRoundsRow.holds Try.pinned (OpenSpec.ofChange strokeRoundsSpec)

/-- ITS FALSE NEIGHBOUR: 'it returns false'. Refute it at one input. -/
def strokeRoundsWrong : ChangeSpec := { name := "strokeRounds", fn := fun _ => fun
  | [d1, d2, d3] => { results := [.lit (.bool false)], args := [d1, d2, d3] }
  | _ => none }
def StrokeRoundsWrongFalsely : Prop := strokeRoundsRow.holds Try.pinned (OpenSpec.ofChange strokeRoundsWrong)

/-- 'oxgalllaw02.StrokeCounts': WHATEVER THE INPUT: true; the input reads as it did. -/
def strokeCountsSpec : ChangeSpec := { name := "strokeCounts", fn := fun _ => fun
  | [d1, d2] => { results := [.lit (.bool true)], args := [d1, d2] }
  | _ => none }
def strokeCountsRow : OpenClaim := { program := "ytjhfhdmdilmplaa", sum := "0a76a928f91a0f0c2cd9d9ae2a7a5deb96b542804eda9eacd770d3836bf7e134", func := "oxgall/oxgalllaw02.StrokeCounts", spec := "strokeCounts", inPlace := ["slices.overlaps[int]"], unfollowed := true, recurses := true, plainKeys := false, apart := false }
def StrokeCountsSaid : Prop := strokeCountsRow.holds Try.pinned (OpenSpec.ofChange strokeCountsSpec)

/-- ITS FALSE NEIGHBOUR: 'it returns false'. Refute it at one input. -/
def strokeCountsWrong : ChangeSpec := { name := "strokeCounts", fn := fun _ => fun
  | [d1, d2] => { results := [.lit (.bool false)], args := [d1, d2] }
  | _ => none }
def StrokeCountsWrongFalsely : Prop := strokeCountsRow.holds Try.pinned (OpenSpec.ofChange strokeCountsWrong)

/-- 'oxgalllaw02.StrokeWays': WHATEVER THE INPUT: true; the input reads as it did. -/
def strokeWaysSpec : ChangeSpec := { name := "strokeWays", fn := fun _ => fun
  | [d1, d2, d3] => { results := [.lit (.bool true)], args := [d1, d2, d3] }
  | _ => none }
def strokeWaysRow : OpenClaim := { program := "ytjhfhdmdilmplaa", sum := "0a76a928f91a0f0c2cd9d9ae2a7a5deb96b542804eda9eacd770d3836bf7e134", func := "oxgall/oxgalllaw02.StrokeWays", spec := "strokeWays", inPlace := ["slices.overlaps[int]"], unfollowed := true, recurses := true, plainKeys := false, apart := false }
def StrokeWaysSaid : Prop := strokeWaysRow.holds Try.pinned (OpenSpec.ofChange strokeWaysSpec)

/-- ITS FALSE NEIGHBOUR: 'it returns false'. Refute it at one input. -/
def strokeWaysWrong : ChangeSpec := { name := "strokeWays", fn := fun _ => fun
  | [d1, d2, d3] => { results := [.lit (.bool false)], args := [d1, d2, d3] }
  | _ => none }
def StrokeWaysWrongFalsely : Prop := strokeWaysRow.holds Try.pinned (OpenSpec.ofChange strokeWaysWrong)

/-- 'oxgalllaw02.StrokeExchanged': WHATEVER THE INPUT: true; the input reads as it did. -/
def strokeExchangedSpec : ChangeSpec := { name := "strokeExchanged", fn := fun _ => fun
  | [d1, d2, d3, d4, d5] => { results := [.lit (.bool true)], args := [d1, d2, d3, d4, d5] }
  | _ => none }
def strokeExchangedRow : OpenClaim := { program := "ytjhfhdmdilmplaa", sum := "0a76a928f91a0f0c2cd9d9ae2a7a5deb96b542804eda9eacd770d3836bf7e134", func := "oxgall/oxgalllaw02.StrokeExchanged", spec := "strokeExchanged", inPlace := ["slices.overlaps[int]"], unfollowed := true, recurses := true, plainKeys := false, apart := false }
def StrokeExchangedSaid : Prop := strokeExchangedRow.holds Try.pinned (OpenSpec.ofChange strokeExchangedSpec)

/-- ITS FALSE NEIGHBOUR: 'it returns false'. Refute it at one input. -/
def strokeExchangedWrong : ChangeSpec := { name := "strokeExchanged", fn := fun _ => fun
  | [d1, d2, d3, d4, d5] => { results := [.lit (.bool false)], args := [d1, d2, d3, d4, d5] }
  | _ => none }
def StrokeExchangedWrongFalsely : Prop := strokeExchangedRow.holds Try.pinned (OpenSpec.ofChange strokeExchangedWrong)

/-- 'oxgalllaw02.StrokeShortest': WHATEVER THE INPUT: true; the input reads as it did. -/
def strokeShortestSpec : ChangeSpec := { name := "strokeShortest", fn := fun _ => fun
  | [d1, d2, d3, d4] => { results := [.lit (.bool true)], args := [d1, d2, d3, d4] }
  | _ => none }
def strokeShortestRow : OpenClaim := { program := "ytjhfhdmdilmplaa", sum := "0a76a928f91a0f0c2cd9d9ae2a7a5deb96b542804eda9eacd770d3836bf7e134", func := "oxgall/oxgalllaw02.StrokeShortest", spec := "strokeShortest", inPlace := ["slices.overlaps[int]"], unfollowed := true, recurses := true, plainKeys := false, apart := false }
def StrokeShortestSaid : Prop := strokeShortestRow.holds Try.pinned (OpenSpec.ofChange strokeShortestSpec)

/-- ITS FALSE NEIGHBOUR: 'it returns false'. Refute it at one input. -/
def strokeShortestWrong : ChangeSpec := { name := "strokeShortest", fn := fun _ => fun
  | [d1, d2, d3, d4] => { results := [.lit (.bool false)], args := [d1, d2, d3, d4] }
  | _ => none }
def StrokeShortestWrongFalsely : Prop := strokeShortestRow.holds Try.pinned (OpenSpec.ofChange strokeShortestWrong)

/-- 'oxgalllaw02.StrokeBack': WHATEVER THE INPUT: true; the input reads as it did. -/
def strokeBackSpec : ChangeSpec := { name := "strokeBack", fn := fun _ => fun
  | [d1, d2, d3] => { results := [.lit (.bool true)], args := [d1, d2, d3] }
  | _ => none }
def strokeBackRow : OpenClaim := { program := "ytjhfhdmdilmplaa", sum := "0a76a928f91a0f0c2cd9d9ae2a7a5deb96b542804eda9eacd770d3836bf7e134", func := "oxgall/oxgalllaw02.StrokeBack", spec := "strokeBack", inPlace := ["slices.overlaps[int]"], unfollowed := true, recurses := true, plainKeys := false, apart := false }
def StrokeBackSaid : Prop := strokeBackRow.holds Try.pinned (OpenSpec.ofChange strokeBackSpec)

/-- ITS FALSE NEIGHBOUR: 'it returns false'. Refute it at one input. -/
def strokeBackWrong : ChangeSpec := { name := "strokeBack", fn := fun _ => fun
  | [d1, d2, d3] => { results := [.lit (.bool false)], args := [d1, d2, d3] }
  | _ => none }
def StrokeBackWrongFalsely : Prop := strokeBackRow.holds Try.pinned (OpenSpec.ofChange strokeBackWrong)

/-- 'oxgalllaw02.StrokeSeen': WHATEVER THE INPUT: true; the input reads as it did. -/
def strokeSeenSpec : ChangeSpec := { name := "strokeSeen", fn := fun _ => fun
  | [d1, d2, d3, d4] => { results := [.lit (.bool true)], args := [d1, d2, d3, d4] }
  | _ => none }
def strokeSeenRow : OpenClaim := { program := "ytjhfhdmdilmplaa", sum := "0a76a928f91a0f0c2cd9d9ae2a7a5deb96b542804eda9eacd770d3836bf7e134", func := "oxgall/oxgalllaw02.StrokeSeen", spec := "strokeSeen", inPlace := ["slices.overlaps[int]"], unfollowed := true, recurses := true, plainKeys := false, apart := false }
def StrokeSeenSaid : Prop := strokeSeenRow.holds Try.pinned (OpenSpec.ofChange strokeSeenSpec)

/-- ITS FALSE NEIGHBOUR: 'it returns false'. Refute it at one input. -/
def strokeSeenWrong : ChangeSpec := { name := "strokeSeen", fn := fun _ => fun
  | [d1, d2, d3, d4] => { results := [.lit (.bool false)], args := [d1, d2, d3, d4] }
  | _ => none }
def StrokeSeenWrongFalsely : Prop := strokeSeenRow.holds Try.pinned (OpenSpec.ofChange strokeSeenWrong)

/-- 'oxgalllaw02.StrokeRounded': WHATEVER THE INPUT: true; the input reads as it did. -/
def strokeRoundedSpec : ChangeSpec := { name := "strokeRounded", fn := fun _ => fun
  | [d1, d2, d3, d4] => { results := [.lit (.bool true)], args := [d1, d2, d3, d4] }
  | _ => none }
def strokeRoundedRow : OpenClaim := { program := "ytjhfhdmdilmplaa", sum := "0a76a928f91a0f0c2cd9d9ae2a7a5deb96b542804eda9eacd770d3836bf7e134", func := "oxgall/oxgalllaw02.StrokeRounded", spec := "strokeRounded", inPlace := ["slices.overlaps[int]"], unfollowed := true, recurses := true, plainKeys := false, apart := false }
def StrokeRoundedSaid : Prop := strokeRoundedRow.holds Try.pinned (OpenSpec.ofChange strokeRoundedSpec)

/-- ITS FALSE NEIGHBOUR: 'it returns false'. Refute it at one input. -/
def strokeRoundedWrong : ChangeSpec := { name := "strokeRounded", fn := fun _ => fun
  | [d1, d2, d3, d4] => { results := [.lit (.bool false)], args := [d1, d2, d3, d4] }
  | _ => none }
def StrokeRoundedWrongFalsely : Prop := strokeRoundedRow.holds Try.pinned (OpenSpec.ofChange strokeRoundedWrong)

/-- 'oxgalllaw02.StrokeFar': WHATEVER THE INPUT: true; the input reads as it did. -/
def strokeFarSpec : ChangeSpec := { name := "strokeFar", fn := fun _ => fun
  | [d1, d2, d3, d4, d5] => { results := [.lit (.bool true)], args := [d1, d2, d3, d4, d5] }
  | _ => none }
def strokeFarRow : OpenClaim := { program := "ytjhfhdmdilmplaa", sum := "0a76a928f91a0f0c2cd9d9ae2a7a5deb96b542804eda9eacd770d3836bf7e134", func := "oxgall/oxgalllaw02.StrokeFar", spec := "strokeFar", inPlace := ["slices.overlaps[int]"], unfollowed := true, recurses := true, plainKeys := false, apart := false }
def StrokeFarSaid : Prop := strokeFarRow.holds Try.pinned (OpenSpec.ofChange strokeFarSpec)

/-- ITS FALSE NEIGHBOUR: 'it returns false'. Refute it at one input. -/
def strokeFarWrong : ChangeSpec := { name := "strokeFar", fn := fun _ => fun
  | [d1, d2, d3, d4, d5] => { results := [.lit (.bool false)], args := [d1, d2, d3, d4, d5] }
  | _ => none }
def StrokeFarWrongFalsely : Prop := strokeFarRow.holds Try.pinned (OpenSpec.ofChange strokeFarWrong)

/-- 'oxgalllaw02.StrokeMeet': WHATEVER THE INPUT: true; the input reads as it did. -/
def strokeMeetSpec : ChangeSpec := { name := "strokeMeet", fn := fun _ => fun
  | [d1, d2, d3, d4] => { results := [.lit (.bool true)], args := [d1, d2, d3, d4] }
  | _ => none }
def strokeMeetRow : OpenClaim := { program := "ytjhfhdmdilmplaa", sum := "0a76a928f91a0f0c2cd9d9ae2a7a5deb96b542804eda9eacd770d3836bf7e134", func := "oxgall/oxgalllaw02.StrokeMeet", spec := "strokeMeet", inPlace := ["slices.overlaps[int]"], unfollowed := true, recurses := true, plainKeys := false, apart := false }
def StrokeMeetSaid : Prop := strokeMeetRow.holds Try.pinned (OpenSpec.ofChange strokeMeetSpec)

/-- ITS FALSE NEIGHBOUR: 'it returns false'. Refute it at one input. -/
def strokeMeetWrong : ChangeSpec := { name := "strokeMeet", fn := fun _ => fun
  | [d1, d2, d3, d4] => { results := [.lit (.bool false)], args := [d1, d2, d3, d4] }
  | _ => none }
def StrokeMeetWrongFalsely : Prop := strokeMeetRow.holds Try.pinned (OpenSpec.ofChange strokeMeetWrong)

/-- 'oxgalllaw02.StrokeCrossed': WHATEVER THE INPUT: true; the input reads as it did. -/
def strokeCrossedSpec : ChangeSpec := { name := "strokeCrossed", fn := fun _ => fun
  | [d1, d2, d3, d4, d5] => { results := [.lit (.bool true)], args := [d1, d2, d3, d4, d5] }
  | _ => none }
def strokeCrossedRow : OpenClaim := { program := "ytjhfhdmdilmplaa", sum := "0a76a928f91a0f0c2cd9d9ae2a7a5deb96b542804eda9eacd770d3836bf7e134", func := "oxgall/oxgalllaw02.StrokeCrossed", spec := "strokeCrossed", inPlace := ["slices.overlaps[int]"], unfollowed := true, recurses := true, plainKeys := false, apart := false }
def StrokeCrossedSaid : Prop := strokeCrossedRow.holds Try.pinned (OpenSpec.ofChange strokeCrossedSpec)

/-- ITS FALSE NEIGHBOUR: 'it returns false'. Refute it at one input. -/
def strokeCrossedWrong : ChangeSpec := { name := "strokeCrossed", fn := fun _ => fun
  | [d1, d2, d3, d4, d5] => { results := [.lit (.bool false)], args := [d1, d2, d3, d4, d5] }
  | _ => none }
def StrokeCrossedWrongFalsely : Prop := strokeCrossedRow.holds Try.pinned (OpenSpec.ofChange strokeCrossedWrong)

/-- 'oxgalllaw02.StrokeKnown': WHATEVER THE INPUT: true; the input reads as it did. -/
def strokeKnownSpec : ChangeSpec := { name := "strokeKnown", fn := fun _ => fun
  | [] => { results := [.lit (.bool true)], args := [] }
  | _ => none }
def strokeKnownRow : OpenClaim := { program := "ytjhfhdmdilmplaa", sum := "0a76a928f91a0f0c2cd9d9ae2a7a5deb96b542804eda9eacd770d3836bf7e134", func := "oxgall/oxgalllaw02.StrokeKnown", spec := "strokeKnown", inPlace := ["slices.overlaps[int]"], unfollowed := true, recurses := true, plainKeys := false, apart := false }
def StrokeKnownSaid : Prop := strokeKnownRow.holds Try.pinned (OpenSpec.ofChange strokeKnownSpec)

/-- ITS FALSE NEIGHBOUR: 'it returns false'. Refute it at one input. -/
def strokeKnownWrong : ChangeSpec := { name := "strokeKnown", fn := fun _ => fun
  | [] => { results := [.lit (.bool false)], args := [] }
  | _ => none }
def StrokeKnownWrongFalsely : Prop := strokeKnownRow.holds Try.pinned (OpenSpec.ofChange strokeKnownWrong)

/- THE SECOND FORM. 'bulk': how many values and letters a reading holds, each counted each time it is reached (what is shared counts as often as it is met; a slice's spare places count too). A statement '..UptoSaid' is the law's where the arguments, and the package variables that the reading takes, are together of bulk at most 1048576: NARROWER than '..Said'. Prove '..Said' where nothing that the law and all that it calls make is longer than what came in: it says more and counts as full. Else prove '..UptoSaid'. A law counts once. -/
mutual
def uptoBulk {H : Type} : DataW H → Nat
  | .lit (.string bytes) => bytes.length + 1
  | .lit _ => 1
  | .nil => 1
  | .ptr d => uptoBulk d + 1
  | .slice elems spare => uptoBulkAll elems + uptoBulkAll spare + 1
  | .agg parts => uptoBulkAll parts + 1
  | .iface _ d => uptoBulk d + 1
  | .map entries => uptoBulkEntries entries + 1
  | .held _ => 1
def uptoBulkAll {H : Type} : List (DataW H) → Nat
  | [] => 0
  | d :: r => uptoBulk d + uptoBulkAll r
def uptoBulkEntries {H : Type} : List (Lit × DataW H) → Nat
  | [] => 0
  | x :: r => uptoBulkEntry x + uptoBulkEntries r
def uptoBulkEntry {H : Type} : Lit × DataW H → Nat
  | (.string bytes, d) => bytes.length + uptoBulk d + 1
  | (_, d) => uptoBulk d + 1
 end
def uptoSmall : (H : Type) → List (DataW H) → Bool := fun _ ds => decide (uptoBulkAll ds ≤ 1048576)
def OpenSpec.upto (s : _root_.Go.ChangeSpec) : _root_.Go.OpenSpec := { _root_.Go.OpenSpec.ofChange s with cond := some uptoSmall }

/-- 'oxgalllaw02.StrokeBenches', WHERE WHAT IT READS IS OF BULK AT MOST 1048576: true; the input reads as it did. -/
def strokeBenchesUptoRow : OpenClaim := { program := "ytjhfhdmdilmplaa", sum := "0a76a928f91a0f0c2cd9d9ae2a7a5deb96b542804eda9eacd770d3836bf7e134", func := "oxgall/oxgalllaw02.StrokeBenches", spec := "strokeBenches", inPlace := ["slices.overlaps[int]"], unfollowed := true, recurses := true, plainKeys := false, apart := false, narrowed := true }
def StrokeBenchesUptoSaid : Prop := strokeBenchesUptoRow.holds Try.pinned (OpenSpec.upto strokeBenchesSpec)

/-- 'oxgalllaw02.StrokeShorts', WHERE WHAT IT READS IS OF BULK AT MOST 1048576: true; the input reads as it did. -/
def strokeShortsUptoRow : OpenClaim := { program := "ytjhfhdmdilmplaa", sum := "0a76a928f91a0f0c2cd9d9ae2a7a5deb96b542804eda9eacd770d3836bf7e134", func := "oxgall/oxgalllaw02.StrokeShorts", spec := "strokeShorts", inPlace := ["slices.overlaps[int]"], unfollowed := true, recurses := true, plainKeys := false, apart := false, narrowed := true }
def StrokeShortsUptoSaid : Prop := strokeShortsUptoRow.holds Try.pinned (OpenSpec.upto strokeShortsSpec)

/-- 'oxgalllaw02.StrokeChains', WHERE WHAT IT READS IS OF BULK AT MOST 1048576: true; the input reads as it did. -/
def strokeChainsUptoRow : OpenClaim := { program := "ytjhfhdmdilmplaa", sum := "0a76a928f91a0f0c2cd9d9ae2a7a5deb96b542804eda9eacd770d3836bf7e134", func := "oxgall/oxgalllaw02.StrokeChains", spec := "strokeChains", inPlace := ["slices.overlaps[int]"], unfollowed := true, recurses := true, plainKeys := false, apart := false, narrowed := true }
def StrokeChainsUptoSaid : Prop := strokeChainsUptoRow.holds Try.pinned (OpenSpec.upto strokeChainsSpec)

/-- 'oxgalllaw02.StrokeRounds', WHERE WHAT IT READS IS OF BULK AT MOST 1048576: true; the input reads as it did. -/
def strokeRoundsUptoRow : OpenClaim := { program := "ytjhfhdmdilmplaa", sum := "0a76a928f91a0f0c2cd9d9ae2a7a5deb96b542804eda9eacd770d3836bf7e134", func := "oxgall/oxgalllaw02.StrokeRounds", spec := "strokeRounds", inPlace := ["slices.overlaps[int]"], unfollowed := true, recurses := true, plainKeys := false, apart := false, narrowed := true }
def StrokeRoundsUptoSaid : Prop := strokeRoundsUptoRow.holds Try.pinned (OpenSpec.upto strokeRoundsSpec)

/-- 'oxgalllaw02.StrokeCounts', WHERE WHAT IT READS IS OF BULK AT MOST 1048576: true; the input reads as it did. -/
def strokeCountsUptoRow : OpenClaim := { program := "ytjhfhdmdilmplaa", sum := "0a76a928f91a0f0c2cd9d9ae2a7a5deb96b542804eda9eacd770d3836bf7e134", func := "oxgall/oxgalllaw02.StrokeCounts", spec := "strokeCounts", inPlace := ["slices.overlaps[int]"], unfollowed := true, recurses := true, plainKeys := false, apart := false, narrowed := true }
def StrokeCountsUptoSaid : Prop := strokeCountsUptoRow.holds Try.pinned (OpenSpec.upto strokeCountsSpec)

/-- 'oxgalllaw02.StrokeWays', WHERE WHAT IT READS IS OF BULK AT MOST 1048576: true; the input reads as it did. -/
def strokeWaysUptoRow : OpenClaim := { program := "ytjhfhdmdilmplaa", sum := "0a76a928f91a0f0c2cd9d9ae2a7a5deb96b542804eda9eacd770d3836bf7e134", func := "oxgall/oxgalllaw02.StrokeWays", spec := "strokeWays", inPlace := ["slices.overlaps[int]"], unfollowed := true, recurses := true, plainKeys := false, apart := false, narrowed := true }
def StrokeWaysUptoSaid : Prop := strokeWaysUptoRow.holds Try.pinned (OpenSpec.upto strokeWaysSpec)

/-- 'oxgalllaw02.StrokeExchanged', WHERE WHAT IT READS IS OF BULK AT MOST 1048576: true; the input reads as it did. -/
def strokeExchangedUptoRow : OpenClaim := { program := "ytjhfhdmdilmplaa", sum := "0a76a928f91a0f0c2cd9d9ae2a7a5deb96b542804eda9eacd770d3836bf7e134", func := "oxgall/oxgalllaw02.StrokeExchanged", spec := "strokeExchanged", inPlace := ["slices.overlaps[int]"], unfollowed := true, recurses := true, plainKeys := false, apart := false, narrowed := true }
def StrokeExchangedUptoSaid : Prop := strokeExchangedUptoRow.holds Try.pinned (OpenSpec.upto strokeExchangedSpec)

/-- 'oxgalllaw02.StrokeShortest', WHERE WHAT IT READS IS OF BULK AT MOST 1048576: true; the input reads as it did. -/
def strokeShortestUptoRow : OpenClaim := { program := "ytjhfhdmdilmplaa", sum := "0a76a928f91a0f0c2cd9d9ae2a7a5deb96b542804eda9eacd770d3836bf7e134", func := "oxgall/oxgalllaw02.StrokeShortest", spec := "strokeShortest", inPlace := ["slices.overlaps[int]"], unfollowed := true, recurses := true, plainKeys := false, apart := false, narrowed := true }
def StrokeShortestUptoSaid : Prop := strokeShortestUptoRow.holds Try.pinned (OpenSpec.upto strokeShortestSpec)

/-- 'oxgalllaw02.StrokeBack', WHERE WHAT IT READS IS OF BULK AT MOST 1048576: true; the input reads as it did. -/
def strokeBackUptoRow : OpenClaim := { program := "ytjhfhdmdilmplaa", sum := "0a76a928f91a0f0c2cd9d9ae2a7a5deb96b542804eda9eacd770d3836bf7e134", func := "oxgall/oxgalllaw02.StrokeBack", spec := "strokeBack", inPlace := ["slices.overlaps[int]"], unfollowed := true, recurses := true, plainKeys := false, apart := false, narrowed := true }
def StrokeBackUptoSaid : Prop := strokeBackUptoRow.holds Try.pinned (OpenSpec.upto strokeBackSpec)

/-- 'oxgalllaw02.StrokeSeen', WHERE WHAT IT READS IS OF BULK AT MOST 1048576: true; the input reads as it did. -/
def strokeSeenUptoRow : OpenClaim := { program := "ytjhfhdmdilmplaa", sum := "0a76a928f91a0f0c2cd9d9ae2a7a5deb96b542804eda9eacd770d3836bf7e134", func := "oxgall/oxgalllaw02.StrokeSeen", spec := "strokeSeen", inPlace := ["slices.overlaps[int]"], unfollowed := true, recurses := true, plainKeys := false, apart := false, narrowed := true }
def StrokeSeenUptoSaid : Prop := strokeSeenUptoRow.holds Try.pinned (OpenSpec.upto strokeSeenSpec)

/-- 'oxgalllaw02.StrokeRounded', WHERE WHAT IT READS IS OF BULK AT MOST 1048576: true; the input reads as it did. -/
def strokeRoundedUptoRow : OpenClaim := { program := "ytjhfhdmdilmplaa", sum := "0a76a928f91a0f0c2cd9d9ae2a7a5deb96b542804eda9eacd770d3836bf7e134", func := "oxgall/oxgalllaw02.StrokeRounded", spec := "strokeRounded", inPlace := ["slices.overlaps[int]"], unfollowed := true, recurses := true, plainKeys := false, apart := false, narrowed := true }
def StrokeRoundedUptoSaid : Prop := strokeRoundedUptoRow.holds Try.pinned (OpenSpec.upto strokeRoundedSpec)

/-- 'oxgalllaw02.StrokeFar', WHERE WHAT IT READS IS OF BULK AT MOST 1048576: true; the input reads as it did. -/
def strokeFarUptoRow : OpenClaim := { program := "ytjhfhdmdilmplaa", sum := "0a76a928f91a0f0c2cd9d9ae2a7a5deb96b542804eda9eacd770d3836bf7e134", func := "oxgall/oxgalllaw02.StrokeFar", spec := "strokeFar", inPlace := ["slices.overlaps[int]"], unfollowed := true, recurses := true, plainKeys := false, apart := false, narrowed := true }
def StrokeFarUptoSaid : Prop := strokeFarUptoRow.holds Try.pinned (OpenSpec.upto strokeFarSpec)

/-- 'oxgalllaw02.StrokeMeet', WHERE WHAT IT READS IS OF BULK AT MOST 1048576: true; the input reads as it did. -/
def strokeMeetUptoRow : OpenClaim := { program := "ytjhfhdmdilmplaa", sum := "0a76a928f91a0f0c2cd9d9ae2a7a5deb96b542804eda9eacd770d3836bf7e134", func := "oxgall/oxgalllaw02.StrokeMeet", spec := "strokeMeet", inPlace := ["slices.overlaps[int]"], unfollowed := true, recurses := true, plainKeys := false, apart := false, narrowed := true }
def StrokeMeetUptoSaid : Prop := strokeMeetUptoRow.holds Try.pinned (OpenSpec.upto strokeMeetSpec)

/-- 'oxgalllaw02.StrokeCrossed', WHERE WHAT IT READS IS OF BULK AT MOST 1048576: true; the input reads as it did. -/
def strokeCrossedUptoRow : OpenClaim := { program := "ytjhfhdmdilmplaa", sum := "0a76a928f91a0f0c2cd9d9ae2a7a5deb96b542804eda9eacd770d3836bf7e134", func := "oxgall/oxgalllaw02.StrokeCrossed", spec := "strokeCrossed", inPlace := ["slices.overlaps[int]"], unfollowed := true, recurses := true, plainKeys := false, apart := false, narrowed := true }
def StrokeCrossedUptoSaid : Prop := strokeCrossedUptoRow.holds Try.pinned (OpenSpec.upto strokeCrossedSpec)

/-- 'oxgalllaw02.StrokeKnown', WHERE WHAT IT READS IS OF BULK AT MOST 1048576: true; the input reads as it did. -/
def strokeKnownUptoRow : OpenClaim := { program := "ytjhfhdmdilmplaa", sum := "0a76a928f91a0f0c2cd9d9ae2a7a5deb96b542804eda9eacd770d3836bf7e134", func := "oxgall/oxgalllaw02.StrokeKnown", spec := "strokeKnown", inPlace := ["slices.overlaps[int]"], unfollowed := true, recurses := true, plainKeys := false, apart := false, narrowed := true }
def StrokeKnownUptoSaid : Prop := strokeKnownUptoRow.holds Try.pinned (OpenSpec.upto strokeKnownSpec)

end Rows
end Go.Proofs.Ytjhfhdmdilmplaa
