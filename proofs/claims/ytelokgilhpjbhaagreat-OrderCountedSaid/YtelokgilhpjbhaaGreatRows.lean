/-
  No cell of these rows narrows 'for every input' (looked for: loops, veiled, ifaces, maps, wideKeys, modest, calm, conditions, laid).
  DERIVED. THE GIVEN ROWS OF THIS SEAT. 10 by the template 'for every input the law returns true; each argument reads behind the call as it read before'; 0 by the template 'total and deterministic' (their statements: YtelokgilhpjbhaaGreatTotals.lean).
  GIVEN WITH THE SEED: the statements are not yours to turn. If you find one false, say at which input.
  Laid BY PROGRAM, IN A SANDBOX (cutbox-rows.mjs): the forced cells as the released guide's own fill.sh prints them over the translation 54eccd2fe6a12328… (all of the seat's roots in one cut). By AI agents, Wed Nov 11 2026. No macro, syntax, notation, axiom, sorry.
-/
import Derived.Test.YtelokgilhpjbhaaGreatChecked
import GoSem.Claim
import GoSem.ClaimJoined
import GoSem.ClaimMapViews
import Derived.JoinedTies
import Derived.KernelRfl
namespace Go.Proofs.YtelokgilhpjbhaaGreat
/- THE CELL 'sum', in the pinned program and in every row, IS THE sha256 OF THE DUMP (.gsa) THAT YtelokgilhpjbhaaGreatProg.lean LOADS. Nothing in Lean hashes anything: it is a label: what it is worth is what the hold of that sum in a sandbox is worth. -/
noncomputable def Tryz.pinned : Pinned := { name := "ytelokgilhpjbhaagreat", sum := "54eccd2fe6a123282b74194ff5bb044b7d2ed202994251d3adf88c77bcc1b95b", checked := Tryz.checked }
namespace Rows
def none {H : Type} : Left H := { results := [], args := [] }

/-- 'oxgalllaw11.OrderBenches': WHATEVER THE INPUT: true; the input reads as it did. -/
def orderBenchesSpec : ChangeSpec := { name := "orderBenches", fn := fun _ => fun
  | [d1, d2, d3, d4] => { results := [.lit (.bool true)], args := [d1, d2, d3, d4] }
  | _ => none }
def orderBenchesRow : OpenClaim := { program := "ytelokgilhpjbhaagreat", sum := "54eccd2fe6a123282b74194ff5bb044b7d2ed202994251d3adf88c77bcc1b95b", func := "oxgall/oxgalllaw11.OrderBenches", spec := "orderBenches", unfollowed := true, recurses := true, plainKeys := false, apart := false }
def OrderBenchesSaid : Prop := orderBenchesRow.holds Tryz.pinned (OpenSpec.ofChange orderBenchesSpec)

/-- ITS FALSE NEIGHBOUR: 'it returns false'. Refute it at one input. -/
def orderBenchesWrong : ChangeSpec := { name := "orderBenches", fn := fun _ => fun
  | [d1, d2, d3, d4] => { results := [.lit (.bool false)], args := [d1, d2, d3, d4] }
  | _ => none }
def OrderBenchesWrongFalsely : Prop := orderBenchesRow.holds Tryz.pinned (OpenSpec.ofChange orderBenchesWrong)

/-- 'oxgalllaw11.OrderBests': WHATEVER THE INPUT: true; the input reads as it did. -/
def orderBestsSpec : ChangeSpec := { name := "orderBests", fn := fun _ => fun
  | [d1, d2, d3, d4] => { results := [.lit (.bool true)], args := [d1, d2, d3, d4] }
  | _ => none }
def orderBestsRow : OpenClaim := { program := "ytelokgilhpjbhaagreat", sum := "54eccd2fe6a123282b74194ff5bb044b7d2ed202994251d3adf88c77bcc1b95b", func := "oxgall/oxgalllaw11.OrderBests", spec := "orderBests", unfollowed := true, recurses := true, plainKeys := false, apart := false }
def OrderBestsSaid : Prop := orderBestsRow.holds Tryz.pinned (OpenSpec.ofChange orderBestsSpec)

/-- ITS FALSE NEIGHBOUR: 'it returns false'. Refute it at one input. -/
def orderBestsWrong : ChangeSpec := { name := "orderBests", fn := fun _ => fun
  | [d1, d2, d3, d4] => { results := [.lit (.bool false)], args := [d1, d2, d3, d4] }
  | _ => none }
def OrderBestsWrongFalsely : Prop := orderBestsRow.holds Tryz.pinned (OpenSpec.ofChange orderBestsWrong)

/-- 'oxgalllaw11.OrderCloseds': WHATEVER THE INPUT: true; the input reads as it did. -/
def orderClosedsSpec : ChangeSpec := { name := "orderCloseds", fn := fun _ => fun
  | [d1, d2, d3, d4] => { results := [.lit (.bool true)], args := [d1, d2, d3, d4] }
  | _ => none }
def orderClosedsRow : OpenClaim := { program := "ytelokgilhpjbhaagreat", sum := "54eccd2fe6a123282b74194ff5bb044b7d2ed202994251d3adf88c77bcc1b95b", func := "oxgall/oxgalllaw11.OrderCloseds", spec := "orderCloseds", unfollowed := true, recurses := true, plainKeys := false, apart := false }
def OrderClosedsSaid : Prop := orderClosedsRow.holds Tryz.pinned (OpenSpec.ofChange orderClosedsSpec)

/-- ITS FALSE NEIGHBOUR: 'it returns false'. Refute it at one input. -/
def orderClosedsWrong : ChangeSpec := { name := "orderCloseds", fn := fun _ => fun
  | [d1, d2, d3, d4] => { results := [.lit (.bool false)], args := [d1, d2, d3, d4] }
  | _ => none }
def OrderClosedsWrongFalsely : Prop := orderClosedsRow.holds Tryz.pinned (OpenSpec.ofChange orderClosedsWrong)

/-- 'oxgalllaw11.OrderPairs': WHATEVER THE INPUT: true; the input reads as it did. -/
def orderPairsSpec : ChangeSpec := { name := "orderPairs", fn := fun _ => fun
  | [d1, d2, d3, d4, d5, d6] => { results := [.lit (.bool true)], args := [d1, d2, d3, d4, d5, d6] }
  | _ => none }
def orderPairsRow : OpenClaim := { program := "ytelokgilhpjbhaagreat", sum := "54eccd2fe6a123282b74194ff5bb044b7d2ed202994251d3adf88c77bcc1b95b", func := "oxgall/oxgalllaw11.OrderPairs", spec := "orderPairs", unfollowed := true, recurses := true, plainKeys := false, apart := false }
def OrderPairsSaid : Prop := orderPairsRow.holds Tryz.pinned (OpenSpec.ofChange orderPairsSpec)

/-- ITS FALSE NEIGHBOUR: 'it returns false'. Refute it at one input. -/
def orderPairsWrong : ChangeSpec := { name := "orderPairs", fn := fun _ => fun
  | [d1, d2, d3, d4, d5, d6] => { results := [.lit (.bool false)], args := [d1, d2, d3, d4, d5, d6] }
  | _ => none }
def OrderPairsWrongFalsely : Prop := orderPairsRow.holds Tryz.pinned (OpenSpec.ofChange orderPairsWrong)

/-- 'oxgalllaw11.OrderEither': WHATEVER THE INPUT: true; the input reads as it did. -/
def orderEitherSpec : ChangeSpec := { name := "orderEither", fn := fun _ => fun
  | [d1, d2, d3, d4, d5, d6] => { results := [.lit (.bool true)], args := [d1, d2, d3, d4, d5, d6] }
  | _ => none }
def orderEitherRow : OpenClaim := { program := "ytelokgilhpjbhaagreat", sum := "54eccd2fe6a123282b74194ff5bb044b7d2ed202994251d3adf88c77bcc1b95b", func := "oxgall/oxgalllaw11.OrderEither", spec := "orderEither", unfollowed := true, recurses := true, plainKeys := false, apart := false }
def OrderEitherSaid : Prop := orderEitherRow.holds Tryz.pinned (OpenSpec.ofChange orderEitherSpec)

/-- ITS FALSE NEIGHBOUR: 'it returns false'. Refute it at one input. -/
def orderEitherWrong : ChangeSpec := { name := "orderEither", fn := fun _ => fun
  | [d1, d2, d3, d4, d5, d6] => { results := [.lit (.bool false)], args := [d1, d2, d3, d4, d5, d6] }
  | _ => none }
def OrderEitherWrongFalsely : Prop := orderEitherRow.holds Tryz.pinned (OpenSpec.ofChange orderEitherWrong)

/-- 'oxgalllaw11.OrderBack': WHATEVER THE INPUT: true; the input reads as it did. -/
def orderBackSpec : ChangeSpec := { name := "orderBack", fn := fun _ => fun
  | [d1, d2, d3] => { results := [.lit (.bool true)], args := [d1, d2, d3] }
  | _ => none }
def orderBackRow : OpenClaim := { program := "ytelokgilhpjbhaagreat", sum := "54eccd2fe6a123282b74194ff5bb044b7d2ed202994251d3adf88c77bcc1b95b", func := "oxgall/oxgalllaw11.OrderBack", spec := "orderBack", unfollowed := true, recurses := true, plainKeys := false, apart := false }
def OrderBackSaid : Prop := orderBackRow.holds Tryz.pinned (OpenSpec.ofChange orderBackSpec)

/-- ITS FALSE NEIGHBOUR: 'it returns false'. Refute it at one input. -/
def orderBackWrong : ChangeSpec := { name := "orderBack", fn := fun _ => fun
  | [d1, d2, d3] => { results := [.lit (.bool false)], args := [d1, d2, d3] }
  | _ => none }
def OrderBackWrongFalsely : Prop := orderBackRow.holds Tryz.pinned (OpenSpec.ofChange orderBackWrong)

/-- 'oxgalllaw11.OrderJoint': WHATEVER THE INPUT: true; the input reads as it did. -/
def orderJointSpec : ChangeSpec := { name := "orderJoint", fn := fun _ => fun
  | [d1, d2, d3, d4] => { results := [.lit (.bool true)], args := [d1, d2, d3, d4] }
  | _ => none }
def orderJointRow : OpenClaim := { program := "ytelokgilhpjbhaagreat", sum := "54eccd2fe6a123282b74194ff5bb044b7d2ed202994251d3adf88c77bcc1b95b", func := "oxgall/oxgalllaw11.OrderJoint", spec := "orderJoint", unfollowed := true, recurses := true, plainKeys := false, apart := false }
def OrderJointSaid : Prop := orderJointRow.holds Tryz.pinned (OpenSpec.ofChange orderJointSpec)

/-- ITS FALSE NEIGHBOUR: 'it returns false'. Refute it at one input. -/
def orderJointWrong : ChangeSpec := { name := "orderJoint", fn := fun _ => fun
  | [d1, d2, d3, d4] => { results := [.lit (.bool false)], args := [d1, d2, d3, d4] }
  | _ => none }
def OrderJointWrongFalsely : Prop := orderJointRow.holds Tryz.pinned (OpenSpec.ofChange orderJointWrong)

/-- 'oxgalllaw11.OrderFar': WHATEVER THE INPUT: true; the input reads as it did. -/
def orderFarSpec : ChangeSpec := { name := "orderFar", fn := fun _ => fun
  | [d1, d2, d3, d4, d5, d6] => { results := [.lit (.bool true)], args := [d1, d2, d3, d4, d5, d6] }
  | _ => none }
def orderFarRow : OpenClaim := { program := "ytelokgilhpjbhaagreat", sum := "54eccd2fe6a123282b74194ff5bb044b7d2ed202994251d3adf88c77bcc1b95b", func := "oxgall/oxgalllaw11.OrderFar", spec := "orderFar", unfollowed := true, recurses := true, plainKeys := false, apart := false }
def OrderFarSaid : Prop := orderFarRow.holds Tryz.pinned (OpenSpec.ofChange orderFarSpec)

/-- ITS FALSE NEIGHBOUR: 'it returns false'. Refute it at one input. -/
def orderFarWrong : ChangeSpec := { name := "orderFar", fn := fun _ => fun
  | [d1, d2, d3, d4, d5, d6] => { results := [.lit (.bool false)], args := [d1, d2, d3, d4, d5, d6] }
  | _ => none }
def OrderFarWrongFalsely : Prop := orderFarRow.holds Tryz.pinned (OpenSpec.ofChange orderFarWrong)

/-- 'oxgalllaw11.OrderRecoloured': WHATEVER THE INPUT: true; the input reads as it did. -/
def orderRecolouredSpec : ChangeSpec := { name := "orderRecoloured", fn := fun _ => fun
  | [d1, d2, d3, d4, d5, d6, d7] => { results := [.lit (.bool true)], args := [d1, d2, d3, d4, d5, d6, d7] }
  | _ => none }
def orderRecolouredRow : OpenClaim := { program := "ytelokgilhpjbhaagreat", sum := "54eccd2fe6a123282b74194ff5bb044b7d2ed202994251d3adf88c77bcc1b95b", func := "oxgall/oxgalllaw11.OrderRecoloured", spec := "orderRecoloured", unfollowed := true, recurses := true, plainKeys := false, apart := false }
def OrderRecolouredSaid : Prop := orderRecolouredRow.holds Tryz.pinned (OpenSpec.ofChange orderRecolouredSpec)

/-- ITS FALSE NEIGHBOUR: 'it returns false'. Refute it at one input. -/
def orderRecolouredWrong : ChangeSpec := { name := "orderRecoloured", fn := fun _ => fun
  | [d1, d2, d3, d4, d5, d6, d7] => { results := [.lit (.bool false)], args := [d1, d2, d3, d4, d5, d6, d7] }
  | _ => none }
def OrderRecolouredWrongFalsely : Prop := orderRecolouredRow.holds Tryz.pinned (OpenSpec.ofChange orderRecolouredWrong)

/-- 'oxgalllaw11.OrderCounted': WHATEVER THE INPUT: true; the input reads as it did. -/
def orderCountedSpec : ChangeSpec := { name := "orderCounted", fn := fun _ => fun
  | [d1, d2, d3, d4] => { results := [.lit (.bool true)], args := [d1, d2, d3, d4] }
  | _ => none }
def orderCountedRow : OpenClaim := { program := "ytelokgilhpjbhaagreat", sum := "54eccd2fe6a123282b74194ff5bb044b7d2ed202994251d3adf88c77bcc1b95b", func := "oxgall/oxgalllaw11.OrderCounted", spec := "orderCounted", unfollowed := true, recurses := true, plainKeys := false, apart := false }
def OrderCountedSaid : Prop := orderCountedRow.holds Tryz.pinned (OpenSpec.ofChange orderCountedSpec)

/-- ITS FALSE NEIGHBOUR: 'it returns false'. Refute it at one input. -/
def orderCountedWrong : ChangeSpec := { name := "orderCounted", fn := fun _ => fun
  | [d1, d2, d3, d4] => { results := [.lit (.bool false)], args := [d1, d2, d3, d4] }
  | _ => none }
def OrderCountedWrongFalsely : Prop := orderCountedRow.holds Tryz.pinned (OpenSpec.ofChange orderCountedWrong)

/- THE SECOND FORM. 'bulk': how many values and letters a reading holds, each counted each time it is reached (what is shared counts as often as it is met; a slice's spare places count too). A statement '..UptoSaid' is the law's where the arguments, and the package variables that the reading takes, are together of bulk at most 1048576: NARROWER than '..Said'. Prove '..Said' where nothing that the law and all that it calls make is longer than what came in: it says more and counts as full. Else prove '..UptoSaid'. A law counts once. -/
mutual
def uptoBulk {H : Type} : DataW H → Nat
  | .lit (.string bytes) => bytes.length + 1
  | .lit _ => 1
  | .nil => 1
  | .ptr d => uptoBulk d + 1
  | .slice elems spare => uptoBulkAll elems + uptoBulkAll spare + 1
  | .agg parts => uptoBulkAll parts + 1
  | .iface _ d => uptoBulk d + 1
  | .map entries => uptoBulkEntries entries + 1
  | .held _ => 1
def uptoBulkAll {H : Type} : List (DataW H) → Nat
  | [] => 0
  | d :: r => uptoBulk d + uptoBulkAll r
def uptoBulkEntries {H : Type} : List (Lit × DataW H) → Nat
  | [] => 0
  | x :: r => uptoBulkEntry x + uptoBulkEntries r
def uptoBulkEntry {H : Type} : Lit × DataW H → Nat
  | (.string bytes, d) => bytes.length + uptoBulk d + 1
  | (_, d) => uptoBulk d + 1
 end
def uptoSmall : (H : Type) → List (DataW H) → Bool := fun _ ds => decide (uptoBulkAll ds ≤ 1048576)
def OpenSpec.upto (s : _root_.Go.ChangeSpec) : _root_.Go.OpenSpec := { _root_.Go.OpenSpec.ofChange s with cond := some uptoSmall }

/-- 'oxgalllaw11.OrderBenches', WHERE WHAT IT READS IS OF BULK AT MOST 1048576: true; the input reads as it did. -/
def orderBenchesUptoRow : OpenClaim := { program := "ytelokgilhpjbhaagreat", sum := "54eccd2fe6a123282b74194ff5bb044b7d2ed202994251d3adf88c77bcc1b95b", func := "oxgall/oxgalllaw11.OrderBenches", spec := "orderBenches", unfollowed := true, recurses := true, plainKeys := false, apart := false, narrowed := true }
def OrderBenchesUptoSaid : Prop := orderBenchesUptoRow.holds Tryz.pinned (OpenSpec.upto orderBenchesSpec)

/-- 'oxgalllaw11.OrderBests', WHERE WHAT IT READS IS OF BULK AT MOST 1048576: true; the input reads as it did. -/
def orderBestsUptoRow : OpenClaim := { program := "ytelokgilhpjbhaagreat", sum := "54eccd2fe6a123282b74194ff5bb044b7d2ed202994251d3adf88c77bcc1b95b", func := "oxgall/oxgalllaw11.OrderBests", spec := "orderBests", unfollowed := true, recurses := true, plainKeys := false, apart := false, narrowed := true }
def OrderBestsUptoSaid : Prop := orderBestsUptoRow.holds Tryz.pinned (OpenSpec.upto orderBestsSpec)

/-- 'oxgalllaw11.OrderCloseds', WHERE WHAT IT READS IS OF BULK AT MOST 1048576: true; the input reads as it did. -/
def orderClosedsUptoRow : OpenClaim := { program := "ytelokgilhpjbhaagreat", sum := "54eccd2fe6a123282b74194ff5bb044b7d2ed202994251d3adf88c77bcc1b95b", func := "oxgall/oxgalllaw11.OrderCloseds", spec := "orderCloseds", unfollowed := true, recurses := true, plainKeys := false, apart := false, narrowed := true }
def OrderClosedsUptoSaid : Prop := orderClosedsUptoRow.holds Tryz.pinned (OpenSpec.upto orderClosedsSpec)

/-- 'oxgalllaw11.OrderPairs', WHERE WHAT IT READS IS OF BULK AT MOST 1048576: true; the input reads as it did. -/
def orderPairsUptoRow : OpenClaim := { program := "ytelokgilhpjbhaagreat", sum := "54eccd2fe6a123282b74194ff5bb044b7d2ed202994251d3adf88c77bcc1b95b", func := "oxgall/oxgalllaw11.OrderPairs", spec := "orderPairs", unfollowed := true, recurses := true, plainKeys := false, apart := false, narrowed := true }
def OrderPairsUptoSaid : Prop := orderPairsUptoRow.holds Tryz.pinned (OpenSpec.upto orderPairsSpec)

/-- 'oxgalllaw11.OrderEither', WHERE WHAT IT READS IS OF BULK AT MOST 1048576: true; the input reads as it did. -/
def orderEitherUptoRow : OpenClaim := { program := "ytelokgilhpjbhaagreat", sum := "54eccd2fe6a123282b74194ff5bb044b7d2ed202994251d3adf88c77bcc1b95b", func := "oxgall/oxgalllaw11.OrderEither", spec := "orderEither", unfollowed := true, recurses := true, plainKeys := false, apart := false, narrowed := true }
def OrderEitherUptoSaid : Prop := orderEitherUptoRow.holds Tryz.pinned (OpenSpec.upto orderEitherSpec)

/-- 'oxgalllaw11.OrderBack', WHERE WHAT IT READS IS OF BULK AT MOST 1048576: true; the input reads as it did. -/
def orderBackUptoRow : OpenClaim := { program := "ytelokgilhpjbhaagreat", sum := "54eccd2fe6a123282b74194ff5bb044b7d2ed202994251d3adf88c77bcc1b95b", func := "oxgall/oxgalllaw11.OrderBack", spec := "orderBack", unfollowed := true, recurses := true, plainKeys := false, apart := false, narrowed := true }
def OrderBackUptoSaid : Prop := orderBackUptoRow.holds Tryz.pinned (OpenSpec.upto orderBackSpec)

/-- 'oxgalllaw11.OrderJoint', WHERE WHAT IT READS IS OF BULK AT MOST 1048576: true; the input reads as it did. -/
def orderJointUptoRow : OpenClaim := { program := "ytelokgilhpjbhaagreat", sum := "54eccd2fe6a123282b74194ff5bb044b7d2ed202994251d3adf88c77bcc1b95b", func := "oxgall/oxgalllaw11.OrderJoint", spec := "orderJoint", unfollowed := true, recurses := true, plainKeys := false, apart := false, narrowed := true }
def OrderJointUptoSaid : Prop := orderJointUptoRow.holds Tryz.pinned (OpenSpec.upto orderJointSpec)

/-- 'oxgalllaw11.OrderFar', WHERE WHAT IT READS IS OF BULK AT MOST 1048576: true; the input reads as it did. -/
def orderFarUptoRow : OpenClaim := { program := "ytelokgilhpjbhaagreat", sum := "54eccd2fe6a123282b74194ff5bb044b7d2ed202994251d3adf88c77bcc1b95b", func := "oxgall/oxgalllaw11.OrderFar", spec := "orderFar", unfollowed := true, recurses := true, plainKeys := false, apart := false, narrowed := true }
def OrderFarUptoSaid : Prop := orderFarUptoRow.holds Tryz.pinned (OpenSpec.upto orderFarSpec)

/-- 'oxgalllaw11.OrderRecoloured', WHERE WHAT IT READS IS OF BULK AT MOST 1048576: true; the input reads as it did. -/
def orderRecolouredUptoRow : OpenClaim := { program := "ytelokgilhpjbhaagreat", sum := "54eccd2fe6a123282b74194ff5bb044b7d2ed202994251d3adf88c77bcc1b95b", func := "oxgall/oxgalllaw11.OrderRecoloured", spec := "orderRecoloured", unfollowed := true, recurses := true, plainKeys := false, apart := false, narrowed := true }
def OrderRecolouredUptoSaid : Prop := orderRecolouredUptoRow.holds Tryz.pinned (OpenSpec.upto orderRecolouredSpec)

/-- 'oxgalllaw11.OrderCounted', WHERE WHAT IT READS IS OF BULK AT MOST 1048576: true; the input reads as it did. -/
def orderCountedUptoRow : OpenClaim := { program := "ytelokgilhpjbhaagreat", sum := "54eccd2fe6a123282b74194ff5bb044b7d2ed202994251d3adf88c77bcc1b95b", func := "oxgall/oxgalllaw11.OrderCounted", spec := "orderCounted", unfollowed := true, recurses := true, plainKeys := false, apart := false, narrowed := true }
def OrderCountedUptoSaid : Prop := orderCountedUptoRow.holds Tryz.pinned (OpenSpec.upto orderCountedSpec)

end Rows
end Go.Proofs.YtelokgilhpjbhaaGreat
