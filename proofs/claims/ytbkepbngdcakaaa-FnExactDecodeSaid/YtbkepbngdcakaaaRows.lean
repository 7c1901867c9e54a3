/-
  No cell of these rows narrows 'for every input' (looked for: loops, veiled, ifaces, maps, wideKeys, modest, calm, conditions, laid).
  DERIVED. THE GIVEN ROWS OF THIS SEAT. 17 by the template 'for every input the law returns true; each argument reads behind the call as it read before'; 0 by the template 'total and deterministic' (their statements: YtbkepbngdcakaaaTotals.lean).
  GIVEN WITH THE SEED: the statements are not yours to turn. If you find one false, say at which input.
  Laid BY PROGRAM, IN A SANDBOX (cutbox-rows.mjs): the forced cells as the released guide's own fill.sh prints them over the translation a92de160c171a913… (all of the seat's roots in one cut). By AI agents, Wed Nov 11 2026. No macro, syntax, notation, axiom, sorry.
-/
import Derived.Test.YtbkepbngdcakaaaChecked
import GoSem.Claim
import GoSem.ClaimJoined
import GoSem.ClaimMapViews
import Derived.JoinedTies
import Derived.KernelRfl
namespace Go.Proofs.Ytbkepbngdcakaaa
/- THE CELL 'sum', in the pinned program and in every row, IS THE sha256 OF THE DUMP (.gsa) THAT YtbkepbngdcakaaaProg.lean LOADS. Nothing in Lean hashes anything: it is a label: what it is worth is what the hold of that sum in a sandbox is worth. -/
noncomputable def Try.pinned : Pinned := { name := "ytbkepbngdcakaaa", sum := "a92de160c171a9135ef5970ce6b0e2e03ac20d51159afd922bbf5b6cea30836a", checked := Try.checked }
namespace Rows
def none {H : Type} : Left H := { results := [], args := [] }

/-- 'laws.FnExactDecode': WHATEVER THE INPUT: true; the input reads as it did. -/
def fnExactDecodeSpec : ChangeSpec := { name := "fnExactDecode", fn := fun _ => fun
  | [d] => { results := [.lit (.bool true)], args := [d] }
  | _ => none }
def fnExactDecodeRow : OpenClaim := { program := "ytbkepbngdcakaaa", sum := "a92de160c171a9135ef5970ce6b0e2e03ac20d51159afd922bbf5b6cea30836a", func := "loop.example/g00075/laws.FnExactDecode", spec := "fnExactDecode", apart := false }
def FnExactDecodeSaid : Prop := fnExactDecodeRow.holds Try.pinned (OpenSpec.ofChange fnExactDecodeSpec)

/-- ITS FALSE NEIGHBOUR: 'it returns false'. Refute it at one input. -/
def fnExactDecodeWrong : ChangeSpec := { name := "fnExactDecode", fn := fun _ => fun
  | [d] => { results := [.lit (.bool false)], args := [d] }
  | _ => none }
def FnExactDecodeWrongFalsely : Prop := fnExactDecodeRow.holds Try.pinned (OpenSpec.ofChange fnExactDecodeWrong)

/-- 'laws.FnShunt': WHATEVER THE INPUT: true; the input reads as it did. -/
def fnShuntSpec : ChangeSpec := { name := "fnShunt", fn := fun _ => fun
  | [d] => { results := [.lit (.bool true)], args := [d] }
  | _ => none }
def fnShuntRow : OpenClaim := { program := "ytbkepbngdcakaaa", sum := "a92de160c171a9135ef5970ce6b0e2e03ac20d51159afd922bbf5b6cea30836a", func := "loop.example/g00075/laws.FnShunt", spec := "fnShunt", apart := false }
def FnShuntSaid : Prop := fnShuntRow.holds Try.pinned (OpenSpec.ofChange fnShuntSpec)

/-- ITS FALSE NEIGHBOUR: 'it returns false'. Refute it at one input. -/
def fnShuntWrong : ChangeSpec := { name := "fnShunt", fn := fun _ => fun
  | [d] => { results := [.lit (.bool false)], args := [d] }
  | _ => none }
def FnShuntWrongFalsely : Prop := fnShuntRow.holds Try.pinned (OpenSpec.ofChange fnShuntWrong)

/-- 'laws.FnRoutes': WHATEVER THE INPUT: true; the input reads as it did. -/
def fnRoutesSpec : ChangeSpec := { name := "fnRoutes", fn := fun _ => fun
  | [d] => { results := [.lit (.bool true)], args := [d] }
  | _ => none }
def fnRoutesRow : OpenClaim := { program := "ytbkepbngdcakaaa", sum := "a92de160c171a9135ef5970ce6b0e2e03ac20d51159afd922bbf5b6cea30836a", func := "loop.example/g00075/laws.FnRoutes", spec := "fnRoutes", apart := false }
def FnRoutesSaid : Prop := fnRoutesRow.holds Try.pinned (OpenSpec.ofChange fnRoutesSpec)

/-- ITS FALSE NEIGHBOUR: 'it returns false'. Refute it at one input. -/
def fnRoutesWrong : ChangeSpec := { name := "fnRoutes", fn := fun _ => fun
  | [d] => { results := [.lit (.bool false)], args := [d] }
  | _ => none }
def FnRoutesWrongFalsely : Prop := fnRoutesRow.holds Try.pinned (OpenSpec.ofChange fnRoutesWrong)

/-- 'laws.FnExactRelieve': WHATEVER THE INPUT: true; the input reads as it did. -/
def fnExactRelieveSpec : ChangeSpec := { name := "fnExactRelieve", fn := fun _ => fun
  | [d1, d2, d3] => { results := [.lit (.bool true)], args := [d1, d2, d3] }
  | _ => none }
def fnExactRelieveRow : OpenClaim := { program := "ytbkepbngdcakaaa", sum := "a92de160c171a9135ef5970ce6b0e2e03ac20d51159afd922bbf5b6cea30836a", func := "loop.example/g00075/laws.FnExactRelieve", spec := "fnExactRelieve", apart := false }
def FnExactRelieveSaid : Prop := fnExactRelieveRow.holds Try.pinned (OpenSpec.ofChange fnExactRelieveSpec)

/-- ITS FALSE NEIGHBOUR: 'it returns false'. Refute it at one input. -/
def fnExactRelieveWrong : ChangeSpec := { name := "fnExactRelieve", fn := fun _ => fun
  | [d1, d2, d3] => { results := [.lit (.bool false)], args := [d1, d2, d3] }
  | _ => none }
def FnExactRelieveWrongFalsely : Prop := fnExactRelieveRow.holds Try.pinned (OpenSpec.ofChange fnExactRelieveWrong)

/-- 'laws.FnExactNewDesk': WHATEVER THE INPUT: true; the input reads as it did. -/
def fnExactNewDeskSpec : ChangeSpec := { name := "fnExactNewDesk", fn := fun _ => fun
  | [] => { results := [.lit (.bool true)], args := [] }
  | _ => none }
def fnExactNewDeskRow : OpenClaim := { program := "ytbkepbngdcakaaa", sum := "a92de160c171a9135ef5970ce6b0e2e03ac20d51159afd922bbf5b6cea30836a", func := "loop.example/g00075/laws.FnExactNewDesk", spec := "fnExactNewDesk", apart := false }
def FnExactNewDeskSaid : Prop := fnExactNewDeskRow.holds Try.pinned (OpenSpec.ofChange fnExactNewDeskSpec)

/-- ITS FALSE NEIGHBOUR: 'it returns false'. Refute it at one input. -/
def fnExactNewDeskWrong : ChangeSpec := { name := "fnExactNewDesk", fn := fun _ => fun
  | [] => { results := [.lit (.bool false)], args := [] }
  | _ => none }
def FnExactNewDeskWrongFalsely : Prop := fnExactNewDeskRow.holds Try.pinned (OpenSpec.ofChange fnExactNewDeskWrong)

/-- 'laws.FnExactDayOk': WHATEVER THE INPUT: true; the input reads as it did. -/
def fnExactDayOkSpec : ChangeSpec := { name := "fnExactDayOk", fn := fun _ => fun
  | [d1, d2, d3] => { results := [.lit (.bool true)], args := [d1, d2, d3] }
  | _ => none }
def fnExactDayOkRow : OpenClaim := { program := "ytbkepbngdcakaaa", sum := "a92de160c171a9135ef5970ce6b0e2e03ac20d51159afd922bbf5b6cea30836a", func := "loop.example/g00075/laws.FnExactDayOk", spec := "fnExactDayOk", unfollowed := true, recurses := true, apart := false }
def FnExactDayOkSaid : Prop := fnExactDayOkRow.holds Try.pinned (OpenSpec.ofChange fnExactDayOkSpec)

/-- ITS FALSE NEIGHBOUR: 'it returns false'. Refute it at one input. -/
def fnExactDayOkWrong : ChangeSpec := { name := "fnExactDayOk", fn := fun _ => fun
  | [d1, d2, d3] => { results := [.lit (.bool false)], args := [d1, d2, d3] }
  | _ => none }
def FnExactDayOkWrongFalsely : Prop := fnExactDayOkRow.holds Try.pinned (OpenSpec.ofChange fnExactDayOkWrong)

/-- 'laws.FnExactApart': WHATEVER THE INPUT: true; the input reads as it did. -/
def fnExactApartSpec : ChangeSpec := { name := "fnExactApart", fn := fun _ => fun
  | [d1, d2, d3] => { results := [.lit (.bool true)], args := [d1, d2, d3] }
  | _ => none }
def fnExactApartRow : OpenClaim := { program := "ytbkepbngdcakaaa", sum := "a92de160c171a9135ef5970ce6b0e2e03ac20d51159afd922bbf5b6cea30836a", func := "loop.example/g00075/laws.FnExactApart", spec := "fnExactApart", unfollowed := true, recurses := true, apart := false }
def FnExactApartSaid : Prop := fnExactApartRow.holds Try.pinned (OpenSpec.ofChange fnExactApartSpec)

/-- ITS FALSE NEIGHBOUR: 'it returns false'. Refute it at one input. -/
def fnExactApartWrong : ChangeSpec := { name := "fnExactApart", fn := fun _ => fun
  | [d1, d2, d3] => { results := [.lit (.bool false)], args := [d1, d2, d3] }
  | _ => none }
def FnExactApartWrongFalsely : Prop := fnExactApartRow.holds Try.pinned (OpenSpec.ofChange fnExactApartWrong)

/-- 'laws.FnDay': WHATEVER THE INPUT: true; the input reads as it did. -/
def fnDaySpec : ChangeSpec := { name := "fnDay", fn := fun _ => fun
  | [d] => { results := [.lit (.bool true)], args := [d] }
  | _ => none }
def fnDayRow : OpenClaim := { program := "ytbkepbngdcakaaa", sum := "a92de160c171a9135ef5970ce6b0e2e03ac20d51159afd922bbf5b6cea30836a", func := "loop.example/g00075/laws.FnDay", spec := "fnDay", unfollowed := true, recurses := true, apart := false }
def FnDaySaid : Prop := fnDayRow.holds Try.pinned (OpenSpec.ofChange fnDaySpec)

/-- ITS FALSE NEIGHBOUR: 'it returns false'. Refute it at one input. -/
def fnDayWrong : ChangeSpec := { name := "fnDay", fn := fun _ => fun
  | [d] => { results := [.lit (.bool false)], args := [d] }
  | _ => none }
def FnDayWrongFalsely : Prop := fnDayRow.holds Try.pinned (OpenSpec.ofChange fnDayWrong)

/-- 'laws.FnLocking': WHATEVER THE INPUT: true; the input reads as it did. -/
def fnLockingSpec : ChangeSpec := { name := "fnLocking", fn := fun _ => fun
  | [d] => { results := [.lit (.bool true)], args := [d] }
  | _ => none }
def fnLockingRow : OpenClaim := { program := "ytbkepbngdcakaaa", sum := "a92de160c171a9135ef5970ce6b0e2e03ac20d51159afd922bbf5b6cea30836a", func := "loop.example/g00075/laws.FnLocking", spec := "fnLocking", apart := false }
def FnLockingSaid : Prop := fnLockingRow.holds Try.pinned (OpenSpec.ofChange fnLockingSpec)

/-- ITS FALSE NEIGHBOUR: 'it returns false'. Refute it at one input. -/
def fnLockingWrong : ChangeSpec := { name := "fnLocking", fn := fun _ => fun
  | [d] => { results := [.lit (.bool false)], args := [d] }
  | _ => none }
def FnLockingWrongFalsely : Prop := fnLockingRow.holds Try.pinned (OpenSpec.ofChange fnLockingWrong)

/-- 'laws.FnOnEdges': WHATEVER THE INPUT: true; the input reads as it did. -/
def fnOnEdgesSpec : ChangeSpec := { name := "fnOnEdges", fn := fun _ => fun
  | [d] => { results := [.lit (.bool true)], args := [d] }
  | _ => none }
def fnOnEdgesRow : OpenClaim := { program := "ytbkepbngdcakaaa", sum := "a92de160c171a9135ef5970ce6b0e2e03ac20d51159afd922bbf5b6cea30836a", func := "loop.example/g00075/laws.FnOnEdges", spec := "fnOnEdges", unfollowed := true, recurses := true, apart := false }
def FnOnEdgesSaid : Prop := fnOnEdgesRow.holds Try.pinned (OpenSpec.ofChange fnOnEdgesSpec)

/-- ITS FALSE NEIGHBOUR: 'it returns false'. Refute it at one input. -/
def fnOnEdgesWrong : ChangeSpec := { name := "fnOnEdges", fn := fun _ => fun
  | [d] => { results := [.lit (.bool false)], args := [d] }
  | _ => none }
def FnOnEdgesWrongFalsely : Prop := fnOnEdgesRow.holds Try.pinned (OpenSpec.ofChange fnOnEdgesWrong)

/-- 'laws.FnExactWaited': WHATEVER THE INPUT: true; the input reads as it did. -/
def fnExactWaitedSpec : ChangeSpec := { name := "fnExactWaited", fn := fun _ => fun
  | [d1, d2, d3] => { results := [.lit (.bool true)], args := [d1, d2, d3] }
  | _ => none }
def fnExactWaitedRow : OpenClaim := { program := "ytbkepbngdcakaaa", sum := "a92de160c171a9135ef5970ce6b0e2e03ac20d51159afd922bbf5b6cea30836a", func := "loop.example/g00075/laws.FnExactWaited", spec := "fnExactWaited", unfollowed := true, recurses := true, apart := false }
def FnExactWaitedSaid : Prop := fnExactWaitedRow.holds Try.pinned (OpenSpec.ofChange fnExactWaitedSpec)

/-- ITS FALSE NEIGHBOUR: 'it returns false'. Refute it at one input. -/
def fnExactWaitedWrong : ChangeSpec := { name := "fnExactWaited", fn := fun _ => fun
  | [d1, d2, d3] => { results := [.lit (.bool false)], args := [d1, d2, d3] }
  | _ => none }
def FnExactWaitedWrongFalsely : Prop := fnExactWaitedRow.holds Try.pinned (OpenSpec.ofChange fnExactWaitedWrong)

/-- 'laws.FnExactPunctual': WHATEVER THE INPUT: true; the input reads as it did. -/
def fnExactPunctualSpec : ChangeSpec := { name := "fnExactPunctual", fn := fun _ => fun
  | [d1, d2, d3, d4] => { results := [.lit (.bool true)], args := [d1, d2, d3, d4] }
  | _ => none }
def fnExactPunctualRow : OpenClaim := { program := "ytbkepbngdcakaaa", sum := "a92de160c171a9135ef5970ce6b0e2e03ac20d51159afd922bbf5b6cea30836a", func := "loop.example/g00075/laws.FnExactPunctual", spec := "fnExactPunctual", unfollowed := true, recurses := true, apart := false }
def FnExactPunctualSaid : Prop := fnExactPunctualRow.holds Try.pinned (OpenSpec.ofChange fnExactPunctualSpec)

/-- ITS FALSE NEIGHBOUR: 'it returns false'. Refute it at one input. -/
def fnExactPunctualWrong : ChangeSpec := { name := "fnExactPunctual", fn := fun _ => fun
  | [d1, d2, d3, d4] => { results := [.lit (.bool false)], args := [d1, d2, d3, d4] }
  | _ => none }
def FnExactPunctualWrongFalsely : Prop := fnExactPunctualRow.holds Try.pinned (OpenSpec.ofChange fnExactPunctualWrong)

/-- 'laws.FnExactDeskOk': WHATEVER THE INPUT: true; the input reads as it did. -/
def fnExactDeskOkSpec : ChangeSpec := { name := "fnExactDeskOk", fn := fun _ => fun
  | [d] => { results := [.lit (.bool true)], args := [d] }
  | _ => none }
def fnExactDeskOkRow : OpenClaim := { program := "ytbkepbngdcakaaa", sum := "a92de160c171a9135ef5970ce6b0e2e03ac20d51159afd922bbf5b6cea30836a", func := "loop.example/g00075/laws.FnExactDeskOk", spec := "fnExactDeskOk", unfollowed := true, recurses := true, apart := false }
def FnExactDeskOkSaid : Prop := fnExactDeskOkRow.holds Try.pinned (OpenSpec.ofChange fnExactDeskOkSpec)

/-- ITS FALSE NEIGHBOUR: 'it returns false'. Refute it at one input. -/
def fnExactDeskOkWrong : ChangeSpec := { name := "fnExactDeskOk", fn := fun _ => fun
  | [d] => { results := [.lit (.bool false)], args := [d] }
  | _ => none }
def FnExactDeskOkWrongFalsely : Prop := fnExactDeskOkRow.holds Try.pinned (OpenSpec.ofChange fnExactDeskOkWrong)

/-- 'laws.FnExactLateAt': WHATEVER THE INPUT: true; the input reads as it did. -/
def fnExactLateAtSpec : ChangeSpec := { name := "fnExactLateAt", fn := fun _ => fun
  | [d1, d2, d3] => { results := [.lit (.bool true)], args := [d1, d2, d3] }
  | _ => none }
def fnExactLateAtRow : OpenClaim := { program := "ytbkepbngdcakaaa", sum := "a92de160c171a9135ef5970ce6b0e2e03ac20d51159afd922bbf5b6cea30836a", func := "loop.example/g00075/laws.FnExactLateAt", spec := "fnExactLateAt", unfollowed := true, recurses := true, apart := false }
def FnExactLateAtSaid : Prop := fnExactLateAtRow.holds Try.pinned (OpenSpec.ofChange fnExactLateAtSpec)

/-- ITS FALSE NEIGHBOUR: 'it returns false'. Refute it at one input. -/
def fnExactLateAtWrong : ChangeSpec := { name := "fnExactLateAt", fn := fun _ => fun
  | [d1, d2, d3] => { results := [.lit (.bool false)], args := [d1, d2, d3] }
  | _ => none }
def FnExactLateAtWrongFalsely : Prop := fnExactLateAtRow.holds Try.pinned (OpenSpec.ofChange fnExactLateAtWrong)

/-- 'laws.FnExactOnEdges': WHATEVER THE INPUT: true; the input reads as it did. -/
def fnExactOnEdgesSpec : ChangeSpec := { name := "fnExactOnEdges", fn := fun _ => fun
  | [d1, d2, d3, d4] => { results := [.lit (.bool true)], args := [d1, d2, d3, d4] }
  | _ => none }
def fnExactOnEdgesRow : OpenClaim := { program := "ytbkepbngdcakaaa", sum := "a92de160c171a9135ef5970ce6b0e2e03ac20d51159afd922bbf5b6cea30836a", func := "loop.example/g00075/laws.FnExactOnEdges", spec := "fnExactOnEdges", unfollowed := true, recurses := true, apart := false }
def FnExactOnEdgesSaid : Prop := fnExactOnEdgesRow.holds Try.pinned (OpenSpec.ofChange fnExactOnEdgesSpec)

/-- ITS FALSE NEIGHBOUR: 'it returns false'. Refute it at one input. -/
def fnExactOnEdgesWrong : ChangeSpec := { name := "fnExactOnEdges", fn := fun _ => fun
  | [d1, d2, d3, d4] => { results := [.lit (.bool false)], args := [d1, d2, d3, d4] }
  | _ => none }
def FnExactOnEdgesWrongFalsely : Prop := fnExactOnEdgesRow.holds Try.pinned (OpenSpec.ofChange fnExactOnEdgesWrong)

/-- 'laws.FnExactPlayDay': WHATEVER THE INPUT: true; the input reads as it did. -/
def fnExactPlayDaySpec : ChangeSpec := { name := "fnExactPlayDay", fn := fun _ => fun
  | [d1, d2, d3] => { results := [.lit (.bool true)], args := [d1, d2, d3] }
  | _ => none }
def fnExactPlayDayRow : OpenClaim := { program := "ytbkepbngdcakaaa", sum := "a92de160c171a9135ef5970ce6b0e2e03ac20d51159afd922bbf5b6cea30836a", func := "loop.example/g00075/laws.FnExactPlayDay", spec := "fnExactPlayDay", unfollowed := true, recurses := true, apart := false }
def FnExactPlayDaySaid : Prop := fnExactPlayDayRow.holds Try.pinned (OpenSpec.ofChange fnExactPlayDaySpec)

/-- ITS FALSE NEIGHBOUR: 'it returns false'. Refute it at one input. -/
def fnExactPlayDayWrong : ChangeSpec := { name := "fnExactPlayDay", fn := fun _ => fun
  | [d1, d2, d3] => { results := [.lit (.bool false)], args := [d1, d2, d3] }
  | _ => none }
def FnExactPlayDayWrongFalsely : Prop := fnExactPlayDayRow.holds Try.pinned (OpenSpec.ofChange fnExactPlayDayWrong)

/-- 'laws.FnExactPlanned': WHATEVER THE INPUT: true; the input reads as it did. -/
def fnExactPlannedSpec : ChangeSpec := { name := "fnExactPlanned", fn := fun _ => fun
  | [d1, d2] => { results := [.lit (.bool true)], args := [d1, d2] }
  | _ => none }
def fnExactPlannedRow : OpenClaim := { program := "ytbkepbngdcakaaa", sum := "a92de160c171a9135ef5970ce6b0e2e03ac20d51159afd922bbf5b6cea30836a", func := "loop.example/g00075/laws.FnExactPlanned", spec := "fnExactPlanned", unfollowed := true, recurses := true, apart := false }
def FnExactPlannedSaid : Prop := fnExactPlannedRow.holds Try.pinned (OpenSpec.ofChange fnExactPlannedSpec)

/-- ITS FALSE NEIGHBOUR: 'it returns false'. Refute it at one input. -/
def fnExactPlannedWrong : ChangeSpec := { name := "fnExactPlanned", fn := fun _ => fun
  | [d1, d2] => { results := [.lit (.bool false)], args := [d1, d2] }
  | _ => none }
def FnExactPlannedWrongFalsely : Prop := fnExactPlannedRow.holds Try.pinned (OpenSpec.ofChange fnExactPlannedWrong)

/- THE SECOND FORM. 'bulk': how many values and letters a reading holds, each counted each time it is reached (what is shared counts as often as it is met; a slice's spare places count too). A statement '..UptoSaid' is the law's where the arguments, and the package variables that the reading takes, are together of bulk at most 1048576: NARROWER than '..Said'. Prove '..Said' where nothing that the law and all that it calls make is longer than what came in: it says more and counts as full. Else prove '..UptoSaid'. A law counts once. -/
mutual
def uptoBulk {H : Type} : DataW H → Nat
  | .lit (.string bytes) => bytes.length + 1
  | .lit _ => 1
  | .nil => 1
  | .ptr d => uptoBulk d + 1
  | .slice elems spare => uptoBulkAll elems + uptoBulkAll spare + 1
  | .agg parts => uptoBulkAll parts + 1
  | .iface _ d => uptoBulk d + 1
  | .map entries => uptoBulkEntries entries + 1
  | .held _ => 1
def uptoBulkAll {H : Type} : List (DataW H) → Nat
  | [] => 0
  | d :: r => uptoBulk d + uptoBulkAll r
def uptoBulkEntries {H : Type} : List (Lit × DataW H) → Nat
  | [] => 0
  | x :: r => uptoBulkEntry x + uptoBulkEntries r
def uptoBulkEntry {H : Type} : Lit × DataW H → Nat
  | (.string bytes, d) => bytes.length + uptoBulk d + 1
  | (_, d) => uptoBulk d + 1
 end
def uptoSmall : (H : Type) → List (DataW H) → Bool := fun _ ds => decide (uptoBulkAll ds ≤ 1048576)
def OpenSpec.upto (s : _root_.Go.ChangeSpec) : _root_.Go.OpenSpec := { _root_.Go.OpenSpec.ofChange s with cond := some uptoSmall }

/-- 'laws.FnExactDecode', WHERE WHAT IT READS IS OF BULK AT MOST 1048576: true; the input reads as it did. -/
def fnExactDecodeUptoRow : OpenClaim := { program := "ytbkepbngdcakaaa", sum := "a92de160c171a9135ef5970ce6b0e2e03ac20d51159afd922bbf5b6cea30836a", func := "loop.example/g00075/laws.FnExactDecode", spec := "fnExactDecode", apart := false, narrowed := true }
def FnExactDecodeUptoSaid : Prop := fnExactDecodeUptoRow.holds Try.pinned (OpenSpec.upto fnExactDecodeSpec)

/-- 'laws.FnShunt', WHERE WHAT IT READS IS OF BULK AT MOST 1048576: true; the input reads as it did. -/
def fnShuntUptoRow : OpenClaim := { program := "ytbkepbngdcakaaa", sum := "a92de160c171a9135ef5970ce6b0e2e03ac20d51159afd922bbf5b6cea30836a", func := "loop.example/g00075/laws.FnShunt", spec := "fnShunt", apart := false, narrowed := true }
def FnShuntUptoSaid : Prop := fnShuntUptoRow.holds Try.pinned (OpenSpec.upto fnShuntSpec)

/-- 'laws.FnRoutes', WHERE WHAT IT READS IS OF BULK AT MOST 1048576: true; the input reads as it did. -/
def fnRoutesUptoRow : OpenClaim := { program := "ytbkepbngdcakaaa", sum := "a92de160c171a9135ef5970ce6b0e2e03ac20d51159afd922bbf5b6cea30836a", func := "loop.example/g00075/laws.FnRoutes", spec := "fnRoutes", apart := false, narrowed := true }
def FnRoutesUptoSaid : Prop := fnRoutesUptoRow.holds Try.pinned (OpenSpec.upto fnRoutesSpec)

/-- 'laws.FnExactRelieve', WHERE WHAT IT READS IS OF BULK AT MOST 1048576: true; the input reads as it did. -/
def fnExactRelieveUptoRow : OpenClaim := { program := "ytbkepbngdcakaaa", sum := "a92de160c171a9135ef5970ce6b0e2e03ac20d51159afd922bbf5b6cea30836a", func := "loop.example/g00075/laws.FnExactRelieve", spec := "fnExactRelieve", apart := false, narrowed := true }
def FnExactRelieveUptoSaid : Prop := fnExactRelieveUptoRow.holds Try.pinned (OpenSpec.upto fnExactRelieveSpec)

/-- 'laws.FnExactNewDesk', WHERE WHAT IT READS IS OF BULK AT MOST 1048576: true; the input reads as it did. -/
def fnExactNewDeskUptoRow : OpenClaim := { program := "ytbkepbngdcakaaa", sum := "a92de160c171a9135ef5970ce6b0e2e03ac20d51159afd922bbf5b6cea30836a", func := "loop.example/g00075/laws.FnExactNewDesk", spec := "fnExactNewDesk", apart := false, narrowed := true }
def FnExactNewDeskUptoSaid : Prop := fnExactNewDeskUptoRow.holds Try.pinned (OpenSpec.upto fnExactNewDeskSpec)

/-- 'laws.FnExactDayOk', WHERE WHAT IT READS IS OF BULK AT MOST 1048576: true; the input reads as it did. -/
def fnExactDayOkUptoRow : OpenClaim := { program := "ytbkepbngdcakaaa", sum := "a92de160c171a9135ef5970ce6b0e2e03ac20d51159afd922bbf5b6cea30836a", func := "loop.example/g00075/laws.FnExactDayOk", spec := "fnExactDayOk", unfollowed := true, recurses := true, apart := false, narrowed := true }
def FnExactDayOkUptoSaid : Prop := fnExactDayOkUptoRow.holds Try.pinned (OpenSpec.upto fnExactDayOkSpec)

/-- 'laws.FnExactApart', WHERE WHAT IT READS IS OF BULK AT MOST 1048576: true; the input reads as it did. -/
def fnExactApartUptoRow : OpenClaim := { program := "ytbkepbngdcakaaa", sum := "a92de160c171a9135ef5970ce6b0e2e03ac20d51159afd922bbf5b6cea30836a", func := "loop.example/g00075/laws.FnExactApart", spec := "fnExactApart", unfollowed := true, recurses := true, apart := false, narrowed := true }
def FnExactApartUptoSaid : Prop := fnExactApartUptoRow.holds Try.pinned (OpenSpec.upto fnExactApartSpec)

/-- 'laws.FnDay', WHERE WHAT IT READS IS OF BULK AT MOST 1048576: true; the input reads as it did. -/
def fnDayUptoRow : OpenClaim := { program := "ytbkepbngdcakaaa", sum := "a92de160c171a9135ef5970ce6b0e2e03ac20d51159afd922bbf5b6cea30836a", func := "loop.example/g00075/laws.FnDay", spec := "fnDay", unfollowed := true, recurses := true, apart := false, narrowed := true }
def FnDayUptoSaid : Prop := fnDayUptoRow.holds Try.pinned (OpenSpec.upto fnDaySpec)

/-- 'laws.FnLocking', WHERE WHAT IT READS IS OF BULK AT MOST 1048576: true; the input reads as it did. -/
def fnLockingUptoRow : OpenClaim := { program := "ytbkepbngdcakaaa", sum := "a92de160c171a9135ef5970ce6b0e2e03ac20d51159afd922bbf5b6cea30836a", func := "loop.example/g00075/laws.FnLocking", spec := "fnLocking", apart := false, narrowed := true }
def FnLockingUptoSaid : Prop := fnLockingUptoRow.holds Try.pinned (OpenSpec.upto fnLockingSpec)

/-- 'laws.FnOnEdges', WHERE WHAT IT READS IS OF BULK AT MOST 1048576: true; the input reads as it did. -/
def fnOnEdgesUptoRow : OpenClaim := { program := "ytbkepbngdcakaaa", sum := "a92de160c171a9135ef5970ce6b0e2e03ac20d51159afd922bbf5b6cea30836a", func := "loop.example/g00075/laws.FnOnEdges", spec := "fnOnEdges", unfollowed := true, recurses := true, apart := false, narrowed := true }
def FnOnEdgesUptoSaid : Prop := fnOnEdgesUptoRow.holds Try.pinned (OpenSpec.upto fnOnEdgesSpec)

/-- 'laws.FnExactWaited', WHERE WHAT IT READS IS OF BULK AT MOST 1048576: true; the input reads as it did. -/
def fnExactWaitedUptoRow : OpenClaim := { program := "ytbkepbngdcakaaa", sum := "a92de160c171a9135ef5970ce6b0e2e03ac20d51159afd922bbf5b6cea30836a", func := "loop.example/g00075/laws.FnExactWaited", spec := "fnExactWaited", unfollowed := true, recurses := true, apart := false, narrowed := true }
def FnExactWaitedUptoSaid : Prop := fnExactWaitedUptoRow.holds Try.pinned (OpenSpec.upto fnExactWaitedSpec)

/-- 'laws.FnExactPunctual', WHERE WHAT IT READS IS OF BULK AT MOST 1048576: true; the input reads as it did. -/
def fnExactPunctualUptoRow : OpenClaim := { program := "ytbkepbngdcakaaa", sum := "a92de160c171a9135ef5970ce6b0e2e03ac20d51159afd922bbf5b6cea30836a", func := "loop.example/g00075/laws.FnExactPunctual", spec := "fnExactPunctual", unfollowed := true, recurses := true, apart := false, narrowed := true }
def FnExactPunctualUptoSaid : Prop := fnExactPunctualUptoRow.holds Try.pinned (OpenSpec.upto fnExactPunctualSpec)

/-- 'laws.FnExactDeskOk', WHERE WHAT IT READS IS OF BULK AT MOST 1048576: true; the input reads as it did. -/
def fnExactDeskOkUptoRow : OpenClaim := { program := "ytbkepbngdcakaaa", sum := "a92de160c171a9135ef5970ce6b0e2e03ac20d51159afd922bbf5b6cea30836a", func := "loop.example/g00075/laws.FnExactDeskOk", spec := "fnExactDeskOk", unfollowed := true, recurses := true, apart := false, narrowed := true }
def FnExactDeskOkUptoSaid : Prop := fnExactDeskOkUptoRow.holds Try.pinned (OpenSpec.upto fnExactDeskOkSpec)

/-- 'laws.FnExactLateAt', WHERE WHAT IT READS IS OF BULK AT MOST 1048576: true; the input reads as it did. -/
def fnExactLateAtUptoRow : OpenClaim := { program := "ytbkepbngdcakaaa", sum := "a92de160c171a9135ef5970ce6b0e2e03ac20d51159afd922bbf5b6cea30836a", func := "loop.example/g00075/laws.FnExactLateAt", spec := "fnExactLateAt", unfollowed := true, recurses := true, apart := false, narrowed := true }
def FnExactLateAtUptoSaid : Prop := fnExactLateAtUptoRow.holds Try.pinned (OpenSpec.upto fnExactLateAtSpec)

/-- 'laws.FnExactOnEdges', WHERE WHAT IT READS IS OF BULK AT MOST 1048576: true; the input reads as it did. -/
def fnExactOnEdgesUptoRow : OpenClaim := { program := "ytbkepbngdcakaaa", sum := "a92de160c171a9135ef5970ce6b0e2e03ac20d51159afd922bbf5b6cea30836a", func := "loop.example/g00075/laws.FnExactOnEdges", spec := "fnExactOnEdges", unfollowed := true, recurses := true, apart := false, narrowed := true }
def FnExactOnEdgesUptoSaid : Prop := fnExactOnEdgesUptoRow.holds Try.pinned (OpenSpec.upto fnExactOnEdgesSpec)

/-- 'laws.FnExactPlayDay', WHERE WHAT IT READS IS OF BULK AT MOST 1048576: true; the input reads as it did. -/
def fnExactPlayDayUptoRow : OpenClaim := { program := "ytbkepbngdcakaaa", sum := "a92de160c171a9135ef5970ce6b0e2e03ac20d51159afd922bbf5b6cea30836a", func := "loop.example/g00075/laws.FnExactPlayDay", spec := "fnExactPlayDay", unfollowed := true, recurses := true, apart := false, narrowed := true }
def FnExactPlayDayUptoSaid : Prop := fnExactPlayDayUptoRow.holds Try.pinned (OpenSpec.upto fnExactPlayDaySpec)

/-- 'laws.FnExactPlanned', WHERE WHAT IT READS IS OF BULK AT MOST 1048576: true; the input reads as it did. -/
def fnExactPlannedUptoRow : OpenClaim := { program := "ytbkepbngdcakaaa", sum := "a92de160c171a9135ef5970ce6b0e2e03ac20d51159afd922bbf5b6cea30836a", func := "loop.example/g00075/laws.FnExactPlanned", spec := "fnExactPlanned", unfollowed := true, recurses := true, apart := false, narrowed := true }
def FnExactPlannedUptoSaid : Prop := fnExactPlannedUptoRow.holds Try.pinned (OpenSpec.upto fnExactPlannedSpec)

end Rows
end Go.Proofs.Ytbkepbngdcakaaa
