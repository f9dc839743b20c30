/-
  No cell of these rows narrows 'for every input' (looked for: loops, veiled, ifaces, maps, wideKeys, modest, calm, conditions, laid).
  DERIVED. THE GIVEN ROWS OF THIS SEAT. 5 by the template 'for every input the law returns true; each argument reads behind the call as it read before'; 0 by the template 'total and deterministic' (their statements: YtchammpamigonaaGreatTotals.lean).
  GIVEN WITH THE SEED: the statements are not yours to turn. If you find one false, say at which input.
  Laid BY PROGRAM, IN A SANDBOX (cutbox-rows.mjs): the forced cells as the released guide's own fill.sh prints them over the translation 840401a8071b3812… (all of the seat's roots in one cut). By AI agents, Wed Nov 11 2026. No macro, syntax, notation, axiom, sorry.
-/
import Derived.Test.YtchammpamigonaaGreatChecked
import GoSem.Claim
import GoSem.ClaimJoined
import GoSem.ClaimMapViews
import Derived.JoinedTies
import Derived.KernelRfl
namespace Go.Proofs.YtchammpamigonaaGreat
/- THE CELL 'sum', in the pinned program and in every row, IS THE sha256 OF THE DUMP (.gsa) THAT YtchammpamigonaaGreatProg.lean LOADS. Nothing in Lean hashes anything: it is a label: what it is worth is what the hold of that sum in a sandbox is worth. -/
noncomputable def Tryz.pinned : Pinned := { name := "ytchammpamigonaagreat", sum := "840401a8071b3812eb2dbabe771f361ce38bfe3563ab9196e732963cd072b3f7", checked := Tryz.checked }
namespace Rows
def none {H : Type} : Left H := { results := [], args := [] }

/-- 'shardloglaw25.ScrubPuts': WHATEVER THE INPUT: true; the input reads as it did. -/
def scrubPutsSpec : ChangeSpec := { name := "scrubPuts", fn := fun _ => fun
  | [d1, d2, d3, d4] => { results := [.lit (.bool true)], args := [d1, d2, d3, d4] }
  | _ => none }
def scrubPutsRow : OpenClaim := { program := "ytchammpamigonaagreat", sum := "840401a8071b3812eb2dbabe771f361ce38bfe3563ab9196e732963cd072b3f7", func := "shardlog/shardloglaw25.ScrubPuts", spec := "scrubPuts", unfollowed := true, recurses := true, apart := false }
def ScrubPutsSaid : Prop := scrubPutsRow.holds Tryz.pinned (OpenSpec.ofChange scrubPutsSpec)

/-- ITS FALSE NEIGHBOUR: 'it returns false'. Refute it at one input. -/
def scrubPutsWrong : ChangeSpec := { name := "scrubPuts", fn := fun _ => fun
  | [d1, d2, d3, d4] => { results := [.lit (.bool false)], args := [d1, d2, d3, d4] }
  | _ => none }
def ScrubPutsWrongFalsely : Prop := scrubPutsRow.holds Tryz.pinned (OpenSpec.ofChange scrubPutsWrong)

/-- 'shardloglaw25.ScrubNever': WHATEVER THE INPUT: true; the input reads as it did. -/
def scrubNeverSpec : ChangeSpec := { name := "scrubNever", fn := fun _ => fun
  | [d1, d2, d3, d4, d5] => { results := [.lit (.bool true)], args := [d1, d2, d3, d4, d5] }
  | _ => none }
def scrubNeverRow : OpenClaim := { program := "ytchammpamigonaagreat", sum := "840401a8071b3812eb2dbabe771f361ce38bfe3563ab9196e732963cd072b3f7", func := "shardlog/shardloglaw25.ScrubNever", spec := "scrubNever", unfollowed := true, recurses := true, apart := false }
def ScrubNeverSaid : Prop := scrubNeverRow.holds Tryz.pinned (OpenSpec.ofChange scrubNeverSpec)

/-- ITS FALSE NEIGHBOUR: 'it returns false'. Refute it at one input. -/
def scrubNeverWrong : ChangeSpec := { name := "scrubNever", fn := fun _ => fun
  | [d1, d2, d3, d4, d5] => { results := [.lit (.bool false)], args := [d1, d2, d3, d4, d5] }
  | _ => none }
def ScrubNeverWrongFalsely : Prop := scrubNeverRow.holds Tryz.pinned (OpenSpec.ofChange scrubNeverWrong)

/-- 'shardloglaw25.ScrubQuarantine': WHATEVER THE INPUT: true; the input reads as it did. -/
def scrubQuarantineSpec : ChangeSpec := { name := "scrubQuarantine", fn := fun _ => fun
  | [d1, d2, d3, d4] => { results := [.lit (.bool true)], args := [d1, d2, d3, d4] }
  | _ => none }
def scrubQuarantineRow : OpenClaim := { program := "ytchammpamigonaagreat", sum := "840401a8071b3812eb2dbabe771f361ce38bfe3563ab9196e732963cd072b3f7", func := "shardlog/shardloglaw25.ScrubQuarantine", spec := "scrubQuarantine", unfollowed := true, recurses := true, apart := false }
def ScrubQuarantineSaid : Prop := scrubQuarantineRow.holds Tryz.pinned (OpenSpec.ofChange scrubQuarantineSpec)

/-- ITS FALSE NEIGHBOUR: 'it returns false'. Refute it at one input. -/
def scrubQuarantineWrong : ChangeSpec := { name := "scrubQuarantine", fn := fun _ => fun
  | [d1, d2, d3, d4] => { results := [.lit (.bool false)], args := [d1, d2, d3, d4] }
  | _ => none }
def ScrubQuarantineWrongFalsely : Prop := scrubQuarantineRow.holds Tryz.pinned (OpenSpec.ofChange scrubQuarantineWrong)

/-- 'shardloglaw25.ScrubApart': WHATEVER THE INPUT: true; the input reads as it did. -/
def scrubApartSpec : ChangeSpec := { name := "scrubApart", fn := fun _ => fun
  | [d1, d2, d3, d4, d5] => { results := [.lit (.bool true)], args := [d1, d2, d3, d4, d5] }
  | _ => none }
def scrubApartRow : OpenClaim := { program := "ytchammpamigonaagreat", sum := "840401a8071b3812eb2dbabe771f361ce38bfe3563ab9196e732963cd072b3f7", func := "shardlog/shardloglaw25.ScrubApart", spec := "scrubApart", unfollowed := true, recurses := true, apart := false }
def ScrubApartSaid : Prop := scrubApartRow.holds Tryz.pinned (OpenSpec.ofChange scrubApartSpec)

/-- ITS FALSE NEIGHBOUR: 'it returns false'. Refute it at one input. -/
def scrubApartWrong : ChangeSpec := { name := "scrubApart", fn := fun _ => fun
  | [d1, d2, d3, d4, d5] => { results := [.lit (.bool false)], args := [d1, d2, d3, d4, d5] }
  | _ => none }
def ScrubApartWrongFalsely : Prop := scrubApartRow.holds Tryz.pinned (OpenSpec.ofChange scrubApartWrong)

/-- 'shardloglaw25.ScrubRepairs': WHATEVER THE INPUT: true; the input reads as it did. -/
def scrubRepairsSpec : ChangeSpec := { name := "scrubRepairs", fn := fun _ => fun
  | [d1, d2, d3, d4, d5] => { results := [.lit (.bool true)], args := [d1, d2, d3, d4, d5] }
  | _ => none }
def scrubRepairsRow : OpenClaim := { program := "ytchammpamigonaagreat", sum := "840401a8071b3812eb2dbabe771f361ce38bfe3563ab9196e732963cd072b3f7", func := "shardlog/shardloglaw25.ScrubRepairs", spec := "scrubRepairs", unfollowed := true, recurses := true, apart := false }
def ScrubRepairsSaid : Prop := scrubRepairsRow.holds Tryz.pinned (OpenSpec.ofChange scrubRepairsSpec)

/-- ITS FALSE NEIGHBOUR: 'it returns false'. Refute it at one input. -/
def scrubRepairsWrong : ChangeSpec := { name := "scrubRepairs", fn := fun _ => fun
  | [d1, d2, d3, d4, d5] => { results := [.lit (.bool false)], args := [d1, d2, d3, d4, d5] }
  | _ => none }
def ScrubRepairsWrongFalsely : Prop := scrubRepairsRow.holds Tryz.pinned (OpenSpec.ofChange scrubRepairsWrong)

/- THE SECOND FORM. 'bulk': how many values and letters a reading holds, each counted each time it is reached (what is shared counts as often as it is met; a slice's spare places count too). A statement '..UptoSaid' is the law's where the arguments, and the package variables that the reading takes, are together of bulk at most 1048576: NARROWER than '..Said'. Prove '..Said' where nothing that the law and all that it calls make is longer than what came in: it says more and counts as full. Else prove '..UptoSaid'. A law counts once. -/
mutual
def uptoBulk {H : Type} : DataW H → Nat
  | .lit (.string bytes) => bytes.length + 1
  | .lit _ => 1
  | .nil => 1
  | .ptr d => uptoBulk d + 1
  | .slice elems spare => uptoBulkAll elems + uptoBulkAll spare + 1
  | .agg parts => uptoBulkAll parts + 1
  | .iface _ d => uptoBulk d + 1
  | .map entries => uptoBulkEntries entries + 1
  | .held _ => 1
def uptoBulkAll {H : Type} : List (DataW H) → Nat
  | [] => 0
  | d :: r => uptoBulk d + uptoBulkAll r
def uptoBulkEntries {H : Type} : List (Lit × DataW H) → Nat
  | [] => 0
  | x :: r => uptoBulkEntry x + uptoBulkEntries r
def uptoBulkEntry {H : Type} : Lit × DataW H → Nat
  | (.string bytes, d) => bytes.length + uptoBulk d + 1
  | (_, d) => uptoBulk d + 1
 end
def uptoSmall : (H : Type) → List (DataW H) → Bool := fun _ ds => decide (uptoBulkAll ds ≤ 1048576)
def OpenSpec.upto (s : _root_.Go.ChangeSpec) : _root_.Go.OpenSpec := { _root_.Go.OpenSpec.ofChange s with cond := some uptoSmall }

/-- 'shardloglaw25.ScrubPuts', WHERE WHAT IT READS IS OF BULK AT MOST 1048576: true; the input reads as it did. -/
def scrubPutsUptoRow : OpenClaim := { program := "ytchammpamigonaagreat", sum := "840401a8071b3812eb2dbabe771f361ce38bfe3563ab9196e732963cd072b3f7", func := "shardlog/shardloglaw25.ScrubPuts", spec := "scrubPuts", unfollowed := true, recurses := true, apart := false, narrowed := true }
def ScrubPutsUptoSaid : Prop := scrubPutsUptoRow.holds Tryz.pinned (OpenSpec.upto scrubPutsSpec)

/-- 'shardloglaw25.ScrubNever', WHERE WHAT IT READS IS OF BULK AT MOST 1048576: true; the input reads as it did. -/
def scrubNeverUptoRow : OpenClaim := { program := "ytchammpamigonaagreat", sum := "840401a8071b3812eb2dbabe771f361ce38bfe3563ab9196e732963cd072b3f7", func := "shardlog/shardloglaw25.ScrubNever", spec := "scrubNever", unfollowed := true, recurses := true, apart := false, narrowed := true }
def ScrubNeverUptoSaid : Prop := scrubNeverUptoRow.holds Tryz.pinned (OpenSpec.upto scrubNeverSpec)

/-- 'shardloglaw25.ScrubQuarantine', WHERE WHAT IT READS IS OF BULK AT MOST 1048576: true; the input reads as it did. -/
def scrubQuarantineUptoRow : OpenClaim := { program := "ytchammpamigonaagreat", sum := "840401a8071b3812eb2dbabe771f361ce38bfe3563ab9196e732963cd072b3f7", func := "shardlog/shardloglaw25.ScrubQuarantine", spec := "scrubQuarantine", unfollowed := true, recurses := true, apart := false, narrowed := true }
def ScrubQuarantineUptoSaid : Prop := scrubQuarantineUptoRow.holds Tryz.pinned (OpenSpec.upto scrubQuarantineSpec)

/-- 'shardloglaw25.ScrubApart', WHERE WHAT IT READS IS OF BULK AT MOST 1048576: true; the input reads as it did. -/
def scrubApartUptoRow : OpenClaim := { program := "ytchammpamigonaagreat", sum := "840401a8071b3812eb2dbabe771f361ce38bfe3563ab9196e732963cd072b3f7", func := "shardlog/shardloglaw25.ScrubApart", spec := "scrubApart", unfollowed := true, recurses := true, apart := false, narrowed := true }
def ScrubApartUptoSaid : Prop := scrubApartUptoRow.holds Tryz.pinned (OpenSpec.upto scrubApartSpec)

/-- 'shardloglaw25.ScrubRepairs', WHERE WHAT IT READS IS OF BULK AT MOST 1048576: true; the input reads as it did. -/
def scrubRepairsUptoRow : OpenClaim := { program := "ytchammpamigonaagreat", sum := "840401a8071b3812eb2dbabe771f361ce38bfe3563ab9196e732963cd072b3f7", func := "shardlog/shardloglaw25.ScrubRepairs", spec := "scrubRepairs", unfollowed := true, recurses := true, apart := false, narrowed := true }
def ScrubRepairsUptoSaid : Prop := scrubRepairsUptoRow.holds Tryz.pinned (OpenSpec.upto scrubRepairsSpec)

end Rows
end Go.Proofs.YtchammpamigonaaGreat
