/-
  No cell of these rows narrows 'for every input' (looked for: loops, veiled, ifaces, maps, wideKeys, modest, calm, conditions, laid).
  DERIVED. THE GIVEN ROWS OF THIS SEAT. 8 by the template 'for every input the law returns true; each argument reads behind the call as it read before'; 0 by the template 'total and deterministic' (their statements: YtpggmokeohleiaaTotals.lean).
  GIVEN WITH THE SEED: the statements are not yours to turn. If you find one false, say at which input.
  Laid BY PROGRAM, IN A SANDBOX (cutbox-rows.mjs): the forced cells as the released guide's own fill.sh prints them over the translation 8f7a53b6aaf23023… (all of the seat's roots in one cut). By AI agents, Wed Nov 11 2026. No macro, syntax, notation, axiom, sorry.
-/
import Derived.Test.YtpggmokeohleiaaChecked
import GoSem.Claim
import GoSem.ClaimJoined
import GoSem.ClaimMapViews
import Derived.JoinedTies
import Derived.KernelRfl
namespace Go.Proofs.Ytpggmokeohleiaa
/- THE CELL 'sum', in the pinned program and in every row, IS THE sha256 OF THE DUMP (.gsa) THAT YtpggmokeohleiaaProg.lean LOADS. Nothing in Lean hashes anything: it is a label: what it is worth is what the hold of that sum in a sandbox is worth. -/
noncomputable def Try.pinned : Pinned := { name := "ytpggmokeohleiaa", sum := "8f7a53b6aaf23023f270a2374ba3d83c291a6d12c8735a858b5e2de23a8b2a0d", checked := Try.checked }
namespace Rows
def none {H : Type} : Left H := { results := [], args := [] }

/-- 'laws.FnTreeRead': WHATEVER THE INPUT: true; the input reads as it did. -/
def fnTreeReadSpec : ChangeSpec := { name := "fnTreeRead", fn := fun _ => fun
  | [d] => { results := [.lit (.bool true)], args := [d] }
  | _ => none }
def fnTreeReadRow : OpenClaim := { program := "ytpggmokeohleiaa", sum := "8f7a53b6aaf23023f270a2374ba3d83c291a6d12c8735a858b5e2de23a8b2a0d", func := "loop.example/g00114/laws.FnTreeRead", spec := "fnTreeRead", recurses := true, apart := false }
def FnTreeReadSaid : Prop := fnTreeReadRow.holds Try.pinned (OpenSpec.ofChange fnTreeReadSpec)

/-- ITS FALSE NEIGHBOUR: 'it returns false'. Refute it at one input. -/
def fnTreeReadWrong : ChangeSpec := { name := "fnTreeRead", fn := fun _ => fun
  | [d] => { results := [.lit (.bool false)], args := [d] }
  | _ => none }
def FnTreeReadWrongFalsely : Prop := fnTreeReadRow.holds Try.pinned (OpenSpec.ofChange fnTreeReadWrong)

/-- 'laws.FnPreds': WHATEVER THE INPUT: true; the input reads as it did. -/
def fnPredsSpec : ChangeSpec := { name := "fnPreds", fn := fun _ => fun
  | [d] => { results := [.lit (.bool true)], args := [d] }
  | _ => none }
def fnPredsRow : OpenClaim := { program := "ytpggmokeohleiaa", sum := "8f7a53b6aaf23023f270a2374ba3d83c291a6d12c8735a858b5e2de23a8b2a0d", func := "loop.example/g00114/laws.FnPreds", spec := "fnPreds", unfollowed := true, recurses := true, apart := false }
def FnPredsSaid : Prop := fnPredsRow.holds Try.pinned (OpenSpec.ofChange fnPredsSpec)

/-- ITS FALSE NEIGHBOUR: 'it returns false'. Refute it at one input. -/
def fnPredsWrong : ChangeSpec := { name := "fnPreds", fn := fun _ => fun
  | [d] => { results := [.lit (.bool false)], args := [d] }
  | _ => none }
def FnPredsWrongFalsely : Prop := fnPredsRow.holds Try.pinned (OpenSpec.ofChange fnPredsWrong)

/-- 'laws.FnExactEncRead': WHATEVER THE INPUT: true; the input reads as it did. -/
def fnExactEncReadSpec : ChangeSpec := { name := "fnExactEncRead", fn := fun _ => fun
  | [d1, d2, d3, d4, d5] => { results := [.lit (.bool true)], args := [d1, d2, d3, d4, d5] }
  | _ => none }
def fnExactEncReadRow : OpenClaim := { program := "ytpggmokeohleiaa", sum := "8f7a53b6aaf23023f270a2374ba3d83c291a6d12c8735a858b5e2de23a8b2a0d", func := "loop.example/g00114/laws.FnExactEncRead", spec := "fnExactEncRead", apart := false }
def FnExactEncReadSaid : Prop := fnExactEncReadRow.holds Try.pinned (OpenSpec.ofChange fnExactEncReadSpec)

/-- ITS FALSE NEIGHBOUR: 'it returns false'. Refute it at one input. -/
def fnExactEncReadWrong : ChangeSpec := { name := "fnExactEncRead", fn := fun _ => fun
  | [d1, d2, d3, d4, d5] => { results := [.lit (.bool false)], args := [d1, d2, d3, d4, d5] }
  | _ => none }
def FnExactEncReadWrongFalsely : Prop := fnExactEncReadRow.holds Try.pinned (OpenSpec.ofChange fnExactEncReadWrong)

/-- 'laws.FnAssemble': WHATEVER THE INPUT: true; the input reads as it did. -/
def fnAssembleSpec : ChangeSpec := { name := "fnAssemble", fn := fun _ => fun
  | [d] => { results := [.lit (.bool true)], args := [d] }
  | _ => none }
def fnAssembleRow : OpenClaim := { program := "ytpggmokeohleiaa", sum := "8f7a53b6aaf23023f270a2374ba3d83c291a6d12c8735a858b5e2de23a8b2a0d", func := "loop.example/g00114/laws.FnAssemble", spec := "fnAssemble", unfollowed := true, recurses := true, apart := false }
def FnAssembleSaid : Prop := fnAssembleRow.holds Try.pinned (OpenSpec.ofChange fnAssembleSpec)

/-- ITS FALSE NEIGHBOUR: 'it returns false'. Refute it at one input. -/
def fnAssembleWrong : ChangeSpec := { name := "fnAssemble", fn := fun _ => fun
  | [d] => { results := [.lit (.bool false)], args := [d] }
  | _ => none }
def FnAssembleWrongFalsely : Prop := fnAssembleRow.holds Try.pinned (OpenSpec.ofChange fnAssembleWrong)

/-- 'laws.FnMay': WHATEVER THE INPUT: true; the input reads as it did. -/
def fnMaySpec : ChangeSpec := { name := "fnMay", fn := fun _ => fun
  | [d] => { results := [.lit (.bool true)], args := [d] }
  | _ => none }
def fnMayRow : OpenClaim := { program := "ytpggmokeohleiaa", sum := "8f7a53b6aaf23023f270a2374ba3d83c291a6d12c8735a858b5e2de23a8b2a0d", func := "loop.example/g00114/laws.FnMay", spec := "fnMay", unfollowed := true, recurses := true, apart := false }
def FnMaySaid : Prop := fnMayRow.holds Try.pinned (OpenSpec.ofChange fnMaySpec)

/-- ITS FALSE NEIGHBOUR: 'it returns false'. Refute it at one input. -/
def fnMayWrong : ChangeSpec := { name := "fnMay", fn := fun _ => fun
  | [d] => { results := [.lit (.bool false)], args := [d] }
  | _ => none }
def FnMayWrongFalsely : Prop := fnMayRow.holds Try.pinned (OpenSpec.ofChange fnMayWrong)

/-- 'laws.FnExactMetaFrom': WHATEVER THE INPUT: true; the input reads as it did. -/
def fnExactMetaFromSpec : ChangeSpec := { name := "fnExactMetaFrom", fn := fun _ => fun
  | [d] => { results := [.lit (.bool true)], args := [d] }
  | _ => none }
def fnExactMetaFromRow : OpenClaim := { program := "ytpggmokeohleiaa", sum := "8f7a53b6aaf23023f270a2374ba3d83c291a6d12c8735a858b5e2de23a8b2a0d", func := "loop.example/g00114/laws.FnExactMetaFrom", spec := "fnExactMetaFrom", recurses := true, apart := false }
def FnExactMetaFromSaid : Prop := fnExactMetaFromRow.holds Try.pinned (OpenSpec.ofChange fnExactMetaFromSpec)

/-- ITS FALSE NEIGHBOUR: 'it returns false'. Refute it at one input. -/
def fnExactMetaFromWrong : ChangeSpec := { name := "fnExactMetaFrom", fn := fun _ => fun
  | [d] => { results := [.lit (.bool false)], args := [d] }
  | _ => none }
def FnExactMetaFromWrongFalsely : Prop := fnExactMetaFromRow.holds Try.pinned (OpenSpec.ofChange fnExactMetaFromWrong)

/-- 'laws.FnMetaFrom': WHATEVER THE INPUT: true; the input reads as it did. -/
def fnMetaFromSpec : ChangeSpec := { name := "fnMetaFrom", fn := fun _ => fun
  | [d] => { results := [.lit (.bool true)], args := [d] }
  | _ => none }
def fnMetaFromRow : OpenClaim := { program := "ytpggmokeohleiaa", sum := "8f7a53b6aaf23023f270a2374ba3d83c291a6d12c8735a858b5e2de23a8b2a0d", func := "loop.example/g00114/laws.FnMetaFrom", spec := "fnMetaFrom", recurses := true, apart := false }
def FnMetaFromSaid : Prop := fnMetaFromRow.holds Try.pinned (OpenSpec.ofChange fnMetaFromSpec)

/-- ITS FALSE NEIGHBOUR: 'it returns false'. Refute it at one input. -/
def fnMetaFromWrong : ChangeSpec := { name := "fnMetaFrom", fn := fun _ => fun
  | [d] => { results := [.lit (.bool false)], args := [d] }
  | _ => none }
def FnMetaFromWrongFalsely : Prop := fnMetaFromRow.holds Try.pinned (OpenSpec.ofChange fnMetaFromWrong)

/-- 'laws.FnExactFileLook': WHATEVER THE INPUT: true; the input reads as it did. -/
def fnExactFileLookSpec : ChangeSpec := { name := "fnExactFileLook", fn := fun _ => fun
  | [d] => { results := [.lit (.bool true)], args := [d] }
  | _ => none }
def fnExactFileLookRow : OpenClaim := { program := "ytpggmokeohleiaa", sum := "8f7a53b6aaf23023f270a2374ba3d83c291a6d12c8735a858b5e2de23a8b2a0d", func := "loop.example/g00114/laws.FnExactFileLook", spec := "fnExactFileLook", recurses := true, apart := false }
def FnExactFileLookSaid : Prop := fnExactFileLookRow.holds Try.pinned (OpenSpec.ofChange fnExactFileLookSpec)

/-- ITS FALSE NEIGHBOUR: 'it returns false'. Refute it at one input. -/
def fnExactFileLookWrong : ChangeSpec := { name := "fnExactFileLook", fn := fun _ => fun
  | [d] => { results := [.lit (.bool false)], args := [d] }
  | _ => none }
def FnExactFileLookWrongFalsely : Prop := fnExactFileLookRow.holds Try.pinned (OpenSpec.ofChange fnExactFileLookWrong)

/- THE SECOND FORM. 'bulk': how many values and letters a reading holds, each counted each time it is reached (what is shared counts as often as it is met; a slice's spare places count too). A statement '..UptoSaid' is the law's where the arguments, and the package variables that the reading takes, are together of bulk at most 1048576: NARROWER than '..Said'. Prove '..Said' where nothing that the law and all that it calls make is longer than what came in: it says more and counts as full. Else prove '..UptoSaid'. A law counts once. -/
mutual
def uptoBulk {H : Type} : DataW H → Nat
  | .lit (.string bytes) => bytes.length + 1
  | .lit _ => 1
  | .nil => 1
  | .ptr d => uptoBulk d + 1
  | .slice elems spare => uptoBulkAll elems + uptoBulkAll spare + 1
  | .agg parts => uptoBulkAll parts + 1
  | .iface _ d => uptoBulk d + 1
  | .map entries => uptoBulkEntries entries + 1
  | .held _ => 1
def uptoBulkAll {H : Type} : List (DataW H) → Nat
  | [] => 0
  | d :: r => uptoBulk d + uptoBulkAll r
def uptoBulkEntries {H : Type} : List (Lit × DataW H) → Nat
  | [] => 0
  | x :: r => uptoBulkEntry x + uptoBulkEntries r
def uptoBulkEntry {H : Type} : Lit × DataW H → Nat
  | (.string bytes, d) => bytes.length + uptoBulk d + 1
  | (_, d) => uptoBulk d + 1
 end
def uptoSmall : (H : Type) → List (DataW H) → Bool := fun _ ds => decide (uptoBulkAll ds ≤ 1048576)
def OpenSpec.upto (s : _root_.Go.ChangeSpec) : _root_.Go.OpenSpec := { _root_.Go.OpenSpec.ofChange s with cond := some uptoSmall }

/-- 'laws.FnTreeRead', WHERE WHAT IT READS IS OF BULK AT MOST 1048576: true; the input reads as it did. -/
def fnTreeReadUptoRow : OpenClaim := { program := "ytpggmokeohleiaa", sum := "8f7a53b6aaf23023f270a2374ba3d83c291a6d12c8735a858b5e2de23a8b2a0d", func := "loop.example/g00114/laws.FnTreeRead", spec := "fnTreeRead", recurses := true, apart := false, narrowed := true }
def FnTreeReadUptoSaid : Prop := fnTreeReadUptoRow.holds Try.pinned (OpenSpec.upto fnTreeReadSpec)

/-- 'laws.FnPreds', WHERE WHAT IT READS IS OF BULK AT MOST 1048576: true; the input reads as it did. -/
def fnPredsUptoRow : OpenClaim := { program := "ytpggmokeohleiaa", sum := "8f7a53b6aaf23023f270a2374ba3d83c291a6d12c8735a858b5e2de23a8b2a0d", func := "loop.example/g00114/laws.FnPreds", spec := "fnPreds", unfollowed := true, recurses := true, apart := false, narrowed := true }
def FnPredsUptoSaid : Prop := fnPredsUptoRow.holds Try.pinned (OpenSpec.upto fnPredsSpec)

/-- 'laws.FnExactEncRead', WHERE WHAT IT READS IS OF BULK AT MOST 1048576: true; the input reads as it did. -/
def fnExactEncReadUptoRow : OpenClaim := { program := "ytpggmokeohleiaa", sum := "8f7a53b6aaf23023f270a2374ba3d83c291a6d12c8735a858b5e2de23a8b2a0d", func := "loop.example/g00114/laws.FnExactEncRead", spec := "fnExactEncRead", apart := false, narrowed := true }
def FnExactEncReadUptoSaid : Prop := fnExactEncReadUptoRow.holds Try.pinned (OpenSpec.upto fnExactEncReadSpec)

/-- 'laws.FnAssemble', WHERE WHAT IT READS IS OF BULK AT MOST 1048576: true; the input reads as it did. -/
def fnAssembleUptoRow : OpenClaim := { program := "ytpggmokeohleiaa", sum := "8f7a53b6aaf23023f270a2374ba3d83c291a6d12c8735a858b5e2de23a8b2a0d", func := "loop.example/g00114/laws.FnAssemble", spec := "fnAssemble", unfollowed := true, recurses := true, apart := false, narrowed := true }
def FnAssembleUptoSaid : Prop := fnAssembleUptoRow.holds Try.pinned (OpenSpec.upto fnAssembleSpec)

/-- 'laws.FnMay', WHERE WHAT IT READS IS OF BULK AT MOST 1048576: true; the input reads as it did. -/
def fnMayUptoRow : OpenClaim := { program := "ytpggmokeohleiaa", sum := "8f7a53b6aaf23023f270a2374ba3d83c291a6d12c8735a858b5e2de23a8b2a0d", func := "loop.example/g00114/laws.FnMay", spec := "fnMay", unfollowed := true, recurses := true, apart := false, narrowed := true }
def FnMayUptoSaid : Prop := fnMayUptoRow.holds Try.pinned (OpenSpec.upto fnMaySpec)

/-- 'laws.FnExactMetaFrom', WHERE WHAT IT READS IS OF BULK AT MOST 1048576: true; the input reads as it did. -/
def fnExactMetaFromUptoRow : OpenClaim := { program := "ytpggmokeohleiaa", sum := "8f7a53b6aaf23023f270a2374ba3d83c291a6d12c8735a858b5e2de23a8b2a0d", func := "loop.example/g00114/laws.FnExactMetaFrom", spec := "fnExactMetaFrom", recurses := true, apart := false, narrowed := true }
def FnExactMetaFromUptoSaid : Prop := fnExactMetaFromUptoRow.holds Try.pinned (OpenSpec.upto fnExactMetaFromSpec)

/-- 'laws.FnMetaFrom', WHERE WHAT IT READS IS OF BULK AT MOST 1048576: true; the input reads as it did. -/
def fnMetaFromUptoRow : OpenClaim := { program := "ytpggmokeohleiaa", sum := "8f7a53b6aaf23023f270a2374ba3d83c291a6d12c8735a858b5e2de23a8b2a0d", func := "loop.example/g00114/laws.FnMetaFrom", spec := "fnMetaFrom", recurses := true, apart := false, narrowed := true }
def FnMetaFromUptoSaid : Prop := fnMetaFromUptoRow.holds Try.pinned (OpenSpec.upto fnMetaFromSpec)

/-- 'laws.FnExactFileLook', WHERE WHAT IT READS IS OF BULK AT MOST 1048576: true; the input reads as it did. -/
def fnExactFileLookUptoRow : OpenClaim := { program := "ytpggmokeohleiaa", sum := "8f7a53b6aaf23023f270a2374ba3d83c291a6d12c8735a858b5e2de23a8b2a0d", func := "loop.example/g00114/laws.FnExactFileLook", spec := "fnExactFileLook", recurses := true, apart := false, narrowed := true }
def FnExactFileLookUptoSaid : Prop := fnExactFileLookUptoRow.holds Try.pinned (OpenSpec.upto fnExactFileLookSpec)

end Rows
end Go.Proofs.Ytpggmokeohleiaa
