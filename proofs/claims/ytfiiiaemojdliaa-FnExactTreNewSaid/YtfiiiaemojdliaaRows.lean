/-
  No cell of these rows narrows 'for every input' (looked for: loops, veiled, ifaces, maps, wideKeys, modest, calm, conditions, laid).
  DERIVED. THE GIVEN ROWS OF THIS SEAT. 7 by the template 'for every input the law returns true; each argument reads behind the call as it read before'; 0 by the template 'total and deterministic' (their statements: YtfiiiaemojdliaaTotals.lean).
  GIVEN WITH THE SEED: the statements are not yours to turn. If you find one false, say at which input.
  Laid BY PROGRAM, IN A SANDBOX (cutbox-rows.mjs): the forced cells as the released guide's own fill.sh prints them over the translation f82a44132a8d781a… (all of the seat's roots in one cut). By AI agents, Wed Nov 11 2026. No macro, syntax, notation, axiom, sorry.
-/
import Derived.Test.YtfiiiaemojdliaaChecked
import GoSem.Claim
import GoSem.ClaimJoined
import GoSem.ClaimMapViews
import Derived.JoinedTies
import Derived.KernelRfl
namespace Go.Proofs.Ytfiiiaemojdliaa
/- THE CELL 'sum', in the pinned program and in every row, IS THE sha256 OF THE DUMP (.gsa) THAT YtfiiiaemojdliaaProg.lean LOADS. Nothing in Lean hashes anything: it is a label: what it is worth is what the hold of that sum in a sandbox is worth. -/
noncomputable def Try.pinned : Pinned := { name := "ytfiiiaemojdliaa", sum := "f82a44132a8d781a8c841b9ffacb64a692766188765ec320fd01bf4682870d1e", checked := Try.checked }
namespace Rows
def none {H : Type} : Left H := { results := [], args := [] }

/-- 'laws.FnExactConstants': WHATEVER THE INPUT: true; the input reads as it did. -/
def fnExactConstantsSpec : ChangeSpec := { name := "fnExactConstants", fn := fun _ => fun
  | [] => { results := [.lit (.bool true)], args := [] }
  | _ => none }
def fnExactConstantsRow : OpenClaim := { program := "ytfiiiaemojdliaa", sum := "f82a44132a8d781a8c841b9ffacb64a692766188765ec320fd01bf4682870d1e", func := "loop.example/keyward/laws.FnExactConstants", spec := "fnExactConstants", apart := false }
def FnExactConstantsSaid : Prop := fnExactConstantsRow.holds Try.pinned (OpenSpec.ofChange fnExactConstantsSpec)

/-- ITS FALSE NEIGHBOUR: 'it returns false'. Refute it at one input. -/
def fnExactConstantsWrong : ChangeSpec := { name := "fnExactConstants", fn := fun _ => fun
  | [] => { results := [.lit (.bool false)], args := [] }
  | _ => none }
def FnExactConstantsWrongFalsely : Prop := fnExactConstantsRow.holds Try.pinned (OpenSpec.ofChange fnExactConstantsWrong)

/-- 'laws.FnExactTreLeaf': WHATEVER THE INPUT: true; the input reads as it did. -/
def fnExactTreLeafSpec : ChangeSpec := { name := "fnExactTreLeaf", fn := fun _ => fun
  | [d] => { results := [.lit (.bool true)], args := [d] }
  | _ => none }
def fnExactTreLeafRow : OpenClaim := { program := "ytfiiiaemojdliaa", sum := "f82a44132a8d781a8c841b9ffacb64a692766188765ec320fd01bf4682870d1e", func := "loop.example/keyward/laws.FnExactTreLeaf", spec := "fnExactTreLeaf", apart := false }
def FnExactTreLeafSaid : Prop := fnExactTreLeafRow.holds Try.pinned (OpenSpec.ofChange fnExactTreLeafSpec)

/-- ITS FALSE NEIGHBOUR: 'it returns false'. Refute it at one input. -/
def fnExactTreLeafWrong : ChangeSpec := { name := "fnExactTreLeaf", fn := fun _ => fun
  | [d] => { results := [.lit (.bool false)], args := [d] }
  | _ => none }
def FnExactTreLeafWrongFalsely : Prop := fnExactTreLeafRow.holds Try.pinned (OpenSpec.ofChange fnExactTreLeafWrong)

/-- 'laws.FnExactFraText': WHATEVER THE INPUT: true; the input reads as it did. -/
def fnExactFraTextSpec : ChangeSpec := { name := "fnExactFraText", fn := fun _ => fun
  | [d] => { results := [.lit (.bool true)], args := [d] }
  | _ => none }
def fnExactFraTextRow : OpenClaim := { program := "ytfiiiaemojdliaa", sum := "f82a44132a8d781a8c841b9ffacb64a692766188765ec320fd01bf4682870d1e", func := "loop.example/keyward/laws.FnExactFraText", spec := "fnExactFraText", apart := false }
def FnExactFraTextSaid : Prop := fnExactFraTextRow.holds Try.pinned (OpenSpec.ofChange fnExactFraTextSpec)

/-- ITS FALSE NEIGHBOUR: 'it returns false'. Refute it at one input. -/
def fnExactFraTextWrong : ChangeSpec := { name := "fnExactFraText", fn := fun _ => fun
  | [d] => { results := [.lit (.bool false)], args := [d] }
  | _ => none }
def FnExactFraTextWrongFalsely : Prop := fnExactFraTextRow.holds Try.pinned (OpenSpec.ofChange fnExactFraTextWrong)

/-- 'laws.FnExactTreSide': WHATEVER THE INPUT: true; the input reads as it did. -/
def fnExactTreSideSpec : ChangeSpec := { name := "fnExactTreSide", fn := fun _ => fun
  | [d] => { results := [.lit (.bool true)], args := [d] }
  | _ => none }
def fnExactTreSideRow : OpenClaim := { program := "ytfiiiaemojdliaa", sum := "f82a44132a8d781a8c841b9ffacb64a692766188765ec320fd01bf4682870d1e", func := "loop.example/keyward/laws.FnExactTreSide", spec := "fnExactTreSide", apart := false }
def FnExactTreSideSaid : Prop := fnExactTreSideRow.holds Try.pinned (OpenSpec.ofChange fnExactTreSideSpec)

/-- ITS FALSE NEIGHBOUR: 'it returns false'. Refute it at one input. -/
def fnExactTreSideWrong : ChangeSpec := { name := "fnExactTreSide", fn := fun _ => fun
  | [d] => { results := [.lit (.bool false)], args := [d] }
  | _ => none }
def FnExactTreSideWrongFalsely : Prop := fnExactTreSideRow.holds Try.pinned (OpenSpec.ofChange fnExactTreSideWrong)

/-- 'laws.FnExactTreMeet': WHATEVER THE INPUT: true; the input reads as it did. -/
def fnExactTreMeetSpec : ChangeSpec := { name := "fnExactTreMeet", fn := fun _ => fun
  | [d1, d2] => { results := [.lit (.bool true)], args := [d1, d2] }
  | _ => none }
def fnExactTreMeetRow : OpenClaim := { program := "ytfiiiaemojdliaa", sum := "f82a44132a8d781a8c841b9ffacb64a692766188765ec320fd01bf4682870d1e", func := "loop.example/keyward/laws.FnExactTreMeet", spec := "fnExactTreMeet", apart := false }
def FnExactTreMeetSaid : Prop := fnExactTreMeetRow.holds Try.pinned (OpenSpec.ofChange fnExactTreMeetSpec)

/-- ITS FALSE NEIGHBOUR: 'it returns false'. Refute it at one input. -/
def fnExactTreMeetWrong : ChangeSpec := { name := "fnExactTreMeet", fn := fun _ => fun
  | [d1, d2] => { results := [.lit (.bool false)], args := [d1, d2] }
  | _ => none }
def FnExactTreMeetWrongFalsely : Prop := fnExactTreMeetRow.holds Try.pinned (OpenSpec.ofChange fnExactTreMeetWrong)

/-- 'laws.FnExactTreUp': WHATEVER THE INPUT: true; the input reads as it did. -/
def fnExactTreUpSpec : ChangeSpec := { name := "fnExactTreUp", fn := fun _ => fun
  | [d] => { results := [.lit (.bool true)], args := [d] }
  | _ => none }
def fnExactTreUpRow : OpenClaim := { program := "ytfiiiaemojdliaa", sum := "f82a44132a8d781a8c841b9ffacb64a692766188765ec320fd01bf4682870d1e", func := "loop.example/keyward/laws.FnExactTreUp", spec := "fnExactTreUp", apart := false }
def FnExactTreUpSaid : Prop := fnExactTreUpRow.holds Try.pinned (OpenSpec.ofChange fnExactTreUpSpec)

/-- ITS FALSE NEIGHBOUR: 'it returns false'. Refute it at one input. -/
def fnExactTreUpWrong : ChangeSpec := { name := "fnExactTreUp", fn := fun _ => fun
  | [d] => { results := [.lit (.bool false)], args := [d] }
  | _ => none }
def FnExactTreUpWrongFalsely : Prop := fnExactTreUpRow.holds Try.pinned (OpenSpec.ofChange fnExactTreUpWrong)

/-- 'laws.FnExactTreNew': WHATEVER THE INPUT: true; the input reads as it did. -/
def fnExactTreNewSpec : ChangeSpec := { name := "fnExactTreNew", fn := fun _ => fun
  | [] => { results := [.lit (.bool true)], args := [] }
  | _ => none }
def fnExactTreNewRow : OpenClaim := { program := "ytfiiiaemojdliaa", sum := "f82a44132a8d781a8c841b9ffacb64a692766188765ec320fd01bf4682870d1e", func := "loop.example/keyward/laws.FnExactTreNew", spec := "fnExactTreNew", apart := false }
def FnExactTreNewSaid : Prop := fnExactTreNewRow.holds Try.pinned (OpenSpec.ofChange fnExactTreNewSpec)

/-- ITS FALSE NEIGHBOUR: 'it returns false'. Refute it at one input. -/
def fnExactTreNewWrong : ChangeSpec := { name := "fnExactTreNew", fn := fun _ => fun
  | [] => { results := [.lit (.bool false)], args := [] }
  | _ => none }
def FnExactTreNewWrongFalsely : Prop := fnExactTreNewRow.holds Try.pinned (OpenSpec.ofChange fnExactTreNewWrong)

/- THE SECOND FORM. 'bulk': how many values and letters a reading holds, each counted each time it is reached (what is shared counts as often as it is met; a slice's spare places count too). A statement '..UptoSaid' is the law's where the arguments, and the package variables that the reading takes, are together of bulk at most 1048576: NARROWER than '..Said'. Prove '..Said' where nothing that the law and all that it calls make is longer than what came in: it says more and counts as full. Else prove '..UptoSaid'. A law counts once. -/
mutual
def uptoBulk {H : Type} : DataW H → Nat
  | .lit (.string bytes) => bytes.length + 1
  | .lit _ => 1
  | .nil => 1
  | .ptr d => uptoBulk d + 1
  | .slice elems spare => uptoBulkAll elems + uptoBulkAll spare + 1
  | .agg parts => uptoBulkAll parts + 1
  | .iface _ d => uptoBulk d + 1
  | .map entries => uptoBulkEntries entries + 1
  | .held _ => 1
def uptoBulkAll {H : Type} : List (DataW H) → Nat
  | [] => 0
  | d :: r => uptoBulk d + uptoBulkAll r
def uptoBulkEntries {H : Type} : List (Lit × DataW H) → Nat
  | [] => 0
  | x :: r => uptoBulkEntry x + uptoBulkEntries r
def uptoBulkEntry {H : Type} : Lit × DataW H → Nat
  | (.string bytes, d) => bytes.length + uptoBulk d + 1
  | (_, d) => uptoBulk d + 1
 end
def uptoSmall : (H : Type) → List (DataW H) → Bool := fun _ ds => decide (uptoBulkAll ds ≤ 1048576)
def OpenSpec.upto (s : _root_.Go.ChangeSpec) : _root_.Go.OpenSpec := { _root_.Go.OpenSpec.ofChange s with cond := some uptoSmall }

/-- 'laws.FnExactConstants', WHERE WHAT IT READS IS OF BULK AT MOST 1048576: true; the input reads as it did. -/
def fnExactConstantsUptoRow : OpenClaim := { program := "ytfiiiaemojdliaa", sum := "f82a44132a8d781a8c841b9ffacb64a692766188765ec320fd01bf4682870d1e", func := "loop.example/keyward/laws.FnExactConstants", spec := "fnExactConstants", apart := false, narrowed := true }
def FnExactConstantsUptoSaid : Prop := fnExactConstantsUptoRow.holds Try.pinned (OpenSpec.upto fnExactConstantsSpec)

/-- 'laws.FnExactTreLeaf', WHERE WHAT IT READS IS OF BULK AT MOST 1048576: true; the input reads as it did. -/
def fnExactTreLeafUptoRow : OpenClaim := { program := "ytfiiiaemojdliaa", sum := "f82a44132a8d781a8c841b9ffacb64a692766188765ec320fd01bf4682870d1e", func := "loop.example/keyward/laws.FnExactTreLeaf", spec := "fnExactTreLeaf", apart := false, narrowed := true }
def FnExactTreLeafUptoSaid : Prop := fnExactTreLeafUptoRow.holds Try.pinned (OpenSpec.upto fnExactTreLeafSpec)

/-- 'laws.FnExactFraText', WHERE WHAT IT READS IS OF BULK AT MOST 1048576: true; the input reads as it did. -/
def fnExactFraTextUptoRow : OpenClaim := { program := "ytfiiiaemojdliaa", sum := "f82a44132a8d781a8c841b9ffacb64a692766188765ec320fd01bf4682870d1e", func := "loop.example/keyward/laws.FnExactFraText", spec := "fnExactFraText", apart := false, narrowed := true }
def FnExactFraTextUptoSaid : Prop := fnExactFraTextUptoRow.holds Try.pinned (OpenSpec.upto fnExactFraTextSpec)

/-- 'laws.FnExactTreSide', WHERE WHAT IT READS IS OF BULK AT MOST 1048576: true; the input reads as it did. -/
def fnExactTreSideUptoRow : OpenClaim := { program := "ytfiiiaemojdliaa", sum := "f82a44132a8d781a8c841b9ffacb64a692766188765ec320fd01bf4682870d1e", func := "loop.example/keyward/laws.FnExactTreSide", spec := "fnExactTreSide", apart := false, narrowed := true }
def FnExactTreSideUptoSaid : Prop := fnExactTreSideUptoRow.holds Try.pinned (OpenSpec.upto fnExactTreSideSpec)

/-- 'laws.FnExactTreMeet', WHERE WHAT IT READS IS OF BULK AT MOST 1048576: true; the input reads as it did. -/
def fnExactTreMeetUptoRow : OpenClaim := { program := "ytfiiiaemojdliaa", sum := "f82a44132a8d781a8c841b9ffacb64a692766188765ec320fd01bf4682870d1e", func := "loop.example/keyward/laws.FnExactTreMeet", spec := "fnExactTreMeet", apart := false, narrowed := true }
def FnExactTreMeetUptoSaid : Prop := fnExactTreMeetUptoRow.holds Try.pinned (OpenSpec.upto fnExactTreMeetSpec)

/-- 'laws.FnExactTreUp', WHERE WHAT IT READS IS OF BULK AT MOST 1048576: true; the input reads as it did. -/
def fnExactTreUpUptoRow : OpenClaim := { program := "ytfiiiaemojdliaa", sum := "f82a44132a8d781a8c841b9ffacb64a692766188765ec320fd01bf4682870d1e", func := "loop.example/keyward/laws.FnExactTreUp", spec := "fnExactTreUp", apart := false, narrowed := true }
def FnExactTreUpUptoSaid : Prop := fnExactTreUpUptoRow.holds Try.pinned (OpenSpec.upto fnExactTreUpSpec)

/-- 'laws.FnExactTreNew', WHERE WHAT IT READS IS OF BULK AT MOST 1048576: true; the input reads as it did. -/
def fnExactTreNewUptoRow : OpenClaim := { program := "ytfiiiaemojdliaa", sum := "f82a44132a8d781a8c841b9ffacb64a692766188765ec320fd01bf4682870d1e", func := "loop.example/keyward/laws.FnExactTreNew", spec := "fnExactTreNew", apart := false, narrowed := true }
def FnExactTreNewUptoSaid : Prop := fnExactTreNewUptoRow.holds Try.pinned (OpenSpec.upto fnExactTreNewSpec)

end Rows
end Go.Proofs.Ytfiiiaemojdliaa
