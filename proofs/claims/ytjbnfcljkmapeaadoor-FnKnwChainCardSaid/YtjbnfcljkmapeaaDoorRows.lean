/-
  NARROWER THAN 'FOR EVERY INPUT', by the rows' own cells (each row's printed sentence says how): FnKnwNone: laid · FnKnwParts: laid · FnKnwBack: laid · FnKnwChain: laid · FnKnwHas: laid · FnKnwMake: laid · FnKnwMore: laid · FnKnwOpen: laid.
  DERIVED. THE GIVEN ROWS OF THIS SEAT. 8 by the template 'for every input the law returns true; each argument reads behind the call as it read before'; 0 by the template 'total and deterministic' (their statements: YtjbnfcljkmapeaaDoorTotals.lean).
  GIVEN WITH THE SEED: the statements are not yours to turn. If you find one false, say at which input.
  Laid BY PROGRAM, IN A SANDBOX (cutbox-rows.mjs): the forced cells as the released guide's own fill.sh prints them over the translation 804fc7262371cc40… (all of the seat's roots in one cut). By AI agents, Wed Nov 11 2026. No macro, syntax, notation, axiom, sorry.
-/
import Derived.Test.YtjbnfcljkmapeaaDoorChecked
import GoSem.Claim
import GoSem.ClaimJoined
import GoSem.ClaimMapViews
import Derived.JoinedTies
import Derived.KernelRfl
namespace Go.Proofs.YtjbnfcljkmapeaaDoor
/- THE CELL 'sum', in the pinned program and in every row, IS THE sha256 OF THE DUMP (.gsa) THAT YtjbnfcljkmapeaaDoorProg.lean LOADS. Nothing in Lean hashes anything: it is a label: what it is worth is what the hold of that sum in a sandbox is worth. -/
noncomputable def Tryd.pinned : Pinned := { name := "ytjbnfcljkmapeaadoor", sum := "804fc7262371cc406d520da3dc151ab67db4d1a28c69446a5f437db0471477b7", checked := Tryd.checked }
namespace Rows
def none {H : Type} : Left H := { results := [], args := [] }

/- WHAT THE LISTED PACKAGE-LEVEL VARIABLES READ AS WHEN THE CALL BEGINS. Each datum BY PROGRAM (the guide's laid-datum.mjs) off the statement by which the dump's own 'gosem.cut.vars' lays the variable. In a bare row this is a premise. The card (YtjbnfcljkmapeaaDoorCards.lean) ties it to the program's text. -/
def laid_math_bits_deBruijn32tab {H : Type} : DataW H := .agg [.lit (.int .u8 0), .lit (.int .u8 1), .lit (.int .u8 28), .lit (.int .u8 2), .lit (.int .u8 29), .lit (.int .u8 14), .lit (.int .u8 24), .lit (.int .u8 3), .lit (.int .u8 30), .lit (.int .u8 22), .lit (.int .u8 20), .lit (.int .u8 15), .lit (.int .u8 25), .lit (.int .u8 17), .lit (.int .u8 4), .lit (.int .u8 8), .lit (.int .u8 31), .lit (.int .u8 27), .lit (.int .u8 13), .lit (.int .u8 23), .lit (.int .u8 21), .lit (.int .u8 19), .lit (.int .u8 16), .lit (.int .u8 7), .lit (.int .u8 26), .lit (.int .u8 12), .lit (.int .u8 18), .lit (.int .u8 6), .lit (.int .u8 11), .lit (.int .u8 5), .lit (.int .u8 10), .lit (.int .u8 9)]
def laid_math_bits_deBruijn64tab {H : Type} : DataW H := .agg [.lit (.int .u8 0), .lit (.int .u8 1), .lit (.int .u8 56), .lit (.int .u8 2), .lit (.int .u8 57), .lit (.int .u8 49), .lit (.int .u8 28), .lit (.int .u8 3), .lit (.int .u8 61), .lit (.int .u8 58), .lit (.int .u8 42), .lit (.int .u8 50), .lit (.int .u8 38), .lit (.int .u8 29), .lit (.int .u8 17), .lit (.int .u8 4), .lit (.int .u8 62), .lit (.int .u8 47), .lit (.int .u8 59), .lit (.int .u8 36), .lit (.int .u8 45), .lit (.int .u8 43), .lit (.int .u8 51), .lit (.int .u8 22), .lit (.int .u8 53), .lit (.int .u8 39), .lit (.int .u8 33), .lit (.int .u8 30), .lit (.int .u8 24), .lit (.int .u8 18), .lit (.int .u8 12), .lit (.int .u8 5), .lit (.int .u8 63), .lit (.int .u8 55), .lit (.int .u8 48), .lit (.int .u8 27), .lit (.int .u8 60), .lit (.int .u8 41), .lit (.int .u8 37), .lit (.int .u8 16), .lit (.int .u8 46), .lit (.int .u8 35), .lit (.int .u8 44), .lit (.int .u8 21), .lit (.int .u8 52), .lit (.int .u8 32), .lit (.int .u8 23), .lit (.int .u8 11), .lit (.int .u8 54), .lit (.int .u8 26), .lit (.int .u8 40), .lit (.int .u8 15), .lit (.int .u8 34), .lit (.int .u8 20), .lit (.int .u8 31), .lit (.int .u8 10), .lit (.int .u8 25), .lit (.int .u8 14), .lit (.int .u8 19), .lit (.int .u8 9), .lit (.int .u8 13), .lit (.int .u8 8), .lit (.int .u8 7), .lit (.int .u8 6)]
def laid_internal_strconv_uint64pow10 {H : Type} : DataW H := .agg [.lit (.int .u64 1), .lit (.int .u64 10), .lit (.int .u64 100), .lit (.int .u64 1000), .lit (.int .u64 10000), .lit (.int .u64 100000), .lit (.int .u64 1000000), .lit (.int .u64 10000000), .lit (.int .u64 100000000), .lit (.int .u64 1000000000), .lit (.int .u64 10000000000), .lit (.int .u64 100000000000), .lit (.int .u64 1000000000000), .lit (.int .u64 10000000000000), .lit (.int .u64 100000000000000), .lit (.int .u64 1000000000000000), .lit (.int .u64 10000000000000000), .lit (.int .u64 100000000000000000), .lit (.int .u64 1000000000000000000), .lit (.int .u64 10000000000000000000)]
def laid_strconv_ErrRange {H : Type} : DataW H := .iface "*errors.errorString" (.ptr (.agg [.lit (.string [118, 97, 108, 117, 101, 32, 111, 117, 116, 32, 111, 102, 32, 114, 97, 110, 103, 101])]))
def laid_strconv_ErrSyntax {H : Type} : DataW H := .iface "*errors.errorString" (.ptr (.agg [.lit (.string [105, 110, 118, 97, 108, 105, 100, 32, 115, 121, 110, 116, 97, 120])]))

/-- 'laws.FnKnwNone': WHATEVER THE INPUT: true; the input reads as it did. -/
def fnKnwNoneSpec : ChangeSpec := { name := "fnKnwNone", fn := fun _ => fun
  | [d] => { results := [.lit (.bool true)], args := [d] }
  | _ => none }
def fnKnwNoneRow : OpenClaim := { program := "ytjbnfcljkmapeaadoor", sum := "804fc7262371cc406d520da3dc151ab67db4d1a28c69446a5f437db0471477b7", func := "loop.example/keyward/laws.FnKnwNone", spec := "fnKnwNone", unfollowed := true, recurses := true, named := ["strconv.ErrSyntax", "strconv.ErrRange", "internal/strconv.uint64pow10", "math/bits.deBruijn32tab", "math/bits.deBruijn64tab"], apart := false, laid := [("math/bits.deBruijn32tab", laid_math_bits_deBruijn32tab), ("math/bits.deBruijn64tab", laid_math_bits_deBruijn64tab), ("internal/strconv.uint64pow10", laid_internal_strconv_uint64pow10), ("strconv.ErrRange", laid_strconv_ErrRange), ("strconv.ErrSyntax", laid_strconv_ErrSyntax)] }
def FnKnwNoneSaid : Prop := fnKnwNoneRow.holds Tryd.pinned (OpenSpec.ofChange fnKnwNoneSpec)

/-- ITS FALSE NEIGHBOUR: 'it returns false'. Refute it at one input. -/
def fnKnwNoneWrong : ChangeSpec := { name := "fnKnwNone", fn := fun _ => fun
  | [d] => { results := [.lit (.bool false)], args := [d] }
  | _ => none }
def FnKnwNoneWrongFalsely : Prop := fnKnwNoneRow.holds Tryd.pinned (OpenSpec.ofChange fnKnwNoneWrong)

/-- 'laws.FnKnwParts': WHATEVER THE INPUT: true; the input reads as it did. -/
def fnKnwPartsSpec : ChangeSpec := { name := "fnKnwParts", fn := fun _ => fun
  | [d] => { results := [.lit (.bool true)], args := [d] }
  | _ => none }
def fnKnwPartsRow : OpenClaim := { program := "ytjbnfcljkmapeaadoor", sum := "804fc7262371cc406d520da3dc151ab67db4d1a28c69446a5f437db0471477b7", func := "loop.example/keyward/laws.FnKnwParts", spec := "fnKnwParts", unfollowed := true, recurses := true, named := ["strconv.ErrSyntax", "strconv.ErrRange", "internal/strconv.uint64pow10", "math/bits.deBruijn32tab", "math/bits.deBruijn64tab"], apart := false, laid := [("math/bits.deBruijn32tab", laid_math_bits_deBruijn32tab), ("math/bits.deBruijn64tab", laid_math_bits_deBruijn64tab), ("internal/strconv.uint64pow10", laid_internal_strconv_uint64pow10), ("strconv.ErrRange", laid_strconv_ErrRange), ("strconv.ErrSyntax", laid_strconv_ErrSyntax)] }
def FnKnwPartsSaid : Prop := fnKnwPartsRow.holds Tryd.pinned (OpenSpec.ofChange fnKnwPartsSpec)

/-- ITS FALSE NEIGHBOUR: 'it returns false'. Refute it at one input. -/
def fnKnwPartsWrong : ChangeSpec := { name := "fnKnwParts", fn := fun _ => fun
  | [d] => { results := [.lit (.bool false)], args := [d] }
  | _ => none }
def FnKnwPartsWrongFalsely : Prop := fnKnwPartsRow.holds Tryd.pinned (OpenSpec.ofChange fnKnwPartsWrong)

/-- 'laws.FnKnwBack': WHATEVER THE INPUT: true; the input reads as it did. -/
def fnKnwBackSpec : ChangeSpec := { name := "fnKnwBack", fn := fun _ => fun
  | [d] => { results := [.lit (.bool true)], args := [d] }
  | _ => none }
def fnKnwBackRow : OpenClaim := { program := "ytjbnfcljkmapeaadoor", sum := "804fc7262371cc406d520da3dc151ab67db4d1a28c69446a5f437db0471477b7", func := "loop.example/keyward/laws.FnKnwBack", spec := "fnKnwBack", inPlace := ["internal/abi.NoEscape", "internal/bytealg.MakeNoZero"], unfollowed := true, recurses := true, named := ["strconv.ErrSyntax", "strconv.ErrRange", "internal/strconv.uint64pow10", "math/bits.deBruijn32tab", "math/bits.deBruijn64tab"], apart := false, laid := [("math/bits.deBruijn32tab", laid_math_bits_deBruijn32tab), ("math/bits.deBruijn64tab", laid_math_bits_deBruijn64tab), ("internal/strconv.uint64pow10", laid_internal_strconv_uint64pow10), ("strconv.ErrRange", laid_strconv_ErrRange), ("strconv.ErrSyntax", laid_strconv_ErrSyntax)] }
def FnKnwBackSaid : Prop := fnKnwBackRow.holds Tryd.pinned (OpenSpec.ofChange fnKnwBackSpec)

/-- ITS FALSE NEIGHBOUR: 'it returns false'. Refute it at one input. -/
def fnKnwBackWrong : ChangeSpec := { name := "fnKnwBack", fn := fun _ => fun
  | [d] => { results := [.lit (.bool false)], args := [d] }
  | _ => none }
def FnKnwBackWrongFalsely : Prop := fnKnwBackRow.holds Tryd.pinned (OpenSpec.ofChange fnKnwBackWrong)

/-- 'laws.FnKnwChain': WHATEVER THE INPUT: true; the input reads as it did. -/
def fnKnwChainSpec : ChangeSpec := { name := "fnKnwChain", fn := fun _ => fun
  | [d] => { results := [.lit (.bool true)], args := [d] }
  | _ => none }
def fnKnwChainRow : OpenClaim := { program := "ytjbnfcljkmapeaadoor", sum := "804fc7262371cc406d520da3dc151ab67db4d1a28c69446a5f437db0471477b7", func := "loop.example/keyward/laws.FnKnwChain", spec := "fnKnwChain", inPlace := ["internal/abi.NoEscape", "internal/bytealg.MakeNoZero"], unfollowed := true, recurses := true, named := ["internal/strconv.uint64pow10", "math/bits.deBruijn32tab", "math/bits.deBruijn64tab", "strconv.ErrSyntax", "strconv.ErrRange"], apart := false, laid := [("math/bits.deBruijn32tab", laid_math_bits_deBruijn32tab), ("math/bits.deBruijn64tab", laid_math_bits_deBruijn64tab), ("internal/strconv.uint64pow10", laid_internal_strconv_uint64pow10), ("strconv.ErrRange", laid_strconv_ErrRange), ("strconv.ErrSyntax", laid_strconv_ErrSyntax)] }
def FnKnwChainSaid : Prop := fnKnwChainRow.holds Tryd.pinned (OpenSpec.ofChange fnKnwChainSpec)

/-- ITS FALSE NEIGHBOUR: 'it returns false'. Refute it at one input. -/
def fnKnwChainWrong : ChangeSpec := { name := "fnKnwChain", fn := fun _ => fun
  | [d] => { results := [.lit (.bool false)], args := [d] }
  | _ => none }
def FnKnwChainWrongFalsely : Prop := fnKnwChainRow.holds Tryd.pinned (OpenSpec.ofChange fnKnwChainWrong)

/-- 'laws.FnKnwHas': WHATEVER THE INPUT: true; the input reads as it did. -/
def fnKnwHasSpec : ChangeSpec := { name := "fnKnwHas", fn := fun _ => fun
  | [d] => { results := [.lit (.bool true)], args := [d] }
  | _ => none }
def fnKnwHasRow : OpenClaim := { program := "ytjbnfcljkmapeaadoor", sum := "804fc7262371cc406d520da3dc151ab67db4d1a28c69446a5f437db0471477b7", func := "loop.example/keyward/laws.FnKnwHas", spec := "fnKnwHas", unfollowed := true, recurses := true, named := ["strconv.ErrSyntax", "strconv.ErrRange", "internal/strconv.uint64pow10", "math/bits.deBruijn32tab", "math/bits.deBruijn64tab"], apart := false, laid := [("math/bits.deBruijn32tab", laid_math_bits_deBruijn32tab), ("math/bits.deBruijn64tab", laid_math_bits_deBruijn64tab), ("internal/strconv.uint64pow10", laid_internal_strconv_uint64pow10), ("strconv.ErrRange", laid_strconv_ErrRange), ("strconv.ErrSyntax", laid_strconv_ErrSyntax)] }
def FnKnwHasSaid : Prop := fnKnwHasRow.holds Tryd.pinned (OpenSpec.ofChange fnKnwHasSpec)

/-- ITS FALSE NEIGHBOUR: 'it returns false'. Refute it at one input. -/
def fnKnwHasWrong : ChangeSpec := { name := "fnKnwHas", fn := fun _ => fun
  | [d] => { results := [.lit (.bool false)], args := [d] }
  | _ => none }
def FnKnwHasWrongFalsely : Prop := fnKnwHasRow.holds Tryd.pinned (OpenSpec.ofChange fnKnwHasWrong)

/-- 'laws.FnKnwMake': WHATEVER THE INPUT: true; the input reads as it did. -/
def fnKnwMakeSpec : ChangeSpec := { name := "fnKnwMake", fn := fun _ => fun
  | [d1, d2] => { results := [.lit (.bool true)], args := [d1, d2] }
  | _ => none }
def fnKnwMakeRow : OpenClaim := { program := "ytjbnfcljkmapeaadoor", sum := "804fc7262371cc406d520da3dc151ab67db4d1a28c69446a5f437db0471477b7", func := "loop.example/keyward/laws.FnKnwMake", spec := "fnKnwMake", inPlace := ["internal/abi.NoEscape", "internal/bytealg.MakeNoZero"], unfollowed := true, recurses := true, named := ["strconv.ErrSyntax", "strconv.ErrRange", "internal/strconv.uint64pow10", "math/bits.deBruijn32tab", "math/bits.deBruijn64tab"], apart := false, laid := [("math/bits.deBruijn32tab", laid_math_bits_deBruijn32tab), ("math/bits.deBruijn64tab", laid_math_bits_deBruijn64tab), ("internal/strconv.uint64pow10", laid_internal_strconv_uint64pow10), ("strconv.ErrRange", laid_strconv_ErrRange), ("strconv.ErrSyntax", laid_strconv_ErrSyntax)] }
def FnKnwMakeSaid : Prop := fnKnwMakeRow.holds Tryd.pinned (OpenSpec.ofChange fnKnwMakeSpec)

/-- ITS FALSE NEIGHBOUR: 'it returns false'. Refute it at one input. -/
def fnKnwMakeWrong : ChangeSpec := { name := "fnKnwMake", fn := fun _ => fun
  | [d1, d2] => { results := [.lit (.bool false)], args := [d1, d2] }
  | _ => none }
def FnKnwMakeWrongFalsely : Prop := fnKnwMakeRow.holds Tryd.pinned (OpenSpec.ofChange fnKnwMakeWrong)

/-- 'laws.FnKnwMore': WHATEVER THE INPUT: true; the input reads as it did. -/
def fnKnwMoreSpec : ChangeSpec := { name := "fnKnwMore", fn := fun _ => fun
  | [d1, d2] => { results := [.lit (.bool true)], args := [d1, d2] }
  | _ => none }
def fnKnwMoreRow : OpenClaim := { program := "ytjbnfcljkmapeaadoor", sum := "804fc7262371cc406d520da3dc151ab67db4d1a28c69446a5f437db0471477b7", func := "loop.example/keyward/laws.FnKnwMore", spec := "fnKnwMore", unfollowed := true, recurses := true, named := ["strconv.ErrSyntax", "strconv.ErrRange", "internal/strconv.uint64pow10", "math/bits.deBruijn32tab", "math/bits.deBruijn64tab"], apart := false, laid := [("math/bits.deBruijn32tab", laid_math_bits_deBruijn32tab), ("math/bits.deBruijn64tab", laid_math_bits_deBruijn64tab), ("internal/strconv.uint64pow10", laid_internal_strconv_uint64pow10), ("strconv.ErrRange", laid_strconv_ErrRange), ("strconv.ErrSyntax", laid_strconv_ErrSyntax)] }
def FnKnwMoreSaid : Prop := fnKnwMoreRow.holds Tryd.pinned (OpenSpec.ofChange fnKnwMoreSpec)

/-- ITS FALSE NEIGHBOUR: 'it returns false'. Refute it at one input. -/
def fnKnwMoreWrong : ChangeSpec := { name := "fnKnwMore", fn := fun _ => fun
  | [d1, d2] => { results := [.lit (.bool false)], args := [d1, d2] }
  | _ => none }
def FnKnwMoreWrongFalsely : Prop := fnKnwMoreRow.holds Tryd.pinned (OpenSpec.ofChange fnKnwMoreWrong)

/-- 'laws.FnKnwOpen': WHATEVER THE INPUT: true; the input reads as it did. -/
def fnKnwOpenSpec : ChangeSpec := { name := "fnKnwOpen", fn := fun _ => fun
  | [d] => { results := [.lit (.bool true)], args := [d] }
  | _ => none }
def fnKnwOpenRow : OpenClaim := { program := "ytjbnfcljkmapeaadoor", sum := "804fc7262371cc406d520da3dc151ab67db4d1a28c69446a5f437db0471477b7", func := "loop.example/keyward/laws.FnKnwOpen", spec := "fnKnwOpen", unfollowed := true, recurses := true, named := ["strconv.ErrSyntax", "strconv.ErrRange", "internal/strconv.uint64pow10", "math/bits.deBruijn32tab", "math/bits.deBruijn64tab"], apart := false, laid := [("math/bits.deBruijn32tab", laid_math_bits_deBruijn32tab), ("math/bits.deBruijn64tab", laid_math_bits_deBruijn64tab), ("internal/strconv.uint64pow10", laid_internal_strconv_uint64pow10), ("strconv.ErrRange", laid_strconv_ErrRange), ("strconv.ErrSyntax", laid_strconv_ErrSyntax)] }
def FnKnwOpenSaid : Prop := fnKnwOpenRow.holds Tryd.pinned (OpenSpec.ofChange fnKnwOpenSpec)

/-- ITS FALSE NEIGHBOUR: 'it returns false'. Refute it at one input. -/
def fnKnwOpenWrong : ChangeSpec := { name := "fnKnwOpen", fn := fun _ => fun
  | [d] => { results := [.lit (.bool false)], args := [d] }
  | _ => none }
def FnKnwOpenWrongFalsely : Prop := fnKnwOpenRow.holds Tryd.pinned (OpenSpec.ofChange fnKnwOpenWrong)

/- THE SECOND FORM. 'bulk': how many values and letters a reading holds, each counted each time it is reached (what is shared counts as often as it is met; a slice's spare places count too). A statement '..UptoSaid' is the law's where the arguments, and the package variables that the reading takes, are together of bulk at most 1048576: NARROWER than '..Said'. Prove '..Said' where nothing that the law and all that it calls make is longer than what came in: it says more and counts as full. Else prove '..UptoSaid'. A law counts once. -/
mutual
def uptoBulk {H : Type} : DataW H → Nat
  | .lit (.string bytes) => bytes.length + 1
  | .lit _ => 1
  | .nil => 1
  | .ptr d => uptoBulk d + 1
  | .slice elems spare => uptoBulkAll elems + uptoBulkAll spare + 1
  | .agg parts => uptoBulkAll parts + 1
  | .iface _ d => uptoBulk d + 1
  | .map entries => uptoBulkEntries entries + 1
  | .held _ => 1
def uptoBulkAll {H : Type} : List (DataW H) → Nat
  | [] => 0
  | d :: r => uptoBulk d + uptoBulkAll r
def uptoBulkEntries {H : Type} : List (Lit × DataW H) → Nat
  | [] => 0
  | x :: r => uptoBulkEntry x + uptoBulkEntries r
def uptoBulkEntry {H : Type} : Lit × DataW H → Nat
  | (.string bytes, d) => bytes.length + uptoBulk d + 1
  | (_, d) => uptoBulk d + 1
 end
def uptoSmall : (H : Type) → List (DataW H) → Bool := fun _ ds => decide (uptoBulkAll ds ≤ 1048576)
def OpenSpec.upto (s : _root_.Go.ChangeSpec) : _root_.Go.OpenSpec := { _root_.Go.OpenSpec.ofChange s with cond := some uptoSmall }

/-- 'laws.FnKnwNone', WHERE WHAT IT READS IS OF BULK AT MOST 1048576: true; the input reads as it did. -/
def fnKnwNoneUptoRow : OpenClaim := { program := "ytjbnfcljkmapeaadoor", sum := "804fc7262371cc406d520da3dc151ab67db4d1a28c69446a5f437db0471477b7", func := "loop.example/keyward/laws.FnKnwNone", spec := "fnKnwNone", unfollowed := true, recurses := true, named := ["strconv.ErrSyntax", "strconv.ErrRange", "internal/strconv.uint64pow10", "math/bits.deBruijn32tab", "math/bits.deBruijn64tab"], apart := false, laid := [("math/bits.deBruijn32tab", laid_math_bits_deBruijn32tab), ("math/bits.deBruijn64tab", laid_math_bits_deBruijn64tab), ("internal/strconv.uint64pow10", laid_internal_strconv_uint64pow10), ("strconv.ErrRange", laid_strconv_ErrRange), ("strconv.ErrSyntax", laid_strconv_ErrSyntax)], narrowed := true }
def FnKnwNoneUptoSaid : Prop := fnKnwNoneUptoRow.holds Tryd.pinned (OpenSpec.upto fnKnwNoneSpec)

/-- 'laws.FnKnwParts', WHERE WHAT IT READS IS OF BULK AT MOST 1048576: true; the input reads as it did. -/
def fnKnwPartsUptoRow : OpenClaim := { program := "ytjbnfcljkmapeaadoor", sum := "804fc7262371cc406d520da3dc151ab67db4d1a28c69446a5f437db0471477b7", func := "loop.example/keyward/laws.FnKnwParts", spec := "fnKnwParts", unfollowed := true, recurses := true, named := ["strconv.ErrSyntax", "strconv.ErrRange", "internal/strconv.uint64pow10", "math/bits.deBruijn32tab", "math/bits.deBruijn64tab"], apart := false, laid := [("math/bits.deBruijn32tab", laid_math_bits_deBruijn32tab), ("math/bits.deBruijn64tab", laid_math_bits_deBruijn64tab), ("internal/strconv.uint64pow10", laid_internal_strconv_uint64pow10), ("strconv.ErrRange", laid_strconv_ErrRange), ("strconv.ErrSyntax", laid_strconv_ErrSyntax)], narrowed := true }
def FnKnwPartsUptoSaid : Prop := fnKnwPartsUptoRow.holds Tryd.pinned (OpenSpec.upto fnKnwPartsSpec)

/-- 'laws.FnKnwBack', WHERE WHAT IT READS IS OF BULK AT MOST 1048576: true; the input reads as it did. -/
def fnKnwBackUptoRow : OpenClaim := { program := "ytjbnfcljkmapeaadoor", sum := "804fc7262371cc406d520da3dc151ab67db4d1a28c69446a5f437db0471477b7", func := "loop.example/keyward/laws.FnKnwBack", spec := "fnKnwBack", inPlace := ["internal/abi.NoEscape", "internal/bytealg.MakeNoZero"], unfollowed := true, recurses := true, named := ["strconv.ErrSyntax", "strconv.ErrRange", "internal/strconv.uint64pow10", "math/bits.deBruijn32tab", "math/bits.deBruijn64tab"], apart := false, laid := [("math/bits.deBruijn32tab", laid_math_bits_deBruijn32tab), ("math/bits.deBruijn64tab", laid_math_bits_deBruijn64tab), ("internal/strconv.uint64pow10", laid_internal_strconv_uint64pow10), ("strconv.ErrRange", laid_strconv_ErrRange), ("strconv.ErrSyntax", laid_strconv_ErrSyntax)], narrowed := true }
def FnKnwBackUptoSaid : Prop := fnKnwBackUptoRow.holds Tryd.pinned (OpenSpec.upto fnKnwBackSpec)

/-- 'laws.FnKnwChain', WHERE WHAT IT READS IS OF BULK AT MOST 1048576: true; the input reads as it did. -/
def fnKnwChainUptoRow : OpenClaim := { program := "ytjbnfcljkmapeaadoor", sum := "804fc7262371cc406d520da3dc151ab67db4d1a28c69446a5f437db0471477b7", func := "loop.example/keyward/laws.FnKnwChain", spec := "fnKnwChain", inPlace := ["internal/abi.NoEscape", "internal/bytealg.MakeNoZero"], unfollowed := true, recurses := true, named := ["internal/strconv.uint64pow10", "math/bits.deBruijn32tab", "math/bits.deBruijn64tab", "strconv.ErrSyntax", "strconv.ErrRange"], apart := false, laid := [("math/bits.deBruijn32tab", laid_math_bits_deBruijn32tab), ("math/bits.deBruijn64tab", laid_math_bits_deBruijn64tab), ("internal/strconv.uint64pow10", laid_internal_strconv_uint64pow10), ("strconv.ErrRange", laid_strconv_ErrRange), ("strconv.ErrSyntax", laid_strconv_ErrSyntax)], narrowed := true }
def FnKnwChainUptoSaid : Prop := fnKnwChainUptoRow.holds Tryd.pinned (OpenSpec.upto fnKnwChainSpec)

/-- 'laws.FnKnwHas', WHERE WHAT IT READS IS OF BULK AT MOST 1048576: true; the input reads as it did. -/
def fnKnwHasUptoRow : OpenClaim := { program := "ytjbnfcljkmapeaadoor", sum := "804fc7262371cc406d520da3dc151ab67db4d1a28c69446a5f437db0471477b7", func := "loop.example/keyward/laws.FnKnwHas", spec := "fnKnwHas", unfollowed := true, recurses := true, named := ["strconv.ErrSyntax", "strconv.ErrRange", "internal/strconv.uint64pow10", "math/bits.deBruijn32tab", "math/bits.deBruijn64tab"], apart := false, laid := [("math/bits.deBruijn32tab", laid_math_bits_deBruijn32tab), ("math/bits.deBruijn64tab", laid_math_bits_deBruijn64tab), ("internal/strconv.uint64pow10", laid_internal_strconv_uint64pow10), ("strconv.ErrRange", laid_strconv_ErrRange), ("strconv.ErrSyntax", laid_strconv_ErrSyntax)], narrowed := true }
def FnKnwHasUptoSaid : Prop := fnKnwHasUptoRow.holds Tryd.pinned (OpenSpec.upto fnKnwHasSpec)

/-- 'laws.FnKnwMake', WHERE WHAT IT READS IS OF BULK AT MOST 1048576: true; the input reads as it did. -/
def fnKnwMakeUptoRow : OpenClaim := { program := "ytjbnfcljkmapeaadoor", sum := "804fc7262371cc406d520da3dc151ab67db4d1a28c69446a5f437db0471477b7", func := "loop.example/keyward/laws.FnKnwMake", spec := "fnKnwMake", inPlace := ["internal/abi.NoEscape", "internal/bytealg.MakeNoZero"], unfollowed := true, recurses := true, named := ["strconv.ErrSyntax", "strconv.ErrRange", "internal/strconv.uint64pow10", "math/bits.deBruijn32tab", "math/bits.deBruijn64tab"], apart := false, laid := [("math/bits.deBruijn32tab", laid_math_bits_deBruijn32tab), ("math/bits.deBruijn64tab", laid_math_bits_deBruijn64tab), ("internal/strconv.uint64pow10", laid_internal_strconv_uint64pow10), ("strconv.ErrRange", laid_strconv_ErrRange), ("strconv.ErrSyntax", laid_strconv_ErrSyntax)], narrowed := true }
def FnKnwMakeUptoSaid : Prop := fnKnwMakeUptoRow.holds Tryd.pinned (OpenSpec.upto fnKnwMakeSpec)

/-- 'laws.FnKnwMore', WHERE WHAT IT READS IS OF BULK AT MOST 1048576: true; the input reads as it did. -/
def fnKnwMoreUptoRow : OpenClaim := { program := "ytjbnfcljkmapeaadoor", sum := "804fc7262371cc406d520da3dc151ab67db4d1a28c69446a5f437db0471477b7", func := "loop.example/keyward/laws.FnKnwMore", spec := "fnKnwMore", unfollowed := true, recurses := true, named := ["strconv.ErrSyntax", "strconv.ErrRange", "internal/strconv.uint64pow10", "math/bits.deBruijn32tab", "math/bits.deBruijn64tab"], apart := false, laid := [("math/bits.deBruijn32tab", laid_math_bits_deBruijn32tab), ("math/bits.deBruijn64tab", laid_math_bits_deBruijn64tab), ("internal/strconv.uint64pow10", laid_internal_strconv_uint64pow10), ("strconv.ErrRange", laid_strconv_ErrRange), ("strconv.ErrSyntax", laid_strconv_ErrSyntax)], narrowed := true }
def FnKnwMoreUptoSaid : Prop := fnKnwMoreUptoRow.holds Tryd.pinned (OpenSpec.upto fnKnwMoreSpec)

/-- 'laws.FnKnwOpen', WHERE WHAT IT READS IS OF BULK AT MOST 1048576: true; the input reads as it did. -/
def fnKnwOpenUptoRow : OpenClaim := { program := "ytjbnfcljkmapeaadoor", sum := "804fc7262371cc406d520da3dc151ab67db4d1a28c69446a5f437db0471477b7", func := "loop.example/keyward/laws.FnKnwOpen", spec := "fnKnwOpen", unfollowed := true, recurses := true, named := ["strconv.ErrSyntax", "strconv.ErrRange", "internal/strconv.uint64pow10", "math/bits.deBruijn32tab", "math/bits.deBruijn64tab"], apart := false, laid := [("math/bits.deBruijn32tab", laid_math_bits_deBruijn32tab), ("math/bits.deBruijn64tab", laid_math_bits_deBruijn64tab), ("internal/strconv.uint64pow10", laid_internal_strconv_uint64pow10), ("strconv.ErrRange", laid_strconv_ErrRange), ("strconv.ErrSyntax", laid_strconv_ErrSyntax)], narrowed := true }
def FnKnwOpenUptoSaid : Prop := fnKnwOpenUptoRow.holds Tryd.pinned (OpenSpec.upto fnKnwOpenSpec)

end Rows
end Go.Proofs.YtjbnfcljkmapeaaDoor
