/-
  NARROWER THAN 'FOR EVERY INPUT', by the rows' own cells (each row's printed sentence says how): FnExactSecOk: laid · FnExactSecMade: laid · FnExactFraOk: laid · FnExactMakEpoch: laid · FnExactMakKey: laid · FnExactMakNext: laid · FnExactTreOk: laid · FnExactWinOk: laid · FnExactMakRoom: laid · FnExactMakSay: laid · FnExactTreCover: laid · FnExactTreIn: laid.
  DERIVED. THE GIVEN ROWS OF THIS SEAT. 12 by the template 'for every input the law returns true; each argument reads behind the call as it read before'; 0 by the template 'total and deterministic' (their statements: YtpiapmmlppknbaaDoorTotals.lean).
  GIVEN WITH THE SEED: the statements are not yours to turn. If you find one false, say at which input.
  Laid BY PROGRAM, IN A SANDBOX (cutbox-rows.mjs): the forced cells as the released guide's own fill.sh prints them over the translation dba266ec3e045d13… (all of the seat's roots in one cut). By AI agents, Wed Nov 11 2026. No macro, syntax, notation, axiom, sorry.
-/
import Derived.Test.YtpiapmmlppknbaaDoorChecked
import GoSem.Claim
import GoSem.ClaimJoined
import GoSem.ClaimMapViews
import Derived.JoinedTies
import Derived.KernelRfl
namespace Go.Proofs.YtpiapmmlppknbaaDoor
/- THE CELL 'sum', in the pinned program and in every row, IS THE sha256 OF THE DUMP (.gsa) THAT YtpiapmmlppknbaaDoorProg.lean LOADS. Nothing in Lean hashes anything: it is a label: what it is worth is what the hold of that sum in a sandbox is worth. -/
noncomputable def Tryd.pinned : Pinned := { name := "ytpiapmmlppknbaadoor", sum := "dba266ec3e045d136ceac2e33ad23c68c05d189db47e76893217b383c2c59b4c", checked := Tryd.checked }
namespace Rows
def none {H : Type} : Left H := { results := [], args := [] }

/- WHAT THE LISTED PACKAGE-LEVEL VARIABLES READ AS WHEN THE CALL BEGINS. Each datum BY PROGRAM (the guide's laid-datum.mjs) off the statement by which the dump's own 'gosem.cut.vars' lays the variable. In a bare row this is a premise. The card (YtpiapmmlppknbaaDoorCards.lean) ties it to the program's text. -/
def laid_math_bits_deBruijn32tab {H : Type} : DataW H := .agg [.lit (.int .u8 0), .lit (.int .u8 1), .lit (.int .u8 28), .lit (.int .u8 2), .lit (.int .u8 29), .lit (.int .u8 14), .lit (.int .u8 24), .lit (.int .u8 3), .lit (.int .u8 30), .lit (.int .u8 22), .lit (.int .u8 20), .lit (.int .u8 15), .lit (.int .u8 25), .lit (.int .u8 17), .lit (.int .u8 4), .lit (.int .u8 8), .lit (.int .u8 31), .lit (.int .u8 27), .lit (.int .u8 13), .lit (.int .u8 23), .lit (.int .u8 21), .lit (.int .u8 19), .lit (.int .u8 16), .lit (.int .u8 7), .lit (.int .u8 26), .lit (.int .u8 12), .lit (.int .u8 18), .lit (.int .u8 6), .lit (.int .u8 11), .lit (.int .u8 5), .lit (.int .u8 10), .lit (.int .u8 9)]
def laid_math_bits_deBruijn64tab {H : Type} : DataW H := .agg [.lit (.int .u8 0), .lit (.int .u8 1), .lit (.int .u8 56), .lit (.int .u8 2), .lit (.int .u8 57), .lit (.int .u8 49), .lit (.int .u8 28), .lit (.int .u8 3), .lit (.int .u8 61), .lit (.int .u8 58), .lit (.int .u8 42), .lit (.int .u8 50), .lit (.int .u8 38), .lit (.int .u8 29), .lit (.int .u8 17), .lit (.int .u8 4), .lit (.int .u8 62), .lit (.int .u8 47), .lit (.int .u8 59), .lit (.int .u8 36), .lit (.int .u8 45), .lit (.int .u8 43), .lit (.int .u8 51), .lit (.int .u8 22), .lit (.int .u8 53), .lit (.int .u8 39), .lit (.int .u8 33), .lit (.int .u8 30), .lit (.int .u8 24), .lit (.int .u8 18), .lit (.int .u8 12), .lit (.int .u8 5), .lit (.int .u8 63), .lit (.int .u8 55), .lit (.int .u8 48), .lit (.int .u8 27), .lit (.int .u8 60), .lit (.int .u8 41), .lit (.int .u8 37), .lit (.int .u8 16), .lit (.int .u8 46), .lit (.int .u8 35), .lit (.int .u8 44), .lit (.int .u8 21), .lit (.int .u8 52), .lit (.int .u8 32), .lit (.int .u8 23), .lit (.int .u8 11), .lit (.int .u8 54), .lit (.int .u8 26), .lit (.int .u8 40), .lit (.int .u8 15), .lit (.int .u8 34), .lit (.int .u8 20), .lit (.int .u8 31), .lit (.int .u8 10), .lit (.int .u8 25), .lit (.int .u8 14), .lit (.int .u8 19), .lit (.int .u8 9), .lit (.int .u8 13), .lit (.int .u8 8), .lit (.int .u8 7), .lit (.int .u8 6)]
def laid_internal_strconv_uint64pow10 {H : Type} : DataW H := .agg [.lit (.int .u64 1), .lit (.int .u64 10), .lit (.int .u64 100), .lit (.int .u64 1000), .lit (.int .u64 10000), .lit (.int .u64 100000), .lit (.int .u64 1000000), .lit (.int .u64 10000000), .lit (.int .u64 100000000), .lit (.int .u64 1000000000), .lit (.int .u64 10000000000), .lit (.int .u64 100000000000), .lit (.int .u64 1000000000000), .lit (.int .u64 10000000000000), .lit (.int .u64 100000000000000), .lit (.int .u64 1000000000000000), .lit (.int .u64 10000000000000000), .lit (.int .u64 100000000000000000), .lit (.int .u64 1000000000000000000), .lit (.int .u64 10000000000000000000)]
def laid_strconv_ErrRange {H : Type} : DataW H := .iface "*errors.errorString" (.ptr (.agg [.lit (.string [118, 97, 108, 117, 101, 32, 111, 117, 116, 32, 111, 102, 32, 114, 97, 110, 103, 101])]))
def laid_strconv_ErrSyntax {H : Type} : DataW H := .iface "*errors.errorString" (.ptr (.agg [.lit (.string [105, 110, 118, 97, 108, 105, 100, 32, 115, 121, 110, 116, 97, 120])]))

/-- 'laws.FnExactSecOk': WHATEVER THE INPUT: true; the input reads as it did. -/
def fnExactSecOkSpec : ChangeSpec := { name := "fnExactSecOk", fn := fun _ => fun
  | [d] => { results := [.lit (.bool true)], args := [d] }
  | _ => none }
def fnExactSecOkRow : OpenClaim := { program := "ytpiapmmlppknbaadoor", sum := "dba266ec3e045d136ceac2e33ad23c68c05d189db47e76893217b383c2c59b4c", func := "loop.example/keyward/laws.FnExactSecOk", spec := "fnExactSecOk", recurses := true, named := ["strconv.ErrSyntax", "strconv.ErrRange", "internal/strconv.uint64pow10", "math/bits.deBruijn32tab", "math/bits.deBruijn64tab"], apart := false, laid := [("math/bits.deBruijn32tab", laid_math_bits_deBruijn32tab), ("math/bits.deBruijn64tab", laid_math_bits_deBruijn64tab), ("internal/strconv.uint64pow10", laid_internal_strconv_uint64pow10), ("strconv.ErrRange", laid_strconv_ErrRange), ("strconv.ErrSyntax", laid_strconv_ErrSyntax)] }
def FnExactSecOkSaid : Prop := fnExactSecOkRow.holds Tryd.pinned (OpenSpec.ofChange fnExactSecOkSpec)

/-- ITS FALSE NEIGHBOUR: 'it returns false'. Refute it at one input. -/
def fnExactSecOkWrong : ChangeSpec := { name := "fnExactSecOk", fn := fun _ => fun
  | [d] => { results := [.lit (.bool false)], args := [d] }
  | _ => none }
def FnExactSecOkWrongFalsely : Prop := fnExactSecOkRow.holds Tryd.pinned (OpenSpec.ofChange fnExactSecOkWrong)

/-- 'laws.FnExactSecMade': WHATEVER THE INPUT: true; the input reads as it did. -/
def fnExactSecMadeSpec : ChangeSpec := { name := "fnExactSecMade", fn := fun _ => fun
  | [d] => { results := [.lit (.bool true)], args := [d] }
  | _ => none }
def fnExactSecMadeRow : OpenClaim := { program := "ytpiapmmlppknbaadoor", sum := "dba266ec3e045d136ceac2e33ad23c68c05d189db47e76893217b383c2c59b4c", func := "loop.example/keyward/laws.FnExactSecMade", spec := "fnExactSecMade", recurses := true, named := ["strconv.ErrSyntax", "strconv.ErrRange", "internal/strconv.uint64pow10", "math/bits.deBruijn32tab", "math/bits.deBruijn64tab"], apart := false, laid := [("math/bits.deBruijn32tab", laid_math_bits_deBruijn32tab), ("math/bits.deBruijn64tab", laid_math_bits_deBruijn64tab), ("internal/strconv.uint64pow10", laid_internal_strconv_uint64pow10), ("strconv.ErrRange", laid_strconv_ErrRange), ("strconv.ErrSyntax", laid_strconv_ErrSyntax)] }
def FnExactSecMadeSaid : Prop := fnExactSecMadeRow.holds Tryd.pinned (OpenSpec.ofChange fnExactSecMadeSpec)

/-- ITS FALSE NEIGHBOUR: 'it returns false'. Refute it at one input. -/
def fnExactSecMadeWrong : ChangeSpec := { name := "fnExactSecMade", fn := fun _ => fun
  | [d] => { results := [.lit (.bool false)], args := [d] }
  | _ => none }
def FnExactSecMadeWrongFalsely : Prop := fnExactSecMadeRow.holds Tryd.pinned (OpenSpec.ofChange fnExactSecMadeWrong)

/-- 'laws.FnExactFraOk': WHATEVER THE INPUT: true; the input reads as it did. -/
def fnExactFraOkSpec : ChangeSpec := { name := "fnExactFraOk", fn := fun _ => fun
  | [d] => { results := [.lit (.bool true)], args := [d] }
  | _ => none }
def fnExactFraOkRow : OpenClaim := { program := "ytpiapmmlppknbaadoor", sum := "dba266ec3e045d136ceac2e33ad23c68c05d189db47e76893217b383c2c59b4c", func := "loop.example/keyward/laws.FnExactFraOk", spec := "fnExactFraOk", recurses := true, named := ["strconv.ErrSyntax", "strconv.ErrRange", "internal/strconv.uint64pow10", "math/bits.deBruijn32tab", "math/bits.deBruijn64tab"], apart := false, laid := [("math/bits.deBruijn32tab", laid_math_bits_deBruijn32tab), ("math/bits.deBruijn64tab", laid_math_bits_deBruijn64tab), ("internal/strconv.uint64pow10", laid_internal_strconv_uint64pow10), ("strconv.ErrRange", laid_strconv_ErrRange), ("strconv.ErrSyntax", laid_strconv_ErrSyntax)] }
def FnExactFraOkSaid : Prop := fnExactFraOkRow.holds Tryd.pinned (OpenSpec.ofChange fnExactFraOkSpec)

/-- ITS FALSE NEIGHBOUR: 'it returns false'. Refute it at one input. -/
def fnExactFraOkWrong : ChangeSpec := { name := "fnExactFraOk", fn := fun _ => fun
  | [d] => { results := [.lit (.bool false)], args := [d] }
  | _ => none }
def FnExactFraOkWrongFalsely : Prop := fnExactFraOkRow.holds Tryd.pinned (OpenSpec.ofChange fnExactFraOkWrong)

/-- 'laws.FnExactMakEpoch': WHATEVER THE INPUT: true; the input reads as it did. -/
def fnExactMakEpochSpec : ChangeSpec := { name := "fnExactMakEpoch", fn := fun _ => fun
  | [d1, d2] => { results := [.lit (.bool true)], args := [d1, d2] }
  | _ => none }
def fnExactMakEpochRow : OpenClaim := { program := "ytpiapmmlppknbaadoor", sum := "dba266ec3e045d136ceac2e33ad23c68c05d189db47e76893217b383c2c59b4c", func := "loop.example/keyward/laws.FnExactMakEpoch", spec := "fnExactMakEpoch", inPlace := ["internal/abi.NoEscape", "internal/bytealg.MakeNoZero"], recurses := true, named := ["strconv.ErrSyntax", "strconv.ErrRange", "internal/strconv.uint64pow10", "math/bits.deBruijn32tab", "math/bits.deBruijn64tab"], apart := false, laid := [("math/bits.deBruijn32tab", laid_math_bits_deBruijn32tab), ("math/bits.deBruijn64tab", laid_math_bits_deBruijn64tab), ("internal/strconv.uint64pow10", laid_internal_strconv_uint64pow10), ("strconv.ErrRange", laid_strconv_ErrRange), ("strconv.ErrSyntax", laid_strconv_ErrSyntax)] }
def FnExactMakEpochSaid : Prop := fnExactMakEpochRow.holds Tryd.pinned (OpenSpec.ofChange fnExactMakEpochSpec)

/-- ITS FALSE NEIGHBOUR: 'it returns false'. Refute it at one input. -/
def fnExactMakEpochWrong : ChangeSpec := { name := "fnExactMakEpoch", fn := fun _ => fun
  | [d1, d2] => { results := [.lit (.bool false)], args := [d1, d2] }
  | _ => none }
def FnExactMakEpochWrongFalsely : Prop := fnExactMakEpochRow.holds Tryd.pinned (OpenSpec.ofChange fnExactMakEpochWrong)

/-- 'laws.FnExactMakKey': WHATEVER THE INPUT: true; the input reads as it did. -/
def fnExactMakKeySpec : ChangeSpec := { name := "fnExactMakKey", fn := fun _ => fun
  | [d] => { results := [.lit (.bool true)], args := [d] }
  | _ => none }
def fnExactMakKeyRow : OpenClaim := { program := "ytpiapmmlppknbaadoor", sum := "dba266ec3e045d136ceac2e33ad23c68c05d189db47e76893217b383c2c59b4c", func := "loop.example/keyward/laws.FnExactMakKey", spec := "fnExactMakKey", inPlace := ["internal/abi.NoEscape", "internal/bytealg.MakeNoZero"], recurses := true, named := ["strconv.ErrSyntax", "strconv.ErrRange", "internal/strconv.uint64pow10", "math/bits.deBruijn32tab", "math/bits.deBruijn64tab"], apart := false, laid := [("math/bits.deBruijn32tab", laid_math_bits_deBruijn32tab), ("math/bits.deBruijn64tab", laid_math_bits_deBruijn64tab), ("internal/strconv.uint64pow10", laid_internal_strconv_uint64pow10), ("strconv.ErrRange", laid_strconv_ErrRange), ("strconv.ErrSyntax", laid_strconv_ErrSyntax)] }
def FnExactMakKeySaid : Prop := fnExactMakKeyRow.holds Tryd.pinned (OpenSpec.ofChange fnExactMakKeySpec)

/-- ITS FALSE NEIGHBOUR: 'it returns false'. Refute it at one input. -/
def fnExactMakKeyWrong : ChangeSpec := { name := "fnExactMakKey", fn := fun _ => fun
  | [d] => { results := [.lit (.bool false)], args := [d] }
  | _ => none }
def FnExactMakKeyWrongFalsely : Prop := fnExactMakKeyRow.holds Tryd.pinned (OpenSpec.ofChange fnExactMakKeyWrong)

/-- 'laws.FnExactMakNext': WHATEVER THE INPUT: true; the input reads as it did. -/
def fnExactMakNextSpec : ChangeSpec := { name := "fnExactMakNext", fn := fun _ => fun
  | [d] => { results := [.lit (.bool true)], args := [d] }
  | _ => none }
def fnExactMakNextRow : OpenClaim := { program := "ytpiapmmlppknbaadoor", sum := "dba266ec3e045d136ceac2e33ad23c68c05d189db47e76893217b383c2c59b4c", func := "loop.example/keyward/laws.FnExactMakNext", spec := "fnExactMakNext", inPlace := ["internal/abi.NoEscape", "internal/bytealg.MakeNoZero"], recurses := true, named := ["strconv.ErrSyntax", "strconv.ErrRange", "internal/strconv.uint64pow10", "math/bits.deBruijn32tab", "math/bits.deBruijn64tab"], apart := false, laid := [("math/bits.deBruijn32tab", laid_math_bits_deBruijn32tab), ("math/bits.deBruijn64tab", laid_math_bits_deBruijn64tab), ("internal/strconv.uint64pow10", laid_internal_strconv_uint64pow10), ("strconv.ErrRange", laid_strconv_ErrRange), ("strconv.ErrSyntax", laid_strconv_ErrSyntax)] }
def FnExactMakNextSaid : Prop := fnExactMakNextRow.holds Tryd.pinned (OpenSpec.ofChange fnExactMakNextSpec)

/-- ITS FALSE NEIGHBOUR: 'it returns false'. Refute it at one input. -/
def fnExactMakNextWrong : ChangeSpec := { name := "fnExactMakNext", fn := fun _ => fun
  | [d] => { results := [.lit (.bool false)], args := [d] }
  | _ => none }
def FnExactMakNextWrongFalsely : Prop := fnExactMakNextRow.holds Tryd.pinned (OpenSpec.ofChange fnExactMakNextWrong)

/-- 'laws.FnExactTreOk': WHATEVER THE INPUT: true; the input reads as it did. -/
def fnExactTreOkSpec : ChangeSpec := { name := "fnExactTreOk", fn := fun _ => fun
  | [d] => { results := [.lit (.bool true)], args := [d] }
  | _ => none }
def fnExactTreOkRow : OpenClaim := { program := "ytpiapmmlppknbaadoor", sum := "dba266ec3e045d136ceac2e33ad23c68c05d189db47e76893217b383c2c59b4c", func := "loop.example/keyward/laws.FnExactTreOk", spec := "fnExactTreOk", unfollowed := true, recurses := true, named := ["strconv.ErrSyntax", "strconv.ErrRange", "internal/strconv.uint64pow10", "math/bits.deBruijn32tab", "math/bits.deBruijn64tab"], apart := false, laid := [("math/bits.deBruijn32tab", laid_math_bits_deBruijn32tab), ("math/bits.deBruijn64tab", laid_math_bits_deBruijn64tab), ("internal/strconv.uint64pow10", laid_internal_strconv_uint64pow10), ("strconv.ErrRange", laid_strconv_ErrRange), ("strconv.ErrSyntax", laid_strconv_ErrSyntax)] }
def FnExactTreOkSaid : Prop := fnExactTreOkRow.holds Tryd.pinned (OpenSpec.ofChange fnExactTreOkSpec)

/-- ITS FALSE NEIGHBOUR: 'it returns false'. Refute it at one input. -/
def fnExactTreOkWrong : ChangeSpec := { name := "fnExactTreOk", fn := fun _ => fun
  | [d] => { results := [.lit (.bool false)], args := [d] }
  | _ => none }
def FnExactTreOkWrongFalsely : Prop := fnExactTreOkRow.holds Tryd.pinned (OpenSpec.ofChange fnExactTreOkWrong)

/-- 'laws.FnExactWinOk': WHATEVER THE INPUT: true; the input reads as it did. -/
def fnExactWinOkSpec : ChangeSpec := { name := "fnExactWinOk", fn := fun _ => fun
  | [d] => { results := [.lit (.bool true)], args := [d] }
  | _ => none }
def fnExactWinOkRow : OpenClaim := { program := "ytpiapmmlppknbaadoor", sum := "dba266ec3e045d136ceac2e33ad23c68c05d189db47e76893217b383c2c59b4c", func := "loop.example/keyward/laws.FnExactWinOk", spec := "fnExactWinOk", recurses := true, named := ["strconv.ErrSyntax", "strconv.ErrRange", "internal/strconv.uint64pow10", "math/bits.deBruijn32tab", "math/bits.deBruijn64tab"], apart := false, laid := [("math/bits.deBruijn32tab", laid_math_bits_deBruijn32tab), ("math/bits.deBruijn64tab", laid_math_bits_deBruijn64tab), ("internal/strconv.uint64pow10", laid_internal_strconv_uint64pow10), ("strconv.ErrRange", laid_strconv_ErrRange), ("strconv.ErrSyntax", laid_strconv_ErrSyntax)] }
def FnExactWinOkSaid : Prop := fnExactWinOkRow.holds Tryd.pinned (OpenSpec.ofChange fnExactWinOkSpec)

/-- ITS FALSE NEIGHBOUR: 'it returns false'. Refute it at one input. -/
def fnExactWinOkWrong : ChangeSpec := { name := "fnExactWinOk", fn := fun _ => fun
  | [d] => { results := [.lit (.bool false)], args := [d] }
  | _ => none }
def FnExactWinOkWrongFalsely : Prop := fnExactWinOkRow.holds Tryd.pinned (OpenSpec.ofChange fnExactWinOkWrong)

/-- 'laws.FnExactMakRoom': WHATEVER THE INPUT: true; the input reads as it did. -/
def fnExactMakRoomSpec : ChangeSpec := { name := "fnExactMakRoom", fn := fun _ => fun
  | [d1, d2] => { results := [.lit (.bool true)], args := [d1, d2] }
  | _ => none }
def fnExactMakRoomRow : OpenClaim := { program := "ytpiapmmlppknbaadoor", sum := "dba266ec3e045d136ceac2e33ad23c68c05d189db47e76893217b383c2c59b4c", func := "loop.example/keyward/laws.FnExactMakRoom", spec := "fnExactMakRoom", inPlace := ["internal/abi.NoEscape", "internal/bytealg.MakeNoZero"], recurses := true, named := ["internal/strconv.uint64pow10", "math/bits.deBruijn32tab", "math/bits.deBruijn64tab", "strconv.ErrSyntax", "strconv.ErrRange"], apart := false, laid := [("math/bits.deBruijn32tab", laid_math_bits_deBruijn32tab), ("math/bits.deBruijn64tab", laid_math_bits_deBruijn64tab), ("internal/strconv.uint64pow10", laid_internal_strconv_uint64pow10), ("strconv.ErrRange", laid_strconv_ErrRange), ("strconv.ErrSyntax", laid_strconv_ErrSyntax)] }
def FnExactMakRoomSaid : Prop := fnExactMakRoomRow.holds Tryd.pinned (OpenSpec.ofChange fnExactMakRoomSpec)

/-- ITS FALSE NEIGHBOUR: 'it returns false'. Refute it at one input. -/
def fnExactMakRoomWrong : ChangeSpec := { name := "fnExactMakRoom", fn := fun _ => fun
  | [d1, d2] => { results := [.lit (.bool false)], args := [d1, d2] }
  | _ => none }
def FnExactMakRoomWrongFalsely : Prop := fnExactMakRoomRow.holds Tryd.pinned (OpenSpec.ofChange fnExactMakRoomWrong)

/-- 'laws.FnExactMakSay': WHATEVER THE INPUT: true; the input reads as it did. -/
def fnExactMakSaySpec : ChangeSpec := { name := "fnExactMakSay", fn := fun _ => fun
  | [d1, d2] => { results := [.lit (.bool true)], args := [d1, d2] }
  | _ => none }
def fnExactMakSayRow : OpenClaim := { program := "ytpiapmmlppknbaadoor", sum := "dba266ec3e045d136ceac2e33ad23c68c05d189db47e76893217b383c2c59b4c", func := "loop.example/keyward/laws.FnExactMakSay", spec := "fnExactMakSay", inPlace := ["internal/abi.NoEscape", "internal/bytealg.MakeNoZero"], recurses := true, named := ["strconv.ErrSyntax", "strconv.ErrRange", "internal/strconv.uint64pow10", "math/bits.deBruijn32tab", "math/bits.deBruijn64tab"], apart := false, laid := [("math/bits.deBruijn32tab", laid_math_bits_deBruijn32tab), ("math/bits.deBruijn64tab", laid_math_bits_deBruijn64tab), ("internal/strconv.uint64pow10", laid_internal_strconv_uint64pow10), ("strconv.ErrRange", laid_strconv_ErrRange), ("strconv.ErrSyntax", laid_strconv_ErrSyntax)] }
def FnExactMakSaySaid : Prop := fnExactMakSayRow.holds Tryd.pinned (OpenSpec.ofChange fnExactMakSaySpec)

/-- ITS FALSE NEIGHBOUR: 'it returns false'. Refute it at one input. -/
def fnExactMakSayWrong : ChangeSpec := { name := "fnExactMakSay", fn := fun _ => fun
  | [d1, d2] => { results := [.lit (.bool false)], args := [d1, d2] }
  | _ => none }
def FnExactMakSayWrongFalsely : Prop := fnExactMakSayRow.holds Tryd.pinned (OpenSpec.ofChange fnExactMakSayWrong)

/-- 'laws.FnExactTreCover': WHATEVER THE INPUT: true; the input reads as it did. -/
def fnExactTreCoverSpec : ChangeSpec := { name := "fnExactTreCover", fn := fun _ => fun
  | [d1, d2] => { results := [.lit (.bool true)], args := [d1, d2] }
  | _ => none }
def fnExactTreCoverRow : OpenClaim := { program := "ytpiapmmlppknbaadoor", sum := "dba266ec3e045d136ceac2e33ad23c68c05d189db47e76893217b383c2c59b4c", func := "loop.example/keyward/laws.FnExactTreCover", spec := "fnExactTreCover", unfollowed := true, recurses := true, named := ["strconv.ErrSyntax", "strconv.ErrRange", "internal/strconv.uint64pow10", "math/bits.deBruijn32tab", "math/bits.deBruijn64tab"], apart := false, laid := [("math/bits.deBruijn32tab", laid_math_bits_deBruijn32tab), ("math/bits.deBruijn64tab", laid_math_bits_deBruijn64tab), ("internal/strconv.uint64pow10", laid_internal_strconv_uint64pow10), ("strconv.ErrRange", laid_strconv_ErrRange), ("strconv.ErrSyntax", laid_strconv_ErrSyntax)] }
def FnExactTreCoverSaid : Prop := fnExactTreCoverRow.holds Tryd.pinned (OpenSpec.ofChange fnExactTreCoverSpec)

/-- ITS FALSE NEIGHBOUR: 'it returns false'. Refute it at one input. -/
def fnExactTreCoverWrong : ChangeSpec := { name := "fnExactTreCover", fn := fun _ => fun
  | [d1, d2] => { results := [.lit (.bool false)], args := [d1, d2] }
  | _ => none }
def FnExactTreCoverWrongFalsely : Prop := fnExactTreCoverRow.holds Tryd.pinned (OpenSpec.ofChange fnExactTreCoverWrong)

/-- 'laws.FnExactTreIn': WHATEVER THE INPUT: true; the input reads as it did. -/
def fnExactTreInSpec : ChangeSpec := { name := "fnExactTreIn", fn := fun _ => fun
  | [d] => { results := [.lit (.bool true)], args := [d] }
  | _ => none }
def fnExactTreInRow : OpenClaim := { program := "ytpiapmmlppknbaadoor", sum := "dba266ec3e045d136ceac2e33ad23c68c05d189db47e76893217b383c2c59b4c", func := "loop.example/keyward/laws.FnExactTreIn", spec := "fnExactTreIn", unfollowed := true, recurses := true, named := ["strconv.ErrSyntax", "strconv.ErrRange", "internal/strconv.uint64pow10", "math/bits.deBruijn32tab", "math/bits.deBruijn64tab"], apart := false, laid := [("math/bits.deBruijn32tab", laid_math_bits_deBruijn32tab), ("math/bits.deBruijn64tab", laid_math_bits_deBruijn64tab), ("internal/strconv.uint64pow10", laid_internal_strconv_uint64pow10), ("strconv.ErrRange", laid_strconv_ErrRange), ("strconv.ErrSyntax", laid_strconv_ErrSyntax)] }
def FnExactTreInSaid : Prop := fnExactTreInRow.holds Tryd.pinned (OpenSpec.ofChange fnExactTreInSpec)

/-- ITS FALSE NEIGHBOUR: 'it returns false'. Refute it at one input. -/
def fnExactTreInWrong : ChangeSpec := { name := "fnExactTreIn", fn := fun _ => fun
  | [d] => { results := [.lit (.bool false)], args := [d] }
  | _ => none }
def FnExactTreInWrongFalsely : Prop := fnExactTreInRow.holds Tryd.pinned (OpenSpec.ofChange fnExactTreInWrong)

/- THE SECOND FORM. 'bulk': how many values and letters a reading holds, each counted each time it is reached (what is shared counts as often as it is met; a slice's spare places count too). A statement '..UptoSaid' is the law's where the arguments, and the package variables that the reading takes, are together of bulk at most 1048576: NARROWER than '..Said'. Prove '..Said' where nothing that the law and all that it calls make is longer than what came in: it says more and counts as full. Else prove '..UptoSaid'. A law counts once. -/
mutual
def uptoBulk {H : Type} : DataW H → Nat
  | .lit (.string bytes) => bytes.length + 1
  | .lit _ => 1
  | .nil => 1
  | .ptr d => uptoBulk d + 1
  | .slice elems spare => uptoBulkAll elems + uptoBulkAll spare + 1
  | .agg parts => uptoBulkAll parts + 1
  | .iface _ d => uptoBulk d + 1
  | .map entries => uptoBulkEntries entries + 1
  | .held _ => 1
def uptoBulkAll {H : Type} : List (DataW H) → Nat
  | [] => 0
  | d :: r => uptoBulk d + uptoBulkAll r
def uptoBulkEntries {H : Type} : List (Lit × DataW H) → Nat
  | [] => 0
  | x :: r => uptoBulkEntry x + uptoBulkEntries r
def uptoBulkEntry {H : Type} : Lit × DataW H → Nat
  | (.string bytes, d) => bytes.length + uptoBulk d + 1
  | (_, d) => uptoBulk d + 1
 end
def uptoSmall : (H : Type) → List (DataW H) → Bool := fun _ ds => decide (uptoBulkAll ds ≤ 1048576)
def OpenSpec.upto (s : _root_.Go.ChangeSpec) : _root_.Go.OpenSpec := { _root_.Go.OpenSpec.ofChange s with cond := some uptoSmall }

/-- 'laws.FnExactSecOk', WHERE WHAT IT READS IS OF BULK AT MOST 1048576: true; the input reads as it did. -/
def fnExactSecOkUptoRow : OpenClaim := { program := "ytpiapmmlppknbaadoor", sum := "dba266ec3e045d136ceac2e33ad23c68c05d189db47e76893217b383c2c59b4c", func := "loop.example/keyward/laws.FnExactSecOk", spec := "fnExactSecOk", recurses := true, named := ["strconv.ErrSyntax", "strconv.ErrRange", "internal/strconv.uint64pow10", "math/bits.deBruijn32tab", "math/bits.deBruijn64tab"], apart := false, laid := [("math/bits.deBruijn32tab", laid_math_bits_deBruijn32tab), ("math/bits.deBruijn64tab", laid_math_bits_deBruijn64tab), ("internal/strconv.uint64pow10", laid_internal_strconv_uint64pow10), ("strconv.ErrRange", laid_strconv_ErrRange), ("strconv.ErrSyntax", laid_strconv_ErrSyntax)], narrowed := true }
def FnExactSecOkUptoSaid : Prop := fnExactSecOkUptoRow.holds Tryd.pinned (OpenSpec.upto fnExactSecOkSpec)

/-- 'laws.FnExactSecMade', WHERE WHAT IT READS IS OF BULK AT MOST 1048576: true; the input reads as it did. -/
def fnExactSecMadeUptoRow : OpenClaim := { program := "ytpiapmmlppknbaadoor", sum := "dba266ec3e045d136ceac2e33ad23c68c05d189db47e76893217b383c2c59b4c", func := "loop.example/keyward/laws.FnExactSecMade", spec := "fnExactSecMade", recurses := true, named := ["strconv.ErrSyntax", "strconv.ErrRange", "internal/strconv.uint64pow10", "math/bits.deBruijn32tab", "math/bits.deBruijn64tab"], apart := false, laid := [("math/bits.deBruijn32tab", laid_math_bits_deBruijn32tab), ("math/bits.deBruijn64tab", laid_math_bits_deBruijn64tab), ("internal/strconv.uint64pow10", laid_internal_strconv_uint64pow10), ("strconv.ErrRange", laid_strconv_ErrRange), ("strconv.ErrSyntax", laid_strconv_ErrSyntax)], narrowed := true }
def FnExactSecMadeUptoSaid : Prop := fnExactSecMadeUptoRow.holds Tryd.pinned (OpenSpec.upto fnExactSecMadeSpec)

/-- 'laws.FnExactFraOk', WHERE WHAT IT READS IS OF BULK AT MOST 1048576: true; the input reads as it did. -/
def fnExactFraOkUptoRow : OpenClaim := { program := "ytpiapmmlppknbaadoor", sum := "dba266ec3e045d136ceac2e33ad23c68c05d189db47e76893217b383c2c59b4c", func := "loop.example/keyward/laws.FnExactFraOk", spec := "fnExactFraOk", recurses := true, named := ["strconv.ErrSyntax", "strconv.ErrRange", "internal/strconv.uint64pow10", "math/bits.deBruijn32tab", "math/bits.deBruijn64tab"], apart := false, laid := [("math/bits.deBruijn32tab", laid_math_bits_deBruijn32tab), ("math/bits.deBruijn64tab", laid_math_bits_deBruijn64tab), ("internal/strconv.uint64pow10", laid_internal_strconv_uint64pow10), ("strconv.ErrRange", laid_strconv_ErrRange), ("strconv.ErrSyntax", laid_strconv_ErrSyntax)], narrowed := true }
def FnExactFraOkUptoSaid : Prop := fnExactFraOkUptoRow.holds Tryd.pinned (OpenSpec.upto fnExactFraOkSpec)

/-- 'laws.FnExactMakEpoch', WHERE WHAT IT READS IS OF BULK AT MOST 1048576: true; the input reads as it did. -/
def fnExactMakEpochUptoRow : OpenClaim := { program := "ytpiapmmlppknbaadoor", sum := "dba266ec3e045d136ceac2e33ad23c68c05d189db47e76893217b383c2c59b4c", func := "loop.example/keyward/laws.FnExactMakEpoch", spec := "fnExactMakEpoch", inPlace := ["internal/abi.NoEscape", "internal/bytealg.MakeNoZero"], recurses := true, named := ["strconv.ErrSyntax", "strconv.ErrRange", "internal/strconv.uint64pow10", "math/bits.deBruijn32tab", "math/bits.deBruijn64tab"], apart := false, laid := [("math/bits.deBruijn32tab", laid_math_bits_deBruijn32tab), ("math/bits.deBruijn64tab", laid_math_bits_deBruijn64tab), ("internal/strconv.uint64pow10", laid_internal_strconv_uint64pow10), ("strconv.ErrRange", laid_strconv_ErrRange), ("strconv.ErrSyntax", laid_strconv_ErrSyntax)], narrowed := true }
def FnExactMakEpochUptoSaid : Prop := fnExactMakEpochUptoRow.holds Tryd.pinned (OpenSpec.upto fnExactMakEpochSpec)

/-- 'laws.FnExactMakKey', WHERE WHAT IT READS IS OF BULK AT MOST 1048576: true; the input reads as it did. -/
def fnExactMakKeyUptoRow : OpenClaim := { program := "ytpiapmmlppknbaadoor", sum := "dba266ec3e045d136ceac2e33ad23c68c05d189db47e76893217b383c2c59b4c", func := "loop.example/keyward/laws.FnExactMakKey", spec := "fnExactMakKey", inPlace := ["internal/abi.NoEscape", "internal/bytealg.MakeNoZero"], recurses := true, named := ["strconv.ErrSyntax", "strconv.ErrRange", "internal/strconv.uint64pow10", "math/bits.deBruijn32tab", "math/bits.deBruijn64tab"], apart := false, laid := [("math/bits.deBruijn32tab", laid_math_bits_deBruijn32tab), ("math/bits.deBruijn64tab", laid_math_bits_deBruijn64tab), ("internal/strconv.uint64pow10", laid_internal_strconv_uint64pow10), ("strconv.ErrRange", laid_strconv_ErrRange), ("strconv.ErrSyntax", laid_strconv_ErrSyntax)], narrowed := true }
def FnExactMakKeyUptoSaid : Prop := fnExactMakKeyUptoRow.holds Tryd.pinned (OpenSpec.upto fnExactMakKeySpec)

/-- 'laws.FnExactMakNext', WHERE WHAT IT READS IS OF BULK AT MOST 1048576: true; the input reads as it did. -/
def fnExactMakNextUptoRow : OpenClaim := { program := "ytpiapmmlppknbaadoor", sum := "dba266ec3e045d136ceac2e33ad23c68c05d189db47e76893217b383c2c59b4c", func := "loop.example/keyward/laws.FnExactMakNext", spec := "fnExactMakNext", inPlace := ["internal/abi.NoEscape", "internal/bytealg.MakeNoZero"], recurses := true, named := ["strconv.ErrSyntax", "strconv.ErrRange", "internal/strconv.uint64pow10", "math/bits.deBruijn32tab", "math/bits.deBruijn64tab"], apart := false, laid := [("math/bits.deBruijn32tab", laid_math_bits_deBruijn32tab), ("math/bits.deBruijn64tab", laid_math_bits_deBruijn64tab), ("internal/strconv.uint64pow10", laid_internal_strconv_uint64pow10), ("strconv.ErrRange", laid_strconv_ErrRange), ("strconv.ErrSyntax", laid_strconv_ErrSyntax)], narrowed := true }
def FnExactMakNextUptoSaid : Prop := fnExactMakNextUptoRow.holds Tryd.pinned (OpenSpec.upto fnExactMakNextSpec)

/-- 'laws.FnExactTreOk', WHERE WHAT IT READS IS OF BULK AT MOST 1048576: true; the input reads as it did. -/
def fnExactTreOkUptoRow : OpenClaim := { program := "ytpiapmmlppknbaadoor", sum := "dba266ec3e045d136ceac2e33ad23c68c05d189db47e76893217b383c2c59b4c", func := "loop.example/keyward/laws.FnExactTreOk", spec := "fnExactTreOk", unfollowed := true, recurses := true, named := ["strconv.ErrSyntax", "strconv.ErrRange", "internal/strconv.uint64pow10", "math/bits.deBruijn32tab", "math/bits.deBruijn64tab"], apart := false, laid := [("math/bits.deBruijn32tab", laid_math_bits_deBruijn32tab), ("math/bits.deBruijn64tab", laid_math_bits_deBruijn64tab), ("internal/strconv.uint64pow10", laid_internal_strconv_uint64pow10), ("strconv.ErrRange", laid_strconv_ErrRange), ("strconv.ErrSyntax", laid_strconv_ErrSyntax)], narrowed := true }
def FnExactTreOkUptoSaid : Prop := fnExactTreOkUptoRow.holds Tryd.pinned (OpenSpec.upto fnExactTreOkSpec)

/-- 'laws.FnExactWinOk', WHERE WHAT IT READS IS OF BULK AT MOST 1048576: true; the input reads as it did. -/
def fnExactWinOkUptoRow : OpenClaim := { program := "ytpiapmmlppknbaadoor", sum := "dba266ec3e045d136ceac2e33ad23c68c05d189db47e76893217b383c2c59b4c", func := "loop.example/keyward/laws.FnExactWinOk", spec := "fnExactWinOk", recurses := true, named := ["strconv.ErrSyntax", "strconv.ErrRange", "internal/strconv.uint64pow10", "math/bits.deBruijn32tab", "math/bits.deBruijn64tab"], apart := false, laid := [("math/bits.deBruijn32tab", laid_math_bits_deBruijn32tab), ("math/bits.deBruijn64tab", laid_math_bits_deBruijn64tab), ("internal/strconv.uint64pow10", laid_internal_strconv_uint64pow10), ("strconv.ErrRange", laid_strconv_ErrRange), ("strconv.ErrSyntax", laid_strconv_ErrSyntax)], narrowed := true }
def FnExactWinOkUptoSaid : Prop := fnExactWinOkUptoRow.holds Tryd.pinned (OpenSpec.upto fnExactWinOkSpec)

/-- 'laws.FnExactMakRoom', WHERE WHAT IT READS IS OF BULK AT MOST 1048576: true; the input reads as it did. -/
def fnExactMakRoomUptoRow : OpenClaim := { program := "ytpiapmmlppknbaadoor", sum := "dba266ec3e045d136ceac2e33ad23c68c05d189db47e76893217b383c2c59b4c", func := "loop.example/keyward/laws.FnExactMakRoom", spec := "fnExactMakRoom", inPlace := ["internal/abi.NoEscape", "internal/bytealg.MakeNoZero"], recurses := true, named := ["internal/strconv.uint64pow10", "math/bits.deBruijn32tab", "math/bits.deBruijn64tab", "strconv.ErrSyntax", "strconv.ErrRange"], apart := false, laid := [("math/bits.deBruijn32tab", laid_math_bits_deBruijn32tab), ("math/bits.deBruijn64tab", laid_math_bits_deBruijn64tab), ("internal/strconv.uint64pow10", laid_internal_strconv_uint64pow10), ("strconv.ErrRange", laid_strconv_ErrRange), ("strconv.ErrSyntax", laid_strconv_ErrSyntax)], narrowed := true }
def FnExactMakRoomUptoSaid : Prop := fnExactMakRoomUptoRow.holds Tryd.pinned (OpenSpec.upto fnExactMakRoomSpec)

/-- 'laws.FnExactMakSay', WHERE WHAT IT READS IS OF BULK AT MOST 1048576: true; the input reads as it did. -/
def fnExactMakSayUptoRow : OpenClaim := { program := "ytpiapmmlppknbaadoor", sum := "dba266ec3e045d136ceac2e33ad23c68c05d189db47e76893217b383c2c59b4c", func := "loop.example/keyward/laws.FnExactMakSay", spec := "fnExactMakSay", inPlace := ["internal/abi.NoEscape", "internal/bytealg.MakeNoZero"], recurses := true, named := ["strconv.ErrSyntax", "strconv.ErrRange", "internal/strconv.uint64pow10", "math/bits.deBruijn32tab", "math/bits.deBruijn64tab"], apart := false, laid := [("math/bits.deBruijn32tab", laid_math_bits_deBruijn32tab), ("math/bits.deBruijn64tab", laid_math_bits_deBruijn64tab), ("internal/strconv.uint64pow10", laid_internal_strconv_uint64pow10), ("strconv.ErrRange", laid_strconv_ErrRange), ("strconv.ErrSyntax", laid_strconv_ErrSyntax)], narrowed := true }
def FnExactMakSayUptoSaid : Prop := fnExactMakSayUptoRow.holds Tryd.pinned (OpenSpec.upto fnExactMakSaySpec)

/-- 'laws.FnExactTreCover', WHERE WHAT IT READS IS OF BULK AT MOST 1048576: true; the input reads as it did. -/
def fnExactTreCoverUptoRow : OpenClaim := { program := "ytpiapmmlppknbaadoor", sum := "dba266ec3e045d136ceac2e33ad23c68c05d189db47e76893217b383c2c59b4c", func := "loop.example/keyward/laws.FnExactTreCover", spec := "fnExactTreCover", unfollowed := true, recurses := true, named := ["strconv.ErrSyntax", "strconv.ErrRange", "internal/strconv.uint64pow10", "math/bits.deBruijn32tab", "math/bits.deBruijn64tab"], apart := false, laid := [("math/bits.deBruijn32tab", laid_math_bits_deBruijn32tab), ("math/bits.deBruijn64tab", laid_math_bits_deBruijn64tab), ("internal/strconv.uint64pow10", laid_internal_strconv_uint64pow10), ("strconv.ErrRange", laid_strconv_ErrRange), ("strconv.ErrSyntax", laid_strconv_ErrSyntax)], narrowed := true }
def FnExactTreCoverUptoSaid : Prop := fnExactTreCoverUptoRow.holds Tryd.pinned (OpenSpec.upto fnExactTreCoverSpec)

/-- 'laws.FnExactTreIn', WHERE WHAT IT READS IS OF BULK AT MOST 1048576: true; the input reads as it did. -/
def fnExactTreInUptoRow : OpenClaim := { program := "ytpiapmmlppknbaadoor", sum := "dba266ec3e045d136ceac2e33ad23c68c05d189db47e76893217b383c2c59b4c", func := "loop.example/keyward/laws.FnExactTreIn", spec := "fnExactTreIn", unfollowed := true, recurses := true, named := ["strconv.ErrSyntax", "strconv.ErrRange", "internal/strconv.uint64pow10", "math/bits.deBruijn32tab", "math/bits.deBruijn64tab"], apart := false, laid := [("math/bits.deBruijn32tab", laid_math_bits_deBruijn32tab), ("math/bits.deBruijn64tab", laid_math_bits_deBruijn64tab), ("internal/strconv.uint64pow10", laid_internal_strconv_uint64pow10), ("strconv.ErrRange", laid_strconv_ErrRange), ("strconv.ErrSyntax", laid_strconv_ErrSyntax)], narrowed := true }
def FnExactTreInUptoSaid : Prop := fnExactTreInUptoRow.holds Tryd.pinned (OpenSpec.upto fnExactTreInSpec)

end Rows
end Go.Proofs.YtpiapmmlppknbaaDoor
