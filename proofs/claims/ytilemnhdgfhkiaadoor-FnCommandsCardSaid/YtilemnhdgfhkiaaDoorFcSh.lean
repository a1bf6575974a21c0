/- What the functions compute, over plain values. -/
import Derived.Test.YtilemnhdgfhkiaaDoorKc
set_option linter.all false
set_option maxRecDepth 100000
namespace Go.Proofs.YtilemnhdgfhkiaaDoor.Fc
open Go Go.Kn

abbrev TAnswer := Int × Int × ByteArray × ByteArray
@[reducible] def eAnswer : ET := (.p (.i .i64) (.p (.i .i64) (.p .s .s)))
def zAnswer : TAnswer := (0, 0, ByteArray.empty, ByteArray.empty)
abbrev TCmd := Int × Int × Int × Int × TAnswer
@[reducible] def eCmd : ET := (.p (.i .i64) (.p (.i .i64) (.p (.i .i64) (.p (.i .i64) eAnswer))))
def zCmd : TCmd := (0, 0, 0, 0, zAnswer)
def qCmd (v w : TCmd) : Bool := eqv eCmd v w
abbrev TMark := Int × Int
@[reducible] def eMark : ET := (.p (.i .i64) (.i .i64))
def zMark : TMark := (0, 0)
abbrev Tl1Cur := (List Int) × TMark
@[reducible] def el1Cur : ET := (.p (.sl (.i .u8)) eMark)
def zl1Cur : Tl1Cur := ([], zMark)
abbrev TSetup := Int × Int × TMark
@[reducible] def eSetup : ET := (.p (.i .i64) (.p (.i .i64) eMark))
def zSetup : TSetup := (0, 0, zMark)

def l_big (a0 : List Int) : Option (Bool × Unit) :=
  some (decide (((a0.length : Nat) : Int) > 1048576), ())

def s_l1New.l0b (K : Nat) (a0 : List Int) (L0 : Int → Int → Option (Tl1Cur × Unit)) (q0 : Int) (q1 : Int) : Option (Tl1Cur × Unit) :=
  bif decide (q1 < ((a0.length : Nat) : Int)) then bif decide (q1 < 4000) then bif decide ((0 : Int) ≤ q1) then bif decide (q1 < ((a0.length : Nat) : Int)) then L0 (IntKind.i64.wrap ((BitVec.ofInt (IntKind.bits .i64) (IntKind.i64.wrap ((IntKind.i64.wrap ((IntKind.i64.wrap (q0 * 131)) + (IntKind.i64.wrap (a0.getD (Int.toNat q1) 0)))) + 7)) &&& BitVec.ofInt (IntKind.bits .i64) 1073741823).toNat : Int)) (IntKind.i64.wrap (q1 + 1))
      else none
      else none
    else some ((a0, 0, q0), ())
  else some ((a0, 0, q0), ())
def s_l1New.l0 (K : Nat) (a0 : List Int) : Nat → Int → Int → Option (Tl1Cur × Unit)
  | 0, _, _ => none
  | n + 1, q0, q1 => s_l1New.l0b K a0 (s_l1New.l0 K a0 n) q0 q1
def s_l1New.b (K : Nat) (a0 : List Int) (L0 : Int → Int → Option (Tl1Cur × Unit)) : Option (Tl1Cur × Unit) :=
  L0 (IntKind.i64.wrap (24548 + ((a0.length : Nat) : Int))) 0
def s_l1New (K : Nat) (a0 : List Int) : Option (Tl1Cur × Unit) := s_l1New.b K a0 (s_l1New.l0 K a0 K)

def s_l1Byte (a0 : Tl1Cur) : Option (Int × Tl1Cur × Unit) :=
  bif decide (a0.2.1 < ((a0.1.length : Nat) : Int)) then bif decide ((0 : Int) ≤ a0.2.1) then bif decide (a0.2.1 < ((a0.1.length : Nat) : Int)) then some (IntKind.i64.wrap ((BitVec.ofInt (IntKind.bits .i64) (IntKind.i64.wrap ((IntKind.i64.wrap ((BitVec.ofInt (IntKind.bits .i64) (IntKind.i64.wrap ((BitVec.ofInt (IntKind.bits .i64) (Int.fdiv (IntKind.i64.wrap ((IntKind.i64.wrap (a0.2.2 * 6364136223846793005)) + 1442695040888963407)) (2 ^ 33)) ^^^ BitVec.ofInt (IntKind.bits .i64) (Int.fdiv (IntKind.i64.wrap ((IntKind.i64.wrap (a0.2.2 * 6364136223846793005)) + 1442695040888963407)) (2 ^ 45))).toNat : Int)) &&& BitVec.ofInt (IntKind.bits .i64) 255).toNat : Int)) + (IntKind.i64.wrap (a0.1.getD (Int.toNat a0.2.1) 0)))) &&& BitVec.ofInt (IntKind.bits .i64) 255).toNat : Int), (a0.1, IntKind.i64.wrap (a0.2.1 + 1), IntKind.i64.wrap ((IntKind.i64.wrap (a0.2.2 * 6364136223846793005)) + 1442695040888963407)), ())
    else none
    else none
  else some (IntKind.i64.wrap ((BitVec.ofInt (IntKind.bits .i64) (IntKind.i64.wrap ((BitVec.ofInt (IntKind.bits .i64) (Int.fdiv (IntKind.i64.wrap ((IntKind.i64.wrap (a0.2.2 * 6364136223846793005)) + 1442695040888963407)) (2 ^ 33)) ^^^ BitVec.ofInt (IntKind.bits .i64) (Int.fdiv (IntKind.i64.wrap ((IntKind.i64.wrap (a0.2.2 * 6364136223846793005)) + 1442695040888963407)) (2 ^ 45))).toNat : Int)) &&& BitVec.ofInt (IntKind.bits .i64) 255).toNat : Int), (a0.1, a0.2.1, IntKind.i64.wrap ((IntKind.i64.wrap (a0.2.2 * 6364136223846793005)) + 1442695040888963407)), ())

def s_l1Below (a0 : Tl1Cur) (a1 : Int) : Option (Int × Tl1Cur × Unit) :=
  bif decide (a1 ≤ 0) then some (0, a0, ())
  else bif decide (a1 ≤ 256) then (s_l1Byte a0).bind fun v1 =>
    bif decide (a1 ≠ 0) then some (Int.tmod v1.1 a1, v1.2.1, ())
    else none
  else (s_l1Byte a0).bind fun v2 =>
  (s_l1Byte v2.2.1).bind fun v3 =>
  (s_l1Byte v3.2.1).bind fun v4 =>
  (s_l1Byte v4.2.1).bind fun v5 =>
  bif decide (a1 ≠ 0) then some (Int.tmod (IntKind.i64.wrap ((IntKind.i64.wrap ((IntKind.i64.wrap ((IntKind.i64.wrap (v2.1 * 16777216)) + (IntKind.i64.wrap (v3.1 * 65536)))) + (IntKind.i64.wrap (v4.1 * 256)))) + v5.1)) a1, v5.2.1, ())
  else none

def s_l1Once (a0 : Tl1Cur) (a1 : Int) : Option (Bool × Tl1Cur × Unit) :=
  (s_l1Below a0 a1).bind fun v1 =>
  some (decide (v1.1 = 0), v1.2.1, ())

def s_l1PickInt (a0 : Tl1Cur) (a1 : List Int) : Option (Int × Tl1Cur × Unit) :=
  (s_l1Below a0 ((a1.length : Nat) : Int)).bind fun v1 =>
  bif decide ((0 : Int) ≤ v1.1) then bif decide (v1.1 < ((a1.length : Nat) : Int)) then some (a1.getD (Int.toNat v1.1) 0, v1.2.1, ())
  else none
  else none

def s_l1Pick (a0 : Tl1Cur) (a1 : List ByteArray) : Option (ByteArray × Tl1Cur × Unit) :=
  (s_l1Below a0 ((a1.length : Nat) : Int)).bind fun v1 =>
  bif decide ((0 : Int) ≤ v1.1) then bif decide (v1.1 < ((a1.length : Nat) : Int)) then some (a1.getD (Int.toNat v1.1) ByteArray.empty, v1.2.1, ())
  else none
  else none

def s_l2DrawText (a0 : Tl1Cur) : Option (ByteArray × Tl1Cur × Unit) :=
  (s_l1Pick a0 [ByteArray.empty, (bs [97]), (bs [98]), (bs [107, 32, 49]), (bs [116, 101, 120, 116])]).bind fun v1 =>
  some (v1.1, v1.2.1, ())

def s_l2DrawBody (a0 : Tl1Cur) : Option (TCmd × Tl1Cur × Unit) :=
  (s_l1PickInt a0 [1, 1, 1, 2, 2, 3, 4, 4, 5, 6, 7, 8, 9, 10]).bind fun v1 =>
  (s_l1Below v1.2.1 3).bind fun v2 =>
  (s_l1Below v2.2.1 4).bind fun v3 =>
  (s_l1Below v3.2.1 3).bind fun v4 =>
  bif decide (v1.1 = 1) then (s_l2DrawText v4.2.1).bind fun v5 =>
    (s_l2DrawText v5.2.1).bind fun v6 =>
    (s_l1PickInt v6.2.1 [0, 0, 0, 1]).bind fun v7 =>
    some ((0, 0, v1.1, v2.1, v3.1, v7.1, v5.1, v6.1), v7.2.1, ())
  else bif decide (v1.1 = 8) then (s_l1PickInt v4.2.1 [0, 10, 60]).bind fun v8 =>
    some ((0, 0, v1.1, v8.1, v3.1, v4.1, ByteArray.empty, ByteArray.empty), v8.2.1, ())
  else some ((0, 0, v1.1, v2.1, v3.1, v4.1, ByteArray.empty, ByteArray.empty), v4.2.1, ())

def s_l2DrawRight (a0 : Tl1Cur) : Option (TCmd × Tl1Cur × Unit) :=
  (s_l1Once a0 10).bind fun v1 =>
  bif v1.1 then some (((-1), 0, 0, 0, 0, 0, ByteArray.empty, ByteArray.empty), v1.2.1, ())
  else (s_l2DrawBody v1.2.1).bind fun v2 =>
  (s_l1Below v2.2.1 4).bind fun v3 =>
  (s_l1Below v3.2.1 6).bind fun v4 =>
  some ((v3.1, IntKind.i64.wrap (1 + v4.1), v2.1.2.2), v4.2.1, ())

def s_l2Spoil (a0 : Tl1Cur) (a1 : TCmd) : Option (TCmd × Tl1Cur × Unit) :=
  (s_l1Below a0 14).bind fun v1 =>
  bif decide (v1.1 = 0) then (s_l1PickInt v1.2.1 [(-2), (-1), 3, 4]).bind fun v2 =>
    some ((v2.1, a1.2), v2.2.1, ())
  else bif decide (v1.1 = 1) then (s_l1PickInt v1.2.1 [0, (-1), 100000, 100001]).bind fun v3 =>
    some ((a1.1, v3.1, a1.2.2), v3.2.1, ())
  else bif decide (v1.1 = 2) then (s_l1PickInt v1.2.1 [(-1), 0, 10, 11]).bind fun v4 =>
    some ((a1.1, a1.2.1, v4.1, a1.2.2.2), v4.2.1, ())
  else bif decide (v1.1 = 3) then (s_l1PickInt v1.2.1 [(-1), 100000, 100001, (-9223372036854775808)]).bind fun v5 =>
    some ((a1.1, a1.2.1, a1.2.2.1, v5.1, a1.2.2.2.2), v5.2.1, ())
  else bif decide (v1.1 = 4) then (s_l1Pick v1.2.1 [(bs [65]), (bs [48, 49, 50, 51, 52, 53, 54, 55, 56, 57, 48, 49, 50, 51, 52, 53, 54, 55, 56, 57, 48, 49, 50, 51, 52, 53, 54, 55, 56, 57, 48])]).bind fun v6 =>
    some ((a1.1, a1.2.1, a1.2.2.1, a1.2.2.2.1, a1.2.2.2.2.1, a1.2.2.2.2.2.1, v6.1, a1.2.2.2.2.2.2.2), v6.2.1, ())
  else some (a1, v1.2.1, ())

def s_DrawCmdOk (K : Nat) (a0 : List Int) : Option (TCmd × Unit) :=
  (s_l1New K a0).bind fun v1 =>
  (s_l2DrawRight v1.1).bind fun v2 =>
  (s_l2Spoil v2.2.1 v2.1).bind fun v3 =>
  some (v3.1, ())

def s_DrawCmdText (K : Nat) (a0 : List Int) : Option (TCmd × Unit) :=
  (s_DrawCmdOk K a0).bind fun v1 =>
  some (v1.1, ())

def s_DrawDigits (K : Nat) (a0 : List Int) : Option (Int × Unit) :=
  (s_l1New K a0).bind fun v1 =>
  (s_l1PickInt v1.1 [0, 7, (-12), 100000, 9223372036854775807, (-9223372036854775808)]).bind fun v2 =>
  some (v2.1, ())

def s_l1DrawRight (a0 : Tl1Cur) : Option (TSetup × Tl1Cur × Unit) :=
  (s_l1Below a0 3).bind fun v1 =>
  (s_l1PickInt v1.2.1 [1, 2, 5]).bind fun v2 =>
  (s_l1PickInt v2.2.1 [1, 2, 3, 8]).bind fun v3 =>
  (s_l1PickInt v3.2.1 [0, 1, 3, 10]).bind fun v4 =>
  some ((IntKind.i64.wrap (1 + v1.1), v2.1, v3.1, v4.1), v4.2.1, ())

def s_l1Draw (a0 : Tl1Cur) : Option (TSetup × Tl1Cur × Unit) :=
  (s_l1DrawRight a0).bind fun v1 =>
  (s_l1Below v1.2.1 12).bind fun v2 =>
  bif decide (v2.1 = 0) then (s_l1PickInt v2.2.1 [(-1), 0, 4, 5]).bind fun v3 =>
    some ((v3.1, v1.1.2), v3.2.1, ())
  else bif decide (v2.1 = 1) then (s_l1PickInt v2.2.1 [0, 6]).bind fun v4 =>
    some ((v1.1.1, v4.1, v1.1.2.2), v4.2.1, ())
  else bif decide (v2.1 = 2) then (s_l1PickInt v2.2.1 [0, 9]).bind fun v5 =>
    some ((v1.1.1, v1.1.2.1, v5.1, v1.1.2.2.2), v5.2.1, ())
  else bif decide (v2.1 = 3) then (s_l1PickInt v2.2.1 [(-1), 60, 61]).bind fun v6 =>
    some ((v1.1.1, v1.1.2.1, v1.1.2.2.1, v6.1), v6.2.1, ())
  else some (v1.1, v2.2.1, ())

def s_DrawSetupOk (K : Nat) (a0 : List Int) : Option (TSetup × Unit) :=
  (s_l1New K a0).bind fun v1 =>
  (s_l1Draw v1.1).bind fun v2 =>
  some (v2.1, ())

def s_l19DrawCmd (a0 : Tl1Cur) : Option (ByteArray × Tl1Cur × Unit) :=
  (s_l1Pick a0 [(bs [112, 117, 116, 32, 48, 32, 48, 32, 48, 32, 107, 32, 116, 101, 120, 116]), (bs [112, 117, 116, 32, 48, 32, 49, 32, 48]), (bs [103, 101, 116, 32, 48, 32, 48, 32, 48]), (bs [106, 111, 105, 110, 32, 48, 32, 48, 32, 48]), (bs [109, 97, 114, 107, 32, 48, 32, 48, 32, 53]), (bs [116, 105, 99, 107, 32, 54, 48, 32, 48, 32, 48]), (bs [116, 114, 105, 109, 32, 48, 32, 48, 32, 48]), (bs [114, 101, 97, 100, 32, 48, 32, 48, 32, 48]), (bs [112, 117, 116, 32, 48, 32, 48]), (bs [103, 101, 116, 32, 48, 48, 32, 48, 32, 48]), (bs [101, 112, 111, 99, 104, 32, 48, 32, 50, 32, 48]), (bs [112, 97, 99, 107, 32, 48, 32, 48, 32, 48, 32, 97]), (bs [112, 117, 116, 32, 48, 32, 48, 32, 48, 32, 65])]).bind fun v1 =>
  some (v1.1, v1.2.1, ())

def s_DrawCmdSaid (K : Nat) (a0 : List Int) : Option (ByteArray × Unit) :=
  (s_l1New K a0).bind fun v1 =>
  (s_l19DrawCmd v1.1).bind fun v2 =>
  (s_l1Below v2.2.1 (IntKind.i64.wrap (((v2.1.size : Nat) : Int) + 1))).bind fun v3 =>
  (s_l1Once v3.2.1 4).bind fun v4 =>
  bif v4.1 then bif decide ((0 : Int) ≤ v3.1) then bif decide (v3.1 ≤ ((v2.1.size : Nat) : Int)) then (s_l1Pick v4.2.1 [(bs [32]), (bs [48]), (bs [120]), (bs [45])]).bind fun v5 =>
    bif sfit (v2.1.extract 0 (Int.toNat v3.1)) v5.1 then bif decide ((0 : Int) ≤ v3.1) then bif decide (v3.1 ≤ ((v2.1.size : Nat) : Int)) then bif decide (((v2.1.size : Nat) : Int) ≤ ((v2.1.size : Nat) : Int)) then bif sfit (sapp (v2.1.extract 0 (Int.toNat v3.1)) v5.1) (v2.1.extract (Int.toNat v3.1) (Int.toNat ((v2.1.size : Nat) : Int))) then some (sapp (sapp (v2.1.extract 0 (Int.toNat v3.1)) v5.1) (v2.1.extract (Int.toNat v3.1) (Int.toNat ((v2.1.size : Nat) : Int))), ())
    else none
    else none
    else none
    else none
    else none
    else none
    else none
  else some (v2.1, ())

def i_within (a0 : Int) (a1 : Int) (a2 : Int) : Option (Bool × Unit) :=
  bif decide (a0 ≥ a1) then some (decide (a0 ≤ a2), ())
  else some (false, ())

def sl_Index.l0b (K : Nat) (a0 : List ByteArray) (a1 : ByteArray) (L0 : Int → Option (Int × Unit)) (q0 : Int) : Option (Int × Unit) :=
  bif decide (q0 < ((a0.length : Nat) : Int)) then bif decide ((0 : Int) ≤ q0) then bif decide (q0 < ((a0.length : Nat) : Int)) then bif decide (a1.data.toList = (a0.getD (Int.toNat q0) ByteArray.empty).data.toList) then some (q0, ())
    else L0 (IntKind.i64.wrap (q0 + 1))
    else none
    else none
  else some ((-1), ())
def sl_Index.l0 (K : Nat) (a0 : List ByteArray) (a1 : ByteArray) : Nat → Int → Option (Int × Unit)
  | 0, _ => none
  | n + 1, q0 => sl_Index.l0b K a0 a1 (sl_Index.l0 K a0 a1 n) q0
def sl_Index.b (K : Nat) (a0 : List ByteArray) (a1 : ByteArray) (L0 : Int → Option (Int × Unit)) : Option (Int × Unit) :=
  L0 0
def sl_Index (K : Nat) (a0 : List ByteArray) (a1 : ByteArray) : Option (Int × Unit) := sl_Index.b K a0 a1 (sl_Index.l0 K a0 a1 K)

def sl_Contains (K : Nat) (a0 : List ByteArray) (a1 : ByteArray) : Option (Bool × Unit) :=
  (sl_Index K a0 a1).bind fun v1 =>
  some (decide (v1.1 ≥ 0), ())

def i_Digits (a0 : Int) : Option (ByteArray × Unit) :=
  (lItoa a0).bind fun v1 =>
  some (v1.1, ())

def i_numberSaid (a0 : ByteArray) : Option (Int × Bool × Unit) :=
  (lAtoi a0).bind fun v1 =>
  bif !v1.2.1 then bif decide (v1.1 ≥ 0) then bif decide (((a0.size : Nat) : Int) ≤ 6) then (i_Digits v1.1).bind fun v2 =>
        some (v1.1, decide (v2.1.data.toList = a0.data.toList), ())
      else some (v1.1, false, ())
    else some (v1.1, false, ())
  else some (v1.1, false, ())

def i_numbersSaid.l0b (K : Nat) (a0 : List ByteArray) (L0 : (List Int) → Int → Option ((List Int) × Bool × Unit)) (q0 : List Int) (q1 : Int) : Option ((List Int) × Bool × Unit) :=
  bif decide (q1 < ((a0.length : Nat) : Int)) then bif decide ((0 : Int) ≤ q1) then bif decide (q1 < ((a0.length : Nat) : Int)) then (i_numberSaid (a0.getD (Int.toNat q1) ByteArray.empty)).bind fun v1 =>
    bif !v1.2.1 then some ([], false, ())
    else bif decide ((q0.length + [v1.1].length) * 9 ≤ growTop) then L0 (q0 ++ [v1.1]) (IntKind.i64.wrap (q1 + 1))
    else none
    else none
    else none
  else some (q0, true, ())
def i_numbersSaid.l0 (K : Nat) (a0 : List ByteArray) : Nat → (List Int) → Int → Option ((List Int) × Bool × Unit)
  | 0, _, _ => none
  | n + 1, q0, q1 => i_numbersSaid.l0b K a0 (i_numbersSaid.l0 K a0 n) q0 q1
def i_numbersSaid.b (K : Nat) (a0 : List ByteArray) (L0 : (List Int) → Int → Option ((List Int) × Bool × Unit)) : Option ((List Int) × Bool × Unit) :=
  L0 [] 0
def i_numbersSaid (K : Nat) (a0 : List ByteArray) : Option ((List Int) × Bool × Unit) := i_numbersSaid.b K a0 (i_numbersSaid.l0 K a0 K)

def i_opNames : Option ((List ByteArray) × Unit) :=
  some ([(bs [112, 117, 116]), (bs [103, 101, 116]), (bs [101, 112, 111, 99, 104]), (bs [106, 111, 105, 110]), (bs [108, 101, 97, 118, 101]), (bs [109, 97, 114, 107]), (bs [114, 101, 97, 100]), (bs [116, 105, 99, 107]), (bs [116, 114, 105, 109]), (bs [112, 97, 99, 107])], ())

def i_wordsOk.l0b (K : Nat) (a0 : ByteArray) (L0 : Int → Option (Bool × Unit)) (q0 : Int) : Option (Bool × Unit) :=
  bif decide (q0 < ((a0.size : Nat) : Int)) then bif decide ((0 : Int) ≤ q0) then bif decide (q0 < ((a0.size : Nat) : Int)) then bif decide ((byteAt a0 q0) < 97) then bif decide ((byteAt a0 q0) < 48) then bif !(decide ((byteAt a0 q0) = 32)) then some (false, ())
        else L0 (IntKind.i64.wrap (q0 + 1))
      else bif decide ((byteAt a0 q0) > 57) then bif !(decide ((byteAt a0 q0) = 32)) then some (false, ())
        else L0 (IntKind.i64.wrap (q0 + 1))
      else L0 (IntKind.i64.wrap (q0 + 1))
    else bif decide ((byteAt a0 q0) > 122) then bif decide ((byteAt a0 q0) < 48) then bif !(decide ((byteAt a0 q0) = 32)) then some (false, ())
        else L0 (IntKind.i64.wrap (q0 + 1))
      else bif decide ((byteAt a0 q0) > 57) then bif !(decide ((byteAt a0 q0) = 32)) then some (false, ())
        else L0 (IntKind.i64.wrap (q0 + 1))
      else L0 (IntKind.i64.wrap (q0 + 1))
    else L0 (IntKind.i64.wrap (q0 + 1))
    else none
    else none
  else some (decide (((a0.size : Nat) : Int) ≤ 30), ())
def i_wordsOk.l0 (K : Nat) (a0 : ByteArray) : Nat → Int → Option (Bool × Unit)
  | 0, _ => none
  | n + 1, q0 => i_wordsOk.l0b K a0 (i_wordsOk.l0 K a0 n) q0
def i_wordsOk.b (K : Nat) (a0 : ByteArray) (L0 : Int → Option (Bool × Unit)) : Option (Bool × Unit) :=
  L0 0
def i_wordsOk (K : Nat) (a0 : ByteArray) : Option (Bool × Unit) := i_wordsOk.b K a0 (i_wordsOk.l0 K a0 K)

def i_CmdOk (K : Nat) (a0 : TCmd) : Option (Bool × Unit) :=
  bif decide (a0.1 = (-1)) then some (qCmd a0 ((-1), 0, 0, 0, 0, 0, ByteArray.empty, ByteArray.empty), ())
  else (i_within a0.1 0 3).bind fun v1 =>
  bif v1.1 then (i_within a0.2.1 1 100000).bind fun v2 =>
    bif v2.1 then (i_within a0.2.2.1 1 10).bind fun v3 =>
      bif v3.1 then (i_within a0.2.2.2.1 0 100000).bind fun v4 =>
        bif v4.1 then (i_within a0.2.2.2.2.1 0 100000).bind fun v5 =>
          bif v5.1 then (i_within a0.2.2.2.2.2.1 0 100000).bind fun v6 =>
            bif v6.1 then (i_wordsOk K a0.2.2.2.2.2.2.1).bind fun v7 =>
              bif v7.1 then (i_wordsOk K a0.2.2.2.2.2.2.2).bind fun v8 =>
                some (v8.1, ())
              else some (false, ())
            else some (false, ())
          else some (false, ())
        else some (false, ())
      else some (false, ())
    else some (false, ())
  else some (false, ())

def i_CmdSaid.j0 (K : Nat) (v6 : Int × Unit) (v1 : (List ByteArray) × Unit) (v4 : (List Int) × Bool × Unit) (p7 : ByteArray) : Option (TCmd × Bool × Unit) :=
  bif decide ((IntKind.i64.wrap (v6.1 + 1)) < 1) then some ((0, 0, 0, 0, 0, 0, ByteArray.empty, ByteArray.empty), false, ())
  else (i_opNames).bind fun v8 =>
  bif decide ((0 : Int) < ((v1.1.length : Nat) : Int)) then (sl_Contains K v8.1 (v1.1.getD 0 ByteArray.empty)).bind fun v9 =>
  bif !v9.1 then some ((0, 0, 0, 0, 0, 0, ByteArray.empty, ByteArray.empty), false, ())
  else (i_CmdOk K (0, 1, IntKind.i64.wrap (v6.1 + 1), v4.1.getD 0 0, v4.1.getD 1 0, v4.1.getD 2 0, v1.1.getD 4 ByteArray.empty, p7)).bind fun v10 =>
  bif !v10.1 then some ((0, 0, 0, 0, 0, 0, ByteArray.empty, ByteArray.empty), false, ())
  else some ((0, 1, IntKind.i64.wrap (v6.1 + 1), v4.1.getD 0 0, v4.1.getD 1 0, v4.1.getD 2 0, v1.1.getD 4 ByteArray.empty, p7), true, ())
  else none
def i_CmdSaid.j1 (K : Nat) (v6 : Int × Unit) (v1 : (List ByteArray) × Unit) (v4 : (List Int) × Bool × Unit) (p11 : ByteArray) : Option (TCmd × Bool × Unit) :=
  bif decide ((IntKind.i64.wrap (v6.1 + 1)) < 1) then some ((0, 0, 0, 0, 0, 0, ByteArray.empty, ByteArray.empty), false, ())
  else (i_opNames).bind fun v12 =>
  bif decide ((0 : Int) < ((v1.1.length : Nat) : Int)) then (sl_Contains K v12.1 (v1.1.getD 0 ByteArray.empty)).bind fun v13 =>
  bif !v13.1 then some ((0, 0, 0, 0, 0, 0, ByteArray.empty, ByteArray.empty), false, ())
  else (i_CmdOk K (0, 1, IntKind.i64.wrap (v6.1 + 1), v4.1.getD 0 0, v4.1.getD 1 0, v4.1.getD 2 0, ByteArray.empty, p11)).bind fun v14 =>
  bif !v14.1 then some ((0, 0, 0, 0, 0, 0, ByteArray.empty, ByteArray.empty), false, ())
  else some ((0, 1, IntKind.i64.wrap (v6.1 + 1), v4.1.getD 0 0, v4.1.getD 1 0, v4.1.getD 2 0, ByteArray.empty, p11), true, ())
  else none
def i_CmdSaid (K : Nat) (a0 : ByteArray) : Option (TCmd × Bool × Unit) :=
  (lSplit a0 (bs [32])).bind fun v1 =>
  (i_within ((v1.1.length : Nat) : Int) 4 6).bind fun v2 =>
  bif !v2.1 then some ((0, 0, 0, 0, 0, 0, ByteArray.empty, ByteArray.empty), false, ())
  else (sl_Contains K v1.1 ByteArray.empty).bind fun v3 =>
  bif v3.1 then some ((0, 0, 0, 0, 0, 0, ByteArray.empty, ByteArray.empty), false, ())
  else bif decide ((4 : Int) ≤ ((v1.1.length : Nat) : Int)) then (i_numbersSaid K ((v1.1.take 4).drop 1)).bind fun v4 =>
  bif !v4.2.1 then some ((0, 0, 0, 0, 0, 0, ByteArray.empty, ByteArray.empty), false, ())
  else (i_opNames).bind fun v5 =>
  bif decide ((0 : Int) < ((v1.1.length : Nat) : Int)) then (sl_Index K v5.1 (v1.1.getD 0 ByteArray.empty)).bind fun v6 =>
  bif decide ((0 : Int) < ((v4.1.length : Nat) : Int)) then bif decide ((1 : Int) < ((v4.1.length : Nat) : Int)) then bif decide ((2 : Int) < ((v4.1.length : Nat) : Int)) then bif decide (((v1.1.length : Nat) : Int) > 4) then bif decide ((4 : Int) < ((v1.1.length : Nat) : Int)) then bif decide (((v1.1.length : Nat) : Int) > 5) then bif decide ((5 : Int) < ((v1.1.length : Nat) : Int)) then i_CmdSaid.j0 K v6 v1 v4 (v1.1.getD 5 ByteArray.empty)
      else none
    else i_CmdSaid.j0 K v6 v1 v4 ByteArray.empty
    else none
  else bif decide (((v1.1.length : Nat) : Int) > 5) then bif decide ((5 : Int) < ((v1.1.length : Nat) : Int)) then i_CmdSaid.j1 K v6 v1 v4 (v1.1.getD 5 ByteArray.empty)
    else none
  else i_CmdSaid.j1 K v6 v1 v4 ByteArray.empty
  else none
  else none
  else none
  else none
  else none

def s_l19Words.l0b (K : Nat) (a0 : ByteArray) (L0 : (List ByteArray) → Int → Int → Option ((List ByteArray) × Unit)) (q0 : List ByteArray) (q1 : Int) (q2 : Int) : Option ((List ByteArray) × Unit) :=
  bif decide (q2 ≤ ((a0.size : Nat) : Int)) then bif decide (q2 = ((a0.size : Nat) : Int)) then bif decide ((0 : Int) ≤ q1) then bif decide (q1 ≤ q2) then bif decide (q2 ≤ ((a0.size : Nat) : Int)) then bif decide ((q0.length + [a0.extract (Int.toNat q1) (Int.toNat q2)].length) * 17 ≤ growTop) then L0 (q0 ++ [a0.extract (Int.toNat q1) (Int.toNat q2)]) (IntKind.i64.wrap (q2 + 1)) (IntKind.i64.wrap (q2 + 1))
      else none
      else none
      else none
      else none
    else bif decide ((0 : Int) ≤ q2) then bif decide (q2 < ((a0.size : Nat) : Int)) then bif decide ((byteAt a0 q2) = 32) then bif decide ((0 : Int) ≤ q1) then bif decide (q1 ≤ q2) then bif decide (q2 ≤ ((a0.size : Nat) : Int)) then bif decide ((q0.length + [a0.extract (Int.toNat q1) (Int.toNat q2)].length) * 17 ≤ growTop) then L0 (q0 ++ [a0.extract (Int.toNat q1) (Int.toNat q2)]) (IntKind.i64.wrap (q2 + 1)) (IntKind.i64.wrap (q2 + 1))
      else none
      else none
      else none
      else none
    else L0 q0 q1 (IntKind.i64.wrap (q2 + 1))
    else none
    else none
  else some (q0, ())
def s_l19Words.l0 (K : Nat) (a0 : ByteArray) : Nat → (List ByteArray) → Int → Int → Option ((List ByteArray) × Unit)
  | 0, _, _, _ => none
  | n + 1, q0, q1, q2 => s_l19Words.l0b K a0 (s_l19Words.l0 K a0 n) q0 q1 q2
def s_l19Words.b (K : Nat) (a0 : ByteArray) (L0 : (List ByteArray) → Int → Int → Option ((List ByteArray) × Unit)) : Option ((List ByteArray) × Unit) :=
  L0 [] 0 0
def s_l19Words (K : Nat) (a0 : ByteArray) : Option ((List ByteArray) × Unit) := s_l19Words.b K a0 (s_l19Words.l0 K a0 K)

def s_l1In (a0 : Int) (a1 : Int) (a2 : Int) : Option (Bool × Unit) :=
  bif decide (a0 ≥ a1) then some (decide (a0 ≤ a2), ())
  else some (false, ())

def s_l19Op.l0b (K : Nat) (a0 : ByteArray) (L0 : Int → Option (Int × Unit)) (q0 : Int) : Option (Int × Unit) :=
  bif decide (q0 < 11) then bif decide ((0 : Int) ≤ q0) then bif decide (q0 < 11) then bif decide (([ByteArray.empty, (bs [112, 117, 116]), (bs [103, 101, 116]), (bs [101, 112, 111, 99, 104]), (bs [106, 111, 105, 110]), (bs [108, 101, 97, 118, 101]), (bs [109, 97, 114, 107]), (bs [114, 101, 97, 100]), (bs [116, 105, 99, 107]), (bs [116, 114, 105, 109]), (bs [112, 97, 99, 107])].getD (Int.toNat q0) ByteArray.empty).data.toList = a0.data.toList) then some (q0, ())
    else L0 (IntKind.i64.wrap (q0 + 1))
    else none
    else none
  else some (0, ())
def s_l19Op.l0 (K : Nat) (a0 : ByteArray) : Nat → Int → Option (Int × Unit)
  | 0, _ => none
  | n + 1, q0 => s_l19Op.l0b K a0 (s_l19Op.l0 K a0 n) q0
def s_l19Op.b (K : Nat) (a0 : ByteArray) (L0 : Int → Option (Int × Unit)) : Option (Int × Unit) :=
  L0 1
def s_l19Op (K : Nat) (a0 : ByteArray) : Option (Int × Unit) := s_l19Op.b K a0 (s_l19Op.l0 K a0 K)

def s_Digits.l0b (K : Nat) (a0 : Int) (L0 : Int → ByteArray → Option (ByteArray × Unit)) (q0 : Int) (q1 : ByteArray) : Option (ByteArray × Unit) :=
  bif !(decide (q0 = 0)) then bif decide ((Int.tmod q0 10) < 0) then bif sfit (strOf [IntKind.u8.wrap (IntKind.i64.wrap (48 + (IntKind.i64.wrap (0 - (Int.tmod q0 10)))))]) q1 then L0 (IntKind.i64.wrap (Int.tdiv q0 10)) (sapp (strOf [IntKind.u8.wrap (IntKind.i64.wrap (48 + (IntKind.i64.wrap (0 - (Int.tmod q0 10)))))]) q1)
      else none
    else bif sfit (strOf [IntKind.u8.wrap (IntKind.i64.wrap (48 + (Int.tmod q0 10)))]) q1 then L0 (IntKind.i64.wrap (Int.tdiv q0 10)) (sapp (strOf [IntKind.u8.wrap (IntKind.i64.wrap (48 + (Int.tmod q0 10)))]) q1)
    else none
  else bif decide (a0 < 0) then bif sfit (bs [45]) q1 then some (sapp (bs [45]) q1, ())
    else none
  else some (q1, ())
def s_Digits.l0 (K : Nat) (a0 : Int) : Nat → Int → ByteArray → Option (ByteArray × Unit)
  | 0, _, _ => none
  | n + 1, q0, q1 => s_Digits.l0b K a0 (s_Digits.l0 K a0 n) q0 q1
def s_Digits.b (K : Nat) (a0 : Int) (L0 : Int → ByteArray → Option (ByteArray × Unit)) : Option (ByteArray × Unit) :=
  bif decide (a0 = 0) then some ((bs [48]), ())
  else L0 a0 ByteArray.empty
def s_Digits (K : Nat) (a0 : Int) : Option (ByteArray × Unit) := s_Digits.b K a0 (s_Digits.l0 K a0 K)

def s_l19Num.l0b (K : Nat) (a0 : ByteArray) (L0 : Int → Int → Option (Int × Unit)) (q0 : Int) (q1 : Int) : Option (Int × Unit) :=
  bif decide (q1 < ((a0.size : Nat) : Int)) then bif decide ((0 : Int) ≤ q1) then bif decide (q1 < ((a0.size : Nat) : Int)) then bif decide ((byteAt a0 q1) < 48) then some ((-1), ())
    else bif decide ((0 : Int) ≤ q1) then bif decide (q1 < ((a0.size : Nat) : Int)) then bif decide ((byteAt a0 q1) > 57) then some ((-1), ())
    else bif decide ((0 : Int) ≤ q1) then bif decide (q1 < ((a0.size : Nat) : Int)) then L0 (IntKind.i64.wrap ((IntKind.i64.wrap ((IntKind.i64.wrap (10 * q0)) + (IntKind.i64.wrap (byteAt a0 q1)))) - 48)) (IntKind.i64.wrap (q1 + 1))
    else none
    else none
    else none
    else none
    else none
    else none
  else (s_Digits K q0).bind fun v1 =>
  bif !(decide (v1.1.data.toList = a0.data.toList)) then some ((-1), ())
  else some (q0, ())
def s_l19Num.l0 (K : Nat) (a0 : ByteArray) : Nat → Int → Int → Option (Int × Unit)
  | 0, _, _ => none
  | n + 1, q0, q1 => s_l19Num.l0b K a0 (s_l19Num.l0 K a0 n) q0 q1
def s_l19Num.b (K : Nat) (a0 : ByteArray) (L0 : Int → Int → Option (Int × Unit)) : Option (Int × Unit) :=
  bif decide (((a0.size : Nat) : Int) < 1) then some ((-1), ())
  else bif decide (((a0.size : Nat) : Int) > 6) then some ((-1), ())
  else L0 0 0
def s_l19Num (K : Nat) (a0 : ByteArray) : Option (Int × Unit) := s_l19Num.b K a0 (s_l19Num.l0 K a0 K)

def s_l2Text.l0b (K : Nat) (a0 : ByteArray) (L0 : Int → Option (Bool × Unit)) (q0 : Int) : Option (Bool × Unit) :=
  bif decide (q0 < ((a0.size : Nat) : Int)) then bif decide ((0 : Int) ≤ q0) then bif decide (q0 < ((a0.size : Nat) : Int)) then bif decide ((byteAt a0 q0) ≥ 97) then bif decide ((byteAt a0 q0) ≤ 122) then L0 (IntKind.i64.wrap (q0 + 1))
      else bif decide ((byteAt a0 q0) ≥ 48) then bif decide ((byteAt a0 q0) ≤ 57) then L0 (IntKind.i64.wrap (q0 + 1))
        else bif !(decide ((byteAt a0 q0) = 32)) then some (false, ())
        else L0 (IntKind.i64.wrap (q0 + 1))
      else bif !(decide ((byteAt a0 q0) = 32)) then some (false, ())
      else L0 (IntKind.i64.wrap (q0 + 1))
    else bif decide ((byteAt a0 q0) ≥ 48) then bif decide ((byteAt a0 q0) ≤ 57) then L0 (IntKind.i64.wrap (q0 + 1))
      else bif !(decide ((byteAt a0 q0) = 32)) then some (false, ())
      else L0 (IntKind.i64.wrap (q0 + 1))
    else bif !(decide ((byteAt a0 q0) = 32)) then some (false, ())
    else L0 (IntKind.i64.wrap (q0 + 1))
    else none
    else none
  else some (decide (((a0.size : Nat) : Int) ≤ 30), ())
def s_l2Text.l0 (K : Nat) (a0 : ByteArray) : Nat → Int → Option (Bool × Unit)
  | 0, _ => none
  | n + 1, q0 => s_l2Text.l0b K a0 (s_l2Text.l0 K a0 n) q0
def s_l2Text.b (K : Nat) (a0 : ByteArray) (L0 : Int → Option (Bool × Unit)) : Option (Bool × Unit) :=
  L0 0
def s_l2Text (K : Nat) (a0 : ByteArray) : Option (Bool × Unit) := s_l2Text.b K a0 (s_l2Text.l0 K a0 K)

def s_CmdOk (K : Nat) (a0 : TCmd) : Option (Bool × Unit) :=
  bif decide (a0.1 = (-1)) then some (qCmd a0 ((-1), 0, 0, 0, 0, 0, ByteArray.empty, ByteArray.empty), ())
  else (s_l1In a0.1 0 3).bind fun v1 =>
  bif v1.1 then (s_l1In a0.2.1 1 100000).bind fun v2 =>
    bif v2.1 then (s_l1In a0.2.2.1 1 10).bind fun v3 =>
      bif v3.1 then (s_l1In a0.2.2.2.1 0 100000).bind fun v4 =>
        bif v4.1 then (s_l1In a0.2.2.2.2.1 0 100000).bind fun v5 =>
          bif v5.1 then (s_l1In a0.2.2.2.2.2.1 0 100000).bind fun v6 =>
            bif v6.1 then (s_l2Text K a0.2.2.2.2.2.2.1).bind fun v7 =>
              bif v7.1 then (s_l2Text K a0.2.2.2.2.2.2.2).bind fun v8 =>
                some (v8.1, ())
              else some (false, ())
            else some (false, ())
          else some (false, ())
        else some (false, ())
      else some (false, ())
    else some (false, ())
  else some (false, ())

def s_l19Cmd.j0 (K : Nat) (v2 : Int × Unit) (v3 : Int × Unit) (v4 : Int × Unit) (v5 : Int × Unit) (a0 : List ByteArray) (p6 : ByteArray) : Option (TCmd × Bool × Unit) :=
  (s_CmdOk K (0, 1, v2.1, v3.1, v4.1, v5.1, a0.getD 4 ByteArray.empty, p6)).bind fun v7 =>
  bif !v7.1 then some ((0, 0, 0, 0, 0, 0, ByteArray.empty, ByteArray.empty), false, ())
  else bif decide (((a0.length : Nat) : Int) > 4) then bif decide ((a0.getD 4 ByteArray.empty).data.toList = ByteArray.empty.data.toList) then some ((0, 0, 0, 0, 0, 0, ByteArray.empty, ByteArray.empty), false, ())
    else bif decide (((a0.length : Nat) : Int) > 5) then bif decide (p6.data.toList = ByteArray.empty.data.toList) then some ((0, 0, 0, 0, 0, 0, ByteArray.empty, ByteArray.empty), false, ())
      else some ((0, 1, v2.1, v3.1, v4.1, v5.1, a0.getD 4 ByteArray.empty, p6), true, ())
    else some ((0, 1, v2.1, v3.1, v4.1, v5.1, a0.getD 4 ByteArray.empty, p6), true, ())
  else bif decide (((a0.length : Nat) : Int) > 5) then bif decide (p6.data.toList = ByteArray.empty.data.toList) then some ((0, 0, 0, 0, 0, 0, ByteArray.empty, ByteArray.empty), false, ())
    else some ((0, 1, v2.1, v3.1, v4.1, v5.1, a0.getD 4 ByteArray.empty, p6), true, ())
  else some ((0, 1, v2.1, v3.1, v4.1, v5.1, a0.getD 4 ByteArray.empty, p6), true, ())
def s_l19Cmd.j1 (K : Nat) (v2 : Int × Unit) (v3 : Int × Unit) (v4 : Int × Unit) (v5 : Int × Unit) (p8 : ByteArray) (a0 : List ByteArray) : Option (TCmd × Bool × Unit) :=
  (s_CmdOk K (0, 1, v2.1, v3.1, v4.1, v5.1, ByteArray.empty, p8)).bind fun v9 =>
  bif !v9.1 then some ((0, 0, 0, 0, 0, 0, ByteArray.empty, ByteArray.empty), false, ())
  else bif decide (((a0.length : Nat) : Int) > 4) then bif decide (ByteArray.empty.data.toList = ByteArray.empty.data.toList) then some ((0, 0, 0, 0, 0, 0, ByteArray.empty, ByteArray.empty), false, ())
    else bif decide (((a0.length : Nat) : Int) > 5) then bif decide (p8.data.toList = ByteArray.empty.data.toList) then some ((0, 0, 0, 0, 0, 0, ByteArray.empty, ByteArray.empty), false, ())
      else some ((0, 1, v2.1, v3.1, v4.1, v5.1, ByteArray.empty, p8), true, ())
    else some ((0, 1, v2.1, v3.1, v4.1, v5.1, ByteArray.empty, p8), true, ())
  else bif decide (((a0.length : Nat) : Int) > 5) then bif decide (p8.data.toList = ByteArray.empty.data.toList) then some ((0, 0, 0, 0, 0, 0, ByteArray.empty, ByteArray.empty), false, ())
    else some ((0, 1, v2.1, v3.1, v4.1, v5.1, ByteArray.empty, p8), true, ())
  else some ((0, 1, v2.1, v3.1, v4.1, v5.1, ByteArray.empty, p8), true, ())
def s_l19Cmd (K : Nat) (a0 : List ByteArray) : Option (TCmd × Bool × Unit) :=
  (s_l1In ((a0.length : Nat) : Int) 4 6).bind fun v1 =>
  bif !v1.1 then some ((0, 0, 0, 0, 0, 0, ByteArray.empty, ByteArray.empty), false, ())
  else bif decide ((0 : Int) < ((a0.length : Nat) : Int)) then (s_l19Op K (a0.getD 0 ByteArray.empty)).bind fun v2 =>
  bif decide ((1 : Int) < ((a0.length : Nat) : Int)) then (s_l19Num K (a0.getD 1 ByteArray.empty)).bind fun v3 =>
  bif decide ((2 : Int) < ((a0.length : Nat) : Int)) then (s_l19Num K (a0.getD 2 ByteArray.empty)).bind fun v4 =>
  bif decide ((3 : Int) < ((a0.length : Nat) : Int)) then (s_l19Num K (a0.getD 3 ByteArray.empty)).bind fun v5 =>
  bif decide (((a0.length : Nat) : Int) > 4) then bif decide ((4 : Int) < ((a0.length : Nat) : Int)) then bif decide (((a0.length : Nat) : Int) > 5) then bif decide ((5 : Int) < ((a0.length : Nat) : Int)) then s_l19Cmd.j0 K v2 v3 v4 v5 a0 (a0.getD 5 ByteArray.empty)
      else none
    else s_l19Cmd.j0 K v2 v3 v4 v5 a0 ByteArray.empty
    else none
  else bif decide (((a0.length : Nat) : Int) > 5) then bif decide ((5 : Int) < ((a0.length : Nat) : Int)) then s_l19Cmd.j1 K v2 v3 v4 v5 (a0.getD 5 ByteArray.empty) a0
    else none
  else s_l19Cmd.j1 K v2 v3 v4 v5 ByteArray.empty a0
  else none
  else none
  else none
  else none

def s_CmdSaid (K : Nat) (a0 : ByteArray) : Option (TCmd × Bool × Unit) :=
  (s_l19Words K a0).bind fun v1 =>
  (s_l19Cmd K v1.1).bind fun v2 =>
  some (v2.1, v2.2.1, ())

def i_CmdText.j0 (K : Nat) (a0 : TCmd) (p3 : ByteArray) : Option (ByteArray × Unit) :=
  (i_Digits a0.1).bind fun v4 =>
  bif sfit v4.1 (bs [46]) then (i_Digits a0.2.1).bind fun v5 =>
  bif sfit (sapp v4.1 (bs [46])) v5.1 then (i_Digits a0.2.2.2.1).bind fun v6 =>
  (i_Digits a0.2.2.2.2.1).bind fun v7 =>
  (i_Digits a0.2.2.2.2.2.1).bind fun v8 =>
  bif sfit (bs [60]) a0.2.2.2.2.2.2.1 then bif sfit (sapp (bs [60]) a0.2.2.2.2.2.2.1) (bs [62]) then bif sfit (bs [60]) a0.2.2.2.2.2.2.2 then bif sfit (sapp (bs [60]) a0.2.2.2.2.2.2.2) (bs [62]) then (lJoin [sapp (sapp v4.1 (bs [46])) v5.1, p3, v6.1, v7.1, v8.1, sapp (sapp (bs [60]) a0.2.2.2.2.2.2.1) (bs [62]), sapp (sapp (bs [60]) a0.2.2.2.2.2.2.2) (bs [62])] (bs [32])).bind fun v9 =>
  some (v9.1, ())
  else none
  else none
  else none
  else none
  else none
  else none
def i_CmdText (K : Nat) (a0 : TCmd) : Option (ByteArray × Unit) :=
  bif decide (a0.1 = (-1)) then some ((bs [110, 111, 98, 111, 100, 121]), ())
  else (i_within a0.2.2.1 1 10).bind fun v1 =>
  bif v1.1 then (i_opNames).bind fun v2 =>
    bif decide ((0 : Int) ≤ (IntKind.i64.wrap (a0.2.2.1 - 1))) then bif decide ((IntKind.i64.wrap (a0.2.2.1 - 1)) < ((v2.1.length : Nat) : Int)) then i_CmdText.j0 K a0 (v2.1.getD (Int.toNat (IntKind.i64.wrap (a0.2.2.1 - 1))) ByteArray.empty)
    else none
    else none
  else i_CmdText.j0 K a0 (bs [110, 111, 110, 101])

def s_CmdText.j0 (K : Nat) (a0 : TCmd) (p2 : Int) : Option (ByteArray × Unit) :=
  (s_Digits K a0.1).bind fun v3 =>
  bif sfit v3.1 (bs [46]) then (s_Digits K a0.2.1).bind fun v4 =>
  bif sfit (sapp v3.1 (bs [46])) v4.1 then bif sfit (sapp (sapp v3.1 (bs [46])) v4.1) (bs [32]) then bif decide ((0 : Int) ≤ p2) then bif decide (p2 < 11) then bif sfit (sapp (sapp (sapp v3.1 (bs [46])) v4.1) (bs [32])) ([(bs [110, 111, 110, 101]), (bs [112, 117, 116]), (bs [103, 101, 116]), (bs [101, 112, 111, 99, 104]), (bs [106, 111, 105, 110]), (bs [108, 101, 97, 118, 101]), (bs [109, 97, 114, 107]), (bs [114, 101, 97, 100]), (bs [116, 105, 99, 107]), (bs [116, 114, 105, 109]), (bs [112, 97, 99, 107])].getD (Int.toNat p2) ByteArray.empty) then bif sfit (sapp (sapp (sapp (sapp v3.1 (bs [46])) v4.1) (bs [32])) ([(bs [110, 111, 110, 101]), (bs [112, 117, 116]), (bs [103, 101, 116]), (bs [101, 112, 111, 99, 104]), (bs [106, 111, 105, 110]), (bs [108, 101, 97, 118, 101]), (bs [109, 97, 114, 107]), (bs [114, 101, 97, 100]), (bs [116, 105, 99, 107]), (bs [116, 114, 105, 109]), (bs [112, 97, 99, 107])].getD (Int.toNat p2) ByteArray.empty)) (bs [32]) then (s_Digits K a0.2.2.2.1).bind fun v5 =>
  bif sfit (sapp (sapp (sapp (sapp (sapp v3.1 (bs [46])) v4.1) (bs [32])) ([(bs [110, 111, 110, 101]), (bs [112, 117, 116]), (bs [103, 101, 116]), (bs [101, 112, 111, 99, 104]), (bs [106, 111, 105, 110]), (bs [108, 101, 97, 118, 101]), (bs [109, 97, 114, 107]), (bs [114, 101, 97, 100]), (bs [116, 105, 99, 107]), (bs [116, 114, 105, 109]), (bs [112, 97, 99, 107])].getD (Int.toNat p2) ByteArray.empty)) (bs [32])) v5.1 then bif sfit (sapp (sapp (sapp (sapp (sapp (sapp v3.1 (bs [46])) v4.1) (bs [32])) ([(bs [110, 111, 110, 101]), (bs [112, 117, 116]), (bs [103, 101, 116]), (bs [101, 112, 111, 99, 104]), (bs [106, 111, 105, 110]), (bs [108, 101, 97, 118, 101]), (bs [109, 97, 114, 107]), (bs [114, 101, 97, 100]), (bs [116, 105, 99, 107]), (bs [116, 114, 105, 109]), (bs [112, 97, 99, 107])].getD (Int.toNat p2) ByteArray.empty)) (bs [32])) v5.1) (bs [32]) then (s_Digits K a0.2.2.2.2.1).bind fun v6 =>
  bif sfit (sapp (sapp (sapp (sapp (sapp (sapp (sapp v3.1 (bs [46])) v4.1) (bs [32])) ([(bs [110, 111, 110, 101]), (bs [112, 117, 116]), (bs [103, 101, 116]), (bs [101, 112, 111, 99, 104]), (bs [106, 111, 105, 110]), (bs [108, 101, 97, 118, 101]), (bs [109, 97, 114, 107]), (bs [114, 101, 97, 100]), (bs [116, 105, 99, 107]), (bs [116, 114, 105, 109]), (bs [112, 97, 99, 107])].getD (Int.toNat p2) ByteArray.empty)) (bs [32])) v5.1) (bs [32])) v6.1 then bif sfit (sapp (sapp (sapp (sapp (sapp (sapp (sapp (sapp v3.1 (bs [46])) v4.1) (bs [32])) ([(bs [110, 111, 110, 101]), (bs [112, 117, 116]), (bs [103, 101, 116]), (bs [101, 112, 111, 99, 104]), (bs [106, 111, 105, 110]), (bs [108, 101, 97, 118, 101]), (bs [109, 97, 114, 107]), (bs [114, 101, 97, 100]), (bs [116, 105, 99, 107]), (bs [116, 114, 105, 109]), (bs [112, 97, 99, 107])].getD (Int.toNat p2) ByteArray.empty)) (bs [32])) v5.1) (bs [32])) v6.1) (bs [32]) then (s_Digits K a0.2.2.2.2.2.1).bind fun v7 =>
  bif sfit (sapp (sapp (sapp (sapp (sapp (sapp (sapp (sapp (sapp v3.1 (bs [46])) v4.1) (bs [32])) ([(bs [110, 111, 110, 101]), (bs [112, 117, 116]), (bs [103, 101, 116]), (bs [101, 112, 111, 99, 104]), (bs [106, 111, 105, 110]), (bs [108, 101, 97, 118, 101]), (bs [109, 97, 114, 107]), (bs [114, 101, 97, 100]), (bs [116, 105, 99, 107]), (bs [116, 114, 105, 109]), (bs [112, 97, 99, 107])].getD (Int.toNat p2) ByteArray.empty)) (bs [32])) v5.1) (bs [32])) v6.1) (bs [32])) v7.1 then bif sfit (sapp (sapp (sapp (sapp (sapp (sapp (sapp (sapp (sapp (sapp v3.1 (bs [46])) v4.1) (bs [32])) ([(bs [110, 111, 110, 101]), (bs [112, 117, 116]), (bs [103, 101, 116]), (bs [101, 112, 111, 99, 104]), (bs [106, 111, 105, 110]), (bs [108, 101, 97, 118, 101]), (bs [109, 97, 114, 107]), (bs [114, 101, 97, 100]), (bs [116, 105, 99, 107]), (bs [116, 114, 105, 109]), (bs [112, 97, 99, 107])].getD (Int.toNat p2) ByteArray.empty)) (bs [32])) v5.1) (bs [32])) v6.1) (bs [32])) v7.1) (bs [32, 60]) then bif sfit (sapp (sapp (sapp (sapp (sapp (sapp (sapp (sapp (sapp (sapp (sapp v3.1 (bs [46])) v4.1) (bs [32])) ([(bs [110, 111, 110, 101]), (bs [112, 117, 116]), (bs [103, 101, 116]), (bs [101, 112, 111, 99, 104]), (bs [106, 111, 105, 110]), (bs [108, 101, 97, 118, 101]), (bs [109, 97, 114, 107]), (bs [114, 101, 97, 100]), (bs [116, 105, 99, 107]), (bs [116, 114, 105, 109]), (bs [112, 97, 99, 107])].getD (Int.toNat p2) ByteArray.empty)) (bs [32])) v5.1) (bs [32])) v6.1) (bs [32])) v7.1) (bs [32, 60])) a0.2.2.2.2.2.2.1 then bif sfit (sapp (sapp (sapp (sapp (sapp (sapp (sapp (sapp (sapp (sapp (sapp (sapp v3.1 (bs [46])) v4.1) (bs [32])) ([(bs [110, 111, 110, 101]), (bs [112, 117, 116]), (bs [103, 101, 116]), (bs [101, 112, 111, 99, 104]), (bs [106, 111, 105, 110]), (bs [108, 101, 97, 118, 101]), (bs [109, 97, 114, 107]), (bs [114, 101, 97, 100]), (bs [116, 105, 99, 107]), (bs [116, 114, 105, 109]), (bs [112, 97, 99, 107])].getD (Int.toNat p2) ByteArray.empty)) (bs [32])) v5.1) (bs [32])) v6.1) (bs [32])) v7.1) (bs [32, 60])) a0.2.2.2.2.2.2.1) (bs [62, 32, 60]) then bif sfit (sapp (sapp (sapp (sapp (sapp (sapp (sapp (sapp (sapp (sapp (sapp (sapp (sapp v3.1 (bs [46])) v4.1) (bs [32])) ([(bs [110, 111, 110, 101]), (bs [112, 117, 116]), (bs [103, 101, 116]), (bs [101, 112, 111, 99, 104]), (bs [106, 111, 105, 110]), (bs [108, 101, 97, 118, 101]), (bs [109, 97, 114, 107]), (bs [114, 101, 97, 100]), (bs [116, 105, 99, 107]), (bs [116, 114, 105, 109]), (bs [112, 97, 99, 107])].getD (Int.toNat p2) ByteArray.empty)) (bs [32])) v5.1) (bs [32])) v6.1) (bs [32])) v7.1) (bs [32, 60])) a0.2.2.2.2.2.2.1) (bs [62, 32, 60])) a0.2.2.2.2.2.2.2 then bif sfit (sapp (sapp (sapp (sapp (sapp (sapp (sapp (sapp (sapp (sapp (sapp (sapp (sapp (sapp v3.1 (bs [46])) v4.1) (bs [32])) ([(bs [110, 111, 110, 101]), (bs [112, 117, 116]), (bs [103, 101, 116]), (bs [101, 112, 111, 99, 104]), (bs [106, 111, 105, 110]), (bs [108, 101, 97, 118, 101]), (bs [109, 97, 114, 107]), (bs [114, 101, 97, 100]), (bs [116, 105, 99, 107]), (bs [116, 114, 105, 109]), (bs [112, 97, 99, 107])].getD (Int.toNat p2) ByteArray.empty)) (bs [32])) v5.1) (bs [32])) v6.1) (bs [32])) v7.1) (bs [32, 60])) a0.2.2.2.2.2.2.1) (bs [62, 32, 60])) a0.2.2.2.2.2.2.2) (bs [62]) then some (sapp (sapp (sapp (sapp (sapp (sapp (sapp (sapp (sapp (sapp (sapp (sapp (sapp (sapp (sapp v3.1 (bs [46])) v4.1) (bs [32])) ([(bs [110, 111, 110, 101]), (bs [112, 117, 116]), (bs [103, 101, 116]), (bs [101, 112, 111, 99, 104]), (bs [106, 111, 105, 110]), (bs [108, 101, 97, 118, 101]), (bs [109, 97, 114, 107]), (bs [114, 101, 97, 100]), (bs [116, 105, 99, 107]), (bs [116, 114, 105, 109]), (bs [112, 97, 99, 107])].getD (Int.toNat p2) ByteArray.empty)) (bs [32])) v5.1) (bs [32])) v6.1) (bs [32])) v7.1) (bs [32, 60])) a0.2.2.2.2.2.2.1) (bs [62, 32, 60])) a0.2.2.2.2.2.2.2) (bs [62]), ())
  else none
  else none
  else none
  else none
  else none
  else none
  else none
  else none
  else none
  else none
  else none
  else none
  else none
  else none
  else none
  else none
  else none
def s_CmdText (K : Nat) (a0 : TCmd) : Option (ByteArray × Unit) :=
  bif decide (a0.1 = (-1)) then some ((bs [110, 111, 98, 111, 100, 121]), ())
  else (s_l1In a0.2.2.1 0 10).bind fun v1 =>
  bif !v1.1 then s_CmdText.j0 K a0 0
  else s_CmdText.j0 K a0 a0.2.2.1

def i_SetupOk (a0 : TSetup) : Option (Bool × Unit) :=
  (i_within a0.1 1 4).bind fun v1 =>
  bif v1.1 then (i_within a0.2.1 1 5).bind fun v2 =>
    bif v2.1 then (i_within a0.2.2.1 1 8).bind fun v3 =>
      bif v3.1 then (i_within a0.2.2.2 0 60).bind fun v4 =>
        some (v4.1, ())
      else some (false, ())
    else some (false, ())
  else some (false, ())

def s_SetupOk (a0 : TSetup) : Option (Bool × Unit) :=
  (s_l1In a0.1 1 4).bind fun v1 =>
  bif v1.1 then (s_l1In a0.2.1 1 5).bind fun v2 =>
    bif v2.1 then (s_l1In a0.2.2.1 1 8).bind fun v3 =>
      bif v3.1 then (s_l1In a0.2.2.2 0 60).bind fun v4 =>
        some (v4.1, ())
      else some (false, ())
    else some (false, ())
  else some (false, ())

def l_FnCommands (K : Nat) (a0 : List Int) : Option (Bool × Unit) :=
  (l_big a0).bind fun v1 =>
  bif v1.1 then some (true, ())
  else (s_DrawCmdOk K a0).bind fun v2 =>
  (s_DrawCmdText K a0).bind fun v3 =>
  (s_DrawDigits K a0).bind fun v4 =>
  (s_DrawSetupOk K a0).bind fun v5 =>
  (s_DrawCmdSaid K a0).bind fun v6 =>
  (i_CmdSaid K v6.1).bind fun v7 =>
  (s_CmdSaid K v6.1).bind fun v8 =>
  (i_CmdOk K v2.1).bind fun v9 =>
  (s_CmdOk K v2.1).bind fun v10 =>
  bif !(v9.1 == v10.1) then some (false, ())
  else (i_CmdText K v3.1).bind fun v11 =>
  (s_CmdText K v3.1).bind fun v12 =>
  bif !(decide (v11.1.data.toList = v12.1.data.toList)) then some (false, ())
  else (i_Digits v4.1).bind fun v13 =>
  (s_Digits K v4.1).bind fun v14 =>
  bif !(decide (v13.1.data.toList = v14.1.data.toList)) then some (false, ())
  else (i_SetupOk v5.1).bind fun v15 =>
  (s_SetupOk v5.1).bind fun v16 =>
  bif !(v15.1 == v16.1) then some (false, ())
  else bif !(v7.2.1 == v8.2.1) then some (false, ())
  else bif !(qCmd v7.1 v8.1) then some (false, ())
  else (i_CmdText K v3.1).bind fun v17 =>
  bif !(decide (v17.1.data.toList = ByteArray.empty.data.toList)) then bif !v7.2.1 then some (true, ())
    else (i_CmdOk K v7.1).bind fun v18 =>
    some (v18.1, ())
  else some (false, ())

end Go.Proofs.YtilemnhdgfhkiaaDoor.Fc
