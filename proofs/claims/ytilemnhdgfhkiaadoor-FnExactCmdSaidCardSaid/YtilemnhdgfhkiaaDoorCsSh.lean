/- What the functions compute, over plain values. -/
import Derived.Test.YtilemnhdgfhkiaaDoorKc
set_option linter.all false
set_option maxRecDepth 100000
namespace Go.Proofs.YtilemnhdgfhkiaaDoor.Cs
open Go Go.Kn

abbrev TAnswer := Int × Int × ByteArray × ByteArray
@[reducible] def eAnswer : ET := (.p (.i .i64) (.p (.i .i64) (.p .s .s)))
def zAnswer : TAnswer := (0, 0, ByteArray.empty, ByteArray.empty)
abbrev TCmd := Int × Int × Int × Int × TAnswer
@[reducible] def eCmd : ET := (.p (.i .i64) (.p (.i .i64) (.p (.i .i64) (.p (.i .i64) eAnswer))))
def zCmd : TCmd := (0, 0, 0, 0, zAnswer)
def qCmd (v w : TCmd) : Bool := eqv eCmd v w

def s_l19Words.l0b (K : Nat) (a0 : ByteArray) (L0 : (List ByteArray) → Int → Int → Option ((List ByteArray) × Unit)) (q0 : List ByteArray) (q1 : Int) (q2 : Int) : Option ((List ByteArray) × Unit) :=
  bif decide (q2 ≤ ((a0.size : Nat) : Int)) then bif decide (q2 = ((a0.size : Nat) : Int)) then bif decide ((0 : Int) ≤ q1) then bif decide (q1 ≤ q2) then bif decide (q2 ≤ ((a0.size : Nat) : Int)) then bif decide ((q0.length + [a0.extract (Int.toNat q1) (Int.toNat q2)].length) * 17 ≤ growTop) then L0 (q0 ++ [a0.extract (Int.toNat q1) (Int.toNat q2)]) (IntKind.i64.wrap (q2 + 1)) (IntKind.i64.wrap (q2 + 1))
      else none
      else none
      else none
      else none
    else bif decide ((0 : Int) ≤ q2) then bif decide (q2 < ((a0.size : Nat) : Int)) then bif decide ((byteAt a0 q2) = 32) then bif decide ((0 : Int) ≤ q1) then bif decide (q1 ≤ q2) then bif decide (q2 ≤ ((a0.size : Nat) : Int)) then bif decide ((q0.length + [a0.extract (Int.toNat q1) (Int.toNat q2)].length) * 17 ≤ growTop) then L0 (q0 ++ [a0.extract (Int.toNat q1) (Int.toNat q2)]) (IntKind.i64.wrap (q2 + 1)) (IntKind.i64.wrap (q2 + 1))
      else none
      else none
      else none
      else none
    else L0 q0 q1 (IntKind.i64.wrap (q2 + 1))
    else none
    else none
  else some (q0, ())
def s_l19Words.l0 (K : Nat) (a0 : ByteArray) : Nat → (List ByteArray) → Int → Int → Option ((List ByteArray) × Unit)
  | 0, _, _, _ => none
  | n + 1, q0, q1, q2 => s_l19Words.l0b K a0 (s_l19Words.l0 K a0 n) q0 q1 q2
def s_l19Words.b (K : Nat) (a0 : ByteArray) (L0 : (List ByteArray) → Int → Int → Option ((List ByteArray) × Unit)) : Option ((List ByteArray) × Unit) :=
  L0 [] 0 0
def s_l19Words (K : Nat) (a0 : ByteArray) : Option ((List ByteArray) × Unit) := s_l19Words.b K a0 (s_l19Words.l0 K a0 K)

def s_l1In (a0 : Int) (a1 : Int) (a2 : Int) : Option (Bool × Unit) :=
  bif decide (a0 ≥ a1) then some (decide (a0 ≤ a2), ())
  else some (false, ())

def s_l19Op.l0b (K : Nat) (a0 : ByteArray) (L0 : Int → Option (Int × Unit)) (q0 : Int) : Option (Int × Unit) :=
  bif decide (q0 < 11) then bif decide ((0 : Int) ≤ q0) then bif decide (q0 < 11) then bif decide (([ByteArray.empty, (bs [112, 117, 116]), (bs [103, 101, 116]), (bs [101, 112, 111, 99, 104]), (bs [106, 111, 105, 110]), (bs [108, 101, 97, 118, 101]), (bs [109, 97, 114, 107]), (bs [114, 101, 97, 100]), (bs [116, 105, 99, 107]), (bs [116, 114, 105, 109]), (bs [112, 97, 99, 107])].getD (Int.toNat q0) ByteArray.empty).data.toList = a0.data.toList) then some (q0, ())
    else L0 (IntKind.i64.wrap (q0 + 1))
    else none
    else none
  else some (0, ())
def s_l19Op.l0 (K : Nat) (a0 : ByteArray) : Nat → Int → Option (Int × Unit)
  | 0, _ => none
  | n + 1, q0 => s_l19Op.l0b K a0 (s_l19Op.l0 K a0 n) q0
def s_l19Op.b (K : Nat) (a0 : ByteArray) (L0 : Int → Option (Int × Unit)) : Option (Int × Unit) :=
  L0 1
def s_l19Op (K : Nat) (a0 : ByteArray) : Option (Int × Unit) := s_l19Op.b K a0 (s_l19Op.l0 K a0 K)

def s_Digits.l0b (K : Nat) (a0 : Int) (L0 : Int → ByteArray → Option (ByteArray × Unit)) (q0 : Int) (q1 : ByteArray) : Option (ByteArray × Unit) :=
  bif !(decide (q0 = 0)) then bif decide ((Int.tmod q0 10) < 0) then bif sfit (strOf [IntKind.u8.wrap (IntKind.i64.wrap (48 + (IntKind.i64.wrap (0 - (Int.tmod q0 10)))))]) q1 then L0 (IntKind.i64.wrap (Int.tdiv q0 10)) (sapp (strOf [IntKind.u8.wrap (IntKind.i64.wrap (48 + (IntKind.i64.wrap (0 - (Int.tmod q0 10)))))]) q1)
      else none
    else bif sfit (strOf [IntKind.u8.wrap (IntKind.i64.wrap (48 + (Int.tmod q0 10)))]) q1 then L0 (IntKind.i64.wrap (Int.tdiv q0 10)) (sapp (strOf [IntKind.u8.wrap (IntKind.i64.wrap (48 + (Int.tmod q0 10)))]) q1)
    else none
  else bif decide (a0 < 0) then bif sfit (bs [45]) q1 then some (sapp (bs [45]) q1, ())
    else none
  else some (q1, ())
def s_Digits.l0 (K : Nat) (a0 : Int) : Nat → Int → ByteArray → Option (ByteArray × Unit)
  | 0, _, _ => none
  | n + 1, q0, q1 => s_Digits.l0b K a0 (s_Digits.l0 K a0 n) q0 q1
def s_Digits.b (K : Nat) (a0 : Int) (L0 : Int → ByteArray → Option (ByteArray × Unit)) : Option (ByteArray × Unit) :=
  bif decide (a0 = 0) then some ((bs [48]), ())
  else L0 a0 ByteArray.empty
def s_Digits (K : Nat) (a0 : Int) : Option (ByteArray × Unit) := s_Digits.b K a0 (s_Digits.l0 K a0 K)

def s_l19Num.l0b (K : Nat) (a0 : ByteArray) (L0 : Int → Int → Option (Int × Unit)) (q0 : Int) (q1 : Int) : Option (Int × Unit) :=
  bif decide (q1 < ((a0.size : Nat) : Int)) then bif decide ((0 : Int) ≤ q1) then bif decide (q1 < ((a0.size : Nat) : Int)) then bif decide ((byteAt a0 q1) < 48) then some ((-1), ())
    else bif decide ((0 : Int) ≤ q1) then bif decide (q1 < ((a0.size : Nat) : Int)) then bif decide ((byteAt a0 q1) > 57) then some ((-1), ())
    else bif decide ((0 : Int) ≤ q1) then bif decide (q1 < ((a0.size : Nat) : Int)) then L0 (IntKind.i64.wrap ((IntKind.i64.wrap ((IntKind.i64.wrap (10 * q0)) + (IntKind.i64.wrap (byteAt a0 q1)))) - 48)) (IntKind.i64.wrap (q1 + 1))
    else none
    else none
    else none
    else none
    else none
    else none
  else (s_Digits K q0).bind fun v1 =>
  bif !(decide (v1.1.data.toList = a0.data.toList)) then some ((-1), ())
  else some (q0, ())
def s_l19Num.l0 (K : Nat) (a0 : ByteArray) : Nat → Int → Int → Option (Int × Unit)
  | 0, _, _ => none
  | n + 1, q0, q1 => s_l19Num.l0b K a0 (s_l19Num.l0 K a0 n) q0 q1
def s_l19Num.b (K : Nat) (a0 : ByteArray) (L0 : Int → Int → Option (Int × Unit)) : Option (Int × Unit) :=
  bif decide (((a0.size : Nat) : Int) < 1) then some ((-1), ())
  else bif decide (((a0.size : Nat) : Int) > 6) then some ((-1), ())
  else L0 0 0
def s_l19Num (K : Nat) (a0 : ByteArray) : Option (Int × Unit) := s_l19Num.b K a0 (s_l19Num.l0 K a0 K)

def s_l2Text.l0b (K : Nat) (a0 : ByteArray) (L0 : Int → Option (Bool × Unit)) (q0 : Int) : Option (Bool × Unit) :=
  bif decide (q0 < ((a0.size : Nat) : Int)) then bif decide ((0 : Int) ≤ q0) then bif decide (q0 < ((a0.size : Nat) : Int)) then bif decide ((byteAt a0 q0) ≥ 97) then bif decide ((byteAt a0 q0) ≤ 122) then L0 (IntKind.i64.wrap (q0 + 1))
      else bif decide ((byteAt a0 q0) ≥ 48) then bif decide ((byteAt a0 q0) ≤ 57) then L0 (IntKind.i64.wrap (q0 + 1))
        else bif !(decide ((byteAt a0 q0) = 32)) then some (false, ())
        else L0 (IntKind.i64.wrap (q0 + 1))
      else bif !(decide ((byteAt a0 q0) = 32)) then some (false, ())
      else L0 (IntKind.i64.wrap (q0 + 1))
    else bif decide ((byteAt a0 q0) ≥ 48) then bif decide ((byteAt a0 q0) ≤ 57) then L0 (IntKind.i64.wrap (q0 + 1))
      else bif !(decide ((byteAt a0 q0) = 32)) then some (false, ())
      else L0 (IntKind.i64.wrap (q0 + 1))
    else bif !(decide ((byteAt a0 q0) = 32)) then some (false, ())
    else L0 (IntKind.i64.wrap (q0 + 1))
    else none
    else none
  else some (decide (((a0.size : Nat) : Int) ≤ 30), ())
def s_l2Text.l0 (K : Nat) (a0 : ByteArray) : Nat → Int → Option (Bool × Unit)
  | 0, _ => none
  | n + 1, q0 => s_l2Text.l0b K a0 (s_l2Text.l0 K a0 n) q0
def s_l2Text.b (K : Nat) (a0 : ByteArray) (L0 : Int → Option (Bool × Unit)) : Option (Bool × Unit) :=
  L0 0
def s_l2Text (K : Nat) (a0 : ByteArray) : Option (Bool × Unit) := s_l2Text.b K a0 (s_l2Text.l0 K a0 K)

def s_CmdOk (K : Nat) (a0 : TCmd) : Option (Bool × Unit) :=
  bif decide (a0.1 = (-1)) then some (qCmd a0 ((-1), 0, 0, 0, 0, 0, ByteArray.empty, ByteArray.empty), ())
  else (s_l1In a0.1 0 3).bind fun v1 =>
  bif v1.1 then (s_l1In a0.2.1 1 100000).bind fun v2 =>
    bif v2.1 then (s_l1In a0.2.2.1 1 10).bind fun v3 =>
      bif v3.1 then (s_l1In a0.2.2.2.1 0 100000).bind fun v4 =>
        bif v4.1 then (s_l1In a0.2.2.2.2.1 0 100000).bind fun v5 =>
          bif v5.1 then (s_l1In a0.2.2.2.2.2.1 0 100000).bind fun v6 =>
            bif v6.1 then (s_l2Text K a0.2.2.2.2.2.2.1).bind fun v7 =>
              bif v7.1 then (s_l2Text K a0.2.2.2.2.2.2.2).bind fun v8 =>
                some (v8.1, ())
              else some (false, ())
            else some (false, ())
          else some (false, ())
        else some (false, ())
      else some (false, ())
    else some (false, ())
  else some (false, ())

def s_l19Cmd.j0 (K : Nat) (v2 : Int × Unit) (v3 : Int × Unit) (v4 : Int × Unit) (v5 : Int × Unit) (a0 : List ByteArray) (p6 : ByteArray) : Option (TCmd × Bool × Unit) :=
  (s_CmdOk K (0, 1, v2.1, v3.1, v4.1, v5.1, a0.getD 4 ByteArray.empty, p6)).bind fun v7 =>
  bif !v7.1 then some ((0, 0, 0, 0, 0, 0, ByteArray.empty, ByteArray.empty), false, ())
  else bif decide (((a0.length : Nat) : Int) > 4) then bif decide ((a0.getD 4 ByteArray.empty).data.toList = ByteArray.empty.data.toList) then some ((0, 0, 0, 0, 0, 0, ByteArray.empty, ByteArray.empty), false, ())
    else bif decide (((a0.length : Nat) : Int) > 5) then bif decide (p6.data.toList = ByteArray.empty.data.toList) then some ((0, 0, 0, 0, 0, 0, ByteArray.empty, ByteArray.empty), false, ())
      else some ((0, 1, v2.1, v3.1, v4.1, v5.1, a0.getD 4 ByteArray.empty, p6), true, ())
    else some ((0, 1, v2.1, v3.1, v4.1, v5.1, a0.getD 4 ByteArray.empty, p6), true, ())
  else bif decide (((a0.length : Nat) : Int) > 5) then bif decide (p6.data.toList = ByteArray.empty.data.toList) then some ((0, 0, 0, 0, 0, 0, ByteArray.empty, ByteArray.empty), false, ())
    else some ((0, 1, v2.1, v3.1, v4.1, v5.1, a0.getD 4 ByteArray.empty, p6), true, ())
  else some ((0, 1, v2.1, v3.1, v4.1, v5.1, a0.getD 4 ByteArray.empty, p6), true, ())
def s_l19Cmd.j1 (K : Nat) (v2 : Int × Unit) (v3 : Int × Unit) (v4 : Int × Unit) (v5 : Int × Unit) (p8 : ByteArray) (a0 : List ByteArray) : Option (TCmd × Bool × Unit) :=
  (s_CmdOk K (0, 1, v2.1, v3.1, v4.1, v5.1, ByteArray.empty, p8)).bind fun v9 =>
  bif !v9.1 then some ((0, 0, 0, 0, 0, 0, ByteArray.empty, ByteArray.empty), false, ())
  else bif decide (((a0.length : Nat) : Int) > 4) then bif decide (ByteArray.empty.data.toList = ByteArray.empty.data.toList) then some ((0, 0, 0, 0, 0, 0, ByteArray.empty, ByteArray.empty), false, ())
    else bif decide (((a0.length : Nat) : Int) > 5) then bif decide (p8.data.toList = ByteArray.empty.data.toList) then some ((0, 0, 0, 0, 0, 0, ByteArray.empty, ByteArray.empty), false, ())
      else some ((0, 1, v2.1, v3.1, v4.1, v5.1, ByteArray.empty, p8), true, ())
    else some ((0, 1, v2.1, v3.1, v4.1, v5.1, ByteArray.empty, p8), true, ())
  else bif decide (((a0.length : Nat) : Int) > 5) then bif decide (p8.data.toList = ByteArray.empty.data.toList) then some ((0, 0, 0, 0, 0, 0, ByteArray.empty, ByteArray.empty), false, ())
    else some ((0, 1, v2.1, v3.1, v4.1, v5.1, ByteArray.empty, p8), true, ())
  else some ((0, 1, v2.1, v3.1, v4.1, v5.1, ByteArray.empty, p8), true, ())
def s_l19Cmd (K : Nat) (a0 : List ByteArray) : Option (TCmd × Bool × Unit) :=
  (s_l1In ((a0.length : Nat) : Int) 4 6).bind fun v1 =>
  bif !v1.1 then some ((0, 0, 0, 0, 0, 0, ByteArray.empty, ByteArray.empty), false, ())
  else bif decide ((0 : Int) < ((a0.length : Nat) : Int)) then (s_l19Op K (a0.getD 0 ByteArray.empty)).bind fun v2 =>
  bif decide ((1 : Int) < ((a0.length : Nat) : Int)) then (s_l19Num K (a0.getD 1 ByteArray.empty)).bind fun v3 =>
  bif decide ((2 : Int) < ((a0.length : Nat) : Int)) then (s_l19Num K (a0.getD 2 ByteArray.empty)).bind fun v4 =>
  bif decide ((3 : Int) < ((a0.length : Nat) : Int)) then (s_l19Num K (a0.getD 3 ByteArray.empty)).bind fun v5 =>
  bif decide (((a0.length : Nat) : Int) > 4) then bif decide ((4 : Int) < ((a0.length : Nat) : Int)) then bif decide (((a0.length : Nat) : Int) > 5) then bif decide ((5 : Int) < ((a0.length : Nat) : Int)) then s_l19Cmd.j0 K v2 v3 v4 v5 a0 (a0.getD 5 ByteArray.empty)
      else none
    else s_l19Cmd.j0 K v2 v3 v4 v5 a0 ByteArray.empty
    else none
  else bif decide (((a0.length : Nat) : Int) > 5) then bif decide ((5 : Int) < ((a0.length : Nat) : Int)) then s_l19Cmd.j1 K v2 v3 v4 v5 (a0.getD 5 ByteArray.empty) a0
    else none
  else s_l19Cmd.j1 K v2 v3 v4 v5 ByteArray.empty a0
  else none
  else none
  else none
  else none

def s_CmdSaid (K : Nat) (a0 : ByteArray) : Option (TCmd × Bool × Unit) :=
  (s_l19Words K a0).bind fun v1 =>
  (s_l19Cmd K v1.1).bind fun v2 =>
  some (v2.1, v2.2.1, ())

def i_within (a0 : Int) (a1 : Int) (a2 : Int) : Option (Bool × Unit) :=
  bif decide (a0 ≥ a1) then some (decide (a0 ≤ a2), ())
  else some (false, ())

def sl_Index.l0b (K : Nat) (a0 : List ByteArray) (a1 : ByteArray) (L0 : Int → Option (Int × Unit)) (q0 : Int) : Option (Int × Unit) :=
  bif decide (q0 < ((a0.length : Nat) : Int)) then bif decide ((0 : Int) ≤ q0) then bif decide (q0 < ((a0.length : Nat) : Int)) then bif decide (a1.data.toList = (a0.getD (Int.toNat q0) ByteArray.empty).data.toList) then some (q0, ())
    else L0 (IntKind.i64.wrap (q0 + 1))
    else none
    else none
  else some ((-1), ())
def sl_Index.l0 (K : Nat) (a0 : List ByteArray) (a1 : ByteArray) : Nat → Int → Option (Int × Unit)
  | 0, _ => none
  | n + 1, q0 => sl_Index.l0b K a0 a1 (sl_Index.l0 K a0 a1 n) q0
def sl_Index.b (K : Nat) (a0 : List ByteArray) (a1 : ByteArray) (L0 : Int → Option (Int × Unit)) : Option (Int × Unit) :=
  L0 0
def sl_Index (K : Nat) (a0 : List ByteArray) (a1 : ByteArray) : Option (Int × Unit) := sl_Index.b K a0 a1 (sl_Index.l0 K a0 a1 K)

def sl_Contains (K : Nat) (a0 : List ByteArray) (a1 : ByteArray) : Option (Bool × Unit) :=
  (sl_Index K a0 a1).bind fun v1 =>
  some (decide (v1.1 ≥ 0), ())

def i_Digits (a0 : Int) : Option (ByteArray × Unit) :=
  (lItoa a0).bind fun v1 =>
  some (v1.1, ())

def i_numberSaid (a0 : ByteArray) : Option (Int × Bool × Unit) :=
  (lAtoi a0).bind fun v1 =>
  bif !v1.2.1 then bif decide (v1.1 ≥ 0) then bif decide (((a0.size : Nat) : Int) ≤ 6) then (i_Digits v1.1).bind fun v2 =>
        some (v1.1, decide (v2.1.data.toList = a0.data.toList), ())
      else some (v1.1, false, ())
    else some (v1.1, false, ())
  else some (v1.1, false, ())

def i_numbersSaid.l0b (K : Nat) (a0 : List ByteArray) (L0 : (List Int) → Int → Option ((List Int) × Bool × Unit)) (q0 : List Int) (q1 : Int) : Option ((List Int) × Bool × Unit) :=
  bif decide (q1 < ((a0.length : Nat) : Int)) then bif decide ((0 : Int) ≤ q1) then bif decide (q1 < ((a0.length : Nat) : Int)) then (i_numberSaid (a0.getD (Int.toNat q1) ByteArray.empty)).bind fun v1 =>
    bif !v1.2.1 then some ([], false, ())
    else bif decide ((q0.length + [v1.1].length) * 9 ≤ growTop) then L0 (q0 ++ [v1.1]) (IntKind.i64.wrap (q1 + 1))
    else none
    else none
    else none
  else some (q0, true, ())
def i_numbersSaid.l0 (K : Nat) (a0 : List ByteArray) : Nat → (List Int) → Int → Option ((List Int) × Bool × Unit)
  | 0, _, _ => none
  | n + 1, q0, q1 => i_numbersSaid.l0b K a0 (i_numbersSaid.l0 K a0 n) q0 q1
def i_numbersSaid.b (K : Nat) (a0 : List ByteArray) (L0 : (List Int) → Int → Option ((List Int) × Bool × Unit)) : Option ((List Int) × Bool × Unit) :=
  L0 [] 0
def i_numbersSaid (K : Nat) (a0 : List ByteArray) : Option ((List Int) × Bool × Unit) := i_numbersSaid.b K a0 (i_numbersSaid.l0 K a0 K)

def i_opNames : Option ((List ByteArray) × Unit) :=
  some ([(bs [112, 117, 116]), (bs [103, 101, 116]), (bs [101, 112, 111, 99, 104]), (bs [106, 111, 105, 110]), (bs [108, 101, 97, 118, 101]), (bs [109, 97, 114, 107]), (bs [114, 101, 97, 100]), (bs [116, 105, 99, 107]), (bs [116, 114, 105, 109]), (bs [112, 97, 99, 107])], ())

def i_wordsOk.l0b (K : Nat) (a0 : ByteArray) (L0 : Int → Option (Bool × Unit)) (q0 : Int) : Option (Bool × Unit) :=
  bif decide (q0 < ((a0.size : Nat) : Int)) then bif decide ((0 : Int) ≤ q0) then bif decide (q0 < ((a0.size : Nat) : Int)) then bif decide ((byteAt a0 q0) < 97) then bif decide ((byteAt a0 q0) < 48) then bif !(decide ((byteAt a0 q0) = 32)) then some (false, ())
        else L0 (IntKind.i64.wrap (q0 + 1))
      else bif decide ((byteAt a0 q0) > 57) then bif !(decide ((byteAt a0 q0) = 32)) then some (false, ())
        else L0 (IntKind.i64.wrap (q0 + 1))
      else L0 (IntKind.i64.wrap (q0 + 1))
    else bif decide ((byteAt a0 q0) > 122) then bif decide ((byteAt a0 q0) < 48) then bif !(decide ((byteAt a0 q0) = 32)) then some (false, ())
        else L0 (IntKind.i64.wrap (q0 + 1))
      else bif decide ((byteAt a0 q0) > 57) then bif !(decide ((byteAt a0 q0) = 32)) then some (false, ())
        else L0 (IntKind.i64.wrap (q0 + 1))
      else L0 (IntKind.i64.wrap (q0 + 1))
    else L0 (IntKind.i64.wrap (q0 + 1))
    else none
    else none
  else some (decide (((a0.size : Nat) : Int) ≤ 30), ())
def i_wordsOk.l0 (K : Nat) (a0 : ByteArray) : Nat → Int → Option (Bool × Unit)
  | 0, _ => none
  | n + 1, q0 => i_wordsOk.l0b K a0 (i_wordsOk.l0 K a0 n) q0
def i_wordsOk.b (K : Nat) (a0 : ByteArray) (L0 : Int → Option (Bool × Unit)) : Option (Bool × Unit) :=
  L0 0
def i_wordsOk (K : Nat) (a0 : ByteArray) : Option (Bool × Unit) := i_wordsOk.b K a0 (i_wordsOk.l0 K a0 K)

def i_CmdOk (K : Nat) (a0 : TCmd) : Option (Bool × Unit) :=
  bif decide (a0.1 = (-1)) then some (qCmd a0 ((-1), 0, 0, 0, 0, 0, ByteArray.empty, ByteArray.empty), ())
  else (i_within a0.1 0 3).bind fun v1 =>
  bif v1.1 then (i_within a0.2.1 1 100000).bind fun v2 =>
    bif v2.1 then (i_within a0.2.2.1 1 10).bind fun v3 =>
      bif v3.1 then (i_within a0.2.2.2.1 0 100000).bind fun v4 =>
        bif v4.1 then (i_within a0.2.2.2.2.1 0 100000).bind fun v5 =>
          bif v5.1 then (i_within a0.2.2.2.2.2.1 0 100000).bind fun v6 =>
            bif v6.1 then (i_wordsOk K a0.2.2.2.2.2.2.1).bind fun v7 =>
              bif v7.1 then (i_wordsOk K a0.2.2.2.2.2.2.2).bind fun v8 =>
                some (v8.1, ())
              else some (false, ())
            else some (false, ())
          else some (false, ())
        else some (false, ())
      else some (false, ())
    else some (false, ())
  else some (false, ())

def i_CmdSaid.j0 (K : Nat) (v6 : Int × Unit) (v1 : (List ByteArray) × Unit) (v4 : (List Int) × Bool × Unit) (p7 : ByteArray) : Option (TCmd × Bool × Unit) :=
  bif decide ((IntKind.i64.wrap (v6.1 + 1)) < 1) then some ((0, 0, 0, 0, 0, 0, ByteArray.empty, ByteArray.empty), false, ())
  else (i_opNames).bind fun v8 =>
  bif decide ((0 : Int) < ((v1.1.length : Nat) : Int)) then (sl_Contains K v8.1 (v1.1.getD 0 ByteArray.empty)).bind fun v9 =>
  bif !v9.1 then some ((0, 0, 0, 0, 0, 0, ByteArray.empty, ByteArray.empty), false, ())
  else (i_CmdOk K (0, 1, IntKind.i64.wrap (v6.1 + 1), v4.1.getD 0 0, v4.1.getD 1 0, v4.1.getD 2 0, v1.1.getD 4 ByteArray.empty, p7)).bind fun v10 =>
  bif !v10.1 then some ((0, 0, 0, 0, 0, 0, ByteArray.empty, ByteArray.empty), false, ())
  else some ((0, 1, IntKind.i64.wrap (v6.1 + 1), v4.1.getD 0 0, v4.1.getD 1 0, v4.1.getD 2 0, v1.1.getD 4 ByteArray.empty, p7), true, ())
  else none
def i_CmdSaid.j1 (K : Nat) (v6 : Int × Unit) (v1 : (List ByteArray) × Unit) (v4 : (List Int) × Bool × Unit) (p11 : ByteArray) : Option (TCmd × Bool × Unit) :=
  bif decide ((IntKind.i64.wrap (v6.1 + 1)) < 1) then some ((0, 0, 0, 0, 0, 0, ByteArray.empty, ByteArray.empty), false, ())
  else (i_opNames).bind fun v12 =>
  bif decide ((0 : Int) < ((v1.1.length : Nat) : Int)) then (sl_Contains K v12.1 (v1.1.getD 0 ByteArray.empty)).bind fun v13 =>
  bif !v13.1 then some ((0, 0, 0, 0, 0, 0, ByteArray.empty, ByteArray.empty), false, ())
  else (i_CmdOk K (0, 1, IntKind.i64.wrap (v6.1 + 1), v4.1.getD 0 0, v4.1.getD 1 0, v4.1.getD 2 0, ByteArray.empty, p11)).bind fun v14 =>
  bif !v14.1 then some ((0, 0, 0, 0, 0, 0, ByteArray.empty, ByteArray.empty), false, ())
  else some ((0, 1, IntKind.i64.wrap (v6.1 + 1), v4.1.getD 0 0, v4.1.getD 1 0, v4.1.getD 2 0, ByteArray.empty, p11), true, ())
  else none
def i_CmdSaid (K : Nat) (a0 : ByteArray) : Option (TCmd × Bool × Unit) :=
  (lSplit a0 (bs [32])).bind fun v1 =>
  (i_within ((v1.1.length : Nat) : Int) 4 6).bind fun v2 =>
  bif !v2.1 then some ((0, 0, 0, 0, 0, 0, ByteArray.empty, ByteArray.empty), false, ())
  else (sl_Contains K v1.1 ByteArray.empty).bind fun v3 =>
  bif v3.1 then some ((0, 0, 0, 0, 0, 0, ByteArray.empty, ByteArray.empty), false, ())
  else bif decide ((4 : Int) ≤ ((v1.1.length : Nat) : Int)) then (i_numbersSaid K ((v1.1.take 4).drop 1)).bind fun v4 =>
  bif !v4.2.1 then some ((0, 0, 0, 0, 0, 0, ByteArray.empty, ByteArray.empty), false, ())
  else (i_opNames).bind fun v5 =>
  bif decide ((0 : Int) < ((v1.1.length : Nat) : Int)) then (sl_Index K v5.1 (v1.1.getD 0 ByteArray.empty)).bind fun v6 =>
  bif decide ((0 : Int) < ((v4.1.length : Nat) : Int)) then bif decide ((1 : Int) < ((v4.1.length : Nat) : Int)) then bif decide ((2 : Int) < ((v4.1.length : Nat) : Int)) then bif decide (((v1.1.length : Nat) : Int) > 4) then bif decide ((4 : Int) < ((v1.1.length : Nat) : Int)) then bif decide (((v1.1.length : Nat) : Int) > 5) then bif decide ((5 : Int) < ((v1.1.length : Nat) : Int)) then i_CmdSaid.j0 K v6 v1 v4 (v1.1.getD 5 ByteArray.empty)
      else none
    else i_CmdSaid.j0 K v6 v1 v4 ByteArray.empty
    else none
  else bif decide (((v1.1.length : Nat) : Int) > 5) then bif decide ((5 : Int) < ((v1.1.length : Nat) : Int)) then i_CmdSaid.j1 K v6 v1 v4 (v1.1.getD 5 ByteArray.empty)
    else none
  else i_CmdSaid.j1 K v6 v1 v4 ByteArray.empty
  else none
  else none
  else none
  else none
  else none

def l_eqCmd (a0 : TCmd) (a1 : TCmd) : Option (Bool × Unit) :=
  bif !(decide (a0.1 = a1.1)) then some (false, ())
  else bif !(decide (a0.2.1 = a1.2.1)) then some (false, ())
  else bif !(decide (a0.2.2.1 = a1.2.2.1)) then some (false, ())
  else bif !(decide (a0.2.2.2.1 = a1.2.2.2.1)) then some (false, ())
  else bif !(decide (a0.2.2.2.2.1 = a1.2.2.2.2.1)) then some (false, ())
  else bif !(decide (a0.2.2.2.2.2.1 = a1.2.2.2.2.2.1)) then some (false, ())
  else bif !(decide (a0.2.2.2.2.2.2.1.data.toList = a1.2.2.2.2.2.2.1.data.toList)) then some (false, ())
  else bif !(decide (a0.2.2.2.2.2.2.2.data.toList = a1.2.2.2.2.2.2.2.data.toList)) then some (false, ())
  else some (true, ())

def l_FnExactCmdSaid (K : Nat) (a0 : ByteArray) : Option (Bool × Unit) :=
  bif decide (((a0.size : Nat) : Int) > 1048576) then some (true, ())
  else (s_CmdSaid K a0).bind fun v1 =>
  (i_CmdSaid K a0).bind fun v2 =>
  (l_eqCmd v2.1 v1.1).bind fun v3 =>
  bif !v3.1 then some (false, ())
  else bif !(v2.2.1 == v1.2.1) then some (false, ())
  else some (true, ())

end Go.Proofs.YtilemnhdgfhkiaaDoor.Cs
