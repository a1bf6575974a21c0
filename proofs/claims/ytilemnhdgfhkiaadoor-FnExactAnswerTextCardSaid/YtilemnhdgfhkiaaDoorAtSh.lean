/- What the functions compute, over plain values. -/
import Derived.Test.YtilemnhdgfhkiaaDoorKc
set_option linter.all false
set_option maxRecDepth 100000
namespace Go.Proofs.YtilemnhdgfhkiaaDoor.At
open Go Go.Kn

abbrev TAnswer := Int × Int × ByteArray × ByteArray
@[reducible] def eAnswer : ET := (.p (.i .i64) (.p (.i .i64) (.p .s .s)))
def zAnswer : TAnswer := (0, 0, ByteArray.empty, ByteArray.empty)

def l_szAnswer (a0 : TAnswer) (a1 : Int) : Option (Int × Unit) :=
  bif decide ((IntKind.i64.wrap (a1 - ((a0.2.2.1.size : Nat) : Int))) < 0) then some ((-1), ())
  else bif decide ((IntKind.i64.wrap ((IntKind.i64.wrap (a1 - ((a0.2.2.1.size : Nat) : Int))) - ((a0.2.2.2.size : Nat) : Int))) < 0) then some ((-1), ())
  else some (IntKind.i64.wrap ((IntKind.i64.wrap (a1 - ((a0.2.2.1.size : Nat) : Int))) - ((a0.2.2.2.size : Nat) : Int)), ())

def l_toAnswer (a0 : TAnswer) : Option (TAnswer × Unit) :=
  some (a0, ())

def s_l1In (a0 : Int) (a1 : Int) (a2 : Int) : Option (Bool × Unit) :=
  bif decide (a0 ≥ a1) then some (decide (a0 ≤ a2), ())
  else some (false, ())

def s_Digits.l0b (K : Nat) (a0 : Int) (L0 : Int → ByteArray → Option (ByteArray × Unit)) (q0 : Int) (q1 : ByteArray) : Option (ByteArray × Unit) :=
  bif !(decide (q0 = 0)) then bif decide ((Int.tmod q0 10) < 0) then bif sfit (strOf [IntKind.u8.wrap (IntKind.i64.wrap (48 + (IntKind.i64.wrap (0 - (Int.tmod q0 10)))))]) q1 then L0 (IntKind.i64.wrap (Int.tdiv q0 10)) (sapp (strOf [IntKind.u8.wrap (IntKind.i64.wrap (48 + (IntKind.i64.wrap (0 - (Int.tmod q0 10)))))]) q1)
      else none
    else bif sfit (strOf [IntKind.u8.wrap (IntKind.i64.wrap (48 + (Int.tmod q0 10)))]) q1 then L0 (IntKind.i64.wrap (Int.tdiv q0 10)) (sapp (strOf [IntKind.u8.wrap (IntKind.i64.wrap (48 + (Int.tmod q0 10)))]) q1)
    else none
  else bif decide (a0 < 0) then bif sfit (bs [45]) q1 then some (sapp (bs [45]) q1, ())
    else none
  else some (q1, ())
def s_Digits.l0 (K : Nat) (a0 : Int) : Nat → Int → ByteArray → Option (ByteArray × Unit)
  | 0, _, _ => none
  | n + 1, q0, q1 => s_Digits.l0b K a0 (s_Digits.l0 K a0 n) q0 q1
def s_Digits.b (K : Nat) (a0 : Int) (L0 : Int → ByteArray → Option (ByteArray × Unit)) : Option (ByteArray × Unit) :=
  bif decide (a0 = 0) then some ((bs [48]), ())
  else L0 a0 ByteArray.empty
def s_Digits (K : Nat) (a0 : Int) : Option (ByteArray × Unit) := s_Digits.b K a0 (s_Digits.l0 K a0 K)

def s_AnswerText (K : Nat) (a0 : TAnswer) : Option (ByteArray × Unit) :=
  (s_l1In a0.1 0 9).bind fun v1 =>
  bif v1.1 then bif decide ((0 : Int) ≤ a0.1) then bif decide (a0.1 < 10) then bif sfit ([(bs [100, 111, 110, 101]), (bs [97, 103, 97, 105, 110]), (bs [111, 108, 100]), (bs [103, 97, 112]), (bs [102, 101, 110, 99, 101, 100]), (bs [114, 111, 119]), (bs [108, 111, 119]), (bs [101, 110, 100]), (bs [102, 117, 108, 108]), (bs [103, 114, 111, 117, 112])].getD (Int.toNat a0.1) ByteArray.empty) (bs [32]) then (s_Digits K a0.2.1).bind fun v2 =>
    bif sfit (sapp ([(bs [100, 111, 110, 101]), (bs [97, 103, 97, 105, 110]), (bs [111, 108, 100]), (bs [103, 97, 112]), (bs [102, 101, 110, 99, 101, 100]), (bs [114, 111, 119]), (bs [108, 111, 119]), (bs [101, 110, 100]), (bs [102, 117, 108, 108]), (bs [103, 114, 111, 117, 112])].getD (Int.toNat a0.1) ByteArray.empty) (bs [32])) v2.1 then bif sfit (sapp (sapp ([(bs [100, 111, 110, 101]), (bs [97, 103, 97, 105, 110]), (bs [111, 108, 100]), (bs [103, 97, 112]), (bs [102, 101, 110, 99, 101, 100]), (bs [114, 111, 119]), (bs [108, 111, 119]), (bs [101, 110, 100]), (bs [102, 117, 108, 108]), (bs [103, 114, 111, 117, 112])].getD (Int.toNat a0.1) ByteArray.empty) (bs [32])) v2.1) (bs [32, 60]) then bif sfit (sapp (sapp (sapp ([(bs [100, 111, 110, 101]), (bs [97, 103, 97, 105, 110]), (bs [111, 108, 100]), (bs [103, 97, 112]), (bs [102, 101, 110, 99, 101, 100]), (bs [114, 111, 119]), (bs [108, 111, 119]), (bs [101, 110, 100]), (bs [102, 117, 108, 108]), (bs [103, 114, 111, 117, 112])].getD (Int.toNat a0.1) ByteArray.empty) (bs [32])) v2.1) (bs [32, 60])) a0.2.2.1 then bif sfit (sapp (sapp (sapp (sapp ([(bs [100, 111, 110, 101]), (bs [97, 103, 97, 105, 110]), (bs [111, 108, 100]), (bs [103, 97, 112]), (bs [102, 101, 110, 99, 101, 100]), (bs [114, 111, 119]), (bs [108, 111, 119]), (bs [101, 110, 100]), (bs [102, 117, 108, 108]), (bs [103, 114, 111, 117, 112])].getD (Int.toNat a0.1) ByteArray.empty) (bs [32])) v2.1) (bs [32, 60])) a0.2.2.1) (bs [62, 32, 60]) then bif sfit (sapp (sapp (sapp (sapp (sapp ([(bs [100, 111, 110, 101]), (bs [97, 103, 97, 105, 110]), (bs [111, 108, 100]), (bs [103, 97, 112]), (bs [102, 101, 110, 99, 101, 100]), (bs [114, 111, 119]), (bs [108, 111, 119]), (bs [101, 110, 100]), (bs [102, 117, 108, 108]), (bs [103, 114, 111, 117, 112])].getD (Int.toNat a0.1) ByteArray.empty) (bs [32])) v2.1) (bs [32, 60])) a0.2.2.1) (bs [62, 32, 60])) a0.2.2.2 then bif sfit (sapp (sapp (sapp (sapp (sapp (sapp ([(bs [100, 111, 110, 101]), (bs [97, 103, 97, 105, 110]), (bs [111, 108, 100]), (bs [103, 97, 112]), (bs [102, 101, 110, 99, 101, 100]), (bs [114, 111, 119]), (bs [108, 111, 119]), (bs [101, 110, 100]), (bs [102, 117, 108, 108]), (bs [103, 114, 111, 117, 112])].getD (Int.toNat a0.1) ByteArray.empty) (bs [32])) v2.1) (bs [32, 60])) a0.2.2.1) (bs [62, 32, 60])) a0.2.2.2) (bs [62]) then some (sapp (sapp (sapp (sapp (sapp (sapp (sapp ([(bs [100, 111, 110, 101]), (bs [97, 103, 97, 105, 110]), (bs [111, 108, 100]), (bs [103, 97, 112]), (bs [102, 101, 110, 99, 101, 100]), (bs [114, 111, 119]), (bs [108, 111, 119]), (bs [101, 110, 100]), (bs [102, 117, 108, 108]), (bs [103, 114, 111, 117, 112])].getD (Int.toNat a0.1) ByteArray.empty) (bs [32])) v2.1) (bs [32, 60])) a0.2.2.1) (bs [62, 32, 60])) a0.2.2.2) (bs [62]), ())
    else none
    else none
    else none
    else none
    else none
    else none
    else none
    else none
    else none
  else bif sfit (bs [110, 111, 110, 101]) (bs [32]) then (s_Digits K a0.2.1).bind fun v3 =>
  bif sfit (sapp (bs [110, 111, 110, 101]) (bs [32])) v3.1 then bif sfit (sapp (sapp (bs [110, 111, 110, 101]) (bs [32])) v3.1) (bs [32, 60]) then bif sfit (sapp (sapp (sapp (bs [110, 111, 110, 101]) (bs [32])) v3.1) (bs [32, 60])) a0.2.2.1 then bif sfit (sapp (sapp (sapp (sapp (bs [110, 111, 110, 101]) (bs [32])) v3.1) (bs [32, 60])) a0.2.2.1) (bs [62, 32, 60]) then bif sfit (sapp (sapp (sapp (sapp (sapp (bs [110, 111, 110, 101]) (bs [32])) v3.1) (bs [32, 60])) a0.2.2.1) (bs [62, 32, 60])) a0.2.2.2 then bif sfit (sapp (sapp (sapp (sapp (sapp (sapp (bs [110, 111, 110, 101]) (bs [32])) v3.1) (bs [32, 60])) a0.2.2.1) (bs [62, 32, 60])) a0.2.2.2) (bs [62]) then some (sapp (sapp (sapp (sapp (sapp (sapp (sapp (bs [110, 111, 110, 101]) (bs [32])) v3.1) (bs [32, 60])) a0.2.2.1) (bs [62, 32, 60])) a0.2.2.2) (bs [62]), ())
  else none
  else none
  else none
  else none
  else none
  else none
  else none

def i_within (a0 : Int) (a1 : Int) (a2 : Int) : Option (Bool × Unit) :=
  bif decide (a0 ≥ a1) then some (decide (a0 ≤ a2), ())
  else some (false, ())

def i_Digits (a0 : Int) : Option (ByteArray × Unit) :=
  (lItoa a0).bind fun v1 =>
  some (v1.1, ())

def i_AnswerText (a0 : TAnswer) : Option (ByteArray × Unit) :=
  (i_within a0.1 0 9).bind fun v1 =>
  bif v1.1 then bif decide ((0 : Int) ≤ a0.1) then bif decide (a0.1 < 10) then bif sfit ([(bs [100, 111, 110, 101]), (bs [97, 103, 97, 105, 110]), (bs [111, 108, 100]), (bs [103, 97, 112]), (bs [102, 101, 110, 99, 101, 100]), (bs [114, 111, 119]), (bs [108, 111, 119]), (bs [101, 110, 100]), (bs [102, 117, 108, 108]), (bs [103, 114, 111, 117, 112])].getD (Int.toNat a0.1) ByteArray.empty) (bs [32]) then (i_Digits a0.2.1).bind fun v2 =>
    bif sfit (sapp ([(bs [100, 111, 110, 101]), (bs [97, 103, 97, 105, 110]), (bs [111, 108, 100]), (bs [103, 97, 112]), (bs [102, 101, 110, 99, 101, 100]), (bs [114, 111, 119]), (bs [108, 111, 119]), (bs [101, 110, 100]), (bs [102, 117, 108, 108]), (bs [103, 114, 111, 117, 112])].getD (Int.toNat a0.1) ByteArray.empty) (bs [32])) v2.1 then bif sfit (sapp (sapp ([(bs [100, 111, 110, 101]), (bs [97, 103, 97, 105, 110]), (bs [111, 108, 100]), (bs [103, 97, 112]), (bs [102, 101, 110, 99, 101, 100]), (bs [114, 111, 119]), (bs [108, 111, 119]), (bs [101, 110, 100]), (bs [102, 117, 108, 108]), (bs [103, 114, 111, 117, 112])].getD (Int.toNat a0.1) ByteArray.empty) (bs [32])) v2.1) (bs [32, 60]) then bif sfit (sapp (sapp (sapp ([(bs [100, 111, 110, 101]), (bs [97, 103, 97, 105, 110]), (bs [111, 108, 100]), (bs [103, 97, 112]), (bs [102, 101, 110, 99, 101, 100]), (bs [114, 111, 119]), (bs [108, 111, 119]), (bs [101, 110, 100]), (bs [102, 117, 108, 108]), (bs [103, 114, 111, 117, 112])].getD (Int.toNat a0.1) ByteArray.empty) (bs [32])) v2.1) (bs [32, 60])) a0.2.2.1 then bif sfit (sapp (sapp (sapp (sapp ([(bs [100, 111, 110, 101]), (bs [97, 103, 97, 105, 110]), (bs [111, 108, 100]), (bs [103, 97, 112]), (bs [102, 101, 110, 99, 101, 100]), (bs [114, 111, 119]), (bs [108, 111, 119]), (bs [101, 110, 100]), (bs [102, 117, 108, 108]), (bs [103, 114, 111, 117, 112])].getD (Int.toNat a0.1) ByteArray.empty) (bs [32])) v2.1) (bs [32, 60])) a0.2.2.1) (bs [62, 32, 60]) then bif sfit (sapp (sapp (sapp (sapp (sapp ([(bs [100, 111, 110, 101]), (bs [97, 103, 97, 105, 110]), (bs [111, 108, 100]), (bs [103, 97, 112]), (bs [102, 101, 110, 99, 101, 100]), (bs [114, 111, 119]), (bs [108, 111, 119]), (bs [101, 110, 100]), (bs [102, 117, 108, 108]), (bs [103, 114, 111, 117, 112])].getD (Int.toNat a0.1) ByteArray.empty) (bs [32])) v2.1) (bs [32, 60])) a0.2.2.1) (bs [62, 32, 60])) a0.2.2.2 then bif sfit (sapp (sapp (sapp (sapp (sapp (sapp ([(bs [100, 111, 110, 101]), (bs [97, 103, 97, 105, 110]), (bs [111, 108, 100]), (bs [103, 97, 112]), (bs [102, 101, 110, 99, 101, 100]), (bs [114, 111, 119]), (bs [108, 111, 119]), (bs [101, 110, 100]), (bs [102, 117, 108, 108]), (bs [103, 114, 111, 117, 112])].getD (Int.toNat a0.1) ByteArray.empty) (bs [32])) v2.1) (bs [32, 60])) a0.2.2.1) (bs [62, 32, 60])) a0.2.2.2) (bs [62]) then some (sapp (sapp (sapp (sapp (sapp (sapp (sapp ([(bs [100, 111, 110, 101]), (bs [97, 103, 97, 105, 110]), (bs [111, 108, 100]), (bs [103, 97, 112]), (bs [102, 101, 110, 99, 101, 100]), (bs [114, 111, 119]), (bs [108, 111, 119]), (bs [101, 110, 100]), (bs [102, 117, 108, 108]), (bs [103, 114, 111, 117, 112])].getD (Int.toNat a0.1) ByteArray.empty) (bs [32])) v2.1) (bs [32, 60])) a0.2.2.1) (bs [62, 32, 60])) a0.2.2.2) (bs [62]), ())
    else none
    else none
    else none
    else none
    else none
    else none
    else none
    else none
    else none
  else bif sfit (bs [110, 111, 110, 101]) (bs [32]) then (i_Digits a0.2.1).bind fun v3 =>
  bif sfit (sapp (bs [110, 111, 110, 101]) (bs [32])) v3.1 then bif sfit (sapp (sapp (bs [110, 111, 110, 101]) (bs [32])) v3.1) (bs [32, 60]) then bif sfit (sapp (sapp (sapp (bs [110, 111, 110, 101]) (bs [32])) v3.1) (bs [32, 60])) a0.2.2.1 then bif sfit (sapp (sapp (sapp (sapp (bs [110, 111, 110, 101]) (bs [32])) v3.1) (bs [32, 60])) a0.2.2.1) (bs [62, 32, 60]) then bif sfit (sapp (sapp (sapp (sapp (sapp (bs [110, 111, 110, 101]) (bs [32])) v3.1) (bs [32, 60])) a0.2.2.1) (bs [62, 32, 60])) a0.2.2.2 then bif sfit (sapp (sapp (sapp (sapp (sapp (sapp (bs [110, 111, 110, 101]) (bs [32])) v3.1) (bs [32, 60])) a0.2.2.1) (bs [62, 32, 60])) a0.2.2.2) (bs [62]) then some (sapp (sapp (sapp (sapp (sapp (sapp (sapp (bs [110, 111, 110, 101]) (bs [32])) v3.1) (bs [32, 60])) a0.2.2.1) (bs [62, 32, 60])) a0.2.2.2) (bs [62]), ())
  else none
  else none
  else none
  else none
  else none
  else none
  else none

def l_FnExactAnswerText (K : Nat) (a0 : TAnswer) : Option (Bool × Unit) :=
  (l_szAnswer a0 1048576).bind fun v1 =>
  bif decide (v1.1 < 0) then some (true, ())
  else (l_toAnswer a0).bind fun v2 =>
  (s_AnswerText K v2.1).bind fun v3 =>
  (l_toAnswer a0).bind fun v4 =>
  (i_AnswerText v4.1).bind fun v5 =>
  bif !(decide (v5.1.data.toList = v3.1.data.toList)) then some (false, ())
  else some (true, ())

end Go.Proofs.YtilemnhdgfhkiaaDoor.At
