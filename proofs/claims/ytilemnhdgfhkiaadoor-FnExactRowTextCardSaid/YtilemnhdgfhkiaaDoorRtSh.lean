/- What the functions compute, over plain values. -/
import Derived.Test.YtilemnhdgfhkiaaDoorKc
set_option linter.all false
set_option maxRecDepth 100000
namespace Go.Proofs.YtilemnhdgfhkiaaDoor.Rt
open Go Go.Kn

abbrev TMark := Int × Int
@[reducible] def eMark : ET := (.p (.i .i64) (.i .i64))
def zMark : TMark := (0, 0)
abbrev TItem := Int × ByteArray × ByteArray × TMark
@[reducible] def eItem : ET := (.p (.i .i64) (.p .s (.p .s eMark)))
def zItem : TItem := (0, ByteArray.empty, ByteArray.empty, zMark)
abbrev TRow := Int × Int × (List TItem)
@[reducible] def eRow : ET := (.p (.i .i64) (.p (.i .i64) (.sl eItem)))
def zRow : TRow := (0, 0, [])

def l_szItem (a0 : TItem) (a1 : Int) : Option (Int × Unit) :=
  bif decide ((IntKind.i64.wrap (a1 - ((a0.2.1.size : Nat) : Int))) < 0) then some ((-1), ())
  else bif decide ((IntKind.i64.wrap ((IntKind.i64.wrap (a1 - ((a0.2.1.size : Nat) : Int))) - ((a0.2.2.1.size : Nat) : Int))) < 0) then some ((-1), ())
  else some (IntKind.i64.wrap ((IntKind.i64.wrap (a1 - ((a0.2.1.size : Nat) : Int))) - ((a0.2.2.1.size : Nat) : Int)), ())

def l_szItemS.l0b (K : Nat) (a0 : List TItem) (a1 : Int) (L0 : Int → Int → Option (Int × Unit)) (q0 : Int) (q1 : Int) : Option (Int × Unit) :=
  bif decide (q1 < ((a0.length : Nat) : Int)) then bif decide ((0 : Int) ≤ q1) then bif decide (q1 < ((a0.length : Nat) : Int)) then (l_szItem (a0.getD (Int.toNat q1) zItem) q0).bind fun v1 =>
    bif decide (v1.1 < 0) then some ((-1), ())
    else L0 v1.1 (IntKind.i64.wrap (q1 + 1))
    else none
    else none
  else some (q0, ())
def l_szItemS.l0 (K : Nat) (a0 : List TItem) (a1 : Int) : Nat → Int → Int → Option (Int × Unit)
  | 0, _, _ => none
  | n + 1, q0, q1 => l_szItemS.l0b K a0 a1 (l_szItemS.l0 K a0 a1 n) q0 q1
def l_szItemS.b (K : Nat) (a0 : List TItem) (a1 : Int) (L0 : Int → Int → Option (Int × Unit)) : Option (Int × Unit) :=
  bif decide ((IntKind.i64.wrap (a1 - ((a0.length : Nat) : Int))) < 0) then some ((-1), ())
  else L0 (IntKind.i64.wrap (a1 - ((a0.length : Nat) : Int))) 0
def l_szItemS (K : Nat) (a0 : List TItem) (a1 : Int) : Option (Int × Unit) := l_szItemS.b K a0 a1 (l_szItemS.l0 K a0 a1 K)

def l_szRow (K : Nat) (a0 : TRow) (a1 : Int) : Option (Int × Unit) :=
  (l_szItemS K a0.2.2 a1).bind fun v1 =>
  bif decide (v1.1 < 0) then some ((-1), ())
  else some (v1.1, ())

def l_toItem (a0 : TItem) : Option (TItem × Unit) :=
  some (a0, ())

def l_toItemS.l0b (K : Nat) (a0 : List TItem) (L0 : (List TItem) → Int → Option ((List TItem) × Unit)) (q0 : List TItem) (q1 : Int) : Option ((List TItem) × Unit) :=
  bif decide (q1 < ((a0.length : Nat) : Int)) then bif decide ((0 : Int) ≤ q1) then bif decide (q1 < ((a0.length : Nat) : Int)) then (l_toItem (a0.getD (Int.toNat q1) zItem)).bind fun v1 =>
    bif decide ((0 : Int) ≤ q1) then bif decide (q1 < ((q0.length : Nat) : Int)) then L0 (q0.set (Int.toNat q1) v1.1) (IntKind.i64.wrap (q1 + 1))
    else none
    else none
    else none
    else none
  else some (q0, ())
def l_toItemS.l0 (K : Nat) (a0 : List TItem) : Nat → (List TItem) → Int → Option ((List TItem) × Unit)
  | 0, _, _ => none
  | n + 1, q0, q1 => l_toItemS.l0b K a0 (l_toItemS.l0 K a0 n) q0 q1
def l_toItemS.b (K : Nat) (a0 : List TItem) (L0 : (List TItem) → Int → Option ((List TItem) × Unit)) : Option ((List TItem) × Unit) :=
  bif decide (((a0.length : Nat) : Int) = ((a0.length : Nat) : Int)) then bif decide ((0 : Int) ≤ ((a0.length : Nat) : Int)) then bif decide ((Int.toNat ((a0.length : Nat) : Int)) * 57 ≤ growTop) then L0 (List.replicate (Int.toNat ((a0.length : Nat) : Int)) zItem) 0
  else none
  else none
  else none
def l_toItemS (K : Nat) (a0 : List TItem) : Option ((List TItem) × Unit) := l_toItemS.b K a0 (l_toItemS.l0 K a0 K)

def l_toRow (K : Nat) (a0 : TRow) : Option (TRow × Unit) :=
  (l_toItemS K a0.2.2).bind fun v1 =>
  some ((a0.1, a0.2.1, v1.1), ())

def s_Digits.l0b (K : Nat) (a0 : Int) (L0 : Int → ByteArray → Option (ByteArray × Unit)) (q0 : Int) (q1 : ByteArray) : Option (ByteArray × Unit) :=
  bif !(decide (q0 = 0)) then bif decide ((Int.tmod q0 10) < 0) then bif sfit (strOf [IntKind.u8.wrap (IntKind.i64.wrap (48 + (IntKind.i64.wrap (0 - (Int.tmod q0 10)))))]) q1 then L0 (IntKind.i64.wrap (Int.tdiv q0 10)) (sapp (strOf [IntKind.u8.wrap (IntKind.i64.wrap (48 + (IntKind.i64.wrap (0 - (Int.tmod q0 10)))))]) q1)
      else none
    else bif sfit (strOf [IntKind.u8.wrap (IntKind.i64.wrap (48 + (Int.tmod q0 10)))]) q1 then L0 (IntKind.i64.wrap (Int.tdiv q0 10)) (sapp (strOf [IntKind.u8.wrap (IntKind.i64.wrap (48 + (Int.tmod q0 10)))]) q1)
    else none
  else bif decide (a0 < 0) then bif sfit (bs [45]) q1 then some (sapp (bs [45]) q1, ())
    else none
  else some (q1, ())
def s_Digits.l0 (K : Nat) (a0 : Int) : Nat → Int → ByteArray → Option (ByteArray × Unit)
  | 0, _, _ => none
  | n + 1, q0, q1 => s_Digits.l0b K a0 (s_Digits.l0 K a0 n) q0 q1
def s_Digits.b (K : Nat) (a0 : Int) (L0 : Int → ByteArray → Option (ByteArray × Unit)) : Option (ByteArray × Unit) :=
  bif decide (a0 = 0) then some ((bs [48]), ())
  else L0 a0 ByteArray.empty
def s_Digits (K : Nat) (a0 : Int) : Option (ByteArray × Unit) := s_Digits.b K a0 (s_Digits.l0 K a0 K)

def s_RowText.l0b (K : Nat) (a0 : TRow) (L0 : ByteArray → Int → Option (ByteArray × Unit)) (q0 : ByteArray) (q1 : Int) : Option (ByteArray × Unit) :=
  bif decide (q1 < ((a0.2.2.length : Nat) : Int)) then bif sfit q0 (bs [32]) then bif decide ((0 : Int) ≤ q1) then bif decide (q1 < ((a0.2.2.length : Nat) : Int)) then (s_Digits K (a0.2.2.getD (Int.toNat q1) zItem).1).bind fun v4 =>
    bif sfit (sapp q0 (bs [32])) v4.1 then bif sfit (sapp (sapp q0 (bs [32])) v4.1) (bs [58, 60]) then bif decide ((0 : Int) ≤ q1) then bif decide (q1 < ((a0.2.2.length : Nat) : Int)) then bif sfit (sapp (sapp (sapp q0 (bs [32])) v4.1) (bs [58, 60])) (a0.2.2.getD (Int.toNat q1) zItem).2.1 then bif sfit (sapp (sapp (sapp (sapp q0 (bs [32])) v4.1) (bs [58, 60])) (a0.2.2.getD (Int.toNat q1) zItem).2.1) (bs [62]) then L0 (sapp (sapp (sapp (sapp (sapp q0 (bs [32])) v4.1) (bs [58, 60])) (a0.2.2.getD (Int.toNat q1) zItem).2.1) (bs [62])) (IntKind.i64.wrap (q1 + 1))
    else none
    else none
    else none
    else none
    else none
    else none
    else none
    else none
    else none
  else some (q0, ())
def s_RowText.l0 (K : Nat) (a0 : TRow) : Nat → ByteArray → Int → Option (ByteArray × Unit)
  | 0, _, _ => none
  | n + 1, q0, q1 => s_RowText.l0b K a0 (s_RowText.l0 K a0 n) q0 q1
def s_RowText.b (K : Nat) (a0 : TRow) (L0 : ByteArray → Int → Option (ByteArray × Unit)) : Option (ByteArray × Unit) :=
  (s_Digits K a0.1).bind fun v1 =>
  bif sfit v1.1 (bs [32]) then (s_Digits K a0.2.1).bind fun v2 =>
  bif sfit (sapp v1.1 (bs [32])) v2.1 then bif sfit (sapp (sapp v1.1 (bs [32])) v2.1) (bs [32]) then (s_Digits K ((a0.2.2.length : Nat) : Int)).bind fun v3 =>
  bif sfit (sapp (sapp (sapp v1.1 (bs [32])) v2.1) (bs [32])) v3.1 then L0 (sapp (sapp (sapp (sapp v1.1 (bs [32])) v2.1) (bs [32])) v3.1) 0
  else none
  else none
  else none
  else none
def s_RowText (K : Nat) (a0 : TRow) : Option (ByteArray × Unit) := s_RowText.b K a0 (s_RowText.l0 K a0 K)

def i_Digits (a0 : Int) : Option (ByteArray × Unit) :=
  (lItoa a0).bind fun v1 =>
  some (v1.1, ())

def i_RowText.l0b (K : Nat) (a0 : TRow) (L0 : ByteArray → Int → Option (ByteArray × Unit)) (q0 : ByteArray) (q1 : Int) : Option (ByteArray × Unit) :=
  bif decide (q1 < ((a0.2.2.length : Nat) : Int)) then bif decide ((0 : Int) ≤ q1) then bif decide (q1 < ((a0.2.2.length : Nat) : Int)) then (i_Digits (a0.2.2.getD (Int.toNat q1) zItem).1).bind fun v4 =>
    bif sfit (bs [32]) v4.1 then bif sfit (sapp (bs [32]) v4.1) (bs [58, 60]) then bif sfit (sapp (sapp (bs [32]) v4.1) (bs [58, 60])) (a0.2.2.getD (Int.toNat q1) zItem).2.1 then bif sfit (sapp (sapp (sapp (bs [32]) v4.1) (bs [58, 60])) (a0.2.2.getD (Int.toNat q1) zItem).2.1) (bs [62]) then bif sfit q0 (sapp (sapp (sapp (sapp (bs [32]) v4.1) (bs [58, 60])) (a0.2.2.getD (Int.toNat q1) zItem).2.1) (bs [62])) then L0 (sapp q0 (sapp (sapp (sapp (sapp (bs [32]) v4.1) (bs [58, 60])) (a0.2.2.getD (Int.toNat q1) zItem).2.1) (bs [62]))) (IntKind.i64.wrap (q1 + 1))
    else none
    else none
    else none
    else none
    else none
    else none
    else none
  else some (q0, ())
def i_RowText.l0 (K : Nat) (a0 : TRow) : Nat → ByteArray → Int → Option (ByteArray × Unit)
  | 0, _, _ => none
  | n + 1, q0, q1 => i_RowText.l0b K a0 (i_RowText.l0 K a0 n) q0 q1
def i_RowText.b (K : Nat) (a0 : TRow) (L0 : ByteArray → Int → Option (ByteArray × Unit)) : Option (ByteArray × Unit) :=
  (i_Digits a0.1).bind fun v1 =>
  bif sfit v1.1 (bs [32]) then (i_Digits a0.2.1).bind fun v2 =>
  bif sfit (sapp v1.1 (bs [32])) v2.1 then bif sfit (sapp (sapp v1.1 (bs [32])) v2.1) (bs [32]) then (i_Digits ((a0.2.2.length : Nat) : Int)).bind fun v3 =>
  bif sfit (sapp (sapp (sapp v1.1 (bs [32])) v2.1) (bs [32])) v3.1 then L0 (sapp (sapp (sapp (sapp v1.1 (bs [32])) v2.1) (bs [32])) v3.1) 0
  else none
  else none
  else none
  else none
def i_RowText (K : Nat) (a0 : TRow) : Option (ByteArray × Unit) := i_RowText.b K a0 (i_RowText.l0 K a0 K)

def l_eqItem (a0 : TItem) (a1 : TItem) : Option (Bool × Unit) :=
  bif !(decide (a0.1 = a1.1)) then some (false, ())
  else bif !(decide (a0.2.1.data.toList = a1.2.1.data.toList)) then some (false, ())
  else bif !(decide (a0.2.2.1.data.toList = a1.2.2.1.data.toList)) then some (false, ())
  else bif !(decide (a0.2.2.2.1 = a1.2.2.2.1)) then some (false, ())
  else bif !(decide (a0.2.2.2.2 = a1.2.2.2.2)) then some (false, ())
  else some (true, ())

def l_eqItemS.l0b (K : Nat) (a0 : List TItem) (a1 : List TItem) (L0 : Int → Option (Bool × Unit)) (q0 : Int) : Option (Bool × Unit) :=
  bif decide (q0 < ((a0.length : Nat) : Int)) then bif decide ((0 : Int) ≤ q0) then bif decide (q0 < ((a0.length : Nat) : Int)) then bif decide ((0 : Int) ≤ q0) then bif decide (q0 < ((a1.length : Nat) : Int)) then (l_eqItem (a0.getD (Int.toNat q0) zItem) (a1.getD (Int.toNat q0) zItem)).bind fun v1 =>
    bif !v1.1 then some (false, ())
    else L0 (IntKind.i64.wrap (q0 + 1))
    else none
    else none
    else none
    else none
  else some (true, ())
def l_eqItemS.l0 (K : Nat) (a0 : List TItem) (a1 : List TItem) : Nat → Int → Option (Bool × Unit)
  | 0, _ => none
  | n + 1, q0 => l_eqItemS.l0b K a0 a1 (l_eqItemS.l0 K a0 a1 n) q0
def l_eqItemS.b (K : Nat) (a0 : List TItem) (a1 : List TItem) (L0 : Int → Option (Bool × Unit)) : Option (Bool × Unit) :=
  bif !(decide (((a0.length : Nat) : Int) = ((a1.length : Nat) : Int))) then some (false, ())
  else L0 0
def l_eqItemS (K : Nat) (a0 : List TItem) (a1 : List TItem) : Option (Bool × Unit) := l_eqItemS.b K a0 a1 (l_eqItemS.l0 K a0 a1 K)

def l_eqRow (K : Nat) (a0 : TRow) (a1 : TRow) : Option (Bool × Unit) :=
  bif !(decide (a0.1 = a1.1)) then some (false, ())
  else bif !(decide (a0.2.1 = a1.2.1)) then some (false, ())
  else (l_eqItemS K a0.2.2 a1.2.2).bind fun v1 =>
  bif !v1.1 then some (false, ())
  else some (true, ())

def l_FnExactRowText (K : Nat) (a0 : TRow) : Option (Bool × Unit) :=
  (l_szRow K a0 1048576).bind fun v1 =>
  bif decide (v1.1 < 0) then some (true, ())
  else (l_toRow K a0).bind fun v2 =>
  (s_RowText K v2.1).bind fun v3 =>
  (l_toRow K a0).bind fun v4 =>
  (i_RowText K v4.1).bind fun v5 =>
  bif !(decide (v5.1.data.toList = v3.1.data.toList)) then some (false, ())
  else (l_toRow K a0).bind fun v6 =>
  (l_eqRow K v4.1 v6.1).bind fun v7 =>
  bif !v7.1 then some (false, ())
  else some (true, ())

end Go.Proofs.YtilemnhdgfhkiaaDoor.Rt
