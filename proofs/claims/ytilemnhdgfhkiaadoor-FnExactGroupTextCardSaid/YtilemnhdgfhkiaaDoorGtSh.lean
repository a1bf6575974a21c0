/- What the functions compute, over plain values. -/
import Derived.Test.YtilemnhdgfhkiaaDoorKc
set_option linter.all false
set_option maxRecDepth 100000
namespace Go.Proofs.YtilemnhdgfhkiaaDoor.Gt
open Go Go.Kn

abbrev TGroup := Int × (List Int) × (List Int) × (List Int)
@[reducible] def eGroup : ET := (.p (.i .i64) (.p (.sl (.i .i64)) (.p (.sl (.i .i64)) (.sl (.i .i64)))))
def zGroup : TGroup := (0, [], [], [])

def l_szIntS (a0 : List Int) (a1 : Int) : Option (Int × Unit) :=
  bif decide ((IntKind.i64.wrap (a1 - ((a0.length : Nat) : Int))) < 0) then some ((-1), ())
  else some (IntKind.i64.wrap (a1 - ((a0.length : Nat) : Int)), ())

def l_szGroup (a0 : TGroup) (a1 : Int) : Option (Int × Unit) :=
  (l_szIntS a0.2.1 a1).bind fun v1 =>
  bif decide (v1.1 < 0) then some ((-1), ())
  else (l_szIntS a0.2.2.1 v1.1).bind fun v2 =>
  bif decide (v2.1 < 0) then some ((-1), ())
  else (l_szIntS a0.2.2.2 v2.1).bind fun v3 =>
  bif decide (v3.1 < 0) then some ((-1), ())
  else some (v3.1, ())

def l_toIntS.l0b (K : Nat) (a0 : List Int) (L0 : (List Int) → Int → Option ((List Int) × Unit)) (q0 : List Int) (q1 : Int) : Option ((List Int) × Unit) :=
  bif decide (q1 < ((a0.length : Nat) : Int)) then bif decide ((0 : Int) ≤ q1) then bif decide (q1 < ((a0.length : Nat) : Int)) then bif decide ((0 : Int) ≤ q1) then bif decide (q1 < ((q0.length : Nat) : Int)) then L0 (q0.set (Int.toNat q1) (a0.getD (Int.toNat q1) 0)) (IntKind.i64.wrap (q1 + 1))
    else none
    else none
    else none
    else none
  else some (q0, ())
def l_toIntS.l0 (K : Nat) (a0 : List Int) : Nat → (List Int) → Int → Option ((List Int) × Unit)
  | 0, _, _ => none
  | n + 1, q0, q1 => l_toIntS.l0b K a0 (l_toIntS.l0 K a0 n) q0 q1
def l_toIntS.b (K : Nat) (a0 : List Int) (L0 : (List Int) → Int → Option ((List Int) × Unit)) : Option ((List Int) × Unit) :=
  bif decide (((a0.length : Nat) : Int) = ((a0.length : Nat) : Int)) then bif decide ((0 : Int) ≤ ((a0.length : Nat) : Int)) then bif decide ((Int.toNat ((a0.length : Nat) : Int)) * 9 ≤ growTop) then L0 (List.replicate (Int.toNat ((a0.length : Nat) : Int)) 0) 0
  else none
  else none
  else none
def l_toIntS (K : Nat) (a0 : List Int) : Option ((List Int) × Unit) := l_toIntS.b K a0 (l_toIntS.l0 K a0 K)

def l_toGroup (K : Nat) (a0 : TGroup) : Option (TGroup × Unit) :=
  (l_toIntS K a0.2.1).bind fun v1 =>
  (l_toIntS K a0.2.2.1).bind fun v2 =>
  (l_toIntS K a0.2.2.2).bind fun v3 =>
  some ((a0.1, v1.1, v2.1, v3.1), ())

def s_Digits.l0b (K : Nat) (a0 : Int) (L0 : Int → ByteArray → Option (ByteArray × Unit)) (q0 : Int) (q1 : ByteArray) : Option (ByteArray × Unit) :=
  bif !(decide (q0 = 0)) then bif decide ((Int.tmod q0 10) < 0) then bif sfit (strOf [IntKind.u8.wrap (IntKind.i64.wrap (48 + (IntKind.i64.wrap (0 - (Int.tmod q0 10)))))]) q1 then L0 (IntKind.i64.wrap (Int.tdiv q0 10)) (sapp (strOf [IntKind.u8.wrap (IntKind.i64.wrap (48 + (IntKind.i64.wrap (0 - (Int.tmod q0 10)))))]) q1)
      else none
    else bif sfit (strOf [IntKind.u8.wrap (IntKind.i64.wrap (48 + (Int.tmod q0 10)))]) q1 then L0 (IntKind.i64.wrap (Int.tdiv q0 10)) (sapp (strOf [IntKind.u8.wrap (IntKind.i64.wrap (48 + (Int.tmod q0 10)))]) q1)
    else none
  else bif decide (a0 < 0) then bif sfit (bs [45]) q1 then some (sapp (bs [45]) q1, ())
    else none
  else some (q1, ())
def s_Digits.l0 (K : Nat) (a0 : Int) : Nat → Int → ByteArray → Option (ByteArray × Unit)
  | 0, _, _ => none
  | n + 1, q0, q1 => s_Digits.l0b K a0 (s_Digits.l0 K a0 n) q0 q1
def s_Digits.b (K : Nat) (a0 : Int) (L0 : Int → ByteArray → Option (ByteArray × Unit)) : Option (ByteArray × Unit) :=
  bif decide (a0 = 0) then some ((bs [48]), ())
  else L0 a0 ByteArray.empty
def s_Digits (K : Nat) (a0 : Int) : Option (ByteArray × Unit) := s_Digits.b K a0 (s_Digits.l0 K a0 K)

def s_GroupText.l0b (K : Nat) (a0 : TGroup) (L0 : ByteArray → Int → Option (ByteArray × Unit)) (L1 : ByteArray → Int → Option (ByteArray × Unit)) (q0 : ByteArray) (q1 : Int) : Option (ByteArray × Unit) :=
  bif decide (q1 < ((a0.2.1.length : Nat) : Int)) then bif sfit q0 (bs [32]) then bif decide ((0 : Int) ≤ q1) then bif decide (q1 < ((a0.2.1.length : Nat) : Int)) then (s_Digits K (a0.2.1.getD (Int.toNat q1) 0)).bind fun v2 =>
    bif sfit (sapp q0 (bs [32])) v2.1 then bif decide (q1 < ((a0.2.2.1.length : Nat) : Int)) then bif sfit (sapp (sapp q0 (bs [32])) v2.1) (bs [58]) then bif decide ((0 : Int) ≤ q1) then bif decide (q1 < ((a0.2.2.1.length : Nat) : Int)) then (s_Digits K (a0.2.2.1.getD (Int.toNat q1) 0)).bind fun v3 =>
      bif sfit (sapp (sapp (sapp q0 (bs [32])) v2.1) (bs [58])) v3.1 then L0 (sapp (sapp (sapp (sapp q0 (bs [32])) v2.1) (bs [58])) v3.1) (IntKind.i64.wrap (q1 + 1))
      else none
      else none
      else none
      else none
    else L0 (sapp (sapp q0 (bs [32])) v2.1) (IntKind.i64.wrap (q1 + 1))
    else none
    else none
    else none
    else none
  else bif sfit q0 (bs [32, 47]) then L1 (sapp q0 (bs [32, 47])) 0
  else none
def s_GroupText.l1b (K : Nat) (a0 : TGroup) (L1 : ByteArray → Int → Option (ByteArray × Unit)) (q2 : ByteArray) (q3 : Int) : Option (ByteArray × Unit) :=
  bif decide (q3 < ((a0.2.2.2.length : Nat) : Int)) then bif sfit q2 (bs [32]) then bif decide ((0 : Int) ≤ q3) then bif decide (q3 < ((a0.2.2.2.length : Nat) : Int)) then (s_Digits K (a0.2.2.2.getD (Int.toNat q3) 0)).bind fun v4 =>
    bif sfit (sapp q2 (bs [32])) v4.1 then L1 (sapp (sapp q2 (bs [32])) v4.1) (IntKind.i64.wrap (q3 + 1))
    else none
    else none
    else none
    else none
  else some (q2, ())
def s_GroupText.l1 (K : Nat) (a0 : TGroup) : Nat → ByteArray → Int → Option (ByteArray × Unit)
  | 0, _, _ => none
  | n + 1, q2, q3 => s_GroupText.l1b K a0 (s_GroupText.l1 K a0 n) q2 q3
def s_GroupText.l0 (K : Nat) (a0 : TGroup) : Nat → ByteArray → Int → Option (ByteArray × Unit)
  | 0, _, _ => none
  | n + 1, q0, q1 => s_GroupText.l0b K a0 (s_GroupText.l0 K a0 n) (s_GroupText.l1 K a0 K) q0 q1
def s_GroupText.b (K : Nat) (a0 : TGroup) (L0 : ByteArray → Int → Option (ByteArray × Unit)) : Option (ByteArray × Unit) :=
  (s_Digits K a0.1).bind fun v1 =>
  L0 v1.1 0
def s_GroupText (K : Nat) (a0 : TGroup) : Option (ByteArray × Unit) := s_GroupText.b K a0 (s_GroupText.l0 K a0 K)

def i_Digits (a0 : Int) : Option (ByteArray × Unit) :=
  (lItoa a0).bind fun v1 =>
  some (v1.1, ())

def i_GroupText.l0b (K : Nat) (a0 : TGroup) (L0 : (List ByteArray) → Int → Option (ByteArray × Unit)) (L1 : (List ByteArray) → Int → Option (ByteArray × Unit)) (q0 : List ByteArray) (q1 : Int) : Option (ByteArray × Unit) :=
  bif decide (q1 < ((a0.2.1.length : Nat) : Int)) then bif decide ((0 : Int) ≤ q1) then bif decide (q1 < ((a0.2.1.length : Nat) : Int)) then (i_Digits (a0.2.1.getD (Int.toNat q1) 0)).bind fun v2 =>
    bif decide (q1 < ((a0.2.2.1.length : Nat) : Int)) then bif decide ((0 : Int) ≤ q1) then bif decide (q1 < ((a0.2.2.1.length : Nat) : Int)) then (i_Digits (a0.2.2.1.getD (Int.toNat q1) 0)).bind fun v3 =>
      bif sfit (bs [58]) v3.1 then bif sfit v2.1 (sapp (bs [58]) v3.1) then bif decide ((q0.length + [sapp v2.1 (sapp (bs [58]) v3.1)].length) * 17 ≤ growTop) then L0 (q0 ++ [sapp v2.1 (sapp (bs [58]) v3.1)]) (IntKind.i64.wrap (q1 + 1))
      else none
      else none
      else none
      else none
      else none
    else bif decide ((q0.length + [v2.1].length) * 17 ≤ growTop) then L0 (q0 ++ [v2.1]) (IntKind.i64.wrap (q1 + 1))
    else none
    else none
    else none
  else bif decide ((q0.length + [(bs [47])].length) * 17 ≤ growTop) then L1 (q0 ++ [(bs [47])]) 0
  else none
def i_GroupText.l1b (K : Nat) (a0 : TGroup) (L1 : (List ByteArray) → Int → Option (ByteArray × Unit)) (q2 : List ByteArray) (q3 : Int) : Option (ByteArray × Unit) :=
  bif decide (q3 < ((a0.2.2.2.length : Nat) : Int)) then bif decide ((0 : Int) ≤ q3) then bif decide (q3 < ((a0.2.2.2.length : Nat) : Int)) then (i_Digits (a0.2.2.2.getD (Int.toNat q3) 0)).bind fun v4 =>
    bif decide ((q2.length + [v4.1].length) * 17 ≤ growTop) then L1 (q2 ++ [v4.1]) (IntKind.i64.wrap (q3 + 1))
    else none
    else none
    else none
  else (lJoin q2 (bs [32])).bind fun v5 =>
  some (v5.1, ())
def i_GroupText.l1 (K : Nat) (a0 : TGroup) : Nat → (List ByteArray) → Int → Option (ByteArray × Unit)
  | 0, _, _ => none
  | n + 1, q2, q3 => i_GroupText.l1b K a0 (i_GroupText.l1 K a0 n) q2 q3
def i_GroupText.l0 (K : Nat) (a0 : TGroup) : Nat → (List ByteArray) → Int → Option (ByteArray × Unit)
  | 0, _, _ => none
  | n + 1, q0, q1 => i_GroupText.l0b K a0 (i_GroupText.l0 K a0 n) (i_GroupText.l1 K a0 K) q0 q1
def i_GroupText.b (K : Nat) (a0 : TGroup) (L0 : (List ByteArray) → Int → Option (ByteArray × Unit)) : Option (ByteArray × Unit) :=
  (i_Digits a0.1).bind fun v1 =>
  L0 [v1.1] 0
def i_GroupText (K : Nat) (a0 : TGroup) : Option (ByteArray × Unit) := i_GroupText.b K a0 (i_GroupText.l0 K a0 K)

def l_eqIntS.l0b (K : Nat) (a0 : List Int) (a1 : List Int) (L0 : Int → Option (Bool × Unit)) (q0 : Int) : Option (Bool × Unit) :=
  bif decide (q0 < ((a0.length : Nat) : Int)) then bif decide ((0 : Int) ≤ q0) then bif decide (q0 < ((a0.length : Nat) : Int)) then bif decide ((0 : Int) ≤ q0) then bif decide (q0 < ((a1.length : Nat) : Int)) then bif !(decide ((a0.getD (Int.toNat q0) 0) = (a1.getD (Int.toNat q0) 0))) then some (false, ())
    else L0 (IntKind.i64.wrap (q0 + 1))
    else none
    else none
    else none
    else none
  else some (true, ())
def l_eqIntS.l0 (K : Nat) (a0 : List Int) (a1 : List Int) : Nat → Int → Option (Bool × Unit)
  | 0, _ => none
  | n + 1, q0 => l_eqIntS.l0b K a0 a1 (l_eqIntS.l0 K a0 a1 n) q0
def l_eqIntS.b (K : Nat) (a0 : List Int) (a1 : List Int) (L0 : Int → Option (Bool × Unit)) : Option (Bool × Unit) :=
  bif !(decide (((a0.length : Nat) : Int) = ((a1.length : Nat) : Int))) then some (false, ())
  else L0 0
def l_eqIntS (K : Nat) (a0 : List Int) (a1 : List Int) : Option (Bool × Unit) := l_eqIntS.b K a0 a1 (l_eqIntS.l0 K a0 a1 K)

def l_eqGroup (K : Nat) (a0 : TGroup) (a1 : TGroup) : Option (Bool × Unit) :=
  bif !(decide (a0.1 = a1.1)) then some (false, ())
  else (l_eqIntS K a0.2.1 a1.2.1).bind fun v1 =>
  bif !v1.1 then some (false, ())
  else (l_eqIntS K a0.2.2.1 a1.2.2.1).bind fun v2 =>
  bif !v2.1 then some (false, ())
  else (l_eqIntS K a0.2.2.2 a1.2.2.2).bind fun v3 =>
  bif !v3.1 then some (false, ())
  else some (true, ())

def l_FnExactGroupText (K : Nat) (a0 : TGroup) : Option (Bool × Unit) :=
  (l_szGroup a0 1048576).bind fun v1 =>
  bif decide (v1.1 < 0) then some (true, ())
  else (l_toGroup K a0).bind fun v2 =>
  (s_GroupText K v2.1).bind fun v3 =>
  (l_toGroup K a0).bind fun v4 =>
  (i_GroupText K v4.1).bind fun v5 =>
  bif !(decide (v5.1.data.toList = v3.1.data.toList)) then some (false, ())
  else (l_toGroup K a0).bind fun v6 =>
  (l_eqGroup K v4.1 v6.1).bind fun v7 =>
  bif !v7.1 then some (false, ())
  else some (true, ())

end Go.Proofs.YtilemnhdgfhkiaaDoor.Gt
