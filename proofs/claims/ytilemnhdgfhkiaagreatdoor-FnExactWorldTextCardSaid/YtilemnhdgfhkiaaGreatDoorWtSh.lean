/- What the functions compute, over plain values. -/
import Derived.Test.YtilemnhdgfhkiaaGreatDoorKc
set_option linter.all false
set_option maxRecDepth 100000
namespace Go.Proofs.YtilemnhdgfhkiaaGreatDoor.Wt
open Go Go.Kn

abbrev TAnswer := Int × Int × ByteArray × ByteArray
@[reducible] def eAnswer : ET := (.p (.i .i64) (.p (.i .i64) (.p .s .s)))
def zAnswer : TAnswer := (0, 0, ByteArray.empty, ByteArray.empty)
abbrev TCmd := Int × Int × Int × Int × TAnswer
@[reducible] def eCmd : ET := (.p (.i .i64) (.p (.i .i64) (.p (.i .i64) (.p (.i .i64) eAnswer))))
def zCmd : TCmd := (0, 0, 0, 0, zAnswer)
abbrev TEntry := Int × TCmd
@[reducible] def eEntry : ET := (.p (.i .i64) eCmd)
def zEntry : TEntry := (0, zCmd)
abbrev TLog := Int × Int × (List TEntry)
@[reducible] def eLog : ET := (.p (.i .i64) (.p (.i .i64) (.sl eEntry)))
def zLog : TLog := (0, 0, [])
abbrev TMark := Int × Int
@[reducible] def eMark : ET := (.p (.i .i64) (.i .i64))
def zMark : TMark := (0, 0)
abbrev TItem := Int × ByteArray × ByteArray × TMark
@[reducible] def eItem : ET := (.p (.i .i64) (.p .s (.p .s eMark)))
def zItem : TItem := (0, ByteArray.empty, ByteArray.empty, zMark)
abbrev TRow := Int × Int × (List TItem)
@[reducible] def eRow : ET := (.p (.i .i64) (.p (.i .i64) (.sl eItem)))
def zRow : TRow := (0, 0, [])
abbrev TMaker := Int × Int × Int × Int × (List TMark)
@[reducible] def eMaker : ET := (.p (.i .i64) (.p (.i .i64) (.p (.i .i64) (.p (.i .i64) (.sl eMark)))))
def zMaker : TMaker := (0, 0, 0, 0, [])
abbrev TGroup := Int × (List Int) × (List Int) × (List Int)
@[reducible] def eGroup : ET := (.p (.i .i64) (.p (.sl (.i .i64)) (.p (.sl (.i .i64)) (.sl (.i .i64)))))
def zGroup : TGroup := (0, [], [], [])
abbrev TKeep := (List TRow) × (List TMaker) × (List TGroup) × Int × (List Int) × (List TAnswer)
@[reducible] def eKeep : ET := (.p (.sl eRow) (.p (.sl eMaker) (.p (.sl eGroup) (.p (.i .i64) (.p (.sl (.i .i64)) (.sl eAnswer))))))
def zKeep : TKeep := ([], [], [], 0, [], [])
abbrev THard := Int × Int × TLog × TKeep
@[reducible] def eHard : ET := (.p (.i .i64) (.p (.i .i64) (.p eLog eKeep)))
def zHard : THard := (0, 0, zLog, zKeep)
abbrev TDisk := (List Int) × Int
@[reducible] def eDisk : ET := (.p (.sl (.i .u8)) (.i .i64))
def zDisk : TDisk := ([], 0)
abbrev TRpc := Int × Int × Int × Int × Int × Int × Int × (List TEntry) × Bool × ByteArray
@[reducible] def eRpc : ET := (.p (.i .i64) (.p (.i .i64) (.p (.i .i64) (.p (.i .i64) (.p (.i .i64) (.p (.i .i64) (.p (.i .i64) (.p (.sl eEntry) (.p .b .s)))))))))
def zRpc : TRpc := (0, 0, 0, 0, 0, 0, 0, [], false, ByteArray.empty)
abbrev TPeer := Int × THard × Int × (List Bool) × (List Int) × (List Int) × Int × TKeep × TDisk × (List TRpc)
@[reducible] def ePeer : ET := (.p (.i .i64) (.p eHard (.p (.i .i64) (.p (.sl .b) (.p (.sl (.i .i64)) (.p (.sl (.i .i64)) (.p (.i .i64) (.p eKeep (.p eDisk (.sl eRpc))))))))))
def zPeer : TPeer := (0, zHard, 0, [], [], [], 0, zKeep, zDisk, [])
abbrev THeard := Int × Int × TAnswer × TMark
@[reducible] def eHeard : ET := (.p (.i .i64) (.p (.i .i64) (.p eAnswer eMark)))
def zHeard : THeard := (0, 0, zAnswer, zMark)
abbrev TSetup := Int × Int × TMark
@[reducible] def eSetup : ET := (.p (.i .i64) (.p (.i .i64) eMark))
def zSetup : TSetup := (0, 0, zMark)
abbrev TWorld := TSetup × Int × (List TPeer) × (List TRpc) × (List TCmd) × (List Int) × (List THeard) × (List TCmd)
@[reducible] def eWorld : ET := (.p eSetup (.p (.i .i64) (.p (.sl ePeer) (.p (.sl eRpc) (.p (.sl eCmd) (.p (.sl (.i .i64)) (.p (.sl eHeard) (.sl eCmd))))))))
def zWorld : TWorld := (zSetup, 0, [], [], [], [], [], [])

def l_szCmd (a0 : TCmd) (a1 : Int) : Option (Int × Unit) :=
  bif decide ((IntKind.i64.wrap (a1 - ((a0.2.2.2.2.2.2.1.size : Nat) : Int))) < 0) then some ((-1), ())
  else bif decide ((IntKind.i64.wrap ((IntKind.i64.wrap (a1 - ((a0.2.2.2.2.2.2.1.size : Nat) : Int))) - ((a0.2.2.2.2.2.2.2.size : Nat) : Int))) < 0) then some ((-1), ())
  else some (IntKind.i64.wrap ((IntKind.i64.wrap (a1 - ((a0.2.2.2.2.2.2.1.size : Nat) : Int))) - ((a0.2.2.2.2.2.2.2.size : Nat) : Int)), ())

def l_szEntry (a0 : TEntry) (a1 : Int) : Option (Int × Unit) :=
  (l_szCmd a0.2 a1).bind fun v1 =>
  bif decide (v1.1 < 0) then some ((-1), ())
  else some (v1.1, ())

def l_szEntryS.l0b (K : Nat) (a0 : List TEntry) (a1 : Int) (L0 : Int → Int → Option (Int × Unit)) (q0 : Int) (q1 : Int) : Option (Int × Unit) :=
  bif decide (q1 < ((a0.length : Nat) : Int)) then bif decide ((0 : Int) ≤ q1) then bif decide (q1 < ((a0.length : Nat) : Int)) then (l_szEntry (a0.getD (Int.toNat q1) zEntry) q0).bind fun v1 =>
    bif decide (v1.1 < 0) then some ((-1), ())
    else L0 v1.1 (IntKind.i64.wrap (q1 + 1))
    else none
    else none
  else some (q0, ())
def l_szEntryS.l0 (K : Nat) (a0 : List TEntry) (a1 : Int) : Nat → Int → Int → Option (Int × Unit)
  | 0, _, _ => none
  | n + 1, q0, q1 => l_szEntryS.l0b K a0 a1 (l_szEntryS.l0 K a0 a1 n) q0 q1
def l_szEntryS.b (K : Nat) (a0 : List TEntry) (a1 : Int) (L0 : Int → Int → Option (Int × Unit)) : Option (Int × Unit) :=
  bif decide ((IntKind.i64.wrap (a1 - ((a0.length : Nat) : Int))) < 0) then some ((-1), ())
  else L0 (IntKind.i64.wrap (a1 - ((a0.length : Nat) : Int))) 0
def l_szEntryS (K : Nat) (a0 : List TEntry) (a1 : Int) : Option (Int × Unit) := l_szEntryS.b K a0 a1 (l_szEntryS.l0 K a0 a1 K)

def l_szLog (K : Nat) (a0 : TLog) (a1 : Int) : Option (Int × Unit) :=
  (l_szEntryS K a0.2.2 a1).bind fun v1 =>
  bif decide (v1.1 < 0) then some ((-1), ())
  else some (v1.1, ())

def l_szItem (a0 : TItem) (a1 : Int) : Option (Int × Unit) :=
  bif decide ((IntKind.i64.wrap (a1 - ((a0.2.1.size : Nat) : Int))) < 0) then some ((-1), ())
  else bif decide ((IntKind.i64.wrap ((IntKind.i64.wrap (a1 - ((a0.2.1.size : Nat) : Int))) - ((a0.2.2.1.size : Nat) : Int))) < 0) then some ((-1), ())
  else some (IntKind.i64.wrap ((IntKind.i64.wrap (a1 - ((a0.2.1.size : Nat) : Int))) - ((a0.2.2.1.size : Nat) : Int)), ())

def l_szItemS.l0b (K : Nat) (a0 : List TItem) (a1 : Int) (L0 : Int → Int → Option (Int × Unit)) (q0 : Int) (q1 : Int) : Option (Int × Unit) :=
  bif decide (q1 < ((a0.length : Nat) : Int)) then bif decide ((0 : Int) ≤ q1) then bif decide (q1 < ((a0.length : Nat) : Int)) then (l_szItem (a0.getD (Int.toNat q1) zItem) q0).bind fun v1 =>
    bif decide (v1.1 < 0) then some ((-1), ())
    else L0 v1.1 (IntKind.i64.wrap (q1 + 1))
    else none
    else none
  else some (q0, ())
def l_szItemS.l0 (K : Nat) (a0 : List TItem) (a1 : Int) : Nat → Int → Int → Option (Int × Unit)
  | 0, _, _ => none
  | n + 1, q0, q1 => l_szItemS.l0b K a0 a1 (l_szItemS.l0 K a0 a1 n) q0 q1
def l_szItemS.b (K : Nat) (a0 : List TItem) (a1 : Int) (L0 : Int → Int → Option (Int × Unit)) : Option (Int × Unit) :=
  bif decide ((IntKind.i64.wrap (a1 - ((a0.length : Nat) : Int))) < 0) then some ((-1), ())
  else L0 (IntKind.i64.wrap (a1 - ((a0.length : Nat) : Int))) 0
def l_szItemS (K : Nat) (a0 : List TItem) (a1 : Int) : Option (Int × Unit) := l_szItemS.b K a0 a1 (l_szItemS.l0 K a0 a1 K)

def l_szRow (K : Nat) (a0 : TRow) (a1 : Int) : Option (Int × Unit) :=
  (l_szItemS K a0.2.2 a1).bind fun v1 =>
  bif decide (v1.1 < 0) then some ((-1), ())
  else some (v1.1, ())

def l_szRowS.l0b (K : Nat) (a0 : List TRow) (a1 : Int) (L0 : Int → Int → Option (Int × Unit)) (q0 : Int) (q1 : Int) : Option (Int × Unit) :=
  bif decide (q1 < ((a0.length : Nat) : Int)) then bif decide ((0 : Int) ≤ q1) then bif decide (q1 < ((a0.length : Nat) : Int)) then (l_szRow K (a0.getD (Int.toNat q1) zRow) q0).bind fun v1 =>
    bif decide (v1.1 < 0) then some ((-1), ())
    else L0 v1.1 (IntKind.i64.wrap (q1 + 1))
    else none
    else none
  else some (q0, ())
def l_szRowS.l0 (K : Nat) (a0 : List TRow) (a1 : Int) : Nat → Int → Int → Option (Int × Unit)
  | 0, _, _ => none
  | n + 1, q0, q1 => l_szRowS.l0b K a0 a1 (l_szRowS.l0 K a0 a1 n) q0 q1
def l_szRowS.b (K : Nat) (a0 : List TRow) (a1 : Int) (L0 : Int → Int → Option (Int × Unit)) : Option (Int × Unit) :=
  bif decide ((IntKind.i64.wrap (a1 - ((a0.length : Nat) : Int))) < 0) then some ((-1), ())
  else L0 (IntKind.i64.wrap (a1 - ((a0.length : Nat) : Int))) 0
def l_szRowS (K : Nat) (a0 : List TRow) (a1 : Int) : Option (Int × Unit) := l_szRowS.b K a0 a1 (l_szRowS.l0 K a0 a1 K)

def l_szMarkS (a0 : List TMark) (a1 : Int) : Option (Int × Unit) :=
  bif decide ((IntKind.i64.wrap (a1 - ((a0.length : Nat) : Int))) < 0) then some ((-1), ())
  else some (IntKind.i64.wrap (a1 - ((a0.length : Nat) : Int)), ())

def l_szMaker (a0 : TMaker) (a1 : Int) : Option (Int × Unit) :=
  (l_szMarkS a0.2.2.2.2 a1).bind fun v1 =>
  bif decide (v1.1 < 0) then some ((-1), ())
  else some (v1.1, ())

def l_szMakerS.l0b (K : Nat) (a0 : List TMaker) (a1 : Int) (L0 : Int → Int → Option (Int × Unit)) (q0 : Int) (q1 : Int) : Option (Int × Unit) :=
  bif decide (q1 < ((a0.length : Nat) : Int)) then bif decide ((0 : Int) ≤ q1) then bif decide (q1 < ((a0.length : Nat) : Int)) then (l_szMaker (a0.getD (Int.toNat q1) zMaker) q0).bind fun v1 =>
    bif decide (v1.1 < 0) then some ((-1), ())
    else L0 v1.1 (IntKind.i64.wrap (q1 + 1))
    else none
    else none
  else some (q0, ())
def l_szMakerS.l0 (K : Nat) (a0 : List TMaker) (a1 : Int) : Nat → Int → Int → Option (Int × Unit)
  | 0, _, _ => none
  | n + 1, q0, q1 => l_szMakerS.l0b K a0 a1 (l_szMakerS.l0 K a0 a1 n) q0 q1
def l_szMakerS.b (K : Nat) (a0 : List TMaker) (a1 : Int) (L0 : Int → Int → Option (Int × Unit)) : Option (Int × Unit) :=
  bif decide ((IntKind.i64.wrap (a1 - ((a0.length : Nat) : Int))) < 0) then some ((-1), ())
  else L0 (IntKind.i64.wrap (a1 - ((a0.length : Nat) : Int))) 0
def l_szMakerS (K : Nat) (a0 : List TMaker) (a1 : Int) : Option (Int × Unit) := l_szMakerS.b K a0 a1 (l_szMakerS.l0 K a0 a1 K)

def l_szIntS (a0 : List Int) (a1 : Int) : Option (Int × Unit) :=
  bif decide ((IntKind.i64.wrap (a1 - ((a0.length : Nat) : Int))) < 0) then some ((-1), ())
  else some (IntKind.i64.wrap (a1 - ((a0.length : Nat) : Int)), ())

def l_szGroup (a0 : TGroup) (a1 : Int) : Option (Int × Unit) :=
  (l_szIntS a0.2.1 a1).bind fun v1 =>
  bif decide (v1.1 < 0) then some ((-1), ())
  else (l_szIntS a0.2.2.1 v1.1).bind fun v2 =>
  bif decide (v2.1 < 0) then some ((-1), ())
  else (l_szIntS a0.2.2.2 v2.1).bind fun v3 =>
  bif decide (v3.1 < 0) then some ((-1), ())
  else some (v3.1, ())

def l_szGroupS.l0b (K : Nat) (a0 : List TGroup) (a1 : Int) (L0 : Int → Int → Option (Int × Unit)) (q0 : Int) (q1 : Int) : Option (Int × Unit) :=
  bif decide (q1 < ((a0.length : Nat) : Int)) then bif decide ((0 : Int) ≤ q1) then bif decide (q1 < ((a0.length : Nat) : Int)) then (l_szGroup (a0.getD (Int.toNat q1) zGroup) q0).bind fun v1 =>
    bif decide (v1.1 < 0) then some ((-1), ())
    else L0 v1.1 (IntKind.i64.wrap (q1 + 1))
    else none
    else none
  else some (q0, ())
def l_szGroupS.l0 (K : Nat) (a0 : List TGroup) (a1 : Int) : Nat → Int → Int → Option (Int × Unit)
  | 0, _, _ => none
  | n + 1, q0, q1 => l_szGroupS.l0b K a0 a1 (l_szGroupS.l0 K a0 a1 n) q0 q1
def l_szGroupS.b (K : Nat) (a0 : List TGroup) (a1 : Int) (L0 : Int → Int → Option (Int × Unit)) : Option (Int × Unit) :=
  bif decide ((IntKind.i64.wrap (a1 - ((a0.length : Nat) : Int))) < 0) then some ((-1), ())
  else L0 (IntKind.i64.wrap (a1 - ((a0.length : Nat) : Int))) 0
def l_szGroupS (K : Nat) (a0 : List TGroup) (a1 : Int) : Option (Int × Unit) := l_szGroupS.b K a0 a1 (l_szGroupS.l0 K a0 a1 K)

def l_szAnswer (a0 : TAnswer) (a1 : Int) : Option (Int × Unit) :=
  bif decide ((IntKind.i64.wrap (a1 - ((a0.2.2.1.size : Nat) : Int))) < 0) then some ((-1), ())
  else bif decide ((IntKind.i64.wrap ((IntKind.i64.wrap (a1 - ((a0.2.2.1.size : Nat) : Int))) - ((a0.2.2.2.size : Nat) : Int))) < 0) then some ((-1), ())
  else some (IntKind.i64.wrap ((IntKind.i64.wrap (a1 - ((a0.2.2.1.size : Nat) : Int))) - ((a0.2.2.2.size : Nat) : Int)), ())

def l_szAnswerS.l0b (K : Nat) (a0 : List TAnswer) (a1 : Int) (L0 : Int → Int → Option (Int × Unit)) (q0 : Int) (q1 : Int) : Option (Int × Unit) :=
  bif decide (q1 < ((a0.length : Nat) : Int)) then bif decide ((0 : Int) ≤ q1) then bif decide (q1 < ((a0.length : Nat) : Int)) then (l_szAnswer (a0.getD (Int.toNat q1) zAnswer) q0).bind fun v1 =>
    bif decide (v1.1 < 0) then some ((-1), ())
    else L0 v1.1 (IntKind.i64.wrap (q1 + 1))
    else none
    else none
  else some (q0, ())
def l_szAnswerS.l0 (K : Nat) (a0 : List TAnswer) (a1 : Int) : Nat → Int → Int → Option (Int × Unit)
  | 0, _, _ => none
  | n + 1, q0, q1 => l_szAnswerS.l0b K a0 a1 (l_szAnswerS.l0 K a0 a1 n) q0 q1
def l_szAnswerS.b (K : Nat) (a0 : List TAnswer) (a1 : Int) (L0 : Int → Int → Option (Int × Unit)) : Option (Int × Unit) :=
  bif decide ((IntKind.i64.wrap (a1 - ((a0.length : Nat) : Int))) < 0) then some ((-1), ())
  else L0 (IntKind.i64.wrap (a1 - ((a0.length : Nat) : Int))) 0
def l_szAnswerS (K : Nat) (a0 : List TAnswer) (a1 : Int) : Option (Int × Unit) := l_szAnswerS.b K a0 a1 (l_szAnswerS.l0 K a0 a1 K)

def l_szKeep (K : Nat) (a0 : TKeep) (a1 : Int) : Option (Int × Unit) :=
  (l_szRowS K a0.1 a1).bind fun v1 =>
  bif decide (v1.1 < 0) then some ((-1), ())
  else (l_szMakerS K a0.2.1 v1.1).bind fun v2 =>
  bif decide (v2.1 < 0) then some ((-1), ())
  else (l_szGroupS K a0.2.2.1 v2.1).bind fun v3 =>
  bif decide (v3.1 < 0) then some ((-1), ())
  else (l_szIntS a0.2.2.2.2.1 v3.1).bind fun v4 =>
  bif decide (v4.1 < 0) then some ((-1), ())
  else (l_szAnswerS K a0.2.2.2.2.2 v4.1).bind fun v5 =>
  bif decide (v5.1 < 0) then some ((-1), ())
  else some (v5.1, ())

def l_szHard (K : Nat) (a0 : THard) (a1 : Int) : Option (Int × Unit) :=
  (l_szLog K a0.2.2.1 a1).bind fun v1 =>
  bif decide (v1.1 < 0) then some ((-1), ())
  else (l_szKeep K a0.2.2.2 v1.1).bind fun v2 =>
  bif decide (v2.1 < 0) then some ((-1), ())
  else some (v2.1, ())

def l_szBoolS (a0 : List Bool) (a1 : Int) : Option (Int × Unit) :=
  bif decide ((IntKind.i64.wrap (a1 - ((a0.length : Nat) : Int))) < 0) then some ((-1), ())
  else some (IntKind.i64.wrap (a1 - ((a0.length : Nat) : Int)), ())

def l_szByteS (a0 : List Int) (a1 : Int) : Option (Int × Unit) :=
  bif decide ((IntKind.i64.wrap (a1 - ((a0.length : Nat) : Int))) < 0) then some ((-1), ())
  else some (IntKind.i64.wrap (a1 - ((a0.length : Nat) : Int)), ())

def l_szDisk (a0 : TDisk) (a1 : Int) : Option (Int × Unit) :=
  (l_szByteS a0.1 a1).bind fun v1 =>
  bif decide (v1.1 < 0) then some ((-1), ())
  else some (v1.1, ())

def l_szRpc (K : Nat) (a0 : TRpc) (a1 : Int) : Option (Int × Unit) :=
  (l_szEntryS K a0.2.2.2.2.2.2.2.1 a1).bind fun v1 =>
  bif decide (v1.1 < 0) then some ((-1), ())
  else bif decide ((IntKind.i64.wrap (v1.1 - ((a0.2.2.2.2.2.2.2.2.2.size : Nat) : Int))) < 0) then some ((-1), ())
  else some (IntKind.i64.wrap (v1.1 - ((a0.2.2.2.2.2.2.2.2.2.size : Nat) : Int)), ())

def l_szRpcS.l0b (K : Nat) (a0 : List TRpc) (a1 : Int) (L0 : Int → Int → Option (Int × Unit)) (q0 : Int) (q1 : Int) : Option (Int × Unit) :=
  bif decide (q1 < ((a0.length : Nat) : Int)) then bif decide ((0 : Int) ≤ q1) then bif decide (q1 < ((a0.length : Nat) : Int)) then (l_szRpc K (a0.getD (Int.toNat q1) zRpc) q0).bind fun v1 =>
    bif decide (v1.1 < 0) then some ((-1), ())
    else L0 v1.1 (IntKind.i64.wrap (q1 + 1))
    else none
    else none
  else some (q0, ())
def l_szRpcS.l0 (K : Nat) (a0 : List TRpc) (a1 : Int) : Nat → Int → Int → Option (Int × Unit)
  | 0, _, _ => none
  | n + 1, q0, q1 => l_szRpcS.l0b K a0 a1 (l_szRpcS.l0 K a0 a1 n) q0 q1
def l_szRpcS.b (K : Nat) (a0 : List TRpc) (a1 : Int) (L0 : Int → Int → Option (Int × Unit)) : Option (Int × Unit) :=
  bif decide ((IntKind.i64.wrap (a1 - ((a0.length : Nat) : Int))) < 0) then some ((-1), ())
  else L0 (IntKind.i64.wrap (a1 - ((a0.length : Nat) : Int))) 0
def l_szRpcS (K : Nat) (a0 : List TRpc) (a1 : Int) : Option (Int × Unit) := l_szRpcS.b K a0 a1 (l_szRpcS.l0 K a0 a1 K)

def l_szPeer (K : Nat) (a0 : TPeer) (a1 : Int) : Option (Int × Unit) :=
  (l_szHard K a0.2.1 a1).bind fun v1 =>
  bif decide (v1.1 < 0) then some ((-1), ())
  else (l_szBoolS a0.2.2.2.1 v1.1).bind fun v2 =>
  bif decide (v2.1 < 0) then some ((-1), ())
  else (l_szIntS a0.2.2.2.2.1 v2.1).bind fun v3 =>
  bif decide (v3.1 < 0) then some ((-1), ())
  else (l_szIntS a0.2.2.2.2.2.1 v3.1).bind fun v4 =>
  bif decide (v4.1 < 0) then some ((-1), ())
  else (l_szKeep K a0.2.2.2.2.2.2.2.1 v4.1).bind fun v5 =>
  bif decide (v5.1 < 0) then some ((-1), ())
  else (l_szDisk a0.2.2.2.2.2.2.2.2.1 v5.1).bind fun v6 =>
  bif decide (v6.1 < 0) then some ((-1), ())
  else (l_szRpcS K a0.2.2.2.2.2.2.2.2.2 v6.1).bind fun v7 =>
  bif decide (v7.1 < 0) then some ((-1), ())
  else some (v7.1, ())

def l_szPeerS.l0b (K : Nat) (a0 : List TPeer) (a1 : Int) (L0 : Int → Int → Option (Int × Unit)) (q0 : Int) (q1 : Int) : Option (Int × Unit) :=
  bif decide (q1 < ((a0.length : Nat) : Int)) then bif decide ((0 : Int) ≤ q1) then bif decide (q1 < ((a0.length : Nat) : Int)) then (l_szPeer K (a0.getD (Int.toNat q1) zPeer) q0).bind fun v1 =>
    bif decide (v1.1 < 0) then some ((-1), ())
    else L0 v1.1 (IntKind.i64.wrap (q1 + 1))
    else none
    else none
  else some (q0, ())
def l_szPeerS.l0 (K : Nat) (a0 : List TPeer) (a1 : Int) : Nat → Int → Int → Option (Int × Unit)
  | 0, _, _ => none
  | n + 1, q0, q1 => l_szPeerS.l0b K a0 a1 (l_szPeerS.l0 K a0 a1 n) q0 q1
def l_szPeerS.b (K : Nat) (a0 : List TPeer) (a1 : Int) (L0 : Int → Int → Option (Int × Unit)) : Option (Int × Unit) :=
  bif decide ((IntKind.i64.wrap (a1 - ((a0.length : Nat) : Int))) < 0) then some ((-1), ())
  else L0 (IntKind.i64.wrap (a1 - ((a0.length : Nat) : Int))) 0
def l_szPeerS (K : Nat) (a0 : List TPeer) (a1 : Int) : Option (Int × Unit) := l_szPeerS.b K a0 a1 (l_szPeerS.l0 K a0 a1 K)

def l_szCmdS.l0b (K : Nat) (a0 : List TCmd) (a1 : Int) (L0 : Int → Int → Option (Int × Unit)) (q0 : Int) (q1 : Int) : Option (Int × Unit) :=
  bif decide (q1 < ((a0.length : Nat) : Int)) then bif decide ((0 : Int) ≤ q1) then bif decide (q1 < ((a0.length : Nat) : Int)) then (l_szCmd (a0.getD (Int.toNat q1) zCmd) q0).bind fun v1 =>
    bif decide (v1.1 < 0) then some ((-1), ())
    else L0 v1.1 (IntKind.i64.wrap (q1 + 1))
    else none
    else none
  else some (q0, ())
def l_szCmdS.l0 (K : Nat) (a0 : List TCmd) (a1 : Int) : Nat → Int → Int → Option (Int × Unit)
  | 0, _, _ => none
  | n + 1, q0, q1 => l_szCmdS.l0b K a0 a1 (l_szCmdS.l0 K a0 a1 n) q0 q1
def l_szCmdS.b (K : Nat) (a0 : List TCmd) (a1 : Int) (L0 : Int → Int → Option (Int × Unit)) : Option (Int × Unit) :=
  bif decide ((IntKind.i64.wrap (a1 - ((a0.length : Nat) : Int))) < 0) then some ((-1), ())
  else L0 (IntKind.i64.wrap (a1 - ((a0.length : Nat) : Int))) 0
def l_szCmdS (K : Nat) (a0 : List TCmd) (a1 : Int) : Option (Int × Unit) := l_szCmdS.b K a0 a1 (l_szCmdS.l0 K a0 a1 K)

def l_szHeard (a0 : THeard) (a1 : Int) : Option (Int × Unit) :=
  (l_szAnswer a0.2.2.1 a1).bind fun v1 =>
  bif decide (v1.1 < 0) then some ((-1), ())
  else some (v1.1, ())

def l_szHeardS.l0b (K : Nat) (a0 : List THeard) (a1 : Int) (L0 : Int → Int → Option (Int × Unit)) (q0 : Int) (q1 : Int) : Option (Int × Unit) :=
  bif decide (q1 < ((a0.length : Nat) : Int)) then bif decide ((0 : Int) ≤ q1) then bif decide (q1 < ((a0.length : Nat) : Int)) then (l_szHeard (a0.getD (Int.toNat q1) zHeard) q0).bind fun v1 =>
    bif decide (v1.1 < 0) then some ((-1), ())
    else L0 v1.1 (IntKind.i64.wrap (q1 + 1))
    else none
    else none
  else some (q0, ())
def l_szHeardS.l0 (K : Nat) (a0 : List THeard) (a1 : Int) : Nat → Int → Int → Option (Int × Unit)
  | 0, _, _ => none
  | n + 1, q0, q1 => l_szHeardS.l0b K a0 a1 (l_szHeardS.l0 K a0 a1 n) q0 q1
def l_szHeardS.b (K : Nat) (a0 : List THeard) (a1 : Int) (L0 : Int → Int → Option (Int × Unit)) : Option (Int × Unit) :=
  bif decide ((IntKind.i64.wrap (a1 - ((a0.length : Nat) : Int))) < 0) then some ((-1), ())
  else L0 (IntKind.i64.wrap (a1 - ((a0.length : Nat) : Int))) 0
def l_szHeardS (K : Nat) (a0 : List THeard) (a1 : Int) : Option (Int × Unit) := l_szHeardS.b K a0 a1 (l_szHeardS.l0 K a0 a1 K)

def l_szWorld (K : Nat) (a0 : TWorld) (a1 : Int) : Option (Int × Unit) :=
  (l_szPeerS K a0.2.2.1 a1).bind fun v1 =>
  bif decide (v1.1 < 0) then some ((-1), ())
  else (l_szRpcS K a0.2.2.2.1 v1.1).bind fun v2 =>
  bif decide (v2.1 < 0) then some ((-1), ())
  else (l_szCmdS K a0.2.2.2.2.1 v2.1).bind fun v3 =>
  bif decide (v3.1 < 0) then some ((-1), ())
  else (l_szIntS a0.2.2.2.2.2.1 v3.1).bind fun v4 =>
  bif decide (v4.1 < 0) then some ((-1), ())
  else (l_szHeardS K a0.2.2.2.2.2.2.1 v4.1).bind fun v5 =>
  bif decide (v5.1 < 0) then some ((-1), ())
  else (l_szCmdS K a0.2.2.2.2.2.2.2 v5.1).bind fun v6 =>
  bif decide (v6.1 < 0) then some ((-1), ())
  else some (v6.1, ())

def l_toSetup (a0 : TSetup) : Option (TSetup × Unit) :=
  some (a0, ())

def l_toCmd (a0 : TCmd) : Option (TCmd × Unit) :=
  some (a0, ())

def l_toEntry (a0 : TEntry) : Option (TEntry × Unit) :=
  (l_toCmd a0.2).bind fun v1 =>
  some ((a0.1, v1.1), ())

def l_toEntryS.l0b (K : Nat) (a0 : List TEntry) (L0 : (List TEntry) → Int → Option ((List TEntry) × Unit)) (q0 : List TEntry) (q1 : Int) : Option ((List TEntry) × Unit) :=
  bif decide (q1 < ((a0.length : Nat) : Int)) then bif decide ((0 : Int) ≤ q1) then bif decide (q1 < ((a0.length : Nat) : Int)) then (l_toEntry (a0.getD (Int.toNat q1) zEntry)).bind fun v1 =>
    bif decide ((0 : Int) ≤ q1) then bif decide (q1 < ((q0.length : Nat) : Int)) then L0 (q0.set (Int.toNat q1) v1.1) (IntKind.i64.wrap (q1 + 1))
    else none
    else none
    else none
    else none
  else some (q0, ())
def l_toEntryS.l0 (K : Nat) (a0 : List TEntry) : Nat → (List TEntry) → Int → Option ((List TEntry) × Unit)
  | 0, _, _ => none
  | n + 1, q0, q1 => l_toEntryS.l0b K a0 (l_toEntryS.l0 K a0 n) q0 q1
def l_toEntryS.b (K : Nat) (a0 : List TEntry) (L0 : (List TEntry) → Int → Option ((List TEntry) × Unit)) : Option ((List TEntry) × Unit) :=
  bif decide (((a0.length : Nat) : Int) = ((a0.length : Nat) : Int)) then bif decide ((0 : Int) ≤ ((a0.length : Nat) : Int)) then bif decide ((Int.toNat ((a0.length : Nat) : Int)) * 89 ≤ growTop) then L0 (List.replicate (Int.toNat ((a0.length : Nat) : Int)) zEntry) 0
  else none
  else none
  else none
def l_toEntryS (K : Nat) (a0 : List TEntry) : Option ((List TEntry) × Unit) := l_toEntryS.b K a0 (l_toEntryS.l0 K a0 K)

def l_toLog (K : Nat) (a0 : TLog) : Option (TLog × Unit) :=
  (l_toEntryS K a0.2.2).bind fun v1 =>
  some ((a0.1, a0.2.1, v1.1), ())

def l_toItem (a0 : TItem) : Option (TItem × Unit) :=
  some (a0, ())

def l_toItemS.l0b (K : Nat) (a0 : List TItem) (L0 : (List TItem) → Int → Option ((List TItem) × Unit)) (q0 : List TItem) (q1 : Int) : Option ((List TItem) × Unit) :=
  bif decide (q1 < ((a0.length : Nat) : Int)) then bif decide ((0 : Int) ≤ q1) then bif decide (q1 < ((a0.length : Nat) : Int)) then (l_toItem (a0.getD (Int.toNat q1) zItem)).bind fun v1 =>
    bif decide ((0 : Int) ≤ q1) then bif decide (q1 < ((q0.length : Nat) : Int)) then L0 (q0.set (Int.toNat q1) v1.1) (IntKind.i64.wrap (q1 + 1))
    else none
    else none
    else none
    else none
  else some (q0, ())
def l_toItemS.l0 (K : Nat) (a0 : List TItem) : Nat → (List TItem) → Int → Option ((List TItem) × Unit)
  | 0, _, _ => none
  | n + 1, q0, q1 => l_toItemS.l0b K a0 (l_toItemS.l0 K a0 n) q0 q1
def l_toItemS.b (K : Nat) (a0 : List TItem) (L0 : (List TItem) → Int → Option ((List TItem) × Unit)) : Option ((List TItem) × Unit) :=
  bif decide (((a0.length : Nat) : Int) = ((a0.length : Nat) : Int)) then bif decide ((0 : Int) ≤ ((a0.length : Nat) : Int)) then bif decide ((Int.toNat ((a0.length : Nat) : Int)) * 57 ≤ growTop) then L0 (List.replicate (Int.toNat ((a0.length : Nat) : Int)) zItem) 0
  else none
  else none
  else none
def l_toItemS (K : Nat) (a0 : List TItem) : Option ((List TItem) × Unit) := l_toItemS.b K a0 (l_toItemS.l0 K a0 K)

def l_toRow (K : Nat) (a0 : TRow) : Option (TRow × Unit) :=
  (l_toItemS K a0.2.2).bind fun v1 =>
  some ((a0.1, a0.2.1, v1.1), ())

def l_toRowS.l0b (K : Nat) (a0 : List TRow) (L0 : (List TRow) → Int → Option ((List TRow) × Unit)) (q0 : List TRow) (q1 : Int) : Option ((List TRow) × Unit) :=
  bif decide (q1 < ((a0.length : Nat) : Int)) then bif decide ((0 : Int) ≤ q1) then bif decide (q1 < ((a0.length : Nat) : Int)) then (l_toRow K (a0.getD (Int.toNat q1) zRow)).bind fun v1 =>
    bif decide ((0 : Int) ≤ q1) then bif decide (q1 < ((q0.length : Nat) : Int)) then L0 (q0.set (Int.toNat q1) v1.1) (IntKind.i64.wrap (q1 + 1))
    else none
    else none
    else none
    else none
  else some (q0, ())
def l_toRowS.l0 (K : Nat) (a0 : List TRow) : Nat → (List TRow) → Int → Option ((List TRow) × Unit)
  | 0, _, _ => none
  | n + 1, q0, q1 => l_toRowS.l0b K a0 (l_toRowS.l0 K a0 n) q0 q1
def l_toRowS.b (K : Nat) (a0 : List TRow) (L0 : (List TRow) → Int → Option ((List TRow) × Unit)) : Option ((List TRow) × Unit) :=
  bif decide (((a0.length : Nat) : Int) = ((a0.length : Nat) : Int)) then bif decide ((0 : Int) ≤ ((a0.length : Nat) : Int)) then bif decide ((Int.toNat ((a0.length : Nat) : Int)) * 41 ≤ growTop) then L0 (List.replicate (Int.toNat ((a0.length : Nat) : Int)) zRow) 0
  else none
  else none
  else none
def l_toRowS (K : Nat) (a0 : List TRow) : Option ((List TRow) × Unit) := l_toRowS.b K a0 (l_toRowS.l0 K a0 K)

def l_toMark (a0 : TMark) : Option (TMark × Unit) :=
  some (a0, ())

def l_toMarkS.l0b (K : Nat) (a0 : List TMark) (L0 : (List TMark) → Int → Option ((List TMark) × Unit)) (q0 : List TMark) (q1 : Int) : Option ((List TMark) × Unit) :=
  bif decide (q1 < ((a0.length : Nat) : Int)) then bif decide ((0 : Int) ≤ q1) then bif decide (q1 < ((a0.length : Nat) : Int)) then (l_toMark (a0.getD (Int.toNat q1) zMark)).bind fun v1 =>
    bif decide ((0 : Int) ≤ q1) then bif decide (q1 < ((q0.length : Nat) : Int)) then L0 (q0.set (Int.toNat q1) v1.1) (IntKind.i64.wrap (q1 + 1))
    else none
    else none
    else none
    else none
  else some (q0, ())
def l_toMarkS.l0 (K : Nat) (a0 : List TMark) : Nat → (List TMark) → Int → Option ((List TMark) × Unit)
  | 0, _, _ => none
  | n + 1, q0, q1 => l_toMarkS.l0b K a0 (l_toMarkS.l0 K a0 n) q0 q1
def l_toMarkS.b (K : Nat) (a0 : List TMark) (L0 : (List TMark) → Int → Option ((List TMark) × Unit)) : Option ((List TMark) × Unit) :=
  bif decide (((a0.length : Nat) : Int) = ((a0.length : Nat) : Int)) then bif decide ((0 : Int) ≤ ((a0.length : Nat) : Int)) then bif decide ((Int.toNat ((a0.length : Nat) : Int)) * 17 ≤ growTop) then L0 (List.replicate (Int.toNat ((a0.length : Nat) : Int)) zMark) 0
  else none
  else none
  else none
def l_toMarkS (K : Nat) (a0 : List TMark) : Option ((List TMark) × Unit) := l_toMarkS.b K a0 (l_toMarkS.l0 K a0 K)

def l_toMaker (K : Nat) (a0 : TMaker) : Option (TMaker × Unit) :=
  (l_toMarkS K a0.2.2.2.2).bind fun v1 =>
  some ((a0.1, a0.2.1, a0.2.2.1, a0.2.2.2.1, v1.1), ())

def l_toMakerS.l0b (K : Nat) (a0 : List TMaker) (L0 : (List TMaker) → Int → Option ((List TMaker) × Unit)) (q0 : List TMaker) (q1 : Int) : Option ((List TMaker) × Unit) :=
  bif decide (q1 < ((a0.length : Nat) : Int)) then bif decide ((0 : Int) ≤ q1) then bif decide (q1 < ((a0.length : Nat) : Int)) then (l_toMaker K (a0.getD (Int.toNat q1) zMaker)).bind fun v1 =>
    bif decide ((0 : Int) ≤ q1) then bif decide (q1 < ((q0.length : Nat) : Int)) then L0 (q0.set (Int.toNat q1) v1.1) (IntKind.i64.wrap (q1 + 1))
    else none
    else none
    else none
    else none
  else some (q0, ())
def l_toMakerS.l0 (K : Nat) (a0 : List TMaker) : Nat → (List TMaker) → Int → Option ((List TMaker) × Unit)
  | 0, _, _ => none
  | n + 1, q0, q1 => l_toMakerS.l0b K a0 (l_toMakerS.l0 K a0 n) q0 q1
def l_toMakerS.b (K : Nat) (a0 : List TMaker) (L0 : (List TMaker) → Int → Option ((List TMaker) × Unit)) : Option ((List TMaker) × Unit) :=
  bif decide (((a0.length : Nat) : Int) = ((a0.length : Nat) : Int)) then bif decide ((0 : Int) ≤ ((a0.length : Nat) : Int)) then bif decide ((Int.toNat ((a0.length : Nat) : Int)) * 57 ≤ growTop) then L0 (List.replicate (Int.toNat ((a0.length : Nat) : Int)) zMaker) 0
  else none
  else none
  else none
def l_toMakerS (K : Nat) (a0 : List TMaker) : Option ((List TMaker) × Unit) := l_toMakerS.b K a0 (l_toMakerS.l0 K a0 K)

def l_toIntS.l0b (K : Nat) (a0 : List Int) (L0 : (List Int) → Int → Option ((List Int) × Unit)) (q0 : List Int) (q1 : Int) : Option ((List Int) × Unit) :=
  bif decide (q1 < ((a0.length : Nat) : Int)) then bif decide ((0 : Int) ≤ q1) then bif decide (q1 < ((a0.length : Nat) : Int)) then bif decide ((0 : Int) ≤ q1) then bif decide (q1 < ((q0.length : Nat) : Int)) then L0 (q0.set (Int.toNat q1) (a0.getD (Int.toNat q1) 0)) (IntKind.i64.wrap (q1 + 1))
    else none
    else none
    else none
    else none
  else some (q0, ())
def l_toIntS.l0 (K : Nat) (a0 : List Int) : Nat → (List Int) → Int → Option ((List Int) × Unit)
  | 0, _, _ => none
  | n + 1, q0, q1 => l_toIntS.l0b K a0 (l_toIntS.l0 K a0 n) q0 q1
def l_toIntS.b (K : Nat) (a0 : List Int) (L0 : (List Int) → Int → Option ((List Int) × Unit)) : Option ((List Int) × Unit) :=
  bif decide (((a0.length : Nat) : Int) = ((a0.length : Nat) : Int)) then bif decide ((0 : Int) ≤ ((a0.length : Nat) : Int)) then bif decide ((Int.toNat ((a0.length : Nat) : Int)) * 9 ≤ growTop) then L0 (List.replicate (Int.toNat ((a0.length : Nat) : Int)) 0) 0
  else none
  else none
  else none
def l_toIntS (K : Nat) (a0 : List Int) : Option ((List Int) × Unit) := l_toIntS.b K a0 (l_toIntS.l0 K a0 K)

def l_toGroup (K : Nat) (a0 : TGroup) : Option (TGroup × Unit) :=
  (l_toIntS K a0.2.1).bind fun v1 =>
  (l_toIntS K a0.2.2.1).bind fun v2 =>
  (l_toIntS K a0.2.2.2).bind fun v3 =>
  some ((a0.1, v1.1, v2.1, v3.1), ())

def l_toGroupS.l0b (K : Nat) (a0 : List TGroup) (L0 : (List TGroup) → Int → Option ((List TGroup) × Unit)) (q0 : List TGroup) (q1 : Int) : Option ((List TGroup) × Unit) :=
  bif decide (q1 < ((a0.length : Nat) : Int)) then bif decide ((0 : Int) ≤ q1) then bif decide (q1 < ((a0.length : Nat) : Int)) then (l_toGroup K (a0.getD (Int.toNat q1) zGroup)).bind fun v1 =>
    bif decide ((0 : Int) ≤ q1) then bif decide (q1 < ((q0.length : Nat) : Int)) then L0 (q0.set (Int.toNat q1) v1.1) (IntKind.i64.wrap (q1 + 1))
    else none
    else none
    else none
    else none
  else some (q0, ())
def l_toGroupS.l0 (K : Nat) (a0 : List TGroup) : Nat → (List TGroup) → Int → Option ((List TGroup) × Unit)
  | 0, _, _ => none
  | n + 1, q0, q1 => l_toGroupS.l0b K a0 (l_toGroupS.l0 K a0 n) q0 q1
def l_toGroupS.b (K : Nat) (a0 : List TGroup) (L0 : (List TGroup) → Int → Option ((List TGroup) × Unit)) : Option ((List TGroup) × Unit) :=
  bif decide (((a0.length : Nat) : Int) = ((a0.length : Nat) : Int)) then bif decide ((0 : Int) ≤ ((a0.length : Nat) : Int)) then bif decide ((Int.toNat ((a0.length : Nat) : Int)) * 81 ≤ growTop) then L0 (List.replicate (Int.toNat ((a0.length : Nat) : Int)) zGroup) 0
  else none
  else none
  else none
def l_toGroupS (K : Nat) (a0 : List TGroup) : Option ((List TGroup) × Unit) := l_toGroupS.b K a0 (l_toGroupS.l0 K a0 K)

def l_toAnswer (a0 : TAnswer) : Option (TAnswer × Unit) :=
  some (a0, ())

def l_toAnswerS.l0b (K : Nat) (a0 : List TAnswer) (L0 : (List TAnswer) → Int → Option ((List TAnswer) × Unit)) (q0 : List TAnswer) (q1 : Int) : Option ((List TAnswer) × Unit) :=
  bif decide (q1 < ((a0.length : Nat) : Int)) then bif decide ((0 : Int) ≤ q1) then bif decide (q1 < ((a0.length : Nat) : Int)) then (l_toAnswer (a0.getD (Int.toNat q1) zAnswer)).bind fun v1 =>
    bif decide ((0 : Int) ≤ q1) then bif decide (q1 < ((q0.length : Nat) : Int)) then L0 (q0.set (Int.toNat q1) v1.1) (IntKind.i64.wrap (q1 + 1))
    else none
    else none
    else none
    else none
  else some (q0, ())
def l_toAnswerS.l0 (K : Nat) (a0 : List TAnswer) : Nat → (List TAnswer) → Int → Option ((List TAnswer) × Unit)
  | 0, _, _ => none
  | n + 1, q0, q1 => l_toAnswerS.l0b K a0 (l_toAnswerS.l0 K a0 n) q0 q1
def l_toAnswerS.b (K : Nat) (a0 : List TAnswer) (L0 : (List TAnswer) → Int → Option ((List TAnswer) × Unit)) : Option ((List TAnswer) × Unit) :=
  bif decide (((a0.length : Nat) : Int) = ((a0.length : Nat) : Int)) then bif decide ((0 : Int) ≤ ((a0.length : Nat) : Int)) then bif decide ((Int.toNat ((a0.length : Nat) : Int)) * 49 ≤ growTop) then L0 (List.replicate (Int.toNat ((a0.length : Nat) : Int)) zAnswer) 0
  else none
  else none
  else none
def l_toAnswerS (K : Nat) (a0 : List TAnswer) : Option ((List TAnswer) × Unit) := l_toAnswerS.b K a0 (l_toAnswerS.l0 K a0 K)

def l_toKeep (K : Nat) (a0 : TKeep) : Option (TKeep × Unit) :=
  (l_toRowS K a0.1).bind fun v1 =>
  (l_toMakerS K a0.2.1).bind fun v2 =>
  (l_toGroupS K a0.2.2.1).bind fun v3 =>
  (l_toIntS K a0.2.2.2.2.1).bind fun v4 =>
  (l_toAnswerS K a0.2.2.2.2.2).bind fun v5 =>
  some ((v1.1, v2.1, v3.1, a0.2.2.2.1, v4.1, v5.1), ())

def l_toHard (K : Nat) (a0 : THard) : Option (THard × Unit) :=
  (l_toLog K a0.2.2.1).bind fun v1 =>
  (l_toKeep K a0.2.2.2).bind fun v2 =>
  some ((a0.1, a0.2.1, v1.1, v2.1), ())

def l_toBoolS.l0b (K : Nat) (a0 : List Bool) (L0 : (List Bool) → Int → Option ((List Bool) × Unit)) (q0 : List Bool) (q1 : Int) : Option ((List Bool) × Unit) :=
  bif decide (q1 < ((a0.length : Nat) : Int)) then bif decide ((0 : Int) ≤ q1) then bif decide (q1 < ((a0.length : Nat) : Int)) then bif decide ((0 : Int) ≤ q1) then bif decide (q1 < ((q0.length : Nat) : Int)) then L0 (q0.set (Int.toNat q1) (a0.getD (Int.toNat q1) false)) (IntKind.i64.wrap (q1 + 1))
    else none
    else none
    else none
    else none
  else some (q0, ())
def l_toBoolS.l0 (K : Nat) (a0 : List Bool) : Nat → (List Bool) → Int → Option ((List Bool) × Unit)
  | 0, _, _ => none
  | n + 1, q0, q1 => l_toBoolS.l0b K a0 (l_toBoolS.l0 K a0 n) q0 q1
def l_toBoolS.b (K : Nat) (a0 : List Bool) (L0 : (List Bool) → Int → Option ((List Bool) × Unit)) : Option ((List Bool) × Unit) :=
  bif decide (((a0.length : Nat) : Int) = ((a0.length : Nat) : Int)) then bif decide ((0 : Int) ≤ ((a0.length : Nat) : Int)) then bif decide ((Int.toNat ((a0.length : Nat) : Int)) * 2 ≤ growTop) then L0 (List.replicate (Int.toNat ((a0.length : Nat) : Int)) false) 0
  else none
  else none
  else none
def l_toBoolS (K : Nat) (a0 : List Bool) : Option ((List Bool) × Unit) := l_toBoolS.b K a0 (l_toBoolS.l0 K a0 K)

def l_toByteS.l0b (K : Nat) (a0 : List Int) (L0 : (List Int) → Int → Option ((List Int) × Unit)) (q0 : List Int) (q1 : Int) : Option ((List Int) × Unit) :=
  bif decide (q1 < ((a0.length : Nat) : Int)) then bif decide ((0 : Int) ≤ q1) then bif decide (q1 < ((a0.length : Nat) : Int)) then bif decide ((0 : Int) ≤ q1) then bif decide (q1 < ((q0.length : Nat) : Int)) then L0 (q0.set (Int.toNat q1) (a0.getD (Int.toNat q1) 0)) (IntKind.i64.wrap (q1 + 1))
    else none
    else none
    else none
    else none
  else some (q0, ())
def l_toByteS.l0 (K : Nat) (a0 : List Int) : Nat → (List Int) → Int → Option ((List Int) × Unit)
  | 0, _, _ => none
  | n + 1, q0, q1 => l_toByteS.l0b K a0 (l_toByteS.l0 K a0 n) q0 q1
def l_toByteS.b (K : Nat) (a0 : List Int) (L0 : (List Int) → Int → Option ((List Int) × Unit)) : Option ((List Int) × Unit) :=
  bif decide (((a0.length : Nat) : Int) = ((a0.length : Nat) : Int)) then bif decide ((0 : Int) ≤ ((a0.length : Nat) : Int)) then bif decide ((Int.toNat ((a0.length : Nat) : Int)) * 2 ≤ growTop) then L0 (List.replicate (Int.toNat ((a0.length : Nat) : Int)) 0) 0
  else none
  else none
  else none
def l_toByteS (K : Nat) (a0 : List Int) : Option ((List Int) × Unit) := l_toByteS.b K a0 (l_toByteS.l0 K a0 K)

def l_toDisk (K : Nat) (a0 : TDisk) : Option (TDisk × Unit) :=
  (l_toByteS K a0.1).bind fun v1 =>
  some ((v1.1, a0.2), ())

def l_toRpc (K : Nat) (a0 : TRpc) : Option (TRpc × Unit) :=
  (l_toEntryS K a0.2.2.2.2.2.2.2.1).bind fun v1 =>
  some ((a0.1, a0.2.1, a0.2.2.1, a0.2.2.2.1, a0.2.2.2.2.1, a0.2.2.2.2.2.1, a0.2.2.2.2.2.2.1, v1.1, a0.2.2.2.2.2.2.2.2), ())

def l_toRpcS.l0b (K : Nat) (a0 : List TRpc) (L0 : (List TRpc) → Int → Option ((List TRpc) × Unit)) (q0 : List TRpc) (q1 : Int) : Option ((List TRpc) × Unit) :=
  bif decide (q1 < ((a0.length : Nat) : Int)) then bif decide ((0 : Int) ≤ q1) then bif decide (q1 < ((a0.length : Nat) : Int)) then (l_toRpc K (a0.getD (Int.toNat q1) zRpc)).bind fun v1 =>
    bif decide ((0 : Int) ≤ q1) then bif decide (q1 < ((q0.length : Nat) : Int)) then L0 (q0.set (Int.toNat q1) v1.1) (IntKind.i64.wrap (q1 + 1))
    else none
    else none
    else none
    else none
  else some (q0, ())
def l_toRpcS.l0 (K : Nat) (a0 : List TRpc) : Nat → (List TRpc) → Int → Option ((List TRpc) × Unit)
  | 0, _, _ => none
  | n + 1, q0, q1 => l_toRpcS.l0b K a0 (l_toRpcS.l0 K a0 n) q0 q1
def l_toRpcS.b (K : Nat) (a0 : List TRpc) (L0 : (List TRpc) → Int → Option ((List TRpc) × Unit)) : Option ((List TRpc) × Unit) :=
  bif decide (((a0.length : Nat) : Int) = ((a0.length : Nat) : Int)) then bif decide ((0 : Int) ≤ ((a0.length : Nat) : Int)) then bif decide ((Int.toNat ((a0.length : Nat) : Int)) * 105 ≤ growTop) then L0 (List.replicate (Int.toNat ((a0.length : Nat) : Int)) zRpc) 0
  else none
  else none
  else none
def l_toRpcS (K : Nat) (a0 : List TRpc) : Option ((List TRpc) × Unit) := l_toRpcS.b K a0 (l_toRpcS.l0 K a0 K)

def l_toPeer (K : Nat) (a0 : TPeer) : Option (TPeer × Unit) :=
  (l_toHard K a0.2.1).bind fun v1 =>
  (l_toBoolS K a0.2.2.2.1).bind fun v2 =>
  (l_toIntS K a0.2.2.2.2.1).bind fun v3 =>
  (l_toIntS K a0.2.2.2.2.2.1).bind fun v4 =>
  (l_toKeep K a0.2.2.2.2.2.2.2.1).bind fun v5 =>
  (l_toDisk K a0.2.2.2.2.2.2.2.2.1).bind fun v6 =>
  (l_toRpcS K a0.2.2.2.2.2.2.2.2.2).bind fun v7 =>
  some ((a0.1, v1.1, a0.2.2.1, v2.1, v3.1, v4.1, a0.2.2.2.2.2.2.1, v5.1, v6.1, v7.1), ())

def l_toPeerS.l0b (K : Nat) (a0 : List TPeer) (L0 : (List TPeer) → Int → Option ((List TPeer) × Unit)) (q0 : List TPeer) (q1 : Int) : Option ((List TPeer) × Unit) :=
  bif decide (q1 < ((a0.length : Nat) : Int)) then bif decide ((0 : Int) ≤ q1) then bif decide (q1 < ((a0.length : Nat) : Int)) then (l_toPeer K (a0.getD (Int.toNat q1) zPeer)).bind fun v1 =>
    bif decide ((0 : Int) ≤ q1) then bif decide (q1 < ((q0.length : Nat) : Int)) then L0 (q0.set (Int.toNat q1) v1.1) (IntKind.i64.wrap (q1 + 1))
    else none
    else none
    else none
    else none
  else some (q0, ())
def l_toPeerS.l0 (K : Nat) (a0 : List TPeer) : Nat → (List TPeer) → Int → Option ((List TPeer) × Unit)
  | 0, _, _ => none
  | n + 1, q0, q1 => l_toPeerS.l0b K a0 (l_toPeerS.l0 K a0 n) q0 q1
def l_toPeerS.b (K : Nat) (a0 : List TPeer) (L0 : (List TPeer) → Int → Option ((List TPeer) × Unit)) : Option ((List TPeer) × Unit) :=
  bif decide (((a0.length : Nat) : Int) = ((a0.length : Nat) : Int)) then bif decide ((0 : Int) ≤ ((a0.length : Nat) : Int)) then bif decide ((Int.toNat ((a0.length : Nat) : Int)) * 465 ≤ growTop) then L0 (List.replicate (Int.toNat ((a0.length : Nat) : Int)) zPeer) 0
  else none
  else none
  else none
def l_toPeerS (K : Nat) (a0 : List TPeer) : Option ((List TPeer) × Unit) := l_toPeerS.b K a0 (l_toPeerS.l0 K a0 K)

def l_toCmdS.l0b (K : Nat) (a0 : List TCmd) (L0 : (List TCmd) → Int → Option ((List TCmd) × Unit)) (q0 : List TCmd) (q1 : Int) : Option ((List TCmd) × Unit) :=
  bif decide (q1 < ((a0.length : Nat) : Int)) then bif decide ((0 : Int) ≤ q1) then bif decide (q1 < ((a0.length : Nat) : Int)) then (l_toCmd (a0.getD (Int.toNat q1) zCmd)).bind fun v1 =>
    bif decide ((0 : Int) ≤ q1) then bif decide (q1 < ((q0.length : Nat) : Int)) then L0 (q0.set (Int.toNat q1) v1.1) (IntKind.i64.wrap (q1 + 1))
    else none
    else none
    else none
    else none
  else some (q0, ())
def l_toCmdS.l0 (K : Nat) (a0 : List TCmd) : Nat → (List TCmd) → Int → Option ((List TCmd) × Unit)
  | 0, _, _ => none
  | n + 1, q0, q1 => l_toCmdS.l0b K a0 (l_toCmdS.l0 K a0 n) q0 q1
def l_toCmdS.b (K : Nat) (a0 : List TCmd) (L0 : (List TCmd) → Int → Option ((List TCmd) × Unit)) : Option ((List TCmd) × Unit) :=
  bif decide (((a0.length : Nat) : Int) = ((a0.length : Nat) : Int)) then bif decide ((0 : Int) ≤ ((a0.length : Nat) : Int)) then bif decide ((Int.toNat ((a0.length : Nat) : Int)) * 81 ≤ growTop) then L0 (List.replicate (Int.toNat ((a0.length : Nat) : Int)) zCmd) 0
  else none
  else none
  else none
def l_toCmdS (K : Nat) (a0 : List TCmd) : Option ((List TCmd) × Unit) := l_toCmdS.b K a0 (l_toCmdS.l0 K a0 K)

def l_toHeard (a0 : THeard) : Option (THeard × Unit) :=
  (l_toAnswer a0.2.2.1).bind fun v1 =>
  some ((a0.1, a0.2.1, v1.1, a0.2.2.2), ())

def l_toHeardS.l0b (K : Nat) (a0 : List THeard) (L0 : (List THeard) → Int → Option ((List THeard) × Unit)) (q0 : List THeard) (q1 : Int) : Option ((List THeard) × Unit) :=
  bif decide (q1 < ((a0.length : Nat) : Int)) then bif decide ((0 : Int) ≤ q1) then bif decide (q1 < ((a0.length : Nat) : Int)) then (l_toHeard (a0.getD (Int.toNat q1) zHeard)).bind fun v1 =>
    bif decide ((0 : Int) ≤ q1) then bif decide (q1 < ((q0.length : Nat) : Int)) then L0 (q0.set (Int.toNat q1) v1.1) (IntKind.i64.wrap (q1 + 1))
    else none
    else none
    else none
    else none
  else some (q0, ())
def l_toHeardS.l0 (K : Nat) (a0 : List THeard) : Nat → (List THeard) → Int → Option ((List THeard) × Unit)
  | 0, _, _ => none
  | n + 1, q0, q1 => l_toHeardS.l0b K a0 (l_toHeardS.l0 K a0 n) q0 q1
def l_toHeardS.b (K : Nat) (a0 : List THeard) (L0 : (List THeard) → Int → Option ((List THeard) × Unit)) : Option ((List THeard) × Unit) :=
  bif decide (((a0.length : Nat) : Int) = ((a0.length : Nat) : Int)) then bif decide ((0 : Int) ≤ ((a0.length : Nat) : Int)) then bif decide ((Int.toNat ((a0.length : Nat) : Int)) * 81 ≤ growTop) then L0 (List.replicate (Int.toNat ((a0.length : Nat) : Int)) zHeard) 0
  else none
  else none
  else none
def l_toHeardS (K : Nat) (a0 : List THeard) : Option ((List THeard) × Unit) := l_toHeardS.b K a0 (l_toHeardS.l0 K a0 K)

def l_toWorld (K : Nat) (a0 : TWorld) : Option (TWorld × Unit) :=
  (l_toSetup a0.1).bind fun v1 =>
  (l_toPeerS K a0.2.2.1).bind fun v2 =>
  (l_toRpcS K a0.2.2.2.1).bind fun v3 =>
  (l_toCmdS K a0.2.2.2.2.1).bind fun v4 =>
  (l_toIntS K a0.2.2.2.2.2.1).bind fun v5 =>
  (l_toHeardS K a0.2.2.2.2.2.2.1).bind fun v6 =>
  (l_toCmdS K a0.2.2.2.2.2.2.2).bind fun v7 =>
  some ((v1.1, a0.2.1, v2.1, v3.1, v4.1, v5.1, v6.1, v7.1), ())

def s_Digits.l0b (K : Nat) (a0 : Int) (L0 : Int → ByteArray → Option (ByteArray × Unit)) (q0 : Int) (q1 : ByteArray) : Option (ByteArray × Unit) :=
  bif !(decide (q0 = 0)) then bif decide ((Int.tmod q0 10) < 0) then bif sfit (strOf [IntKind.u8.wrap (IntKind.i64.wrap (48 + (IntKind.i64.wrap (0 - (Int.tmod q0 10)))))]) q1 then L0 (IntKind.i64.wrap (Int.tdiv q0 10)) (sapp (strOf [IntKind.u8.wrap (IntKind.i64.wrap (48 + (IntKind.i64.wrap (0 - (Int.tmod q0 10)))))]) q1)
      else none
    else bif sfit (strOf [IntKind.u8.wrap (IntKind.i64.wrap (48 + (Int.tmod q0 10)))]) q1 then L0 (IntKind.i64.wrap (Int.tdiv q0 10)) (sapp (strOf [IntKind.u8.wrap (IntKind.i64.wrap (48 + (Int.tmod q0 10)))]) q1)
    else none
  else bif decide (a0 < 0) then bif sfit (bs [45]) q1 then some (sapp (bs [45]) q1, ())
    else none
  else some (q1, ())
def s_Digits.l0 (K : Nat) (a0 : Int) : Nat → Int → ByteArray → Option (ByteArray × Unit)
  | 0, _, _ => none
  | n + 1, q0, q1 => s_Digits.l0b K a0 (s_Digits.l0 K a0 n) q0 q1
def s_Digits.b (K : Nat) (a0 : Int) (L0 : Int → ByteArray → Option (ByteArray × Unit)) : Option (ByteArray × Unit) :=
  bif decide (a0 = 0) then some ((bs [48]), ())
  else L0 a0 ByteArray.empty
def s_Digits (K : Nat) (a0 : Int) : Option (ByteArray × Unit) := s_Digits.b K a0 (s_Digits.l0 K a0 K)

def s_LastOf (a0 : TLog) : Option (Int × Int × Unit) :=
  bif decide (((a0.2.2.length : Nat) : Int) = 0) then some (a0.1, a0.2.1, ())
  else bif decide ((0 : Int) ≤ (IntKind.i64.wrap (((a0.2.2.length : Nat) : Int) - 1))) then bif decide ((IntKind.i64.wrap (((a0.2.2.length : Nat) : Int) - 1)) < ((a0.2.2.length : Nat) : Int)) then some (IntKind.i64.wrap (a0.1 + ((a0.2.2.length : Nat) : Int)), (a0.2.2.getD (Int.toNat (IntKind.i64.wrap (((a0.2.2.length : Nat) : Int) - 1))) zEntry).1, ())
  else none
  else none

def s_PeerText.j0 (K : Nat) (L0 : ByteArray → (Int × Int × Unit) → Int → Option (ByteArray × Unit)) (a0 : TPeer) (p1 : ByteArray) : Option (ByteArray × Unit) :=
  (s_LastOf a0.2.1.2.2.1).bind fun v2 =>
  L0 p1 v2 0
def s_PeerText.l0b (K : Nat) (a0 : TPeer) (L0 : ByteArray → (Int × Int × Unit) → Int → Option (ByteArray × Unit)) (q2 : ByteArray) (v2 : Int × Int × Unit) (q3 : Int) : Option (ByteArray × Unit) :=
  bif decide (q3 < 5) then bif sfit q2 (bs [32]) then bif decide ((0 : Int) ≤ q3) then bif decide (q3 < 5) then (s_Digits K ([a0.2.1.1, v2.1, a0.2.2.2.2.2.2.1, a0.2.1.2.2.1.1, ((a0.2.2.2.2.2.2.2.2.2.length : Nat) : Int)].getD (Int.toNat q3) 0)).bind fun v3 =>
    bif sfit (sapp q2 (bs [32])) v3.1 then L0 (sapp (sapp q2 (bs [32])) v3.1) v2 (IntKind.i64.wrap (q3 + 1))
    else none
    else none
    else none
    else none
  else some (q2, ())
def s_PeerText.l0 (K : Nat) (a0 : TPeer) : Nat → ByteArray → (Int × Int × Unit) → Int → Option (ByteArray × Unit)
  | 0, _, _, _ => none
  | n + 1, q2, v2, q3 => s_PeerText.l0b K a0 (s_PeerText.l0 K a0 n) q2 v2 q3
def s_PeerText.b (K : Nat) (a0 : TPeer) (L0 : ByteArray → (Int × Int × Unit) → Int → Option (ByteArray × Unit)) : Option (ByteArray × Unit) :=
  bif decide (a0.2.2.1 = 1) then s_PeerText.j0 K L0 a0 (bs [115, 116, 97, 110, 100, 115])
  else bif decide (a0.2.2.1 = 2) then s_PeerText.j0 K L0 a0 (bs [108, 101, 97, 100, 115])
  else s_PeerText.j0 K L0 a0 (bs [102, 111, 108, 108, 111, 119, 115])
def s_PeerText (K : Nat) (a0 : TPeer) : Option (ByteArray × Unit) := s_PeerText.b K a0 (s_PeerText.l0 K a0 K)

def s_WorldText.l0b (K : Nat) (a0 : TWorld) (L0 : ByteArray → Int → Option (ByteArray × Unit)) (q0 : ByteArray) (q1 : Int) : Option (ByteArray × Unit) :=
  bif decide (q1 < ((a0.2.2.1.length : Nat) : Int)) then (s_Digits K q1).bind fun v1 =>
    bif sfit q0 v1.1 then bif sfit (sapp q0 v1.1) (bs [32]) then bif decide ((0 : Int) ≤ q1) then bif decide (q1 < ((a0.2.2.1.length : Nat) : Int)) then (s_PeerText K (a0.2.2.1.getD (Int.toNat q1) zPeer)).bind fun v2 =>
    bif sfit (sapp (sapp q0 v1.1) (bs [32])) v2.1 then bif sfit (sapp (sapp (sapp q0 v1.1) (bs [32])) v2.1) (bs [10]) then L0 (sapp (sapp (sapp (sapp q0 v1.1) (bs [32])) v2.1) (bs [10])) (IntKind.i64.wrap (q1 + 1))
    else none
    else none
    else none
    else none
    else none
    else none
  else bif sfit q0 (bs [110, 101, 116, 32]) then (s_Digits K ((a0.2.2.2.1.length : Nat) : Int)).bind fun v3 =>
  bif sfit (sapp q0 (bs [110, 101, 116, 32])) v3.1 then bif sfit (sapp (sapp q0 (bs [110, 101, 116, 32])) v3.1) (bs [32, 100, 111, 110, 101, 32]) then (s_Digits K ((a0.2.2.2.2.2.2.2.length : Nat) : Int)).bind fun v4 =>
  bif sfit (sapp (sapp (sapp q0 (bs [110, 101, 116, 32])) v3.1) (bs [32, 100, 111, 110, 101, 32])) v4.1 then bif sfit (sapp (sapp (sapp (sapp q0 (bs [110, 101, 116, 32])) v3.1) (bs [32, 100, 111, 110, 101, 32])) v4.1) (bs [32, 104, 101, 97, 114, 100, 32]) then (s_Digits K ((a0.2.2.2.2.2.2.1.length : Nat) : Int)).bind fun v5 =>
  bif sfit (sapp (sapp (sapp (sapp (sapp q0 (bs [110, 101, 116, 32])) v3.1) (bs [32, 100, 111, 110, 101, 32])) v4.1) (bs [32, 104, 101, 97, 114, 100, 32])) v5.1 then bif sfit (sapp (sapp (sapp (sapp (sapp (sapp q0 (bs [110, 101, 116, 32])) v3.1) (bs [32, 100, 111, 110, 101, 32])) v4.1) (bs [32, 104, 101, 97, 114, 100, 32])) v5.1) (bs [10]) then some (sapp (sapp (sapp (sapp (sapp (sapp (sapp q0 (bs [110, 101, 116, 32])) v3.1) (bs [32, 100, 111, 110, 101, 32])) v4.1) (bs [32, 104, 101, 97, 114, 100, 32])) v5.1) (bs [10]), ())
  else none
  else none
  else none
  else none
  else none
  else none
  else none
def s_WorldText.l0 (K : Nat) (a0 : TWorld) : Nat → ByteArray → Int → Option (ByteArray × Unit)
  | 0, _, _ => none
  | n + 1, q0, q1 => s_WorldText.l0b K a0 (s_WorldText.l0 K a0 n) q0 q1
def s_WorldText.b (K : Nat) (a0 : TWorld) (L0 : ByteArray → Int → Option (ByteArray × Unit)) : Option (ByteArray × Unit) :=
  L0 ByteArray.empty 0
def s_WorldText (K : Nat) (a0 : TWorld) : Option (ByteArray × Unit) := s_WorldText.b K a0 (s_WorldText.l0 K a0 K)

def i_Digits (a0 : Int) : Option (ByteArray × Unit) :=
  (lItoa a0).bind fun v1 =>
  some (v1.1, ())

def i_within (a0 : Int) (a1 : Int) (a2 : Int) : Option (Bool × Unit) :=
  bif decide (a0 ≥ a1) then some (decide (a0 ≤ a2), ())
  else some (false, ())

def i_last (a0 : TLog) : Option (Int × Unit) :=
  some (IntKind.i64.wrap (a0.1 + ((a0.2.2.length : Nat) : Int)), ())

def i_PeerText.l0b (K : Nat) (a0 : TPeer) (L0 : ByteArray → (Int × Unit) → Int → Option (ByteArray × Unit)) (q2 : ByteArray) (v2 : Int × Unit) (q3 : Int) : Option (ByteArray × Unit) :=
  bif decide (q3 < 5) then bif decide ((0 : Int) ≤ q3) then bif decide (q3 < 5) then (i_Digits ([a0.2.1.1, v2.1, a0.2.2.2.2.2.2.1, a0.2.1.2.2.1.1, ((a0.2.2.2.2.2.2.2.2.2.length : Nat) : Int)].getD (Int.toNat q3) 0)).bind fun v3 =>
    bif sfit (bs [32]) v3.1 then bif sfit q2 (sapp (bs [32]) v3.1) then L0 (sapp q2 (sapp (bs [32]) v3.1)) v2 (IntKind.i64.wrap (q3 + 1))
    else none
    else none
    else none
    else none
  else some (q2, ())
def i_PeerText.l1b (K : Nat) (a0 : TPeer) (L1 : ByteArray → (Int × Unit) → Int → Option (ByteArray × Unit)) (q4 : ByteArray) (v4 : Int × Unit) (q5 : Int) : Option (ByteArray × Unit) :=
  bif decide (q5 < 5) then bif decide ((0 : Int) ≤ q5) then bif decide (q5 < 5) then (i_Digits ([a0.2.1.1, v4.1, a0.2.2.2.2.2.2.1, a0.2.1.2.2.1.1, ((a0.2.2.2.2.2.2.2.2.2.length : Nat) : Int)].getD (Int.toNat q5) 0)).bind fun v5 =>
    bif sfit (bs [32]) v5.1 then bif sfit q4 (sapp (bs [32]) v5.1) then L1 (sapp q4 (sapp (bs [32]) v5.1)) v4 (IntKind.i64.wrap (q5 + 1))
    else none
    else none
    else none
    else none
  else some (q4, ())
def i_PeerText.l0 (K : Nat) (a0 : TPeer) : Nat → ByteArray → (Int × Unit) → Int → Option (ByteArray × Unit)
  | 0, _, _, _ => none
  | n + 1, q2, v2, q3 => i_PeerText.l0b K a0 (i_PeerText.l0 K a0 n) q2 v2 q3
def i_PeerText.l1 (K : Nat) (a0 : TPeer) : Nat → ByteArray → (Int × Unit) → Int → Option (ByteArray × Unit)
  | 0, _, _, _ => none
  | n + 1, q4, v4, q5 => i_PeerText.l1b K a0 (i_PeerText.l1 K a0 n) q4 v4 q5
def i_PeerText.b (K : Nat) (a0 : TPeer) (L0 : ByteArray → (Int × Unit) → Int → Option (ByteArray × Unit)) (L1 : ByteArray → (Int × Unit) → Int → Option (ByteArray × Unit)) : Option (ByteArray × Unit) :=
  (i_within a0.2.2.1 0 2).bind fun v1 =>
  bif v1.1 then bif decide ((0 : Int) ≤ a0.2.2.1) then bif decide (a0.2.2.1 < 3) then (i_last a0.2.1.2.2.1).bind fun v2 =>
    L0 ([(bs [102, 111, 108, 108, 111, 119, 115]), (bs [115, 116, 97, 110, 100, 115]), (bs [108, 101, 97, 100, 115])].getD (Int.toNat a0.2.2.1) ByteArray.empty) v2 0
    else none
    else none
  else (i_last a0.2.1.2.2.1).bind fun v4 =>
  L1 ([(bs [102, 111, 108, 108, 111, 119, 115]), (bs [115, 116, 97, 110, 100, 115]), (bs [108, 101, 97, 100, 115])].getD 0 ByteArray.empty) v4 0
def i_PeerText (K : Nat) (a0 : TPeer) : Option (ByteArray × Unit) := i_PeerText.b K a0 (i_PeerText.l0 K a0 K) (i_PeerText.l1 K a0 K)

def i_WorldText.l0b (K : Nat) (a0 : TWorld) (L0 : ByteArray → Int → Option (ByteArray × Unit)) (q0 : ByteArray) (q1 : Int) : Option (ByteArray × Unit) :=
  bif decide (q1 < ((a0.2.2.1.length : Nat) : Int)) then bif decide ((0 : Int) ≤ q1) then bif decide (q1 < ((a0.2.2.1.length : Nat) : Int)) then (i_Digits q1).bind fun v1 =>
    bif sfit v1.1 (bs [32]) then (i_PeerText K (a0.2.2.1.getD (Int.toNat q1) zPeer)).bind fun v2 =>
    bif sfit (sapp v1.1 (bs [32])) v2.1 then bif sfit (sapp (sapp v1.1 (bs [32])) v2.1) (bs [10]) then bif sfit q0 (sapp (sapp (sapp v1.1 (bs [32])) v2.1) (bs [10])) then L0 (sapp q0 (sapp (sapp (sapp v1.1 (bs [32])) v2.1) (bs [10]))) (IntKind.i64.wrap (q1 + 1))
    else none
    else none
    else none
    else none
    else none
    else none
  else bif sfit q0 (bs [110, 101, 116, 32]) then (i_Digits ((a0.2.2.2.1.length : Nat) : Int)).bind fun v3 =>
  bif sfit (sapp q0 (bs [110, 101, 116, 32])) v3.1 then bif sfit (sapp (sapp q0 (bs [110, 101, 116, 32])) v3.1) (bs [32, 100, 111, 110, 101, 32]) then (i_Digits ((a0.2.2.2.2.2.2.2.length : Nat) : Int)).bind fun v4 =>
  bif sfit (sapp (sapp (sapp q0 (bs [110, 101, 116, 32])) v3.1) (bs [32, 100, 111, 110, 101, 32])) v4.1 then bif sfit (sapp (sapp (sapp (sapp q0 (bs [110, 101, 116, 32])) v3.1) (bs [32, 100, 111, 110, 101, 32])) v4.1) (bs [32, 104, 101, 97, 114, 100, 32]) then (i_Digits ((a0.2.2.2.2.2.2.1.length : Nat) : Int)).bind fun v5 =>
  bif sfit (sapp (sapp (sapp (sapp (sapp q0 (bs [110, 101, 116, 32])) v3.1) (bs [32, 100, 111, 110, 101, 32])) v4.1) (bs [32, 104, 101, 97, 114, 100, 32])) v5.1 then bif sfit (sapp (sapp (sapp (sapp (sapp (sapp q0 (bs [110, 101, 116, 32])) v3.1) (bs [32, 100, 111, 110, 101, 32])) v4.1) (bs [32, 104, 101, 97, 114, 100, 32])) v5.1) (bs [10]) then some (sapp (sapp (sapp (sapp (sapp (sapp (sapp q0 (bs [110, 101, 116, 32])) v3.1) (bs [32, 100, 111, 110, 101, 32])) v4.1) (bs [32, 104, 101, 97, 114, 100, 32])) v5.1) (bs [10]), ())
  else none
  else none
  else none
  else none
  else none
  else none
  else none
def i_WorldText.l0 (K : Nat) (a0 : TWorld) : Nat → ByteArray → Int → Option (ByteArray × Unit)
  | 0, _, _ => none
  | n + 1, q0, q1 => i_WorldText.l0b K a0 (i_WorldText.l0 K a0 n) q0 q1
def i_WorldText.b (K : Nat) (a0 : TWorld) (L0 : ByteArray → Int → Option (ByteArray × Unit)) : Option (ByteArray × Unit) :=
  L0 ByteArray.empty 0
def i_WorldText (K : Nat) (a0 : TWorld) : Option (ByteArray × Unit) := i_WorldText.b K a0 (i_WorldText.l0 K a0 K)

def l_eqSetup (a0 : TSetup) (a1 : TSetup) : Option (Bool × Unit) :=
  bif !(decide (a0.1 = a1.1)) then some (false, ())
  else bif !(decide (a0.2.1 = a1.2.1)) then some (false, ())
  else bif !(decide (a0.2.2.1 = a1.2.2.1)) then some (false, ())
  else bif !(decide (a0.2.2.2 = a1.2.2.2)) then some (false, ())
  else some (true, ())

def l_eqCmd (a0 : TCmd) (a1 : TCmd) : Option (Bool × Unit) :=
  bif !(decide (a0.1 = a1.1)) then some (false, ())
  else bif !(decide (a0.2.1 = a1.2.1)) then some (false, ())
  else bif !(decide (a0.2.2.1 = a1.2.2.1)) then some (false, ())
  else bif !(decide (a0.2.2.2.1 = a1.2.2.2.1)) then some (false, ())
  else bif !(decide (a0.2.2.2.2.1 = a1.2.2.2.2.1)) then some (false, ())
  else bif !(decide (a0.2.2.2.2.2.1 = a1.2.2.2.2.2.1)) then some (false, ())
  else bif !(decide (a0.2.2.2.2.2.2.1.data.toList = a1.2.2.2.2.2.2.1.data.toList)) then some (false, ())
  else bif !(decide (a0.2.2.2.2.2.2.2.data.toList = a1.2.2.2.2.2.2.2.data.toList)) then some (false, ())
  else some (true, ())

def l_eqEntry (a0 : TEntry) (a1 : TEntry) : Option (Bool × Unit) :=
  bif !(decide (a0.1 = a1.1)) then some (false, ())
  else (l_eqCmd a0.2 a1.2).bind fun v1 =>
  bif !v1.1 then some (false, ())
  else some (true, ())

def l_eqEntryS.l0b (K : Nat) (a0 : List TEntry) (a1 : List TEntry) (L0 : Int → Option (Bool × Unit)) (q0 : Int) : Option (Bool × Unit) :=
  bif decide (q0 < ((a0.length : Nat) : Int)) then bif decide ((0 : Int) ≤ q0) then bif decide (q0 < ((a0.length : Nat) : Int)) then bif decide ((0 : Int) ≤ q0) then bif decide (q0 < ((a1.length : Nat) : Int)) then (l_eqEntry (a0.getD (Int.toNat q0) zEntry) (a1.getD (Int.toNat q0) zEntry)).bind fun v1 =>
    bif !v1.1 then some (false, ())
    else L0 (IntKind.i64.wrap (q0 + 1))
    else none
    else none
    else none
    else none
  else some (true, ())
def l_eqEntryS.l0 (K : Nat) (a0 : List TEntry) (a1 : List TEntry) : Nat → Int → Option (Bool × Unit)
  | 0, _ => none
  | n + 1, q0 => l_eqEntryS.l0b K a0 a1 (l_eqEntryS.l0 K a0 a1 n) q0
def l_eqEntryS.b (K : Nat) (a0 : List TEntry) (a1 : List TEntry) (L0 : Int → Option (Bool × Unit)) : Option (Bool × Unit) :=
  bif !(decide (((a0.length : Nat) : Int) = ((a1.length : Nat) : Int))) then some (false, ())
  else L0 0
def l_eqEntryS (K : Nat) (a0 : List TEntry) (a1 : List TEntry) : Option (Bool × Unit) := l_eqEntryS.b K a0 a1 (l_eqEntryS.l0 K a0 a1 K)

def l_eqLog (K : Nat) (a0 : TLog) (a1 : TLog) : Option (Bool × Unit) :=
  bif !(decide (a0.1 = a1.1)) then some (false, ())
  else bif !(decide (a0.2.1 = a1.2.1)) then some (false, ())
  else (l_eqEntryS K a0.2.2 a1.2.2).bind fun v1 =>
  bif !v1.1 then some (false, ())
  else some (true, ())

def l_eqItem (a0 : TItem) (a1 : TItem) : Option (Bool × Unit) :=
  bif !(decide (a0.1 = a1.1)) then some (false, ())
  else bif !(decide (a0.2.1.data.toList = a1.2.1.data.toList)) then some (false, ())
  else bif !(decide (a0.2.2.1.data.toList = a1.2.2.1.data.toList)) then some (false, ())
  else bif !(decide (a0.2.2.2.1 = a1.2.2.2.1)) then some (false, ())
  else bif !(decide (a0.2.2.2.2 = a1.2.2.2.2)) then some (false, ())
  else some (true, ())

def l_eqItemS.l0b (K : Nat) (a0 : List TItem) (a1 : List TItem) (L0 : Int → Option (Bool × Unit)) (q0 : Int) : Option (Bool × Unit) :=
  bif decide (q0 < ((a0.length : Nat) : Int)) then bif decide ((0 : Int) ≤ q0) then bif decide (q0 < ((a0.length : Nat) : Int)) then bif decide ((0 : Int) ≤ q0) then bif decide (q0 < ((a1.length : Nat) : Int)) then (l_eqItem (a0.getD (Int.toNat q0) zItem) (a1.getD (Int.toNat q0) zItem)).bind fun v1 =>
    bif !v1.1 then some (false, ())
    else L0 (IntKind.i64.wrap (q0 + 1))
    else none
    else none
    else none
    else none
  else some (true, ())
def l_eqItemS.l0 (K : Nat) (a0 : List TItem) (a1 : List TItem) : Nat → Int → Option (Bool × Unit)
  | 0, _ => none
  | n + 1, q0 => l_eqItemS.l0b K a0 a1 (l_eqItemS.l0 K a0 a1 n) q0
def l_eqItemS.b (K : Nat) (a0 : List TItem) (a1 : List TItem) (L0 : Int → Option (Bool × Unit)) : Option (Bool × Unit) :=
  bif !(decide (((a0.length : Nat) : Int) = ((a1.length : Nat) : Int))) then some (false, ())
  else L0 0
def l_eqItemS (K : Nat) (a0 : List TItem) (a1 : List TItem) : Option (Bool × Unit) := l_eqItemS.b K a0 a1 (l_eqItemS.l0 K a0 a1 K)

def l_eqRow (K : Nat) (a0 : TRow) (a1 : TRow) : Option (Bool × Unit) :=
  bif !(decide (a0.1 = a1.1)) then some (false, ())
  else bif !(decide (a0.2.1 = a1.2.1)) then some (false, ())
  else (l_eqItemS K a0.2.2 a1.2.2).bind fun v1 =>
  bif !v1.1 then some (false, ())
  else some (true, ())

def l_eqRowS.l0b (K : Nat) (a0 : List TRow) (a1 : List TRow) (L0 : Int → Option (Bool × Unit)) (q0 : Int) : Option (Bool × Unit) :=
  bif decide (q0 < ((a0.length : Nat) : Int)) then bif decide ((0 : Int) ≤ q0) then bif decide (q0 < ((a0.length : Nat) : Int)) then bif decide ((0 : Int) ≤ q0) then bif decide (q0 < ((a1.length : Nat) : Int)) then (l_eqRow K (a0.getD (Int.toNat q0) zRow) (a1.getD (Int.toNat q0) zRow)).bind fun v1 =>
    bif !v1.1 then some (false, ())
    else L0 (IntKind.i64.wrap (q0 + 1))
    else none
    else none
    else none
    else none
  else some (true, ())
def l_eqRowS.l0 (K : Nat) (a0 : List TRow) (a1 : List TRow) : Nat → Int → Option (Bool × Unit)
  | 0, _ => none
  | n + 1, q0 => l_eqRowS.l0b K a0 a1 (l_eqRowS.l0 K a0 a1 n) q0
def l_eqRowS.b (K : Nat) (a0 : List TRow) (a1 : List TRow) (L0 : Int → Option (Bool × Unit)) : Option (Bool × Unit) :=
  bif !(decide (((a0.length : Nat) : Int) = ((a1.length : Nat) : Int))) then some (false, ())
  else L0 0
def l_eqRowS (K : Nat) (a0 : List TRow) (a1 : List TRow) : Option (Bool × Unit) := l_eqRowS.b K a0 a1 (l_eqRowS.l0 K a0 a1 K)

def l_eqMark (a0 : TMark) (a1 : TMark) : Option (Bool × Unit) :=
  bif !(decide (a0.1 = a1.1)) then some (false, ())
  else bif !(decide (a0.2 = a1.2)) then some (false, ())
  else some (true, ())

def l_eqMarkS.l0b (K : Nat) (a0 : List TMark) (a1 : List TMark) (L0 : Int → Option (Bool × Unit)) (q0 : Int) : Option (Bool × Unit) :=
  bif decide (q0 < ((a0.length : Nat) : Int)) then bif decide ((0 : Int) ≤ q0) then bif decide (q0 < ((a0.length : Nat) : Int)) then bif decide ((0 : Int) ≤ q0) then bif decide (q0 < ((a1.length : Nat) : Int)) then (l_eqMark (a0.getD (Int.toNat q0) zMark) (a1.getD (Int.toNat q0) zMark)).bind fun v1 =>
    bif !v1.1 then some (false, ())
    else L0 (IntKind.i64.wrap (q0 + 1))
    else none
    else none
    else none
    else none
  else some (true, ())
def l_eqMarkS.l0 (K : Nat) (a0 : List TMark) (a1 : List TMark) : Nat → Int → Option (Bool × Unit)
  | 0, _ => none
  | n + 1, q0 => l_eqMarkS.l0b K a0 a1 (l_eqMarkS.l0 K a0 a1 n) q0
def l_eqMarkS.b (K : Nat) (a0 : List TMark) (a1 : List TMark) (L0 : Int → Option (Bool × Unit)) : Option (Bool × Unit) :=
  bif !(decide (((a0.length : Nat) : Int) = ((a1.length : Nat) : Int))) then some (false, ())
  else L0 0
def l_eqMarkS (K : Nat) (a0 : List TMark) (a1 : List TMark) : Option (Bool × Unit) := l_eqMarkS.b K a0 a1 (l_eqMarkS.l0 K a0 a1 K)

def l_eqMaker (K : Nat) (a0 : TMaker) (a1 : TMaker) : Option (Bool × Unit) :=
  bif !(decide (a0.1 = a1.1)) then some (false, ())
  else bif !(decide (a0.2.1 = a1.2.1)) then some (false, ())
  else bif !(decide (a0.2.2.1 = a1.2.2.1)) then some (false, ())
  else bif !(decide (a0.2.2.2.1 = a1.2.2.2.1)) then some (false, ())
  else (l_eqMarkS K a0.2.2.2.2 a1.2.2.2.2).bind fun v1 =>
  bif !v1.1 then some (false, ())
  else some (true, ())

def l_eqMakerS.l0b (K : Nat) (a0 : List TMaker) (a1 : List TMaker) (L0 : Int → Option (Bool × Unit)) (q0 : Int) : Option (Bool × Unit) :=
  bif decide (q0 < ((a0.length : Nat) : Int)) then bif decide ((0 : Int) ≤ q0) then bif decide (q0 < ((a0.length : Nat) : Int)) then bif decide ((0 : Int) ≤ q0) then bif decide (q0 < ((a1.length : Nat) : Int)) then (l_eqMaker K (a0.getD (Int.toNat q0) zMaker) (a1.getD (Int.toNat q0) zMaker)).bind fun v1 =>
    bif !v1.1 then some (false, ())
    else L0 (IntKind.i64.wrap (q0 + 1))
    else none
    else none
    else none
    else none
  else some (true, ())
def l_eqMakerS.l0 (K : Nat) (a0 : List TMaker) (a1 : List TMaker) : Nat → Int → Option (Bool × Unit)
  | 0, _ => none
  | n + 1, q0 => l_eqMakerS.l0b K a0 a1 (l_eqMakerS.l0 K a0 a1 n) q0
def l_eqMakerS.b (K : Nat) (a0 : List TMaker) (a1 : List TMaker) (L0 : Int → Option (Bool × Unit)) : Option (Bool × Unit) :=
  bif !(decide (((a0.length : Nat) : Int) = ((a1.length : Nat) : Int))) then some (false, ())
  else L0 0
def l_eqMakerS (K : Nat) (a0 : List TMaker) (a1 : List TMaker) : Option (Bool × Unit) := l_eqMakerS.b K a0 a1 (l_eqMakerS.l0 K a0 a1 K)

def l_eqIntS.l0b (K : Nat) (a0 : List Int) (a1 : List Int) (L0 : Int → Option (Bool × Unit)) (q0 : Int) : Option (Bool × Unit) :=
  bif decide (q0 < ((a0.length : Nat) : Int)) then bif decide ((0 : Int) ≤ q0) then bif decide (q0 < ((a0.length : Nat) : Int)) then bif decide ((0 : Int) ≤ q0) then bif decide (q0 < ((a1.length : Nat) : Int)) then bif !(decide ((a0.getD (Int.toNat q0) 0) = (a1.getD (Int.toNat q0) 0))) then some (false, ())
    else L0 (IntKind.i64.wrap (q0 + 1))
    else none
    else none
    else none
    else none
  else some (true, ())
def l_eqIntS.l0 (K : Nat) (a0 : List Int) (a1 : List Int) : Nat → Int → Option (Bool × Unit)
  | 0, _ => none
  | n + 1, q0 => l_eqIntS.l0b K a0 a1 (l_eqIntS.l0 K a0 a1 n) q0
def l_eqIntS.b (K : Nat) (a0 : List Int) (a1 : List Int) (L0 : Int → Option (Bool × Unit)) : Option (Bool × Unit) :=
  bif !(decide (((a0.length : Nat) : Int) = ((a1.length : Nat) : Int))) then some (false, ())
  else L0 0
def l_eqIntS (K : Nat) (a0 : List Int) (a1 : List Int) : Option (Bool × Unit) := l_eqIntS.b K a0 a1 (l_eqIntS.l0 K a0 a1 K)

def l_eqGroup (K : Nat) (a0 : TGroup) (a1 : TGroup) : Option (Bool × Unit) :=
  bif !(decide (a0.1 = a1.1)) then some (false, ())
  else (l_eqIntS K a0.2.1 a1.2.1).bind fun v1 =>
  bif !v1.1 then some (false, ())
  else (l_eqIntS K a0.2.2.1 a1.2.2.1).bind fun v2 =>
  bif !v2.1 then some (false, ())
  else (l_eqIntS K a0.2.2.2 a1.2.2.2).bind fun v3 =>
  bif !v3.1 then some (false, ())
  else some (true, ())

def l_eqGroupS.l0b (K : Nat) (a0 : List TGroup) (a1 : List TGroup) (L0 : Int → Option (Bool × Unit)) (q0 : Int) : Option (Bool × Unit) :=
  bif decide (q0 < ((a0.length : Nat) : Int)) then bif decide ((0 : Int) ≤ q0) then bif decide (q0 < ((a0.length : Nat) : Int)) then bif decide ((0 : Int) ≤ q0) then bif decide (q0 < ((a1.length : Nat) : Int)) then (l_eqGroup K (a0.getD (Int.toNat q0) zGroup) (a1.getD (Int.toNat q0) zGroup)).bind fun v1 =>
    bif !v1.1 then some (false, ())
    else L0 (IntKind.i64.wrap (q0 + 1))
    else none
    else none
    else none
    else none
  else some (true, ())
def l_eqGroupS.l0 (K : Nat) (a0 : List TGroup) (a1 : List TGroup) : Nat → Int → Option (Bool × Unit)
  | 0, _ => none
  | n + 1, q0 => l_eqGroupS.l0b K a0 a1 (l_eqGroupS.l0 K a0 a1 n) q0
def l_eqGroupS.b (K : Nat) (a0 : List TGroup) (a1 : List TGroup) (L0 : Int → Option (Bool × Unit)) : Option (Bool × Unit) :=
  bif !(decide (((a0.length : Nat) : Int) = ((a1.length : Nat) : Int))) then some (false, ())
  else L0 0
def l_eqGroupS (K : Nat) (a0 : List TGroup) (a1 : List TGroup) : Option (Bool × Unit) := l_eqGroupS.b K a0 a1 (l_eqGroupS.l0 K a0 a1 K)

def l_eqAnswer (a0 : TAnswer) (a1 : TAnswer) : Option (Bool × Unit) :=
  bif !(decide (a0.1 = a1.1)) then some (false, ())
  else bif !(decide (a0.2.1 = a1.2.1)) then some (false, ())
  else bif !(decide (a0.2.2.1.data.toList = a1.2.2.1.data.toList)) then some (false, ())
  else bif !(decide (a0.2.2.2.data.toList = a1.2.2.2.data.toList)) then some (false, ())
  else some (true, ())

def l_eqAnswerS.l0b (K : Nat) (a0 : List TAnswer) (a1 : List TAnswer) (L0 : Int → Option (Bool × Unit)) (q0 : Int) : Option (Bool × Unit) :=
  bif decide (q0 < ((a0.length : Nat) : Int)) then bif decide ((0 : Int) ≤ q0) then bif decide (q0 < ((a0.length : Nat) : Int)) then bif decide ((0 : Int) ≤ q0) then bif decide (q0 < ((a1.length : Nat) : Int)) then (l_eqAnswer (a0.getD (Int.toNat q0) zAnswer) (a1.getD (Int.toNat q0) zAnswer)).bind fun v1 =>
    bif !v1.1 then some (false, ())
    else L0 (IntKind.i64.wrap (q0 + 1))
    else none
    else none
    else none
    else none
  else some (true, ())
def l_eqAnswerS.l0 (K : Nat) (a0 : List TAnswer) (a1 : List TAnswer) : Nat → Int → Option (Bool × Unit)
  | 0, _ => none
  | n + 1, q0 => l_eqAnswerS.l0b K a0 a1 (l_eqAnswerS.l0 K a0 a1 n) q0
def l_eqAnswerS.b (K : Nat) (a0 : List TAnswer) (a1 : List TAnswer) (L0 : Int → Option (Bool × Unit)) : Option (Bool × Unit) :=
  bif !(decide (((a0.length : Nat) : Int) = ((a1.length : Nat) : Int))) then some (false, ())
  else L0 0
def l_eqAnswerS (K : Nat) (a0 : List TAnswer) (a1 : List TAnswer) : Option (Bool × Unit) := l_eqAnswerS.b K a0 a1 (l_eqAnswerS.l0 K a0 a1 K)

def l_eqKeep (K : Nat) (a0 : TKeep) (a1 : TKeep) : Option (Bool × Unit) :=
  (l_eqRowS K a0.1 a1.1).bind fun v1 =>
  bif !v1.1 then some (false, ())
  else (l_eqMakerS K a0.2.1 a1.2.1).bind fun v2 =>
  bif !v2.1 then some (false, ())
  else (l_eqGroupS K a0.2.2.1 a1.2.2.1).bind fun v3 =>
  bif !v3.1 then some (false, ())
  else bif !(decide (a0.2.2.2.1 = a1.2.2.2.1)) then some (false, ())
  else (l_eqIntS K a0.2.2.2.2.1 a1.2.2.2.2.1).bind fun v4 =>
  bif !v4.1 then some (false, ())
  else (l_eqAnswerS K a0.2.2.2.2.2 a1.2.2.2.2.2).bind fun v5 =>
  bif !v5.1 then some (false, ())
  else some (true, ())

def l_eqHard (K : Nat) (a0 : THard) (a1 : THard) : Option (Bool × Unit) :=
  bif !(decide (a0.1 = a1.1)) then some (false, ())
  else bif !(decide (a0.2.1 = a1.2.1)) then some (false, ())
  else (l_eqLog K a0.2.2.1 a1.2.2.1).bind fun v1 =>
  bif !v1.1 then some (false, ())
  else (l_eqKeep K a0.2.2.2 a1.2.2.2).bind fun v2 =>
  bif !v2.1 then some (false, ())
  else some (true, ())

def l_eqBoolS.l0b (K : Nat) (a0 : List Bool) (a1 : List Bool) (L0 : Int → Option (Bool × Unit)) (q0 : Int) : Option (Bool × Unit) :=
  bif decide (q0 < ((a0.length : Nat) : Int)) then bif decide ((0 : Int) ≤ q0) then bif decide (q0 < ((a0.length : Nat) : Int)) then bif decide ((0 : Int) ≤ q0) then bif decide (q0 < ((a1.length : Nat) : Int)) then bif !((a0.getD (Int.toNat q0) false) == (a1.getD (Int.toNat q0) false)) then some (false, ())
    else L0 (IntKind.i64.wrap (q0 + 1))
    else none
    else none
    else none
    else none
  else some (true, ())
def l_eqBoolS.l0 (K : Nat) (a0 : List Bool) (a1 : List Bool) : Nat → Int → Option (Bool × Unit)
  | 0, _ => none
  | n + 1, q0 => l_eqBoolS.l0b K a0 a1 (l_eqBoolS.l0 K a0 a1 n) q0
def l_eqBoolS.b (K : Nat) (a0 : List Bool) (a1 : List Bool) (L0 : Int → Option (Bool × Unit)) : Option (Bool × Unit) :=
  bif !(decide (((a0.length : Nat) : Int) = ((a1.length : Nat) : Int))) then some (false, ())
  else L0 0
def l_eqBoolS (K : Nat) (a0 : List Bool) (a1 : List Bool) : Option (Bool × Unit) := l_eqBoolS.b K a0 a1 (l_eqBoolS.l0 K a0 a1 K)

def l_eqByteS.l0b (K : Nat) (a0 : List Int) (a1 : List Int) (L0 : Int → Option (Bool × Unit)) (q0 : Int) : Option (Bool × Unit) :=
  bif decide (q0 < ((a0.length : Nat) : Int)) then bif decide ((0 : Int) ≤ q0) then bif decide (q0 < ((a0.length : Nat) : Int)) then bif decide ((0 : Int) ≤ q0) then bif decide (q0 < ((a1.length : Nat) : Int)) then bif !(decide ((a0.getD (Int.toNat q0) 0) = (a1.getD (Int.toNat q0) 0))) then some (false, ())
    else L0 (IntKind.i64.wrap (q0 + 1))
    else none
    else none
    else none
    else none
  else some (true, ())
def l_eqByteS.l0 (K : Nat) (a0 : List Int) (a1 : List Int) : Nat → Int → Option (Bool × Unit)
  | 0, _ => none
  | n + 1, q0 => l_eqByteS.l0b K a0 a1 (l_eqByteS.l0 K a0 a1 n) q0
def l_eqByteS.b (K : Nat) (a0 : List Int) (a1 : List Int) (L0 : Int → Option (Bool × Unit)) : Option (Bool × Unit) :=
  bif !(decide (((a0.length : Nat) : Int) = ((a1.length : Nat) : Int))) then some (false, ())
  else L0 0
def l_eqByteS (K : Nat) (a0 : List Int) (a1 : List Int) : Option (Bool × Unit) := l_eqByteS.b K a0 a1 (l_eqByteS.l0 K a0 a1 K)

def l_eqDisk (K : Nat) (a0 : TDisk) (a1 : TDisk) : Option (Bool × Unit) :=
  (l_eqByteS K a0.1 a1.1).bind fun v1 =>
  bif !v1.1 then some (false, ())
  else bif !(decide (a0.2 = a1.2)) then some (false, ())
  else some (true, ())

def l_eqRpc (K : Nat) (a0 : TRpc) (a1 : TRpc) : Option (Bool × Unit) :=
  bif !(decide (a0.1 = a1.1)) then some (false, ())
  else bif !(decide (a0.2.1 = a1.2.1)) then some (false, ())
  else bif !(decide (a0.2.2.1 = a1.2.2.1)) then some (false, ())
  else bif !(decide (a0.2.2.2.1 = a1.2.2.2.1)) then some (false, ())
  else bif !(decide (a0.2.2.2.2.1 = a1.2.2.2.2.1)) then some (false, ())
  else bif !(decide (a0.2.2.2.2.2.1 = a1.2.2.2.2.2.1)) then some (false, ())
  else bif !(decide (a0.2.2.2.2.2.2.1 = a1.2.2.2.2.2.2.1)) then some (false, ())
  else (l_eqEntryS K a0.2.2.2.2.2.2.2.1 a1.2.2.2.2.2.2.2.1).bind fun v1 =>
  bif !v1.1 then some (false, ())
  else bif !(a0.2.2.2.2.2.2.2.2.1 == a1.2.2.2.2.2.2.2.2.1) then some (false, ())
  else bif !(decide (a0.2.2.2.2.2.2.2.2.2.data.toList = a1.2.2.2.2.2.2.2.2.2.data.toList)) then some (false, ())
  else some (true, ())

def l_eqRpcS.l0b (K : Nat) (a0 : List TRpc) (a1 : List TRpc) (L0 : Int → Option (Bool × Unit)) (q0 : Int) : Option (Bool × Unit) :=
  bif decide (q0 < ((a0.length : Nat) : Int)) then bif decide ((0 : Int) ≤ q0) then bif decide (q0 < ((a0.length : Nat) : Int)) then bif decide ((0 : Int) ≤ q0) then bif decide (q0 < ((a1.length : Nat) : Int)) then (l_eqRpc K (a0.getD (Int.toNat q0) zRpc) (a1.getD (Int.toNat q0) zRpc)).bind fun v1 =>
    bif !v1.1 then some (false, ())
    else L0 (IntKind.i64.wrap (q0 + 1))
    else none
    else none
    else none
    else none
  else some (true, ())
def l_eqRpcS.l0 (K : Nat) (a0 : List TRpc) (a1 : List TRpc) : Nat → Int → Option (Bool × Unit)
  | 0, _ => none
  | n + 1, q0 => l_eqRpcS.l0b K a0 a1 (l_eqRpcS.l0 K a0 a1 n) q0
def l_eqRpcS.b (K : Nat) (a0 : List TRpc) (a1 : List TRpc) (L0 : Int → Option (Bool × Unit)) : Option (Bool × Unit) :=
  bif !(decide (((a0.length : Nat) : Int) = ((a1.length : Nat) : Int))) then some (false, ())
  else L0 0
def l_eqRpcS (K : Nat) (a0 : List TRpc) (a1 : List TRpc) : Option (Bool × Unit) := l_eqRpcS.b K a0 a1 (l_eqRpcS.l0 K a0 a1 K)

def l_eqPeer (K : Nat) (a0 : TPeer) (a1 : TPeer) : Option (Bool × Unit) :=
  bif !(decide (a0.1 = a1.1)) then some (false, ())
  else (l_eqHard K a0.2.1 a1.2.1).bind fun v1 =>
  bif !v1.1 then some (false, ())
  else bif !(decide (a0.2.2.1 = a1.2.2.1)) then some (false, ())
  else (l_eqBoolS K a0.2.2.2.1 a1.2.2.2.1).bind fun v2 =>
  bif !v2.1 then some (false, ())
  else (l_eqIntS K a0.2.2.2.2.1 a1.2.2.2.2.1).bind fun v3 =>
  bif !v3.1 then some (false, ())
  else (l_eqIntS K a0.2.2.2.2.2.1 a1.2.2.2.2.2.1).bind fun v4 =>
  bif !v4.1 then some (false, ())
  else bif !(decide (a0.2.2.2.2.2.2.1 = a1.2.2.2.2.2.2.1)) then some (false, ())
  else (l_eqKeep K a0.2.2.2.2.2.2.2.1 a1.2.2.2.2.2.2.2.1).bind fun v5 =>
  bif !v5.1 then some (false, ())
  else (l_eqDisk K a0.2.2.2.2.2.2.2.2.1 a1.2.2.2.2.2.2.2.2.1).bind fun v6 =>
  bif !v6.1 then some (false, ())
  else (l_eqRpcS K a0.2.2.2.2.2.2.2.2.2 a1.2.2.2.2.2.2.2.2.2).bind fun v7 =>
  bif !v7.1 then some (false, ())
  else some (true, ())

def l_eqPeerS.l0b (K : Nat) (a0 : List TPeer) (a1 : List TPeer) (L0 : Int → Option (Bool × Unit)) (q0 : Int) : Option (Bool × Unit) :=
  bif decide (q0 < ((a0.length : Nat) : Int)) then bif decide ((0 : Int) ≤ q0) then bif decide (q0 < ((a0.length : Nat) : Int)) then bif decide ((0 : Int) ≤ q0) then bif decide (q0 < ((a1.length : Nat) : Int)) then (l_eqPeer K (a0.getD (Int.toNat q0) zPeer) (a1.getD (Int.toNat q0) zPeer)).bind fun v1 =>
    bif !v1.1 then some (false, ())
    else L0 (IntKind.i64.wrap (q0 + 1))
    else none
    else none
    else none
    else none
  else some (true, ())
def l_eqPeerS.l0 (K : Nat) (a0 : List TPeer) (a1 : List TPeer) : Nat → Int → Option (Bool × Unit)
  | 0, _ => none
  | n + 1, q0 => l_eqPeerS.l0b K a0 a1 (l_eqPeerS.l0 K a0 a1 n) q0
def l_eqPeerS.b (K : Nat) (a0 : List TPeer) (a1 : List TPeer) (L0 : Int → Option (Bool × Unit)) : Option (Bool × Unit) :=
  bif !(decide (((a0.length : Nat) : Int) = ((a1.length : Nat) : Int))) then some (false, ())
  else L0 0
def l_eqPeerS (K : Nat) (a0 : List TPeer) (a1 : List TPeer) : Option (Bool × Unit) := l_eqPeerS.b K a0 a1 (l_eqPeerS.l0 K a0 a1 K)

def l_eqCmdS.l0b (K : Nat) (a0 : List TCmd) (a1 : List TCmd) (L0 : Int → Option (Bool × Unit)) (q0 : Int) : Option (Bool × Unit) :=
  bif decide (q0 < ((a0.length : Nat) : Int)) then bif decide ((0 : Int) ≤ q0) then bif decide (q0 < ((a0.length : Nat) : Int)) then bif decide ((0 : Int) ≤ q0) then bif decide (q0 < ((a1.length : Nat) : Int)) then (l_eqCmd (a0.getD (Int.toNat q0) zCmd) (a1.getD (Int.toNat q0) zCmd)).bind fun v1 =>
    bif !v1.1 then some (false, ())
    else L0 (IntKind.i64.wrap (q0 + 1))
    else none
    else none
    else none
    else none
  else some (true, ())
def l_eqCmdS.l0 (K : Nat) (a0 : List TCmd) (a1 : List TCmd) : Nat → Int → Option (Bool × Unit)
  | 0, _ => none
  | n + 1, q0 => l_eqCmdS.l0b K a0 a1 (l_eqCmdS.l0 K a0 a1 n) q0
def l_eqCmdS.b (K : Nat) (a0 : List TCmd) (a1 : List TCmd) (L0 : Int → Option (Bool × Unit)) : Option (Bool × Unit) :=
  bif !(decide (((a0.length : Nat) : Int) = ((a1.length : Nat) : Int))) then some (false, ())
  else L0 0
def l_eqCmdS (K : Nat) (a0 : List TCmd) (a1 : List TCmd) : Option (Bool × Unit) := l_eqCmdS.b K a0 a1 (l_eqCmdS.l0 K a0 a1 K)

def l_eqHeard (a0 : THeard) (a1 : THeard) : Option (Bool × Unit) :=
  bif !(decide (a0.1 = a1.1)) then some (false, ())
  else bif !(decide (a0.2.1 = a1.2.1)) then some (false, ())
  else (l_eqAnswer a0.2.2.1 a1.2.2.1).bind fun v1 =>
  bif !v1.1 then some (false, ())
  else bif !(decide (a0.2.2.2.1 = a1.2.2.2.1)) then some (false, ())
  else bif !(decide (a0.2.2.2.2 = a1.2.2.2.2)) then some (false, ())
  else some (true, ())

def l_eqHeardS.l0b (K : Nat) (a0 : List THeard) (a1 : List THeard) (L0 : Int → Option (Bool × Unit)) (q0 : Int) : Option (Bool × Unit) :=
  bif decide (q0 < ((a0.length : Nat) : Int)) then bif decide ((0 : Int) ≤ q0) then bif decide (q0 < ((a0.length : Nat) : Int)) then bif decide ((0 : Int) ≤ q0) then bif decide (q0 < ((a1.length : Nat) : Int)) then (l_eqHeard (a0.getD (Int.toNat q0) zHeard) (a1.getD (Int.toNat q0) zHeard)).bind fun v1 =>
    bif !v1.1 then some (false, ())
    else L0 (IntKind.i64.wrap (q0 + 1))
    else none
    else none
    else none
    else none
  else some (true, ())
def l_eqHeardS.l0 (K : Nat) (a0 : List THeard) (a1 : List THeard) : Nat → Int → Option (Bool × Unit)
  | 0, _ => none
  | n + 1, q0 => l_eqHeardS.l0b K a0 a1 (l_eqHeardS.l0 K a0 a1 n) q0
def l_eqHeardS.b (K : Nat) (a0 : List THeard) (a1 : List THeard) (L0 : Int → Option (Bool × Unit)) : Option (Bool × Unit) :=
  bif !(decide (((a0.length : Nat) : Int) = ((a1.length : Nat) : Int))) then some (false, ())
  else L0 0
def l_eqHeardS (K : Nat) (a0 : List THeard) (a1 : List THeard) : Option (Bool × Unit) := l_eqHeardS.b K a0 a1 (l_eqHeardS.l0 K a0 a1 K)

def l_eqWorld (K : Nat) (a0 : TWorld) (a1 : TWorld) : Option (Bool × Unit) :=
  (l_eqSetup a0.1 a1.1).bind fun v1 =>
  bif !v1.1 then some (false, ())
  else bif !(decide (a0.2.1 = a1.2.1)) then some (false, ())
  else (l_eqPeerS K a0.2.2.1 a1.2.2.1).bind fun v2 =>
  bif !v2.1 then some (false, ())
  else (l_eqRpcS K a0.2.2.2.1 a1.2.2.2.1).bind fun v3 =>
  bif !v3.1 then some (false, ())
  else (l_eqCmdS K a0.2.2.2.2.1 a1.2.2.2.2.1).bind fun v4 =>
  bif !v4.1 then some (false, ())
  else (l_eqIntS K a0.2.2.2.2.2.1 a1.2.2.2.2.2.1).bind fun v5 =>
  bif !v5.1 then some (false, ())
  else (l_eqHeardS K a0.2.2.2.2.2.2.1 a1.2.2.2.2.2.2.1).bind fun v6 =>
  bif !v6.1 then some (false, ())
  else (l_eqCmdS K a0.2.2.2.2.2.2.2 a1.2.2.2.2.2.2.2).bind fun v7 =>
  bif !v7.1 then some (false, ())
  else some (true, ())

def l_FnExactWorldText (K : Nat) (a0 : TWorld) : Option (Bool × Unit) :=
  (l_szWorld K a0 1048576).bind fun v1 =>
  bif decide (v1.1 < 0) then some (true, ())
  else (l_toWorld K a0).bind fun v2 =>
  (s_WorldText K v2.1).bind fun v3 =>
  (l_toWorld K a0).bind fun v4 =>
  (i_WorldText K v4.1).bind fun v5 =>
  bif !(decide (v5.1.data.toList = v3.1.data.toList)) then some (false, ())
  else (l_toWorld K a0).bind fun v6 =>
  (l_eqWorld K v4.1 v6.1).bind fun v7 =>
  bif !v7.1 then some (false, ())
  else some (true, ())

end Go.Proofs.YtilemnhdgfhkiaaGreatDoor.Wt
